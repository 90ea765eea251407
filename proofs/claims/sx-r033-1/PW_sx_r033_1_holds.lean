import PyProof.Rows.All
import KE.KSortTup
import KE.KSorted
import KE.LcSums
import KE.KItemsList
import KE.KDictList
import PyProof.ListRange
import KE.KTurns
import KE.KForList
import PyProof.WalksPairs
import PyProof.RangeFor
import PyProof.EnumMake
import PyProof.CompFree
import OpenK.KWalk
import KE.KPop
import PyProof.DelItemList
import PyProof.RaisesDict
import PyProof.MeetsDictList
import PyProof.AssignAttr
import PyProof.CompUse
import PyProof.AttrMissHeap
import KE.KDictOf
import PyProof.Rows.Range3
import Open.Line
import PyProof.SetScanFacts
import PyProof.SetKind
import PyProof.Rows.SetFrom
import PyProof.FactsAll.subtypes_5
import PyProof.SetRoads
import PyProof.DictWalks
import PySem.Challenge.RW_sx_r033_1
set_option maxRecDepth 100000
set_option maxHeartbeats 4000000
set_option autoImplicit false
set_option linter.unusedVariables false
set_option linter.unusedSimpArgs false
set_option Elab.async false
namespace Mine
open PySem
inductive D where
  | none | bool (b : Bool) | int (i : Int) | key (k : Int) | raw (j : Nat) (i : Int) | str (s : Str) | tup (l : List D) | lst (l : List D)
inductive V where
  | d (x : D) | loc (n : Nat) | tup (l : List V)
inductive R where
  | val (v : V) | fresh (l : List V)
inductive Cell where
  | lst (l : List V) | froz (l : List D) | dct (b : Bool) (l : List (Int × V)) | inst (l : List (Str × V))
structure St where
  vars : List (Str × V)
  store : List Cell
inductive Fl where
  | next | ret (r : R)
structure Fn where
  params : List Str
  body : List Stmt
  names : List (Str × NameKind)
  hm : Bool
  sh : Bool
  mv : List Str
structure Gl where
  fns : List (Str × Fn)
  meths : List (Str × Fn)
  cls : Str
  init : Fn
  tabs : List (Str × D)
  flds : List Str
  gap : Int
  md : Nat → Int
  res : Nat → Int
structure Ops where
  ev : Fn → PySem.Expr → St → Option (R × St)
  tt : Fn → PySem.Expr → St → Option (Bool × St)
  ex : Fn → List Stmt → St → Option (Fl × St)
  call : Fn → List V → List Cell → Option (R × List Cell)
noncomputable def opt {α β : Type} (x : Option α) (f : α → β) (b : β) : β := match x with
  | some a => f a
  | .none => b
noncomputable def lookS {α : Type} (x : Str) : List (Str × α) → Option α
  | [] => .none
  | p :: r => if x = p.1 then some p.2 else lookS x r
noncomputable def setS {α : Type} (x : Str) (v : α) : List (Str × α) → List (Str × α)
  | [] => [(x, v)]
  | p :: r => if x = p.1 then (x, v) :: r else p :: setS x v r
noncomputable def lookI {α : Type} (k : Int) : List (Int × α) → Option α
  | [] => .none
  | p :: r => if k = p.1 then some p.2 else lookI k r
noncomputable def setI {α : Type} (k : Int) (v : α) : List (Int × α) → List (Int × α)
  | [] => [(k, v)]
  | p :: r => if k = p.1 then (k, v) :: r else p :: setI k v r
noncomputable def delI {α : Type} (k : Int) : List (Int × α) → List (Int × α)
  | [] => []
  | p :: r => if k = p.1 then r else p :: delI k r
noncomputable def St.set (st : St) (x : Str) (v : V) : St := ⟨setS x v st.vars, st.store⟩
noncomputable def St.put (st : St) (n : Nat) (c : Cell) : St := ⟨st.vars, st.store.set n c⟩
noncomputable def St.add (st : St) (c : Cell) : St := ⟨st.vars, st.store ++ [c]⟩
noncomputable def St.sto (st : St) (σ : List Cell) : St := ⟨st.vars, σ⟩
noncomputable def lim : Nat := 1000000
noncomputable def datV : V → Option D
  | .d x => some x
  | _ => .none
noncomputable def allD : List V → Option (List D)
  | [] => some []
  | v :: r => (datV v).bind fun x => (allD r).map (x :: ·)
noncomputable def mkTup (l : List V) : V := opt (allD l) (fun ds => .d (.tup ds)) (.tup l)
noncomputable def toV : R → Option V
  | .val v => some v
  | .fresh l => (allD l).map fun ds => .d (.lst ds)
noncomputable def keepR (b : Bool) (r : R) (st : St) : Option (V × St) := match r with
  | .val v => some (v, st)
  | .fresh l => cond b (some (.loc st.store.length, st.add (.lst l))) ((allD l).map fun ds => (.d (.lst ds), st))
noncomputable def evK (o : Ops) (b : Bool) (fn : Fn) (e : PySem.Expr) (st : St) : Option (V × St) := (o.ev fn e st).bind fun p => keepR b p.1 p.2
noncomputable def evSs (o : Ops) (fn : Fn) : List PySem.Expr → St → Option (List V × St)
  | [], st => some ([], st)
  | e :: r, st => (evK o fn.hm fn e st).bind fun p => (evSs o fn r p.2).map fun q => (p.1 :: q.1, q.2)
noncomputable def evRs (o : Ops) (fn : Fn) : List PySem.Expr → St → Option (List R × St)
  | [], st => some ([], st)
  | e :: r, st => (o.ev fn e st).bind fun p => (evRs o fn r p.2).map fun q => (p.1 :: q.1, q.2)
noncomputable def idx {α : Type} (l : List α) (i : Int) : Option α := (seqIndex? i l.length).bind fun j => l[j]?
noncomputable def clamp (n : Nat) (i : Int) : Nat := if 0 ≤ i then min i.toNat n else (i + (n : Int)).toNat
noncomputable def loN (n : Nat) : Option Int → Nat
  | some a => clamp n a
  | .none => 0
noncomputable def hiN (n : Nat) : Option Int → Nat
  | some b => clamp n b
  | .none => n
noncomputable def slc {α : Type} (l : List α) (a b : Option Int) : List α := (l.take (hiN l.length b)).drop (loN l.length a)
noncomputable def lstC : Option Cell → Option (List V)
  | some (.lst l) => some l
  | some (.froz l) => some (l.map .d)
  | _ => .none
noncomputable def lstD : D → Option (List V)
  | .lst l => some (l.map .d)
  | _ => .none
noncomputable def lstV (σ : List Cell) : V → Option (List V)
  | .d x => lstD x
  | .loc n => lstC σ[n]?
  | .tup _ => .none
noncomputable def lstOf (σ : List Cell) : R → Option (List V)
  | .fresh l => some l
  | .val v => lstV σ v
noncomputable def tupD : D → Option (List V)
  | .tup l => some (l.map .d)
  | _ => .none
noncomputable def tupV : V → Option (List V)
  | .d x => tupD x
  | .tup l => some l
  | .loc _ => .none
noncomputable def tupOf : R → Option (List V)
  | .val v => tupV v
  | .fresh _ => .none
noncomputable def seqOf (σ : List Cell) (r : R) : Option (List V) := opt (lstOf σ r) some (tupOf r)
noncomputable def numD : D → Option (Bool × Int)
  | .int i => some (false, i)
  | .key k => some (true, k)
  | _ => .none
noncomputable def numV : V → Option (Bool × Int)
  | .d x => numD x
  | _ => .none
noncomputable def numOf : R → Option (Bool × Int)
  | .val v => numV v
  | .fresh _ => .none
noncomputable def plain : Bool × Int → Option Int
  | (false, i) => some i
  | (true, _) => .none
noncomputable def intOf (r : R) : Option Int := (numOf r).bind plain
noncomputable def mkN : Bool × Int → D
  | (false, i) => .int i
  | (true, k) => .key k
noncomputable def dctC : Option Cell → Option (Bool × List (Int × V))
  | some (.dct b es) => some (b, es)
  | _ => .none
noncomputable def locV : V → Option Nat
  | .loc n => some n
  | _ => .none
noncomputable def locOf : R → Option Nat
  | .val v => locV v
  | .fresh _ => .none
noncomputable def dctOf (σ : List Cell) (r : R) : Option (Bool × List (Int × V)) := (locOf r).bind fun n => dctC σ[n]?
noncomputable def evNum (o : Ops) (fn : Fn) (e : PySem.Expr) (st : St) : Option ((Bool × Int) × St) := (o.ev fn e st).bind fun p => (numOf p.1).map fun q => (q, p.2)
noncomputable def evInt (o : Ops) (fn : Fn) (e : PySem.Expr) (st : St) : Option (Int × St) := (evNum o fn e st).bind fun p => (plain p.1).map fun q => (q, p.2)
noncomputable def evLoc (o : Ops) (fn : Fn) (e : PySem.Expr) (st : St) : Option (Nat × St) := (o.ev fn e st).bind fun p => (locOf p.1).map fun q => (q, p.2)
mutual
noncomputable def eqO : D → D → Option Bool
  | .none, b => match b with
    | .none => some true
    | _ => some false
  | .bool _, _ => .none
  | .raw _ _, _ => .none
  | .int a, b => match b with
    | .int b => some (decide (a = b))
    | .key _ => .none
    | .bool _ => .none
    | .raw _ _ => .none
    | _ => some false
  | .key a, b => match b with
    | .key b => some (decide (a = b))
    | .int _ => .none
    | .bool _ => .none
    | .raw _ _ => .none
    | _ => some false
  | .str a, b => match b with
    | .str b => some (decide (a = b))
    | _ => some false
  | .tup a, b => match b with
    | .tup b => eqOs a b
    | _ => some false
  | .lst a, b => match b with
    | .lst b => eqOs a b
    | _ => some false
noncomputable def eqOs : List D → List D → Option Bool
  | [], b => some b.isEmpty
  | a :: as, b => match b with
    | [] => some false
    | b :: bs => (eqO a b).bind fun c => cond c (eqOs as bs) (some false)
end
mutual
noncomputable def okD : D → Nat → Bool
  | .none, _ => true
  | .bool _, _ => false
  | .raw _ _, _ => false
  | .int _, _ => true
  | .key _, _ => true
  | .str _, _ => true
  | .tup l, n => match n with
    | 0 => false
    | n + 1 => okDs l n
  | .lst l, n => match n with
    | 0 => false
    | n + 1 => okDs l n
noncomputable def okDs : List D → Nat → Bool
  | [], _ => true
  | d :: r, n => okD d n && okDs r n
end
noncomputable def cmpI : CmpOp → Int → Int → Option Bool
  | .Lt, a, b => some (decide (a < b))
  | .LtE, a, b => some (decide (a ≤ b))
  | .Gt, a, b => some (decide (b < a))
  | .GtE, a, b => some (decide (b ≤ a))
  | _, _, _ => .none
noncomputable def cmpN (op : CmpOp) (p q : Bool × Int) : Option Bool := if (p.1 == q.1) = true then cmpI op p.2 q.2 else .none
noncomputable def eqG (a b : D) : Option Bool := if (okD a 30 && okD b 30) = true then eqO a b else .none
noncomputable def cmpD (op : CmpOp) (a b : D) : Option Bool := match op with
  | .Eq => eqG a b
  | .NotEq => (eqG a b).map not
  | op => (numD a).bind fun p => (numD b).bind fun q => cmpN op p q
noncomputable def datR (r : R) : Option D := (toV r).bind datV
noncomputable def thawC (n : Nat) : Option Cell → R
  | some (.froz ds) => .val (.d (.lst ds))
  | _ => .val (.loc n)
noncomputable def thawV (σ : List Cell) : V → R
  | .loc n => thawC n σ[n]?
  | v => .val v
noncomputable def thaw (σ : List Cell) : R → R
  | .val v => thawV σ v
  | .fresh l => .fresh l
noncomputable def cmpR (op : CmpOp) (σ : List Cell) (a b : R) : Option Bool := (datR (thaw σ a)).bind fun x => (datR (thaw σ b)).bind fun y => cmpD op x y
noncomputable def okK (b : Bool) (es : List (Int × V)) (q : Bool × Int) : Bool := es.isEmpty || q.1 == b
noncomputable def isIn (σ : List Cell) (x c : R) : Option Bool := (dctOf σ c).bind fun d => (numOf x).bind fun q => if okK d.1 d.2 q = true then some (lookI q.2 d.2).isSome else .none
noncomputable def isNoneD : D → Bool
  | .none => true
  | _ => false
noncomputable def isNoneV : V → Bool
  | .d x => isNoneD x
  | _ => false
noncomputable def isNone : R → Bool
  | .val v => isNoneV v
  | .fresh _ => false
noncomputable def truthD : D → Option Bool
  | .none => some false
  | .bool b => some b
  | _ => .none
noncomputable def datA : R → Option D
  | .val v => datV v
  | .fresh _ => .none
noncomputable def truth (σ : List Cell) (r : R) : Option Bool := opt (seqOf σ r) (fun l => some !l.isEmpty) ((datA r).bind truthD)
noncomputable def small (i : Int) : Bool := decide (i.natAbs ≤ 4294967296)
noncomputable def keyAdd (gap k n : Int) : Option D := if (k % 2 + n) % gap < 2 then some (.key (2 * (k / 2 + (k % 2 + n) / gap) + (k % 2 + n) % gap)) else .none
noncomputable def binD (G : Gl) (op : Operator) (j : Int) : D → Option D
  | .int i => match op with
    | .Add => some (.int (i + j))
    | .Sub => some (.int (i - j))
    | .Mult => if (small i && small j) = true then some (.int (i * j)) else .none
    | .Mod => if 0 < j then some (.int (i % j)) else .none
    | _ => .none
  | .key k => match op with
    | .Add => keyAdd G.gap k j
    | .Sub => keyAdd G.gap k (-j)
    | _ => .none
  | .raw r i => match op with
    | .Add => some (.raw r (i + j))
    | .Mod => if (decide (j = G.md r) && decide (0 < j)) = true then some (.int ((G.res r + i) % j)) else .none
    | _ => .none
  | _ => .none
noncomputable def addS (σ : List Cell) (a b : R) : Option R := opt (lstOf σ a) (fun l => (lstOf σ b).bind fun m => if l.length + m.length ≤ lim then some (.fresh (l ++ m)) else .none)
  ((tupOf a).bind fun l => (tupOf b).bind fun m => if l.length + m.length ≤ lim then some (.val (mkTup (l ++ m))) else .none)
noncomputable def binR (G : Gl) (σ : List Cell) (op : Operator) (a b : R) : Option R := opt (intOf b) (fun j => (datA a).bind fun x => (binD G op j x).map fun d => .val (.d d)) (match op with
    | .Add => addS σ a b
    | _ => .none)
noncomputable def getR (σ : List Cell) (a i : R) : Option V := opt (dctOf σ a) (fun d => (numOf i).bind fun q => if okK d.1 d.2 q = true then lookI q.2 d.2 else .none)
  ((intOf i).bind fun j => (seqOf σ a).bind fun l => idx l j)
noncomputable def slcR (σ : List Cell) (a : R) (lo hi : Option Int) : Option R := opt (lstOf σ a) (fun l => some (.fresh (slc l lo hi))) ((tupOf a).map fun l => .val (mkTup (slc l lo hi)))
noncomputable def keyD : D → Bool × Int
  | .int i => (false, i)
  | .tup l => (l.head?.bind numD).getD (false, 0)
  | _ => (false, 0)
noncomputable def insK {α : Type} (k : α → Int) (x : α) : List α → List α
  | [] => [x]
  | y :: r => if k x ≤ k y then x :: y :: r else y :: insK k x r
noncomputable def srtK {α : Type} (k : α → Int) : List α → List α
  | [] => []
  | x :: r => insK k x (srtK k r)
noncomputable def isI : D → Bool
  | .int _ => true
  | _ => false
noncomputable def isP (c : Bool) : D → Bool
  | .tup l => opt (l.head?.bind numD) (fun p => p.1 == c) false
  | _ => false
noncomputable def nodupI : List Int → Bool
  | [] => true
  | x :: r => !r.contains x && nodupI r
noncomputable def srtP (l : List D) (c : Bool) : Bool := l.all (isP c) && nodupI (l.map fun d => (keyD d).2)
noncomputable def srtOk (l : List D) : Bool := decide (l.length < 64) && (l.all isI || srtP l false || srtP l true)
noncomputable def srtD (l : List D) : Option (List D) := if srtOk l = true then some (srtK (fun d => (keyD d).2) l) else .none
noncomputable def intsD : List D → Option (List Int)
  | [] => some []
  | d :: r => (numD d).bind fun q => (plain q).bind fun i => (intsD r).map fun s => i :: s
noncomputable def maxI : List Int → Option Int
  | [] => .none
  | x :: r => some (r.foldl max x)
noncomputable def prD : D → Option ((Bool × Int) × D)
  | .tup [d, x] => (numD d).map fun q => (q, x)
  | _ => .none
noncomputable def prsOf (c : Bool) : List V → Option (List (Int × V))
  | [] => some []
  | v :: r => (datV v).bind fun d => (prD d).bind fun p => if (p.1.1 == c) = true then (prsOf c r).map fun s => (p.1.2, .d p.2) :: s else .none
noncomputable def clsOf : List V → Bool
  | v :: _ => opt ((datV v).bind prD) (fun p => p.1.1) false
  | [] => false
noncomputable def mkDct (l : List (Int × V)) : List (Int × V) := l.foldl (fun es p => setI p.1 p.2 es) []
noncomputable def itemsD (c : Bool) : List (Int × V) → Option (List D)
  | [] => some []
  | p :: r => (datV p.2).bind fun x => (itemsD c r).map fun s => .tup [mkN (c, p.1), x] :: s
noncomputable def unionK (a b : List Int) : List Int := (a ++ b).foldl (fun l x => if l.contains x then l else l ++ [x]) []
noncomputable def rangeL (a b s : Int) : List Int := (List.range ((b - a + s - 1) / s).toNat).map fun (i : Nat) => a + i * s
noncomputable def rngOk (a b s : Int) : Bool := decide (0 < s) && small a && small b && small s && decide (((b - a + s - 1) / s).toNat ≤ lim)
noncomputable def bltn (σ : List Cell) (f : Str) (r : R) : Option R :=
  if f = "len" then (seqOf σ r).map fun l => .val (.d (.int l.length))
  else if f = "list" then (seqOf σ r).map .fresh
  else if f = "tuple" then (lstOf σ r).map fun l => .val (mkTup l)
  else if f = "sorted" then opt (dctOf σ r) (fun d => (srtD (d.2.map fun p => mkN (d.1, p.1))).map fun l => .fresh (l.map .d))
      ((lstOf σ r).bind fun l => (allD l).bind fun ds => (srtD ds).map fun l => .fresh (l.map .d))
  else if f = "max" then (lstOf σ r).bind fun l => (allD l).bind fun ds => (intsD ds).bind fun is => (maxI is).map fun i => .val (.d (.int i))
  else .none
noncomputable def evName (G : Gl) (fn : Fn) (x : Str) (st : St) : Option (R × St) := match fn.names.lookup x with
  | some .local => (lookS x st.vars).map fun v => (.val v, st)
  | some .cell => (lookS x st.vars).map fun v => (.val v, st)
  | some .free => (lookS x st.vars).map fun v => (.val v, st)
  | some .globalImplicit => (lookS x G.tabs).map fun d => (.val (.d d), st)
  | _ => .none
noncomputable def isBlt (G : Gl) (fn : Fn) (x : Str) : Bool :=
  fn.names.lookup x == some .globalImplicit && (lookS x G.fns).isNone && (lookS x G.tabs).isNone && !decide (x = G.cls)
noncomputable def isFun (fn : Fn) (x : Str) : Bool := fn.names.lookup x == some .globalImplicit
noncomputable def optI (o : Ops) (fn : Fn) : Option PySem.Expr → St → Option (Option Int × St)
  | .none, st => some (.none, st)
  | some e, st => (evInt o fn e st).map fun p => (some p.1, p.2)
inductive Vw where
  | name (x : Str) | tup (es : List PySem.Expr) | sub (b i : PySem.Expr) | slc (a b : Option PySem.Expr) | call (f : Str) (as : List PySem.Expr) | no | lc | other
noncomputable def view : PySem.Expr → Vw
  | .Name x _ => .name x
  | .Tuple es _ _ => .tup es
  | .Subscript b i _ => .sub b i
  | .Slice a b c _ => match c with
    | .none => .slc a b
    | some _ => .other
  | .Call f as ks _ => match ks with
    | [] => match f with
      | .Name g _ => .call g as
      | _ => .other
    | _ :: _ => .other
  | .Constant c _ _ => match c with
    | .none => .no
    | _ => .other
  | .ListComp _ _ _ _ => .lc
  | _ => .other
noncomputable def Vw.name? : Vw → Option Str
  | .name x => some x
  | _ => .none
noncomputable def Vw.tup? : Vw → Option (List PySem.Expr)
  | .tup x => some x
  | _ => .none
noncomputable def Vw.sub? : Vw → Option (PySem.Expr × PySem.Expr)
  | .sub b i => some (b, i)
  | _ => .none
noncomputable def Vw.slc? : Vw → Option (Option PySem.Expr × Option PySem.Expr)
  | .slc a b => some (a, b)
  | _ => .none
noncomputable def Vw.call? : Vw → Option (Str × List PySem.Expr)
  | .call f as => some (f, as)
  | _ => .none
noncomputable def Vw.no? : Vw → Bool
  | .no => true
  | _ => false
noncomputable def Vw.lc? : Vw → Bool
  | .lc => true
  | _ => false
noncomputable def asName (e : PySem.Expr) : Option Str := (view e).name?
noncomputable def asTup (e : PySem.Expr) : Option (List PySem.Expr) := (view e).tup?
noncomputable def asSub (e : PySem.Expr) : Option (PySem.Expr × PySem.Expr) := (view e).sub?
noncomputable def isSub (e : PySem.Expr) : Bool := (view e).sub?.isSome
noncomputable def asSlc (e : PySem.Expr) : Option (Option PySem.Expr × Option PySem.Expr) := (view e).slc?
noncomputable def asCall (e : PySem.Expr) : Option (Str × List PySem.Expr) := (view e).call?
noncomputable def isNo (e : PySem.Expr) : Bool := (view e).no?
noncomputable def isLC (e : PySem.Expr) : Bool := (view e).lc?
noncomputable def evSub (o : Ops) (fn : Fn) (v s : PySem.Expr) (st : St) : Option (R × St) := opt (asSlc s) (fun ab => (o.ev fn v st).bind fun p => (optI o fn ab.1 p.2).bind fun q => (optI o fn ab.2 q.2).bind fun t => (slcR t.2.store p.1 q.1 t.1).map fun r => (r, t.2))
  ((o.ev fn v st).bind fun p => (o.ev fn s p.2).bind fun q => (getR q.2.store p.1 q.1).map fun w => (.val w, q.2))
noncomputable def iterC (σ : List Cell) (n : Nat) : Option Cell → Option (List V × List Cell)
  | some (.lst l) => (allD l).map fun ds => (l, σ.set n (.froz ds))
  | some (.froz l) => some (l.map .d, σ)
  | _ => .none
noncomputable def iterL (σ : List Cell) (r : R) : Option (List V × List Cell) := opt (locOf r) (fun n => iterC σ n σ[n]?) ((lstOf σ r).map fun l => (l, σ))
noncomputable def iterR (σ : List Cell) (r : R) : Option (List V × List Cell) := opt (tupOf r) (fun l => some (l, σ)) (iterL σ r)
noncomputable def enumL : Nat → List V → List V
  | _, [] => []
  | n, v :: r => .tup [.d (.int n), v] :: enumL (n + 1) r
structure It where
  items : List V
  pr : Bool
noncomputable def intIt (l : List Int) : It := ⟨l.map fun i => .d (.int i), false⟩
noncomputable def one {α : Type} : List α → Option α
  | [x] => some x
  | _ => .none
noncomputable def evIter0 (o : Ops) (fn : Fn) (e : PySem.Expr) (st : St) : Option (It × St) :=
  (o.ev fn e st).bind fun p => (iterR p.2.store p.1).map fun l => (⟨l.1, false⟩, p.2.sto l.2)
noncomputable def evRange (o : Ops) (fn : Fn) (as : List PySem.Expr) (st : St) : Option (It × St) := (one as).bind fun a => (evInt o fn a st).bind fun p =>
  if rngOk 0 p.1 1 = true then some (intIt (rangeL 0 p.1 1), p.2) else .none
noncomputable def evEnum (o : Ops) (fn : Fn) (as : List PySem.Expr) (st : St) : Option (It × St) := (one as).bind fun a => (o.ev fn a st).bind fun p =>
  (iterL p.2.store p.1).map fun l => (⟨enumL 0 l.1, true⟩, p.2.sto l.2)
noncomputable def evIterC (G : Gl) (o : Ops) (fn : Fn) (e : PySem.Expr) (st : St) (f : Str) (as : List PySem.Expr) : Option (It × St) :=
  if (decide (f = "range") && isBlt G fn f) = true then evRange o fn as st
  else if (decide (f = "enumerate") && isBlt G fn f) = true then evEnum o fn as st
  else evIter0 o fn e st
noncomputable def evIter (G : Gl) (o : Ops) (fn : Fn) (e : PySem.Expr) (st : St) : Option (It × St) := opt (asCall e) (fun fa => evIterC G o fn e st fa.1 fa.2) (evIter0 o fn e st)
noncomputable def canSet (fn : Fn) (x : Str) : Bool := fn.names.lookup x == some .local || fn.names.lookup x == some .cell
inductive Tg where
  | one (x : Str) | two (x y : Str)
noncomputable def pair {α : Type} : List α → Option (α × α)
  | [a, b] => some (a, b)
  | _ => .none
noncomputable def names2 (es : List PySem.Expr) : Option (Str × Str) := (pair es).bind fun p => (asName p.1).bind fun x => (asName p.2).map fun y => (x, y)
noncomputable def asTg (e : PySem.Expr) : Option Tg := opt (asName e) (fun x => some (.one x)) ((asTup e).bind fun es => (names2 es).map fun p => .two p.1 p.2)
noncomputable def tgOk (fn : Fn) (pr : Bool) : Tg → Bool
  | .one x => !pr && canSet fn x
  | .two x y => !decide (x = y) && canSet fn x && canSet fn y
noncomputable def bindT (t : Tg) (v : V) (st : St) : Option St := match t with
  | .one x => some (st.set x v)
  | .two x y => (tupV v).bind fun l => (pair l).map fun p => (st.set x p.1).set y p.2
noncomputable def tests (o : Ops) (fn : Fn) (st : St) : List PySem.Expr → Option (Bool × St)
  | [] => some (true, st)
  | t :: r => if r.isEmpty = true then o.tt fn t st else .none
noncomputable def turns (f : V → St → Option (List V × St)) : List V → St → Option (List V × St)
  | [], st => some ([], st)
  | v :: r, st => (f v st).bind fun p => (turns f r p.2).map fun q => (p.1 ++ q.1, q.2)
noncomputable def compTurn' (o : Ops) (fn : Fn) (t : Tg) (ifs : List PySem.Expr) (inner : St → Option (List V × St)) (v : V) (st : St) : Option (List V × St) :=
  (bindT t v st).bind fun st => (tests o fn st ifs).bind fun p => cond p.1 (inner p.2) (some ([], p.2))
noncomputable def isSetE : PySem.Expr → Bool
  | .Set _ _ _ => true
  | _ => false
noncomputable def gOk (g : Comprehension) : Bool := decide (g.is_async = 0) && !isSetE g.iter
noncomputable def gen1 (G : Gl) (o : Ops) (fn fn' : Fn) (g : Comprehension) (st : St) : Option (Tg × It × St) := (evIter G o fn g.iter st).bind fun p => (asTg g.target).bind fun t => if tgOk fn' p.1.pr t = true then some (t, p) else .none
noncomputable def gens (G : Gl) (o : Ops) (fn : Fn) (elt : PySem.Expr) : List Comprehension → St → Option (List V × St)
  | [], st => (evK o fn.hm fn elt st).map fun p => ([p.1], p.2)
  | g :: gs, st => (gen1 G o fn fn g st).bind fun p => turns (compTurn' o fn p.1 g.ifs (gens G o fn elt gs)) p.2.1.items p.2.2
noncomputable def seen (names : List (Str × NameKind)) (vars : List (Str × V)) : List (Str × V) := vars.filter fun p => names.lookup p.1 == some .free
noncomputable def nodupN : List (Str × NameKind) → Bool
  | [] => true
  | p :: r => (r.lookup p.1).isNone && nodupN r
noncomputable def scOk (fn : Fn) (sc : Scope) : Bool :=
  sc.kind == .function && sc.names.all (fun p => (p.2 == .local || p.2 == .globalImplicit || (p.2 == .free && (fn.names.lookup p.1 == some .cell || fn.names.lookup p.1 == some .free))) && !decide (p.1 = "__debug__") && !decide (p.1 = "__classdict__")) && nodupN sc.names
noncomputable def Fn.sc (fn : Fn) (ns : List (Str × NameKind)) : Fn := ⟨fn.params, fn.body, ns, fn.hm, fn.sh, fn.mv⟩
noncomputable def evLC (G : Gl) (o : Ops) (fn : Fn) (elt : PySem.Expr) (gs : List Comprehension) (sc : Scope) (st : St) : Option (R × St) := match gs with
  | g :: gs => if (scOk fn sc && (g :: gs).all gOk) = true then (gen1 G o fn (fn.sc sc.names) g st).bind fun p =>
      (turns (compTurn' o (fn.sc sc.names) p.1 g.ifs (gens G o (fn.sc sc.names) elt gs)) p.2.1.items ⟨seen sc.names st.vars, p.2.2.store⟩).bind fun q =>
        if q.1.length ≤ lim then some (.fresh q.1, st.sto q.2.store) else .none
    else .none
  | [] => .none
noncomputable def freezeN : Nat → List Cell → V → Option D
  | _, _, .d x => some x
  | 0, _, _ => .none
  | n + 1, σ, .loc k => (lstC σ[k]?).bind fun l => (l.mapM (freezeN n σ)).map .lst
  | n + 1, σ, .tup l => (l.mapM (freezeN n σ)).map .tup
noncomputable def freezeR (σ : List Cell) : R → Option R
  | .val v => (freezeN 8 σ v).map fun d => .val (.d d)
  | .fresh l => (l.mapM (freezeN 8 σ)).map fun ds => .fresh (ds.map .d)
noncomputable def pureArg (v : V) (σ : List Cell) : Option (D × List Cell) := opt (locV v) (fun n => (iterC σ n σ[n]?).bind fun p => (allD p.1).map fun ds => (.lst ds, p.2)) ((datV v).map fun x => (x, σ))
noncomputable def pureArgs : List V → List Cell → Option (List V × List Cell)
  | [], σ => some ([], σ)
  | v :: r, σ => (pureArg v σ).bind fun q => (pureArgs r q.2).map fun p => (.d q.1 :: p.1, p.2)
noncomputable def callFn (o : Ops) (f : Fn) (vs : List V) (st : St) : Option (R × St) := cond f.sh ((o.call f vs st.store).map fun p => (p.1, st.sto p.2))
  ((pureArgs vs st.store).bind fun q => (o.call f q.1 []).bind fun p => if p.2.isEmpty = true then some (p.1, st.sto q.2) else .none)
noncomputable def insAt {α : Type} (l : List α) (i : Nat) (x : α) : List α := l.take i ++ x :: l.drop i
noncomputable def lAppend (σ : List Cell) (n : Nat) (l : List V) (x : V) : Option (R × List Cell) := if l.length < lim then some (.val (.d .none), σ.set n (.lst (l ++ [x]))) else .none
noncomputable def lInsert (σ : List Cell) (n : Nat) (l : List V) (p : V × V) : Option (R × List Cell) := (intOf (.val p.1)).bind fun i =>
  if (decide (0 ≤ i) && small i && decide (l.length < lim)) = true then some (.val (.d .none), σ.set n (.lst (insAt l (min i.toNat l.length) p.2))) else .none
noncomputable def lExtend (σ : List Cell) (n : Nat) (l : List V) (v : V) : Option (R × List Cell) := (locV v).bind fun k => (lstC σ[k]?).bind fun e =>
  if (!decide (k = n) && decide (l.length + e.length ≤ lim)) = true then some (.val (.d .none), σ.set n (.lst (l ++ e))) else .none
noncomputable def lPop (σ : List Cell) (n : Nat) (l : List V) : Option (R × List Cell) := l.getLast?.map fun x => (.val x, σ.set n (.lst l.dropLast))
noncomputable def lPop0 (σ : List Cell) (n : Nat) (l : List V) (v : V) : Option (R × List Cell) := (intOf (.val v)).bind fun i => if i = 0 then (match l with
  | x :: r => some (.val x, σ.set n (.lst r))
  | [] => .none) else .none
noncomputable def lmeth (σ : List Cell) (n : Nat) (l : List V) (m : Str) (as : List V) : Option (R × List Cell) :=
  if m = "append" then (one as).bind (lAppend σ n l)
  else if m = "insert" then (pair as).bind (lInsert σ n l)
  else if m = "extend" then (one as).bind (lExtend σ n l)
  else if m = "pop" then (if as.isEmpty = true then lPop σ n l else (one as).bind (lPop0 σ n l))
  else .none
noncomputable def dGet (σ : List Cell) (b : Bool) (es : List (Int × V)) (v : V) : Option (R × List Cell) := (numV v).bind fun q => if okK b es q = true then some (.val ((lookI q.2 es).getD (.d .none)), σ) else .none
noncomputable def dPop (σ : List Cell) (n : Nat) (b : Bool) (es : List (Int × V)) (p : V × V) : Option (R × List Cell) := (numV p.1).bind fun q =>
  if (okK b es q && isNoneV p.2) = true then some (.val ((lookI q.2 es).getD (.d .none)), σ.set n (.dct q.1 (delI q.2 es))) else .none
noncomputable def dmeth (σ : List Cell) (n : Nat) (b : Bool) (es : List (Int × V)) (m : Str) (as : List V) : Option (R × List Cell) :=
  if m = "get" then (one as).bind (dGet σ b es)
  else if m = "pop" then (pair as).bind (dPop σ n b es)
  else .none
noncomputable def asBare (e : PySem.Expr) : Bool := opt (asCall e) (fun p => p.2.isEmpty) false
noncomputable def mOk (b : PySem.Expr) (apos pos : Pos) (k : Nat) : Bool := !asBare b && (apos.endLine == pos.line) && decide (k < 20)
noncomputable def methC (G : Gl) (o : Ops) (n : Nat) (m : Str) (as : List V) (st : St) : Option Cell → Option (R × St)
  | some (.lst l) => (lmeth st.store n l m as).map fun r => (r.1, st.sto r.2)
  | some (.dct b es) => (dmeth st.store n b es m as).map fun r => (r.1, st.sto r.2)
  | some (.inst _) => (lookS m G.meths).bind fun f => callFn o f (.loc n :: as) st
  | _ => .none
noncomputable def kindC (m : Str) : Option Cell → Nat
  | some (.lst _) => 1
  | some (.dct _ _) => 2
  | some (.inst fs) => if (lookS m fs).isNone = true then 3 else 0
  | _ => 0
noncomputable def kindD : Option Cell → Nat
  | some (.lst _) => 1
  | some (.dct _ _) => 2
  | some (.inst _) => 3
  | _ => 4
noncomputable def evMeth (G : Gl) (o : Ops) (fn : Fn) (b : PySem.Expr) (m : Str) (as : List PySem.Expr) (st : St) : Option (R × St) :=
  (evLoc o fn b st).bind fun p => (evSs o fn as p.2).bind fun q => if (kindC m p.2.store[p.1]? == kindD q.2.store[p.1]?) = true then methC G o p.1 m q.1 q.2 q.2.store[p.1]? else .none
noncomputable def setOk (d : Bool × List (Int × V)) : Bool := !d.1 && decide (d.2.length ≤ 20) && d.2.all (fun p => decide (0 ≤ p.1) && decide (p.1 < 64))
noncomputable def dctR (σ : List Cell) (r : R) : Option (List Cell) := (lstOf σ r).bind fun l => (prsOf (clsOf l) l).map fun prs => σ ++ [.dct (clsOf l) (mkDct prs)]
noncomputable def evDct (o : Ops) (fn : Fn) (e : PySem.Expr) (st : St) : Option (R × St) := (o.ev fn e st).bind fun p => (dctR p.2.store p.1).map fun σ => (.val (.loc p.2.store.length), p.2.sto σ)
noncomputable def evBlt1 (o : Ops) (fn : Fn) (f : Str) (e : PySem.Expr) (st : St) : Option (R × St) := (o.ev fn e st).bind fun p => (bltn p.2.store f p.1).map fun r => (r, p.2)
noncomputable def evItems (o : Ops) (fn : Fn) (b : PySem.Expr) (st : St) : Option (R × St) := (o.ev fn b st).bind fun p => (dctOf p.2.store p.1).bind fun d => (itemsD d.1 d.2).bind fun l => (srtD l).map fun l => (.fresh (l.map .d), p.2)
noncomputable def unionR (d d' : Bool × List (Int × V)) (st : St) : Option (R × St) := if (setOk d && setOk d') = true then (srtD ((unionK (d.2.map (·.1)) (d'.2.map (·.1))).map .int)).map fun l => (.fresh (l.map .d), st) else .none
noncomputable def evUnion (o : Ops) (fn : Fn) (x y : PySem.Expr) (st : St) : Option (R × St) := (o.ev fn x st).bind fun p => (dctOf p.2.store p.1).bind fun d => (o.ev fn y p.2).bind fun q => (dctOf q.2.store q.1).bind fun d' => unionR d d' q.2
noncomputable def three {α : Type} : List α → Option (α × α × α)
  | [a, b, c] => some (a, b, c)
  | _ => .none
noncomputable def evRng3 (o : Ops) (fn : Fn) (p : PySem.Expr × PySem.Expr × PySem.Expr) (st : St) : Option (R × St) := (evInt o fn p.1 st).bind fun a => (evInt o fn p.2.1 a.2).bind fun b => (evInt o fn p.2.2 b.2).bind fun c =>
  if (rngOk a.1 b.1 c.1 && decide (c.1 < 1000000)) = true then some (.val (.d (.tup ((rangeL a.1 b.1 c.1).map .int))), c.2) else .none
inductive Form where
  | items (b : PySem.Expr) | union (x y : PySem.Expr) | rng (p : PySem.Expr × PySem.Expr × PySem.Expr) | plain
noncomputable def oneArg (f : Str) (e : PySem.Expr) : Option PySem.Expr := (asCall e).bind fun p => if p.1 = f then one p.2 else .none
noncomputable def formU (l r : PySem.Expr) : Form := opt (oneArg "set" l) (fun x => opt (oneArg "set" r) (fun y => .union x y) .plain) .plain
noncomputable def formC (G : Gl) (fn : Fn) (g : Str) (as : List PySem.Expr) : Form := opt (three as) (fun p => if (decide (g = "range") && isBlt G fn g) = true then .rng p else .plain) .plain
noncomputable def formA (b : PySem.Expr) (m : Str) (apos : Pos) (as : List PySem.Expr) (pos : Pos) : Form := if (decide (m = "items") && as.isEmpty && mOk b apos pos 0) = true then .items b else .plain
noncomputable def formOf (G : Gl) (fn : Fn) : PySem.Expr → Form
  | .Call f as ks pos => match ks with
    | [] => match f with
      | .Attribute b m apos => formA b m apos as pos
      | .Name g _ => formC G fn g as
      | _ => .plain
    | _ => .plain
  | .BinOp l op r _ => match op with
    | .BitOr => if isBlt G fn "set" = true then formU l r else .plain
    | _ => .plain
  | _ => .plain
noncomputable def evForm (o : Ops) (fn : Fn) (f : Str) (e : PySem.Expr) (st : St) : Form → Option (R × St)
  | .items b => if f = "sorted" then evItems o fn b st else .none
  | .union x y => if f = "sorted" then evUnion o fn x y st else .none
  | .rng p => if f = "tuple" then evRng3 o fn p st else .none
  | .plain => if f = "dict" then evDct o fn e st else evBlt1 o fn f e st
noncomputable def evBlt (G : Gl) (o : Ops) (fn : Fn) (f : Str) (as : List PySem.Expr) (st : St) : Option (R × St) := (one as).bind fun e => evForm o fn f e st (formOf G fn e)
noncomputable def isNn : R → Bool
  | .val v => isNoneV v
  | .fresh _ => false
noncomputable def evNew (G : Gl) (o : Ops) (fn : Fn) (as : List PySem.Expr) (st : St) : Option (R × St) := (evSs o fn as st).bind fun p =>
  (o.call G.init (.loc p.2.store.length :: p.1) (p.2.store ++ [.inst []])).bind fun q => if isNn q.1 = true then some (.val (.loc p.2.store.length), p.2.sto q.2) else .none
noncomputable def evCallN (G : Gl) (o : Ops) (fn : Fn) (x : Str) (as : List PySem.Expr) (st : St) : Option (R × St) :=
  if isFun fn x = true then
    if x = G.cls then evNew G o fn as st
    else opt (lookS x G.fns) (fun g => (evSs o fn as st).bind fun p => callFn o g p.1 p.2) (if isBlt G fn x = true then evBlt G o fn x as st else .none)
  else .none
noncomputable def evCall (G : Gl) (o : Ops) (fn : Fn) (f : PySem.Expr) (as : List PySem.Expr) (pos : Pos) (st : St) : Option (R × St) := match f with
  | .Name x _ => evCallN G o fn x as st
  | .Attribute b m apos => if mOk b apos pos as.length = true then evMeth G o fn b m as st else .none
  | _ => .none
noncomputable def instC : Option Cell → Option (List (Str × V))
  | some (.inst fs) => some fs
  | _ => .none
noncomputable def evAttr (G : Gl) (o : Ops) (fn : Fn) (v : PySem.Expr) (a : Str) (st : St) : Option (R × St) := if (G.flds.contains a && !asBare v) = true then (evLoc o fn v st).bind fun p => (instC p.2.store[p.1]?).bind fun fs => (lookS a fs).map fun w => (.val w, p.2) else .none
noncomputable def evConst (st : St) : Const → Option (R × St)
  | .none => some (.val (.d .none), st)
  | .bool b => some (.val (.d (.bool b)), st)
  | .int i => some (.val (.d (.int i)), st)
  | .str s => if PyData.strOk s = true then some (.val (.d (.str s)), st) else .none
  | _ => .none
noncomputable def evStep (G : Gl) (o : Ops) (fn : Fn) (e : PySem.Expr) (st : St) : Option (R × St) := match e with
  | .Constant c _ _ => evConst st c
  | .Name x _ => evName G fn x st
  | .UnaryOp op x _ => match op with
    | .USub => (evInt o fn x st).map fun p => (.val (.d (.int (-p.1))), p.2)
    | _ => .none
  | .BinOp l op r _ => (o.ev fn l st).bind fun p => (o.ev fn r p.2).bind fun q => (binR G q.2.store op p.1 q.1).map fun x => (x, q.2)
  | .IfExp t b e _ => (o.tt fn t st).bind fun p => cond p.1 (o.ev fn b p.2) (o.ev fn e p.2)
  | .List es _ => if es.length ≤ lim then (evSs o fn es st).map fun p => (.fresh p.1, p.2) else .none
  | .Tuple es _ _ => if es.length ≤ lim then (evSs o fn es st).map fun p => (.val (mkTup p.1), p.2) else .none
  | .Dict ks vs _ => if (ks.isEmpty && vs.isEmpty) = true then some (.val (.loc st.store.length), st.add (.dct false [])) else .none
  | .ListComp elt gs sc _ => evLC G o fn elt gs sc st
  | .Call f as ks pos => match ks with
    | [] => evCall G o fn f as pos st
    | _ => .none
  | .Attribute v a _ => evAttr G o fn v a st
  | .Subscript v s _ => evSub o fn v s st
  | _ => .none
noncomputable def cmp2 (o : Ops) (fn : Fn) (l : PySem.Expr) (op : CmpOp) (r : PySem.Expr) (st : St) : Option (Bool × St) := match op with
  | .Is => if isNo r = true then (o.ev fn l st).map fun p => (isNone p.1, p.2) else .none
  | .IsNot => if isNo r = true then (o.ev fn l st).map fun p => (!isNone p.1, p.2) else .none
  | .In => (o.ev fn l st).bind fun p => (o.ev fn r p.2).bind fun q => (isIn q.2.store p.1 q.1).map fun b => (b, q.2)
  | .NotIn => (o.ev fn l st).bind fun p => (o.ev fn r p.2).bind fun q => (isIn q.2.store p.1 q.1).map fun b => (!b, q.2)
  | op => (o.ev fn l st).bind fun p => (o.ev fn r p.2).bind fun q => (cmpR op q.2.store p.1 q.1).map fun b => (b, q.2)
noncomputable def isAnd : BoolOp → Bool
  | .And => true
  | .Or => false
noncomputable def allTt (o : Ops) (fn : Fn) (op : BoolOp) : List PySem.Expr → St → Option (Bool × St)
  | [], st => some (isAnd op, st)
  | t :: r, st => (o.tt fn t st).bind fun p => if (p.1 == isAnd op) = true then allTt o fn op r p.2 else some p
noncomputable def isC : CmpOp → Bool
  | .Lt | .LtE | .Gt | .GtE => true
  | _ => false
noncomputable def chE (op' : CmpOp) (b : Bool × Int) (t : (Bool × Int) × St) : Option (Bool × St) := (cmpN op' b t.1).map fun c => (c, t.2)
noncomputable def chD (o : Ops) (fn : Fn) (op' : CmpOp) (r : PySem.Expr) (q : (Bool × Int) × St) (c : Bool) : Option (Bool × St) := cond c ((evNum o fn r q.2).bind (chE op' q.1)) (some (false, q.2))
noncomputable def chC (o : Ops) (fn : Fn) (op op' : CmpOp) (r : PySem.Expr) (a : Bool × Int) (q : (Bool × Int) × St) : Option (Bool × St) := (cmpN op a q.1).bind (chD o fn op' r q)
noncomputable def chB (o : Ops) (fn : Fn) (op op' : CmpOp) (m r : PySem.Expr) (p : (Bool × Int) × St) : Option (Bool × St) := (evNum o fn m p.2).bind (chC o fn op op' r p.1)
noncomputable def chA (o : Ops) (fn : Fn) (l : PySem.Expr) (p q : CmpOp × PySem.Expr) (st : St) : Option (Bool × St) := if isC q.1 = true then (evNum o fn l st).bind (chB o fn p.1 q.1 p.2 q.2) else .none
noncomputable def cmpL (o : Ops) (fn : Fn) (l : PySem.Expr) (st : St) (ops : List CmpOp) (rs : List PySem.Expr) : Option (Bool × St) :=
  opt (one ops) (fun op => (one rs).bind fun r => cmp2 o fn l op r st) ((pair ops).bind fun p => (pair rs).bind fun q => chA o fn l (p.1, q.1) (p.2, q.2) st)
noncomputable def ttV (o : Ops) (fn : Fn) (e : PySem.Expr) (st : St) : Option (Bool × St) := (o.ev fn e st).bind fun p => (truth p.2.store p.1).map fun b => (b, p.2)
noncomputable def ttStep (o : Ops) (fn : Fn) (e : PySem.Expr) (st : St) : Option (Bool × St) := match e with
  | .UnaryOp op x _ => match op with
    | .Not => (o.tt fn x st).map fun p => (!p.1, p.2)
    | _ => ttV o fn e st
  | .BoolOp op vs _ => allTt o fn op vs st
  | .Compare l ops rs _ => cmpL o fn l st ops rs
  | .IfExp .. => .none
  | e => ttV o fn e st
noncomputable def setC (σ : List Cell) (n : Nat) (q : Bool × Int) (v : V) : Option Cell → Option (List Cell)
  | some (.lst l) => (plain q).bind fun i => if (decide (0 ≤ i) && decide (i.toNat < l.length)) = true then some (σ.set n (.lst (l.set i.toNat v))) else .none
  | some (.dct b es) => if (okK b es q && decide (es.length < lim)) = true then some (σ.set n (.dct q.1 (setI q.2 v es))) else .none
  | _ => .none
noncomputable def delC (σ : List Cell) (n : Nat) (q : Bool × Int) : Option Cell → Option (List Cell)
  | some (.lst l) => (plain q).bind fun i => (seqIndex? i l.length).map fun k => σ.set n (.lst (l.eraseIdx k))
  | some (.dct b es) => if (okK b es q && (lookI q.2 es).isSome) = true then some (σ.set n (.dct q.1 (delI q.2 es))) else .none
  | _ => .none
noncomputable def stAttr (G : Gl) (a : Str) (v : V) (p : Nat × St) : Option St := (instC p.2.store[p.1]?).bind fun fs => if (G.flds.contains a && decide (fs.length < 8)) = true then some (p.2.put p.1 (.inst (setS a v fs))) else .none
noncomputable def stSub (v : V) (n : Nat) (q : (Bool × Int) × St) : Option St := (setC q.2.store n q.1 v q.2.store[n]?).map fun σ => q.2.sto σ
noncomputable def store1 (G : Gl) (o : Ops) (fn : Fn) (t : PySem.Expr) (v : V) (st : St) : Option St := match t with
  | .Name x _ => if canSet fn x = true then some (st.set x v) else .none
  | .Attribute b a _ => (evLoc o fn b st).bind (stAttr G a v)
  | .Subscript b i _ => (evLoc o fn b st).bind fun p => (evNum o fn i p.2).bind (stSub v p.1)
  | _ => .none
noncomputable def stores (G : Gl) (o : Ops) (fn : Fn) : List PySem.Expr → List V → St → Option St
  | [], vs, st => if vs.isEmpty = true then some st else .none
  | t :: ts, vs, st => match vs with
    | v :: vs => (store1 G o fn t v st).bind fun st => stores G o fn ts vs st
    | [] => .none
noncomputable def storeAll (G : Gl) (o : Ops) (fn : Fn) (v : V) : List PySem.Expr → St → Option St
  | [], st => some st
  | t :: ts, st => (store1 G o fn t v st).bind fun st => storeAll G o fn v ts st
noncomputable def wants (fn : Fn) (e : PySem.Expr) : Bool := opt (asName e) (fun x => fn.hm || fn.mv.contains x) fn.hm
noncomputable def evWs (o : Ops) (fn : Fn) : List PySem.Expr → List PySem.Expr → St → Option (List V × St)
  | [], es, st => if es.isEmpty = true then some ([], st) else .none
  | t :: ts, es, st => match es with
    | e :: r => (evK o (wants fn t) fn e st).bind fun p => (evWs o fn ts r p.2).map fun q => (p.1 :: q.1, q.2)
    | [] => .none
noncomputable def namesT : List PySem.Expr → Option (List Str)
  | [] => some []
  | t :: r => (asName t).bind fun x => (namesT r).map (x :: ·)
noncomputable def nodupS : List Str → Bool
  | [] => true
  | x :: r => !r.contains x && nodupS r
noncomputable def tgtOk (ts : List PySem.Expr) : Bool := decide (ts.length ≤ 8) && opt (namesT ts) nodupS (ts.all isSub)
noncomputable def exTup (G : Gl) (o : Ops) (fn : Fn) (us : List PySem.Expr) (e : PySem.Expr) (st : St) : Option St := if tgtOk us = true then opt (asTup e) (fun es => cond (es.all (constantsAlone 8)) .none ((evWs o fn us es st).bind fun p => stores G o fn us p.1 p.2))
  ((evK o false fn e st).bind fun p => (tupV p.1).bind fun l => stores G o fn us l p.2) else .none
noncomputable def exOne1 (G : Gl) (o : Ops) (fn : Fn) (t e : PySem.Expr) (st : St) : Option St := opt (asTup t) (fun us => exTup G o fn us e st) ((evK o (wants fn t) fn e st).bind fun p => store1 G o fn t p.1 p.2)
noncomputable def exAssign (G : Gl) (o : Ops) (fn : Fn) (ts : List PySem.Expr) (e : PySem.Expr) (st : St) : Option St := opt (one ts) (fun t => exOne1 G o fn t e st) (if (tgtOk ts && (namesT ts).isSome) = true then (evK o false fn e st).bind fun p => storeAll G o fn p.1 ts p.2 else .none)
noncomputable def delSub (n : Nat) (q : (Bool × Int) × St) : Option St := (delC q.2.store n q.1 q.2.store[n]?).map fun σ => q.2.sto σ
noncomputable def delT (o : Ops) (fn : Fn) : List PySem.Expr → St → Option St
  | [], st => some st
  | t :: r, st => (asSub t).bind fun p => (evLoc o fn p.1 st).bind fun b => (evNum o fn p.2 b.2).bind fun q => (delSub b.1 q).bind fun st => delT o fn r st
noncomputable def isNext : Fl → Bool
  | .next => true
  | .ret _ => false
noncomputable def forLoop' (o : Ops) (fn : Fn) (t : Tg) (body : List Stmt) : List V → St → Option St
  | [], st => some st
  | v :: r, st => (bindT t v st).bind fun st => (o.ex fn body st).bind fun p => if isNext p.1 = true then forLoop' o fn t body r p.2 else .none
noncomputable def whileLoop' (o : Ops) (fn : Fn) (t : PySem.Expr) (body : List Stmt) : Nat → St → Option St
  | 0, _ => .none
  | k + 1, st => (o.tt fn t st).bind fun p => cond p.1 ((o.ex fn body p.2).bind fun q => if isNext q.1 = true then whileLoop' o fn t body k q.2 else .none) (some p.2)
noncomputable def next (st : St) : Fl × St := (.next, st)
noncomputable def exAug (o : Ops) (fn : Fn) (x : Str) (e : PySem.Expr) (st : St) : Option St := if canSet fn x = true then (lookS x st.vars).bind fun v => (intOf (.val v)).bind fun i => (evInt o fn e st).map fun p => p.2.set x (.d (.int (i + p.1))) else .none
noncomputable def exOne (G : Gl) (o : Ops) (fn : Fn) (s : Stmt) (st : St) : Option (Fl × St) := match s with
  | .Assign ts e _ => (exAssign G o fn ts e st).map next
  | .AugAssign t op e _ => match op with
    | .Add => (asName t).bind fun x => (exAug o fn x e st).map next
    | _ => .none
  | .If t b e _ => (o.tt fn t st).bind fun p => cond p.1 (o.ex fn b p.2) (o.ex fn e p.2)
  | .For t it body els _ => match els with
    | [] => (evIter G o fn it st).bind fun p => (asTg t).bind fun t => if tgOk fn p.1.pr t = true then (forLoop' o fn t body p.1.items p.2).map next else .none
    | _ => .none
  | .While t body els _ => match els with
    | [] => (whileLoop' o fn t body 1000 st).map next
    | _ => .none
  | .Return e _ => match e with
    | some e => (o.ev fn e st).map fun p => (.ret p.1, p.2)
    | .none => some (.ret (.val (.d .none)), st)
  | .Expr e _ => if isLC e = true then .none else (o.ev fn e st).map fun p => next p.2
  | .Delete ts _ => (delT o fn ts st).map next
  | _ => .none
noncomputable def exStep (G : Gl) (o : Ops) (fn : Fn) (ss : List Stmt) (st : St) : Option (Fl × St) := match ss with
  | [] => some (next st)
  | s :: r => (exOne G o fn s st).bind fun p => match p.1 with
    | .next => o.ex fn r p.2
    | .ret x => some (.ret x, p.2)
noncomputable def retR : Fl → R
  | .next => .val (.d .none)
  | .ret r => r
noncomputable def callStep (o : Ops) (f : Fn) (vs : List V) (σ : List Cell) : Option (R × List Cell) :=
  if vs.length = f.params.length then cond f.sh ((o.ex f f.body ⟨f.params.zip vs, σ⟩).map fun p => (retR p.1, p.2.store))
    (if σ.isEmpty = true then (o.ex f f.body ⟨f.params.zip vs, []⟩).bind fun p => (freezeR p.2.store (retR p.1)).map fun r => (r, []) else .none)
  else .none
noncomputable def run (G : Gl) : Nat → Ops
  | 0 => ⟨fun _ _ _ => .none, fun _ _ _ => .none, fun _ _ _ => .none, fun _ _ _ => .none⟩
  | n + 1 => ⟨evStep G (run G n), ttStep (run G n), exStep G (run G n), callStep (run G n)⟩
open PySem PyProof.Rows
structure Iota where
  base : Int
  gap : Int
  raw : Nat → Int
noncomputable def Iota.f (I : Iota) : Bool → Int → Int
  | false, i => i
  | true, k => I.base + I.gap * (k / 2) + k % 2
structure Mm where
  F : Addr → Prop
  ad : List Addr
  gp : List (List Addr)
structure Sm where
  s : Shared
  M : Mm
noncomputable def Sm.at_ (T : Sm) (a : Addr) (o : Obj) : Prop := T.s.heap.get? a = some o
noncomputable def Sm.seq (T : Sm) (ty : String) (a : Addr) (us : List Value) : Prop := ∃ n, T.s.heap.get? a = some (seqObj ty (List.toArray us) n)
section
variable (I : Iota) (T : Sm)
mutual
noncomputable def RepD : D → Value → Prop
  | .none, v => v = .none
  | .bool b, v => v = .bool b
  | .int i, v => ∃ t, v = .int i t
  | .key k, v => ∃ t, v = .int (I.f true k) t
  | .raw j i, v => ∃ t, v = .int (I.raw j + i) t
  | .str s, v => ∃ t, v = .str s t ∧ PyData.strOk s = true
  | .tup l, v => ∃ a us, v = .ref a ∧ T.M.F a ∧ T.seq "tuple" a us ∧ l.length ≤ lim ∧ RepDs l us
  | .lst l, v => ∃ a us, v = .ref a ∧ T.M.F a ∧ T.seq "list" a us ∧ l.length ≤ lim ∧ RepDs l us
noncomputable def RepDs : List D → List Value → Prop
  | [], us => us = []
  | d :: r, us => ∃ u ws, us = u :: ws ∧ RepD d u ∧ RepDs r ws
end
mutual
noncomputable def RepV : V → Value → Prop
  | .d x, v => RepD I T x v
  | .loc n, v => ∃ a, T.M.ad[n]? = some a ∧ v = .ref a
  | .tup l, v => ∃ a us, v = .ref a ∧ T.M.F a ∧ T.seq "tuple" a us ∧ l.length ≤ lim ∧ RepVs l us
noncomputable def RepVs : List V → List Value → Prop
  | [], us => us = []
  | d :: r, us => ∃ u ws, us = u :: ws ∧ RepV d u ∧ RepVs r ws
end
end
noncomputable def All2 {α : Type} (P : α → Value → Prop) : List α → List Value → Prop
  | [], us => us = []
  | d :: r, us => ∃ u ws, us = u :: ws ∧ P d u ∧ All2 P r ws
section
variable {α β : Type} {P P' : α → Value → Prop} {l m : List α} {us ws : List Value} {x : α} {u : Value}
theorem All2.k {C : List Value → Prop} (h : All2 P (x :: l) us) (k : ∀ u ws, P x u → All2 P l ws → C (u :: ws)) : C us := by
  obtain ⟨u, ws, rfl, a, b⟩ := h
  exact k u ws a b
theorem All2.k0 {C : List Value → Prop} (h : All2 P [] us) (k : C []) : C us := by
  cases h; exact k
theorem All2.k1 {C : List Value → Prop} (h : All2 P [x] us) (k : ∀ u, P x u → C [u]) : C us := by
  obtain ⟨u, ws, rfl, a, rfl⟩ := h
  exact k u a
theorem All2.k2 {C : List Value → Prop} {y : α} (h : All2 P [x, y] us) (k : ∀ u w, P x u → P y w → C [u, w]) : C us := by
  obtain ⟨u, ws, rfl, a, w, zs, rfl, b, rfl⟩ := h
  exact k u w a b
theorem All2.cons (a : P x u) (b : All2 P l us) : All2 P (x :: l) (u :: us) := ⟨u, us, rfl, a, b⟩
theorem All2.one (a : P x u) : All2 P [x] [u] := .cons a rfl
theorem All2.imp (f : ∀ a u, P a u → P' a u) : ∀ {l : List α} {us : List Value}, All2 P l us → All2 P' l us := by
  intro l
  induction l with
  | nil => exact id
  | cons x l ih => exact fun ⟨u, ws, e, a, b⟩ => ⟨u, ws, e, f x u a, ih b⟩
theorem All2.length : ∀ {us : List Value}, All2 P l us → us.length = l.length := by
  induction l with
  | nil => intro us h; cases h; rfl
  | cons x l ih => intro us h; obtain ⟨u, ws, rfl, a, b⟩ := h; exact congrArg (· + 1) (ih b)
theorem All2.append : ∀ {us : List Value}, All2 P l us → All2 P m ws → All2 P (l ++ m) (us ++ ws) := by
  induction l with
  | nil => intro us h g; cases h; exact g
  | cons x l ih => intro us h g; obtain ⟨u, vs, rfl, a, b⟩ := h; exact ⟨u, vs ++ ws, rfl, a, ih b g⟩
theorem All2.get : ∀ {us : List Value} {i : Nat}, All2 P l us → l[i]? = some x → ∃ u, us[i]? = some u ∧ P x u := by
  induction l with
  | nil => exact fun _ e => nomatch e
  | cons y l ih =>
    intro us i h e
    obtain ⟨u, vs, rfl, a, b⟩ := h
    cases i with
    | zero => cases e; exact ⟨u, rfl, a⟩
    | succ i => have q := ih b e; exact q
theorem All2.take : ∀ {us : List Value} (n : Nat), All2 P l us → All2 P (l.take n) (us.take n) := by
  induction l with
  | nil => intro us n h; cases h; cases n <;> exact rfl
  | cons y l ih =>
    intro us n h
    obtain ⟨u, vs, rfl, a, b⟩ := h
    cases n with
    | zero => exact rfl
    | succ n => exact ⟨u, vs.take n, rfl, a, ih n b⟩
theorem All2.drop : ∀ {us : List Value} (n : Nat), All2 P l us → All2 P (l.drop n) (us.drop n) := by
  induction l with
  | nil => intro us n h; cases h; cases n <;> exact rfl
  | cons y l ih =>
    intro us n h
    cases n with
    | zero => exact h
    | succ n => obtain ⟨u, vs, rfl, a, b⟩ := h; exact ih n b
theorem All2.set (a : P x u) : ∀ {us : List Value} (n : Nat), All2 P l us → All2 P (l.set n x) (us.set n u) := by
  induction l with
  | nil => intro us n h; cases h; exact rfl
  | cons y l ih =>
    intro us n h
    obtain ⟨w, vs, rfl, c, b⟩ := h
    cases n with
    | zero => exact ⟨u, vs, rfl, a, b⟩
    | succ n => exact ⟨w, vs.set n u, rfl, c, ih n b⟩
theorem All2.erase : ∀ {us : List Value} (n : Nat), All2 P l us → All2 P (l.eraseIdx n) (us.eraseIdx n) := by
  induction l with
  | nil => intro us n h; cases h; exact rfl
  | cons y l ih =>
    intro us n h
    obtain ⟨w, vs, rfl, c, b⟩ := h
    cases n with
    | zero => exact b
    | succ n => exact ⟨w, vs.eraseIdx n, rfl, c, ih n b⟩
theorem All2.map {f : β → α} : ∀ {l : List β} {us : List Value}, All2 P (l.map f) us ↔ All2 (fun b u => P (f b) u) l us := by
  intro l
  induction l with
  | nil => exact Iff.rfl
  | cons b l ih => exact ⟨fun ⟨u, ws, e, a, b⟩ => ⟨u, ws, e, a, ih.mp b⟩, fun ⟨u, ws, e, a, b⟩ => ⟨u, ws, e, a, ih.mpr b⟩⟩
theorem All2.ext : ∀ {us : List Value}, us.length = l.length → (∀ (j : Nat) d u, l[j]? = some d → us[j]? = some u → P d u) → All2 P l us := by
  induction l with
  | nil => exact fun e _ => List.length_eq_zero_iff.mp e
  | cons y l ih =>
    intro us e k
    cases us with
    | nil => cases e
    | cons u us => exact ⟨u, us, rfl, k 0 y u rfl rfl, ih (Nat.succ.inj e) fun j => k (j + 1)⟩
end
structure MonoF (T T' : Sm) : Prop where
  F : ∀ a, T.M.F a → T'.M.F a
  keep : ∀ a o, T.M.F a → T.s.heap.get? a = some o → T'.s.heap.get? a = some o
theorem MonoF.seq {T T' : Sm} (m : MonoF T T') {ty : String} {a : Addr} {us : List Value} (f : T.M.F a) (h : T.seq ty a us) : T'.seq ty a us := h.imp fun n e => m.keep a _ f e
structure Mono (T T' : Sm) : Prop where
  F : ∀ a, T.M.F a → T'.M.F a
  keep : ∀ a o, T.M.F a → T.s.heap.get? a = some o → T'.s.heap.get? a = some o
  ad : T.M.ad <+: T'.M.ad
theorem Mono.refl (T : Sm) : Mono T T := ⟨fun _ f => f, fun _ _ _ e => e, List.prefix_refl _⟩
theorem Mono.trans {T T' T'' : Sm} (a : Mono T T') (b : Mono T' T'') : Mono T T'' := ⟨fun x f => b.F x (a.F x f), fun x o f e => b.keep x o (a.F x f) (a.keep x o f e), a.ad.trans b.ad⟩
theorem Mono.seq {T T' : Sm} (m : Mono T T') {ty : String} {a : Addr} {us : List Value} (f : T.M.F a) (h : T.seq ty a us) : T'.seq ty a us := h.imp fun n e => m.keep a _ f e
theorem Mono.loc {T T' : Sm} (m : Mono T T') {n : Nat} {a : Addr} (h : T.M.ad[n]? = some a) : T'.M.ad[n]? = some a := by
  obtain ⟨t, e⟩ := m.ad
  rw [← e]
  exact (List.getElem?_append_left (List.getElem?_eq_some_iff.mp h).1).trans h
section
variable {I : Iota} {T T' : Sm} {u : Value}
theorem repDs_eq : ∀ {l : List D} {us : List Value}, RepDs I T l us ↔ All2 (RepD I T) l us := by
  intro l
  induction l with
  | nil => exact Iff.rfl
  | cons d l ih => exact ⟨fun ⟨u, ws, e, a, b⟩ => ⟨u, ws, e, a, ih.mp b⟩, fun ⟨u, ws, e, a, b⟩ => ⟨u, ws, e, a, ih.mpr b⟩⟩
theorem repVs_eq : ∀ {l : List V} {us : List Value}, RepVs I T l us ↔ All2 (RepV I T) l us := by
  intro l
  induction l with
  | nil => exact Iff.rfl
  | cons d l ih => exact ⟨fun ⟨u, ws, e, a, b⟩ => ⟨u, ws, e, a, ih.mp b⟩, fun ⟨u, ws, e, a, b⟩ => ⟨u, ws, e, a, ih.mpr b⟩⟩
theorem RepD.num_k {q : Bool × Int} {P : Value → Prop} (h : RepD I T (mkN q) u) (k : ∀ t, P (.int (I.f q.1 q.2) t)) : P u := by
  obtain ⟨b, i⟩ := q
  cases b <;> (obtain ⟨t, rfl⟩ := h; exact k t)
theorem RepD.num (q : Bool × Int) (t : Tok) : RepD I T (mkN q) (.int (I.f q.1 q.2) t) := by
  obtain ⟨b, i⟩ := q
  cases b <;> exact ⟨t, rfl⟩
theorem RepD.tup_k {l : List D} {P : Value → Prop} (h : RepD I T (.tup l) u) (k : ∀ a us, T.M.F a → T.seq "tuple" a us → l.length ≤ lim → All2 (RepD I T) l us → P (.ref a)) : P u := by
  obtain ⟨a, us, rfl, f, e, z, r⟩ := h
  exact k a us f e z (repDs_eq.mp r)
theorem RepD.lst_k {l : List D} {P : Value → Prop} (h : RepD I T (.lst l) u) (k : ∀ a us, T.M.F a → T.seq "list" a us → l.length ≤ lim → All2 (RepD I T) l us → P (.ref a)) : P u := by
  obtain ⟨a, us, rfl, f, e, z, r⟩ := h
  exact k a us f e z (repDs_eq.mp r)
theorem RepV.tup_k {l : List V} {P : Value → Prop} (h : RepV I T (.tup l) u) (k : ∀ a us, T.M.F a → T.seq "tuple" a us → l.length ≤ lim → All2 (RepV I T) l us → P (.ref a)) : P u := by
  obtain ⟨a, us, rfl, f, e, z, r⟩ := h
  exact k a us f e z (repVs_eq.mp r)
theorem RepV.loc_k {n : Nat} {P : Value → Prop} (h : RepV I T (.loc n) u) (k : ∀ a, T.M.ad[n]? = some a → P (.ref a)) : P u := by
  obtain ⟨a, e, rfl⟩ := h
  exact k a e
mutual
theorem RepD.monoF (m : MonoF T T') : ∀ {d : D} {v : Value}, RepD I T d v → RepD I T' d v
  | .none, _, x => x
  | .bool _, _, x => x
  | .int _, _, x => x
  | .key _, _, x => x
  | .raw _ _, _, x => x
  | .str _, _, x => x
  | .tup _, _, ⟨a, us, e, f, g, z, r⟩ => ⟨a, us, e, m.F a f, m.seq f g, z, RepDs.monoF m r⟩
  | .lst _, _, ⟨a, us, e, f, g, z, r⟩ => ⟨a, us, e, m.F a f, m.seq f g, z, RepDs.monoF m r⟩
theorem RepDs.monoF (m : MonoF T T') : ∀ {d : List D} {v : List Value}, RepDs I T d v → RepDs I T' d v
  | [], _, x => x
  | _ :: _, _, ⟨u, ws, e, a, b⟩ => ⟨u, ws, e, RepD.monoF m a, RepDs.monoF m b⟩
end
theorem RepD.mono (m : Mono T T') {d : D} {v : Value} (h : RepD I T d v) : RepD I T' d v := h.monoF ⟨m.F, m.keep⟩
mutual
theorem RepV.mono (m : Mono T T') : ∀ {d : V} {v : Value}, RepV I T d v → RepV I T' d v
  | .d _, _, x => RepD.mono m x
  | .loc _, _, ⟨a, e, q⟩ => ⟨a, m.loc e, q⟩
  | .tup _, _, ⟨a, us, e, f, g, z, r⟩ => ⟨a, us, e, m.F a f, m.seq f g, z, RepVs.mono m r⟩
theorem RepVs.mono (m : Mono T T') : ∀ {d : List V} {v : List Value}, RepVs I T d v → RepVs I T' d v
  | [], _, x => x
  | _ :: _, _, ⟨u, ws, e, a, b⟩ => ⟨u, ws, e, RepV.mono m a, RepVs.mono m b⟩
end
theorem All2.mono (m : Mono T T') {l : List V} {us : List Value} (h : All2 (RepV I T) l us) : All2 (RepV I T') l us := h.imp fun _ _ => RepV.mono m
theorem All2.monoD (m : Mono T T') {l : List D} {us : List Value} (h : All2 (RepD I T) l us) : All2 (RepD I T') l us := h.imp fun _ _ => RepD.mono m
theorem datV_k {v : V} {d : D} {P : V → Prop} (h : datV v = some d) (k : P (.d d)) : P v := by
  cases v <;> cases h
  exact k
theorem allD_k {l : List V} {ds : List D} {P : List V → Prop} (h : allD l = some ds) (k : P (ds.map V.d)) : P l := by
  have : l = ds.map V.d := by
    induction l generalizing ds P with
    | nil => cases h; rfl
    | cons v l ih =>
      cases v with
      | d x =>
        cases e : allD l with
        | none => exact absurd h (by show (allD l).map _ ≠ _; rw [e]; exact nofun)
        | some es =>
          have h' : (allD l).map (x :: ·) = some ds := h
          rw [e] at h'
          cases h'
          exact congrArg (V.d x :: ·) (ih (P := fun _ => True) e trivial)
      | _ => exact nomatch h
  rw [this]; exact k
end
open PySem PyProof.Rows
noncomputable def Mm.W (M : Mm) (a : Addr) : Prop := a ∈ M.gp.flatten
noncomputable def Al (h : Heap) (a : Addr) : Prop := ∃ o, h.get? a = some o
noncomputable def FA (env : Env) (a : Addr) : Prop := a = env.locals ∨ ∃ x, env.cells.lookup x = some a
theorem Al.lt {h : Heap} {a : Addr} (x : Al h a) : a < h.objs.size := x.elim fun _ e => Heap.lt_size e
theorem not_al_size (h : Heap) : ¬ Al h h.objs.size := fun x => Nat.lt_irrefl _ x.lt
structure Cx where
  prog : Program
  w : World
  C : Addr
  hB : Heap
  I : Iota
  G : Gl
  mg : Str → Option Value
  mb : Str → Option Value
structure Fx where
  fn : Fn
  env : Env
noncomputable def RepK (I : Iota) (T : Sm) (b : Bool) : List (Int × V) → List (Int × Value) → Prop
  | [], vs => vs = []
  | p :: r, vs => ∃ v ws, vs = (I.f b p.1, v) :: ws ∧ RepV I T p.2 v ∧ RepK I T b r ws
noncomputable def RepA (P : Params) (I : Iota) (T : Sm) : List (Str × V) → List DictEntry → Prop
  | [], es => es = []
  | p :: r, es => ∃ t v es', es = ⟨PyData.keyHash P p.1, .str p.1 t, v⟩ :: es' ∧ RepV I T p.2 v ∧ RepA P I T r es'
structure InsAt (X : Cx) (T : Sm) (a dx : Addr) (fs : List (Str × V)) (es : List DictEntry) (n : Nat) : Prop where
  obj : T.s.heap.get? a = some { cls := .ref X.C, dict := some dx, data := .plain }
  dict : T.s.heap.get? dx = some { cls := .type "dict", data := .dict (List.toArray es) n }
  rep : RepA X.w.params X.I T fs es
  nod : (fs.map (·.1)).Nodup
  len : fs.length ≤ 8
noncomputable def CellRel (X : Cx) (T : Sm) (a : Addr) (g : List Addr) : Cell → Prop
  | .lst l => g = [a] ∧ ∃ us, T.seq "list" a us ∧ All2 (RepV X.I T) l us ∧ l.length ≤ lim
  | .froz l => g = [] ∧ RepD X.I T (.lst l) (.ref a)
  | .dct b es => g = [a] ∧ ∃ kvs, T.s.heap.DictOf (intKind X.prog X.w) a kvs ∧ RepK X.I T b es kvs ∧ es.length ≤ lim
  | .inst fs => ∃ dx es n, g = [a, dx] ∧ InsAt X T a dx fs es n
structure Mid (X : Cx) (σ : List Cell) (T : Sm) : Prop where
  top : ∀ b o, X.hB.get? b = some o → T.s.heap.get? b = some o
  base : ∀ a, Al X.hB a → T.M.F a
  fal : ∀ a, T.M.F a → Al T.s.heap a
  fw : ∀ a, T.M.F a → ¬ T.M.W a
  la : T.M.ad.length = σ.length
  lg : T.M.gp.length = σ.length
  nod : T.M.gp.flatten.Nodup
  cell : ∀ (l : Nat) (c : Cell), σ[l]? = some c → ∃ a g, T.M.ad[l]? = some a ∧ T.M.gp[l]? = some g ∧ CellRel X T a g c
structure Frm (I : Iota) (F : Fx) (vars : List (Str × V)) (T : Sm) : Prop where
  kind : F.env.scope.kind = .function
  dbg : F.fn.names.lookup ("__debug__" : Str) = .none ∧ F.fn.names.lookup ("__classdict__" : Str) = .none
  loc : ∀ x, F.fn.names.lookup x = some .local → F.env.kindOf x = some .local
  cel : ∀ x, F.fn.names.lookup x = some .cell → F.env.kindOf x = some .cell
  fre : ∀ x, F.fn.names.lookup x = some .free → F.env.kindOf x = some .cell ∨ F.env.kindOf x = some .free
  glo : ∀ x, F.fn.names.lookup x = some .globalImplicit → F.env.kindOf x = some .globalImplicit
  glb : F.env.globals = mainGlobals
  blt : F.env.builtins = builtinsNs
  cells : ∀ x, (F.env.kindOf x = some .cell ∨ F.env.kindOf x = some .free) → ∃ c, F.env.cells.lookup x = some c
  apart : ∀ x y c, F.env.cells.lookup x = some c → F.env.cells.lookup y = some c → x = y
  above : ∀ x c, F.env.cells.lookup x = some c → c ≠ F.env.locals
  has : ∃ (m cm : Str → Option Value), T.s.heap.Ns F.env.locals m ∧ (∀ x c, F.env.cells.lookup x = some c → T.s.heap.IsCell c (cm x)) ∧
    ∀ x v, lookS x vars = some v → ∃ u, RepV I T v u ∧ ((F.env.kindOf x = some .local ∧ m x = some u) ∨ ((F.env.kindOf x = some .cell ∨ F.env.kindOf x = some .free) ∧ cm x = some u))
structure Inv (X : Cx) (F : Fx) (st : St) (T : Sm) : Prop where
  mid : Mid X st.store T
  ffa : ∀ a, FA F.env a → ¬ T.M.F a ∧ ¬ T.M.W a
  frm : Frm X.I F st.vars T
structure Ext (Z : Addr → Prop) (T T' : Sm) : Prop where
  sh : ∃ h' tk, T'.s = { T.s with heap := h', toks := tk }
  keep : ∀ a o, T.s.heap.get? a = some o → ¬ Z a → T'.s.heap.get? a = some o
  al : ∀ a, Al T.s.heap a → Al T'.s.heap a
  F : ∀ a, T.M.F a → T'.M.F a
  fnew : ∀ a, T'.M.F a → T.M.F a ∨ T.M.W a ∨ ¬ Al T.s.heap a
  wnew : ∀ a, T'.M.W a → T.M.W a ∨ ¬ Al T.s.heap a
  ad : T.M.ad <+: T'.M.ad
noncomputable def Wa (F : Fx) (T : Sm) (a : Addr) : Prop := T.M.W a ∨ FA F.env a
noncomputable def FS (F : Fx) (a : Addr) : Prop := a = F.env.locals ∨ ∃ x, F.fn.names.lookup x = some .cell ∧ F.env.cells.lookup x = some a
noncomputable def Wr (F : Fx) (T : Sm) (a : Addr) : Prop := T.M.W a ∨ FS F a
structure Aft (X : Cx) (F : Fx) (T : Sm) (st : St) (T' : Sm) : Prop where
  ext : Ext T.M.W T T'
  mono : Mono T T'
  inv : Inv X F st T'
structure AftS (X : Cx) (F : Fx) (T : Sm) (st : St) (T' : Sm) : Prop where
  ext : Ext (Wr F T) T T'
  mono : Mono T T'
  inv : Inv X F st T'
noncomputable def Sm.hp (T : Sm) (h : Heap) (tk : Nat) : Sm := ⟨{ T.s with heap := h, toks := tk }, T.M⟩
noncomputable def Sm.mm (T : Sm) (M : Mm) : Sm := ⟨T.s, M⟩
section
variable {X : Cx} {F : Fx} {T T' T'' : Sm} {st st' : St} {σ : List Cell} {Z Z' : Addr → Prop} {I : Iota} {h : Heap} {tk : Nat} {P : Params}
theorem FS.fa {a : Addr} (h : FS F a) : FA F.env a := h.imp_right fun q => q.imp fun _ q => q.2
theorem Wr.wa {a : Addr} (h : Wr F T a) : Wa F T a := h.imp_right FS.fa
theorem RepK.mono (m : Mono T T') {b : Bool} : ∀ {es : List (Int × V)} {kvs : List (Int × Value)}, RepK I T b es kvs → RepK I T' b es kvs := by
  intro es
  induction es with
  | nil => exact id
  | cons p es ih => exact fun ⟨v, ws, e, x, r⟩ => ⟨v, ws, e, x.mono m, ih r⟩
theorem RepA.mono (m : Mono T T') : ∀ {es : List (Str × V)} {kvs : List DictEntry}, RepA P I T es kvs → RepA P I T' es kvs := by
  intro es
  induction es with
  | nil => exact id
  | cons p es ih => exact fun ⟨t, v, ws, e, x, r⟩ => ⟨t, v, ws, e, x.mono m, ih r⟩
theorem InsAt.mono {a dx : Addr} {fs : List (Str × V)} {es : List DictEntry} {n : Nat} (m : Mono T T') (hk : ∀ b o, b = a ∨ b = dx → T.s.heap.get? b = some o → T'.s.heap.get? b = some o) (x : InsAt X T a dx fs es n) : InsAt X T' a dx fs es n :=
  ⟨hk _ _ (.inl rfl) x.obj, hk _ _ (.inr rfl) x.dict, x.rep.mono m, x.nod, x.len⟩
theorem CellRel.mono {a : Addr} {g : List Addr} (m : Mono T T') (hk : ∀ b o, b ∈ g → T.s.heap.get? b = some o → T'.s.heap.get? b = some o) : ∀ {c : Cell}, CellRel X T a g c → CellRel X T' a g c := by
  intro c
  cases c with
  | lst l => exact fun ⟨e, us, ⟨n, o⟩, r, z⟩ => ⟨e, us, ⟨n, hk _ _ (by rw [e]; exact List.mem_singleton_self a) o⟩, r.mono m, z⟩
  | froz l => exact fun ⟨e, r⟩ => ⟨e, r.mono m⟩
  | dct b es => exact fun ⟨e, kvs, d, r, z⟩ => ⟨e, kvs, d.at fun o => hk _ o (by rw [e]; exact List.mem_singleton_self a), r.mono m, z⟩
  | inst fs => exact fun ⟨dx, es, n, e, r⟩ => ⟨dx, es, n, e, r.mono m fun b o q => hk b o (by rw [e]; exact List.mem_cons.mpr (q.imp_right List.mem_singleton.mpr))⟩
theorem CellRel.al {a b : Addr} {g : List Addr} (hb : b ∈ g) : ∀ {c : Cell}, CellRel X T a g c → Al T.s.heap b := by
  intro c
  cases c with
  | lst l => rintro ⟨rfl, us, ⟨n, o⟩, _⟩; rw [List.mem_singleton.mp hb]; exact ⟨_, o⟩
  | froz l => rintro ⟨rfl, _⟩; cases hb
  | dct _ es => rintro ⟨rfl, kvs, ⟨o, _, _, e, _⟩, _⟩; rw [List.mem_singleton.mp hb]; exact ⟨o, e⟩
  | inst fs => rintro ⟨dx, es, n, rfl, r⟩; exact (List.mem_cons.mp hb).elim (fun q => q ▸ ⟨_, r.obj⟩) fun q => List.mem_singleton.mp q ▸ ⟨_, r.dict⟩
theorem Mm.W_of {M : Mm} {l : Nat} {g : List Addr} {a : Addr} (hg : M.gp[l]? = some g) (ha : a ∈ g) : M.W a := List.mem_flatten.mpr ⟨g, List.mem_of_getElem? hg, ha⟩
theorem Mid.wal (x : Mid X σ T) {a : Addr} (ha : T.M.W a) : Al T.s.heap a := by
  obtain ⟨g, hg, hm⟩ := List.mem_flatten.mp ha
  obtain ⟨l, hl, e⟩ := List.getElem_of_mem hg
  obtain ⟨b, g', _, e2, c⟩ := x.cell l _ (List.getElem?_eq_getElem (x.lg ▸ hl))
  cases (List.getElem?_eq_getElem hl).symm.trans e2
  exact c.al (e ▸ hm)
theorem Inv.wal (x : Inv X F st T) {a : Addr} (ha : T.M.W a) : Al T.s.heap a := x.mid.wal ha
theorem Inv.faal (x : Inv X F st T) {a : Addr} (ha : FA F.env a) : Al T.s.heap a := by
  obtain ⟨m, cm, ⟨o, es, ep, hn, _⟩, hc, _⟩ := x.frm.has
  cases ha with
  | inl e => exact e ▸ ⟨o, hn⟩
  | inr q => exact q.elim fun y hy => (hc y a hy).elim fun o q => ⟨o, q.1⟩
theorem Inv.fr (x : Inv X F st T) {a : Addr} (f : T.M.F a) : ¬ Wa F T a := fun q => q.elim (x.mid.fw a f) fun q => (x.ffa a q).1 f
theorem Ext.trans (x : Ext Z T T') (y : Ext Z' T' T'') (hY : ∀ a, Z' a → Z a ∨ ¬ Al T.s.heap a) : Ext Z T T'' where
  sh := by
    obtain ⟨h, t, e⟩ := x.sh
    obtain ⟨h', t', e'⟩ := y.sh
    exact ⟨h', t', by rw [e', e]⟩
  keep a o e n := y.keep a o (x.keep a o e n) fun q => (hY a q).elim n fun k => k ⟨o, e⟩
  al a e := y.al a (x.al a e)
  F a e := y.F a (x.F a e)
  fnew a e := (y.fnew a e).elim (x.fnew a) fun q => .inr (q.elim (x.wnew a) fun q => .inr fun k => q (x.al a k))
  wnew a e := (y.wnew a e).elim (x.wnew a) fun q => .inr fun k => q (x.al a k)
  ad := x.ad.trans y.ad
theorem Ext.weaken (x : Ext Z T T') (h : ∀ a, Z a → Z' a ∨ ¬ Al T.s.heap a) : Ext Z' T T' :=
  ⟨x.sh, fun a o e n => x.keep a o e fun q => (h a q).elim n fun k => k ⟨o, e⟩, x.al, x.F, x.fnew, x.wnew, x.ad⟩
theorem Ext.mono (x : Ext Z T T') (hX : ∀ a, T.M.F a → ¬ Z a) : Mono T T' := ⟨x.F, fun a o f e => x.keep a o e (hX a f), x.ad⟩
theorem Aft.trans (a : Aft X F T st T') (b : Aft X F T' st' T'') : Aft X F T st' T'' :=
  ⟨a.ext.trans b.ext a.ext.wnew, a.mono.trans b.mono, b.inv⟩
theorem Aft.s (a : Aft X F T st T') : AftS X F T st T' := ⟨a.ext.weaken fun _ q => .inl (.inl q), a.mono, a.inv⟩
theorem AftS.trans (a : AftS X F T st T') (b : AftS X F T' st' T'') : AftS X F T st' T'' :=
  ⟨a.ext.trans b.ext fun x q => q.elim (fun q => (a.ext.wnew x q).imp_left .inl) fun q => .inl (.inr q), a.mono.trans b.mono, b.inv⟩
theorem Ext.hp (Z : Addr → Prop) (hk : ∀ b o, ¬ Z b → T.s.heap.get? b = some o → h.get? b = some o) (hal : ∀ b, Z b → Al T.s.heap b → Al h b) : Ext Z T (T.hp h tk) :=
  ⟨⟨h, tk, rfl⟩, fun a o e n => hk a o n e, fun a q => (Classical.em (Z a)).elim (fun z => hal a z q) fun z => q.imp fun o e => hk a o z e, fun _ f => f, fun _ f => .inl f, fun _ f => .inl f, List.prefix_refl _⟩
theorem Frm.mono {vars : List (Str × V)} (x : Frm I F vars T) (m : Mono T T') (hk : ∀ b o, FA F.env b → T.s.heap.get? b = some o → T'.s.heap.get? b = some o) : Frm I F vars T' :=
  { x with has := x.has.imp fun m' q => q.imp fun cm q => ⟨q.1.at' fun o e => hk _ o (.inl rfl) e, fun y c hy => (q.2.1 y c hy).imp fun o e => ⟨hk _ o (.inr ⟨y, hy⟩) e.1, e.2⟩, fun y v hy => (q.2.2 y v hy).imp fun u r => ⟨r.1.mono m, r.2⟩⟩ }
theorem Mid.hp (x : Mid X σ T) (hk : ∀ b o, T.M.F b ∨ T.M.W b → T.s.heap.get? b = some o → h.get? b = some o) : Mid X σ (T.hp h tk) where
  top b o e := hk b o (.inl (x.base b ⟨o, e⟩)) (x.top b o e)
  base := x.base
  fal a f := (x.fal a f).imp fun o e => hk a o (.inl f) e
  fw := x.fw
  la := x.la
  lg := x.lg
  nod := x.nod
  cell l c e := (x.cell l c e).imp fun a q => q.imp fun g q => ⟨q.1, q.2.1, CellRel.mono (T := T) (T' := T.hp h tk) ⟨fun _ f => f, fun a o f => hk a o (.inl f), List.prefix_refl _⟩ (fun b o m => hk b o (.inr (Mm.W_of q.2.1 m))) q.2.2⟩
theorem Inv.hp (x : Inv X F st T) (hk : ∀ b o, T.M.F b ∨ T.M.W b ∨ FA F.env b → T.s.heap.get? b = some o → h.get? b = some o) : Inv X F st (T.hp h tk) :=
  ⟨x.mid.hp fun b o q => hk b o (q.imp_right .inl), x.ffa, x.frm.mono ⟨fun _ f => f, fun a o f => hk a o (.inl f), List.prefix_refl _⟩ fun b o q => hk b o (.inr (.inr q))⟩
theorem Aft.refl (x : Inv X F st T) : Aft X F T st T := ⟨⟨⟨_, _, rfl⟩, fun _ _ e _ => e, fun _ e => e, fun _ e => e, fun _ e => .inl e, fun _ e => .inl e, List.prefix_refl _⟩, .refl T, x⟩
theorem Aft.grow (x : Inv X F st T) (hk : ∀ b o, T.s.heap.get? b = some o → h.get? b = some o) : Aft X F T st (T.hp h tk) :=
  ⟨.hp _ (fun b o _ => hk b o) fun b _ q => q.imp fun o => hk b o, ⟨fun _ f => f, fun a o _ => hk a o, List.prefix_refl _⟩, x.hp fun b o _ => hk b o⟩
theorem Aft.tok (x : Inv X F st T) (tk : Nat) : Aft X F T st (T.hp T.s.heap tk) := .grow x fun _ _ e => e
noncomputable def Mm.frz (M : Mm) (P : Addr → Prop) : Mm := { M with F := fun a => M.F a ∨ P a }
theorem Mono.frz (P : Addr → Prop) : Mono T (T.mm (T.M.frz P)) := ⟨fun _ f => .inl f, fun _ _ _ e => e, List.prefix_refl _⟩
theorem Inv.frz (x : Inv X F st T) {P : Addr → Prop} (hP : ∀ a, P a → Al T.s.heap a ∧ ¬ Wa F T a) : Inv X F st (T.mm (T.M.frz P)) where
  mid := { x.mid with
    base := fun a f => .inl (x.mid.base a f)
    fal := fun a f => f.elim (x.mid.fal a) fun p => (hP a p).1
    fw := fun a f => f.elim (x.mid.fw a) fun p q => (hP a p).2 (.inl q)
    cell := fun l c e => (x.mid.cell l c e).imp fun a q => q.imp fun g q => ⟨q.1, q.2.1, q.2.2.mono (.frz P) fun b o _ e => e⟩ }
  ffa a f := ⟨fun q => q.elim (x.ffa a f).1 fun p => (hP a p).2 (.inr f), (x.ffa a f).2⟩
  frm := x.frm.mono (.frz P) fun b o _ e => e
theorem Aft.frz (x : Aft X F T st T') {P : Addr → Prop} (hP : ∀ a, P a → Al T'.s.heap a ∧ ¬ Wa F T' a ∧ ¬ Al T.s.heap a) : Aft X F T st (T'.mm (T'.M.frz P)) :=
  ⟨⟨x.ext.sh, x.ext.keep, x.ext.al, fun a f => .inl (x.ext.F a f), fun a f => f.elim (x.ext.fnew a) fun p => .inr (.inr (hP a p).2.2), x.ext.wnew, x.ext.ad⟩, x.mono.trans (.frz P), x.inv.frz fun a p => ⟨(hP a p).1, (hP a p).2.1⟩⟩
noncomputable def Mm.new (M : Mm) (a : Addr) (g : List Addr) : Mm := { M with ad := M.ad ++ [a], gp := M.gp ++ [g] }
theorem Mm.new_W {M : Mm} {a b : Addr} {g : List Addr} : (M.new a g).W b ↔ M.W b ∨ b ∈ g := by simp only [Mm.W, Mm.new, List.flatten_append, List.flatten_cons, List.flatten_nil, List.append_nil, List.mem_append]
theorem Mono.new (a : Addr) (g : List Addr) : Mono T (T.mm (T.M.new a g)) := ⟨fun _ f => f, fun _ _ _ e => e, List.prefix_append _ _⟩
theorem getElem?_snoc {α : Type} {l : List α} {x y : α} {n k : Nat} (hk : l.length = k) (h : (l ++ [x])[n]? = some y) : (n < k ∧ l[n]? = some y) ∨ (n = k ∧ x = y) := by
  subst hk
  by_cases hn : n < l.length
  · exact .inl ⟨hn, (List.getElem?_append_left hn).symm.trans h⟩
  · rw [List.getElem?_append_right (Nat.not_lt.mp hn)] at h
    cases e : n - l.length with
    | zero => rw [e] at h; cases h; exact .inr ⟨Nat.le_antisymm (Nat.sub_eq_zero_iff_le.mp e) (Nat.not_lt.mp hn), rfl⟩
    | succ m => rw [e] at h; cases h
theorem Mid.new (x : Mid X σ T) {a : Addr} {g : List Addr} {c : Cell} (hg : ∀ b ∈ g, ¬ T.M.F b ∧ ¬ T.M.W b) (hn : g.Nodup) (hc : CellRel X (T.mm (T.M.new a g)) a g c) : Mid X (σ ++ [c]) (T.mm (T.M.new a g)) where
  top := x.top
  base := x.base
  fal := x.fal
  fw b f q := (Mm.new_W.mp q).elim (x.fw b f) fun q => (hg b q).1 f
  la := by show (T.M.ad ++ [a]).length = _; rw [List.length_append, List.length_append, x.la]; rfl
  lg := by show (T.M.gp ++ [g]).length = _; rw [List.length_append, List.length_append, x.lg]; rfl
  nod := by
    show (T.M.gp ++ [g]).flatten.Nodup
    rw [List.flatten_append, List.flatten_cons, List.flatten_nil, List.append_nil]
    exact List.nodup_append.mpr ⟨x.nod, hn, fun b hb b' hb' e => (hg b' hb').2 (e ▸ hb)⟩
  cell l c' e := (getElem?_snoc rfl e).elim
    (fun ⟨hl, e⟩ => (x.cell l c' e).imp fun a' q => q.imp fun g' q => ⟨(List.getElem?_append_left (x.la ▸ hl)).trans q.1, (List.getElem?_append_left (x.lg ▸ hl)).trans q.2.1, q.2.2.mono (.new a g) fun b o _ e => e⟩)
    fun ⟨hl, e⟩ => ⟨a, g, by rw [hl, ← x.la]; exact List.getElem?_concat_length, by rw [hl, ← x.lg]; exact List.getElem?_concat_length, e ▸ hc⟩
theorem Ext.new (x : Ext Z T T') {a : Addr} {g : List Addr} (h : ∀ b ∈ g, ¬ Al T.s.heap b) : Ext Z T (T'.mm (T'.M.new a g)) :=
  ⟨x.sh, x.keep, x.al, x.F, x.fnew, fun b f => (Mm.new_W.mp f).elim (x.wnew b) fun q => .inr (h b q), x.ad.trans (List.prefix_append _ _)⟩
theorem Aft.new (x : Aft X F T st T') {a : Addr} {g : List Addr} {c : Cell} (hg : ∀ b ∈ g, ¬ T'.M.F b ∧ ¬ Wa F T' b ∧ ¬ Al T.s.heap b) (hn : g.Nodup) (hc : CellRel X (T'.mm (T'.M.new a g)) a g c) : Aft X F T (st.add c) (T'.mm (T'.M.new a g)) where
  ext := x.ext.new fun b q => (hg b q).2.2
  mono := x.mono.trans (.new a g)
  inv := ⟨x.inv.mid.new (fun b q => ⟨(hg b q).1, fun w => (hg b q).2.1 (.inl w)⟩) hn hc, fun b f => ⟨(x.inv.ffa b f).1, fun q => (Mm.new_W.mp q).elim (x.inv.ffa b f).2 fun q => (hg b q).2.1 (.inr f)⟩, x.inv.frm.mono (.new a g) fun b o _ e => e⟩
theorem gp_apart : ∀ {gs : List (List Addr)} {l k : Nat} {g e : List Addr} {a : Addr}, gs.flatten.Nodup → gs[l]? = some g → gs[k]? = some e → a ∈ g → a ∈ e → l = k := by
  intro gs
  induction gs with
  | nil => exact fun _ h => nomatch h
  | cons q gs ih =>
    intro l k g e a hn hl hk ha hb
    obtain ⟨_, h2, h3⟩ := List.nodup_append.mp (List.flatten_cons ▸ hn)
    cases l with
    | zero =>
      cases k with
      | zero => rfl
      | succ k => cases hl; exact absurd rfl (h3 a ha a (List.mem_flatten.mpr ⟨e, List.mem_of_getElem? hk, hb⟩))
    | succ l =>
      cases k with
      | zero => cases hk; exact absurd rfl (h3 a hb a (List.mem_flatten.mpr ⟨g, List.mem_of_getElem? hl, ha⟩))
      | succ k => exact congrArg (· + 1) (ih h2 hl hk ha hb)
theorem getElem?_set_some {α : Type} {l : List α} {x y : α} {n k : Nat} (h : (l.set n x)[k]? = some y) : (n = k ∧ x = y) ∨ (n ≠ k ∧ l[k]? = some y) := by
  by_cases e : n = k
  · subst e
    have := (List.getElem?_eq_some_iff.mp h).1
    rw [List.getElem?_set_self (List.length_set ▸ this)] at h
    exact .inl ⟨rfl, Option.some.inj h⟩
  · exact .inr ⟨e, (List.getElem?_set_ne e).symm.trans h⟩
theorem Mid.upd (x : Mid X σ T) {l : Nat} {a : Addr} {g : List Addr} {c : Cell} (hg : T.M.gp[l]? = some g) (ha : T.M.ad[l]? = some a)
    (hk : ∀ b o, b ∉ g → T.s.heap.get? b = some o → h.get? b = some o) (hc : CellRel X (T.hp h tk) a g c) : Mid X (σ.set l c) (T.hp h tk) where
  top b o e := hk b o (fun q => x.fw b (x.base b ⟨o, e⟩) (Mm.W_of hg q)) (x.top b o e)
  base := x.base
  fal b f := (x.fal b f).imp fun o e => hk b o (fun q => x.fw b f (Mm.W_of hg q)) e
  fw := x.fw
  la := x.la.trans List.length_set.symm
  lg := x.lg.trans List.length_set.symm
  nod := x.nod
  cell k c' e := (getElem?_set_some e).elim (fun ⟨e1, e2⟩ => ⟨a, g, e1 ▸ ha, e1 ▸ hg, e2 ▸ hc⟩) fun ⟨e1, e2⟩ => (x.cell k c' e2).imp fun a' q => q.imp fun g' q =>
    ⟨q.1, q.2.1, CellRel.mono (T := T) (T' := T.hp h tk) ⟨fun _ f => f, fun b o f => hk b o fun q => x.fw b f (Mm.W_of hg q), List.prefix_refl _⟩ (fun b o m => hk b o fun q' => e1 (gp_apart x.nod hg q.2.1 q' m)) q.2.2⟩
theorem Aft.upd (x : Inv X F st T) {l : Nat} {a : Addr} {g : List Addr} {c : Cell} (hg : T.M.gp[l]? = some g) (ha : T.M.ad[l]? = some a)
    (hk : ∀ b o, b ∉ g → T.s.heap.get? b = some o → h.get? b = some o) (hal : ∀ b ∈ g, Al h b) (hc : CellRel X (T.hp h tk) a g c) : Aft X F T (st.put l c) (T.hp h tk) where
  ext := ⟨⟨h, tk, rfl⟩, fun b o e n => hk b o (fun q => n (Mm.W_of hg q)) e, fun b q => (Classical.em (b ∈ g)).elim (hal b) fun z => q.imp fun o e => hk b o z e, fun _ f => f, fun _ f => .inl f, fun _ f => .inl f, List.prefix_refl _⟩
  mono := ⟨fun _ f => f, fun b o f => hk b o fun q => x.mid.fw b f (Mm.W_of hg q), List.prefix_refl _⟩
  inv := ⟨x.mid.upd hg ha hk hc, x.ffa, x.frm.mono ⟨fun _ f => f, fun b o f => hk b o fun q => x.mid.fw b f (Mm.W_of hg q), List.prefix_refl _⟩ fun b o f => hk b o fun q => (x.ffa b f).2 (Mm.W_of hg q)⟩
theorem lookS_setS {α : Type} {x y : Str} {v : α} (l : List (Str × α)) : lookS y (setS x v l) = if y = x then some v else lookS y l := by
  induction l with
  | nil => rfl
  | cons p l ih =>
    show lookS y (if x = p.1 then (x, v) :: l else p :: setS x v l) = if y = x then some v else if y = p.1 then some p.2 else lookS y l
    by_cases h : x = p.1
    · rw [if_pos h]
      show (if y = x then some v else lookS y l) = _
      by_cases hy : y = x
      · rw [if_pos hy, if_pos hy]
      · rw [if_neg hy, if_neg hy, if_neg (h ▸ hy)]
    · rw [if_neg h]
      show (if y = p.1 then some p.2 else lookS y (setS x v l)) = _
      by_cases hy : y = p.1
      · rw [if_pos hy, if_neg (hy ▸ Ne.symm h), if_pos hy]
      · rw [if_neg hy, if_neg hy, ih]
theorem ns_eq {L : Addr} {m m' : Str → Option Value} (a : h.Ns L m) (b : h.Ns L m') : m = m' := by
  obtain ⟨o1, es1, ep1, a1, a2, a3, a4⟩ := a
  obtain ⟨o2, es2, ep2, b1, b2, b3, b4⟩ := b
  cases a1.symm.trans b1
  cases a2.symm.trans b2
  exact funext fun z => (a4 z).symm.trans (b4 z)
theorem AftS.name (x : Inv X F st T) {c : Addr} (hcs : FS F c) (hs : Heap.SameBut c T.s.heap h) (hal : Al h c) {y : Str} {v : V} (hf : Frm X.I F (setS y v st.vars) (T.hp h tk)) : AftS X F T (st.set y v) (T.hp h tk) := by
  have hc := hcs.fa
  have hne : ∀ b, T.M.F b ∨ T.M.W b → b ≠ c := fun b f q => f.elim (x.ffa c hc |>.1 <| q ▸ ·) (x.ffa c hc |>.2 <| q ▸ ·)
  have hk : ∀ b o, T.M.F b ∨ T.M.W b → T.s.heap.get? b = some o → h.get? b = some o := fun b o q e => (hs.2 b (hne b q)).trans e
  exact ⟨⟨⟨h, tk, rfl⟩, fun b o e n => (hs.2 b fun q => n (.inr (q ▸ hcs))).trans e, fun b q => (Classical.em (b = c)).elim (fun z => z ▸ hal) fun z => q.imp fun o e => (hs.2 b z).trans e, fun _ f => f, fun _ f => .inl f, fun _ f => .inl f, List.prefix_refl _⟩,
    ⟨fun _ f => f, fun b o f => hk b o (.inl f), List.prefix_refl _⟩, ⟨x.mid.hp hk, x.ffa, hf⟩⟩
theorem Frm.set {m cm m' cm' : Str → Option Value} (x : Inv X F st T) {y : Str} {v : V} {u : Value} {c : Addr} (hc : FA F.env c) (hs : Heap.SameBut c T.s.heap h) (hv : RepV X.I T v u)
    (hn : h.Ns F.env.locals m') (hcs : ∀ z d, F.env.cells.lookup z = some d → h.IsCell d (cm' z))
    (hy : (F.env.kindOf y = some .local ∧ m' y = some u) ∨ ((F.env.kindOf y = some .cell ∨ F.env.kindOf y = some .free) ∧ cm' y = some u)) (hm : ∀ z, z ≠ y → m' z = m z ∧ cm' z = cm z)
    (old : ∀ z v, lookS z st.vars = some v → ∃ u, RepV X.I T v u ∧ ((F.env.kindOf z = some .local ∧ m z = some u) ∨ ((F.env.kindOf z = some .cell ∨ F.env.kindOf z = some .free) ∧ cm z = some u))) : Frm X.I F (setS y v st.vars) (T.hp h tk) := by
  have mo : Mono T (T.hp h tk) := ⟨fun _ f => f, fun b o f e => (hs.2 b fun q => (x.ffa c hc).1 (q ▸ f)).trans e, List.prefix_refl _⟩
  refine { x.frm with has := ⟨m', cm', hn, hcs, fun z w hz => ?_⟩ }
  rw [lookS_setS] at hz
  by_cases e : z = y
  · rw [if_pos e] at hz
    cases hz
    exact ⟨u, hv.mono mo, e ▸ hy⟩
  · rw [if_neg e] at hz
    rw [(hm z e).1, (hm z e).2]
    exact (old z w hz).imp fun u q => ⟨q.1.mono mo, q.2⟩
theorem AftS.setLocal (x : Inv X F st T) {y : Str} {v : V} {u : Value} {m : Str → Option Value} (hl : F.fn.names.lookup y = some .local)
    (hm : T.s.heap.Ns F.env.locals m) (hn : h.Ns F.env.locals (fun z => if z = y then some u else m z)) (hs : Heap.SameBut F.env.locals T.s.heap h) (hv : RepV X.I T v u) : AftS X F T (st.set y v) (T.hp h tk) := by
  obtain ⟨m', cm, hn', hc, old⟩ := x.frm.has
  cases ns_eq hn' hm
  exact .name x (.inl rfl) hs (hn.imp fun o q => q.elim fun _ q => q.elim fun _ q => q.1) (Frm.set (m := m) (cm := cm) x (.inl rfl) hs hv hn (fun z c hz => (hc z c hz).sameBut hs (x.frm.above z c hz)) (.inl ⟨x.frm.loc y hl, if_pos rfl⟩) (fun z hz => ⟨if_neg hz, rfl⟩) old)
theorem AftS.setCell (x : Inv X F st T) {y : Str} {v : V} {u : Value} {c : Addr} (hy : F.fn.names.lookup y = some .cell)
    (hc : F.env.cells.lookup y = some c) (hn : h.IsCell c (some u)) (hs : Heap.SameBut c T.s.heap h) (hv : RepV X.I T v u) : AftS X F T (st.set y v) (T.hp h tk) := by
  obtain ⟨m, cm, hn', hcs, old⟩ := x.frm.has
  refine .name x (.inr ⟨y, hy, hc⟩) hs (hn.imp fun o q => q.1) (Frm.set (m := m) (cm := cm) (m' := m) (cm' := fun z => if z = y then some u else cm z) x (.inr ⟨y, hc⟩) hs hv (hn'.sameBut hs (Ne.symm (x.frm.above y c hc))) (fun z d hz => ?_) (.inr ⟨.inl (x.frm.cel y hy), if_pos rfl⟩) (fun z hz => ⟨rfl, if_neg hz⟩) old)
  by_cases e : z = y
  · cases e
    cases hc.symm.trans hz
    rw [if_pos rfl]
    exact hn
  · rw [if_neg e]
    exact (hcs z d hz).sameBut hs fun q => e (x.frm.apart z y d hz (q ▸ hc))
end
open PySem PyProof.Rows
section
variable {I : Iota} (hI : 2 ≤ I.gap) {b : Bool} {i j : Int}
include hI
theorem Iota.lt (h : i < j) : I.f b i < I.f b j := by
  cases b with
  | false => exact h
  | true =>
    show I.base + I.gap * (i / 2) + i % 2 < I.base + I.gap * (j / 2) + j % 2
    by_cases e : i / 2 = j / 2
    · rw [e]; omega
    · have h1 : i / 2 + 1 ≤ j / 2 := by omega
      have h2 := Int.mul_le_mul_of_nonneg_left h1 (Int.le_trans (by decide) hI)
      rw [Int.mul_add, Int.mul_one] at h2
      omega
theorem Iota.lt_iff : I.f b i < I.f b j ↔ i < j :=
  ⟨fun h => Int.not_le.mp fun q => (Int.le_iff_lt_or_eq.mp q).elim (fun q => Int.lt_asymm h (Iota.lt hI q)) fun q => Int.lt_irrefl _ (q ▸ h), Iota.lt hI⟩
theorem Iota.le_iff : I.f b i ≤ I.f b j ↔ i ≤ j := by rw [← Int.not_lt, ← Int.not_lt, Iota.lt_iff hI]
theorem Iota.inj (h : I.f b i = I.f b j) : i = j := Int.le_antisymm ((Iota.le_iff hI).mp (Int.le_of_eq h)) ((Iota.le_iff hI).mp (Int.le_of_eq h.symm))
end
mutual
noncomputable def toPy (I : Iota) : D → PyData
  | .none => .none
  | .bool b => .bool b
  | .int i => .int i
  | .key k => .int (I.f true k)
  | .raw j i => .int (I.raw j + i)
  | .str s => .str s
  | .tup l => .tuple (toPys I l)
  | .lst l => .list (toPys I l)
noncomputable def toPys (I : Iota) : List D → List PyData
  | [] => []
  | d :: r => toPy I d :: toPys I r
end
structure Lk (h : Heap) (v : Value) (p : PyData) (n : Nat) : Prop where
  reads : ∃ as, Reads h v p as
  lay : p.canLay0 = true
  dep : p.depth ≤ n
structure Lks (h : Heap) (v : List Value) (p : List PyData) (n : Nat) : Prop where
  reads : ∃ as, ReadsAll h v p as
  lay : PyData.canLayAll0 p = true
  dep : PyData.depthAll p ≤ n
section
variable {I : Iota} {T : Sm}
mutual
theorem RepD.lk : ∀ {d : D} {v : Value} {n : Nat}, RepD I T d v → okD d n = true → Lk T.s.heap v (toPy I d) n
  | .none, _, _, e, _ => by cases e; exact ⟨⟨_, .none⟩, rfl, Nat.zero_le _⟩
  | .bool _, _, _, _, h => nomatch h
  | .raw _ _, _, _, _, h => nomatch h
  | .int _, _, _, ⟨t, e⟩, _ => by cases e; exact ⟨⟨_, .int _ t⟩, rfl, Nat.zero_le _⟩
  | .key _, _, _, ⟨t, e⟩, _ => by cases e; exact ⟨⟨_, .int _ t⟩, rfl, Nat.zero_le _⟩
  | .str _, _, _, ⟨t, e, k⟩, _ => by cases e; exact ⟨⟨_, .str _ t⟩, k, Nat.zero_le _⟩
  | .tup _, _, 0, _, h => nomatch h
  | .lst _, _, 0, _, h => nomatch h
  | .tup _, _, n + 1, ⟨a, us, e, _, ⟨m, o⟩, _, r⟩, h => by
    have q := RepDs.lks (n := n) r h
    cases e
    exact ⟨q.reads.elim fun as x => ⟨as, reads_tuple_at o rfl rfl x⟩, q.lay, by show PyData.depthAll _ + 1 ≤ n + 1; exact Nat.succ_le_succ q.dep⟩
  | .lst _, _, n + 1, ⟨a, us, e, _, ⟨m, o⟩, _, r⟩, h => by
    have q := RepDs.lks (n := n) r h
    cases e
    exact ⟨q.reads.elim fun as x => ⟨_, reads_list_at o rfl rfl x⟩, q.lay, by show PyData.depthAll _ + 1 ≤ n + 1; exact Nat.succ_le_succ q.dep⟩
theorem RepDs.lks : ∀ {l : List D} {vs : List Value} {n : Nat}, RepDs I T l vs → okDs l n = true → Lks T.s.heap vs (toPys I l) n
  | [], _, _, e, _ => by cases e; exact ⟨⟨_, .nil⟩, rfl, Nat.zero_le _⟩
  | d :: l, _, n, ⟨v, ws, e, x, r⟩, h => by
    have hh := Bool.and_eq_true_iff.mp (show (okD d n && okDs l n) = true from h)
    have p := RepD.lk (n := n) x hh.1
    have q := RepDs.lks (n := n) r hh.2
    cases e
    exact ⟨p.reads.elim fun as x => q.reads.elim fun bs y => ⟨_, .cons x y⟩, Bool.and_eq_true_iff.mpr ⟨p.lay, q.lay⟩, Nat.max_le.mpr ⟨p.dep, q.dep⟩⟩
end
end
theorem Lk.shaped {h : Heap} {v : Value} {p : PyData} (k : Lk h v p 30) : SeqAt.shaped p = true :=
  Bool.and_eq_true_iff.mpr ⟨k.lay, decide_eq_true (Nat.le_trans k.dep (by decide))⟩
mutual
theorem eqv_eqO {I : Iota} (hI : 2 ≤ I.gap) : ∀ {a b : D} {c : Bool}, eqO a b = some c → PyData.eqv (toPy I a) (toPy I b) = c
  | .none, b, c, h => by cases b <;> cases h <;> rfl
  | .bool _, _, _, h => nomatch h
  | .raw _ _, _, _, h => nomatch h
  | .int i, b, c, h => by cases b <;> cases h <;> rfl
  | .key i, b, c, h => by
    cases b with
    | key j =>
      cases h
      show decide (I.f true i = I.f true j) = decide (i = j)
      exact decide_eq_decide.mpr ⟨Iota.inj hI, congrArg _⟩
    | _ => cases h <;> rfl
  | .str i, b, c, h => by
    cases b with
    | str j => cases h; show (i == j) = decide (i = j); exact Bool.eq_iff_iff.mpr (by rw [beq_iff_eq, decide_eq_true_eq])
    | _ => cases h <;> rfl
  | .tup l, b, c, h => by
    cases b with
    | tup k => exact eqv_eqOs hI h
    | _ => cases h <;> rfl
  | .lst l, b, c, h => by
    cases b with
    | lst k => exact eqv_eqOs hI h
    | _ => cases h <;> rfl
theorem eqv_eqOs {I : Iota} (hI : 2 ≤ I.gap) : ∀ {a b : List D} {c : Bool}, eqOs a b = some c → PyData.eqvAll (toPys I a) (toPys I b) = c
  | [], b, c, h => by cases b <;> cases h <;> rfl
  | d :: l, [], c, h => by cases h; rfl
  | d :: l, e :: k, c, h => by
    cases x : eqO d e with
    | none => exact absurd ((congrArg (Option.bind · _) x).symm.trans h) nofun
    | some b =>
      have h' := (congrArg (Option.bind · _) x).symm.trans h
      show (PyData.eqv (toPy I d) (toPy I e) && PyData.eqvAll (toPys I l) (toPys I k)) = c
      rw [eqv_eqO hI x]
      cases b with
      | true => exact eqv_eqOs (c := c) hI h'
      | false => exact Option.some.inj h'
end
open PySem PyProof.Rows PySem.Calls
section
variable {α β : Type} {x : Option α} {y : β} {P : Prop} {C : β → Prop}
theorem nK (h : (Option.none : Option β) = some y) : P := nomatch h
theorem bK {f : α → Option β} (h : x.bind f = some y) (k : ∀ a, x = some a → f a = some y → P) : P := by
  cases x with
  | none => cases h
  | some a => exact k a rfl h
theorem mQ {f : α → β} (h : x.map f = some y) (k : C y) (c : ∀ a, x = some a → C (f a) → P) : P := by
  cases x with
  | none => cases h
  | some a => cases h; exact c a rfl k
theorem mK {f : α → β} (h : x.map f = some y) (c : ∀ a, x = some a → C (f a)) : C y := by
  cases x with
  | none => cases h
  | some a => cases h; exact c a rfl
theorem sQ {z : β} (h : some z = some y) (k : C y) : C z := by
  cases h; exact k
theorem iK {b : Bool} {z : Option β} (h : (if b = true then z else .none) = some y) (k : b = true → z = some y → P) : P := by
  cases b with
  | true => exact k rfl h
  | false => cases h
theorem pK {c : Prop} [Decidable c] {z : Option β} (h : (if c then z else .none) = some y) (k : c → z = some y → P) : P :=
  (Decidable.em c).elim (fun hc => k hc ((if_pos hc).symm.trans h)) fun hc => nomatch (if_neg hc).symm.trans h
theorem eK {c : Prop} [Decidable c] {z z' : Option β} (h : (if c then z else z') = some y) (k : c → z = some y → P) (k' : z' = some y → P) : P :=
  (Decidable.em c).elim (fun hc => k hc ((if_pos hc).symm.trans h)) fun hc => k' ((if_neg hc).symm.trans h)
theorem oK {f : α → Option β} {b : Option β} (h : opt x f b = some y) (k : ∀ a, x = some a → f a = some y → P) (k' : x = .none → b = some y → P) : P := by
  cases x with
  | none => exact k' rfl h
  | some a => exact k a rfl h
theorem cK {b : Bool} {z z' : Option β} (h : cond b z z' = some y) (k : b = true → z = some y → P) (k' : b = false → z' = some y → P) : P := by
  cases b with
  | true => exact k rfl h
  | false => exact k' rfl h
theorem andK {a b : Bool} (h : (a && b) = true) (k : a = true → b = true → P) : P := k (Bool.and_eq_true_iff.mp h).1 (Bool.and_eq_true_iff.mp h).2
theorem decK {c : Prop} [Decidable c] (h : decide c = true) : c := of_decide_eq_true h
end
noncomputable def bltVal : List (Str × Value) := [("len", .builtin "len"), ("list", .type "list"), ("tuple", .type "tuple"), ("sorted", .builtin "sorted"),
  ("max", .builtin "max"), ("dict", .type "dict"), ("range", .type "range"), ("enumerate", .type "enumerate"), ("set", .type "set")]
structure FnAt (h : Heap) (a : Addr) (f : Fn) (o : Obj) (fd : FuncData) : Prop where
  at_ : h.get? a = some o
  dat : o.data = .func fd
  body : fd.body = .stmts f.body
  names : fd.scope.names = f.names
  kind : fd.scope.kind = .function
  dbg : f.names.lookup ("__debug__" : Str) = .none ∧ f.names.lookup ("__classdict__" : Str) = .none
  co : fd.scope.isCoroutine = false
  gen : fd.scope.isGenerator = false
  clo : fd.closure = []
  glb : fd.globals = mainGlobals
  blt : fd.builtins = builtinsNs
  code : h.CodeRec fd.code fd.qualname
  bind : ∀ vs : List Value, vs.length = f.params.length → bindArgs fd ⟨vs, []⟩ = pure (f.params.zip vs)
  kinds : f.params.all (fun x => f.names.lookup x == some .local || f.names.lookup x == some .cell) = true
  cells : (f.names.map (·.1)).Nodup
  free : f.names.all (fun x => !(x.2 == .free)) = true
  pnod : f.params.Nodup
structure Top (X : Cx) : Prop where
  gap : 2 ≤ X.I.gap
  ggap : X.G.gap = X.I.gap
  res : ∀ j, X.G.res j = X.I.raw j % X.G.md j
  nolim : X.hB.NoLimit
  g : X.hB.Ns mainGlobals X.mg
  b : X.hB.Ns builtinsNs X.mb
  tabs : ∀ x d, lookS x X.G.tabs = some d → ∃ v, X.mg x = some v ∧ ∀ {T : Sm}, (∀ b o, X.hB.get? b = some o → T.s.heap.get? b = some o) → (∀ a, Al X.hB a → T.M.F a) → RepD X.I T d v
  fns : ∀ x f, lookS x X.G.fns = some f → ∃ a o fd, X.mg x = some (.ref a) ∧ FnAt X.hB a f o fd
  blt : ∀ x v, bltVal.lookup x = some v → lookS x X.G.fns = .none → lookS x X.G.tabs = .none → x ≠ X.G.cls → X.mg x = .none ∧ X.mb x = some v
  sysm : Al X.hB sysModules
structure AOk (A : Around) (n : Nat) : Prop where
  h : A.handled = .none
  d : A.depth + n < recursionLimit
  u : A.units + 8 * n + 300 < cLine
theorem AOk.less {A : Around} {n m : Nat} (h : AOk A n) (hm : m ≤ n) : AOk A m := ⟨h.h, Nat.lt_of_le_of_lt (Nat.add_le_add_left hm _) h.d, Nat.lt_of_le_of_lt (Nat.add_le_add_right (Nat.add_le_add_left (Nat.mul_le_mul_left 8 hm) _) _) h.u⟩
structure Own (X : Cx) (F : Fx) (T T' : Sm) (a : Addr) (l : List V) (us : List Value) : Prop where
  new : ¬ Al T.s.heap a
  nf : ¬ T'.M.F a
  nw : ¬ Wa F T' a
  obj : T'.seq "list" a us
  rep : All2 (RepV X.I T') l us
  len : l.length ≤ lim
noncomputable def RR (X : Cx) (F : Fx) (T T' : Sm) : R → Value → Prop
  | .val v, u => RepV X.I T' v u
  | .fresh l, u => ∃ a us, u = .ref a ∧ Own X F T T' a l us
noncomputable def KR (X : Cx) (F : Fx) (T : Sm) (Q : Value → Shared → Prop) (p : R × St) : Prop := ∀ u T', Aft X F T p.2 T' → RR X F T T' p.1 u → Q u T'.s
noncomputable def KV (X : Cx) (F : Fx) (T : Sm) (Q : Value → Shared → Prop) (p : V × St) : Prop := ∀ u T', Aft X F T p.2 T' → RepV X.I T' p.1 u → Q u T'.s
noncomputable def KT (X : Cx) (F : Fx) (T : Sm) (Q : Bool → Shared → Prop) (p : Bool × St) : Prop := ∀ T', Aft X F T p.2 T' → Q p.1 T'.s
noncomputable def KU (X : Cx) (F : Fx) (T : Sm) (Q : Unit → Shared → Prop) (st : St) : Prop := ∀ T', AftS X F T st T' → Q () T'.s
noncomputable def FRel (X : Cx) (F : Fx) (T T' : Sm) : Fl → Flow → Prop
  | .next, f => f = .next
  | .ret r, f => ∃ u, f = .ret u ∧ RR X F T T' r u
noncomputable def KX (X : Cx) (F : Fx) (T : Sm) (Q : Flow → Shared → Prop) (p : Fl × St) : Prop := ∀ fl T', AftS X F T p.2 T' → FRel X F T T' p.1 fl → Q fl T'.s
noncomputable def WP (X : Cx) (A : Around) {α : Type} (c : Sem α) (Q : α → Shared → Prop) (E : Value → Shared → Prop) (T : Sm) : Prop := wpAny (model X.prog X.w) A c Q E T.s
structure OwnC (X : Cx) (T T' : Sm) (a : Addr) (l : List V) (us : List Value) : Prop where
  new : ¬ Al T.s.heap a
  nf : ¬ T'.M.F a
  nw : ¬ T'.M.W a
  obj : T'.seq "list" a us
  rep : All2 (RepV X.I T') l us
  len : l.length ≤ lim
noncomputable def RC (X : Cx) (T T' : Sm) : R → Value → Prop
  | .val v, u => RepV X.I T' v u
  | .fresh l, u => ∃ a us, u = .ref a ∧ OwnC X T T' a l us
structure AftC (X : Cx) (T : Sm) (σ : List Cell) (T' : Sm) : Prop where
  ext : Ext T.M.W T T'
  mid : Mid X σ T'
noncomputable def KC (X : Cx) (T : Sm) (Q : Result → Shared → Prop) (p : R × List Cell) : Prop := ∀ u T', AftC X T p.2 T' → RC X T T' p.1 u → Q (.ok (.ret u)) T'.s
noncomputable def SEv (X : Cx) (o : Ops) (n : Nat) : Prop := ∀ {F : Fx} {e : PySem.Expr} {st : St} {p : R × St} {A : Around} {T : Sm} {Q : Value → Shared → Prop} {E : Value → Shared → Prop},
  AOk A n → o.ev F.fn e st = some p → Inv X F st T → KR X F T Q p → WP X A (eval e F.env) Q E T
noncomputable def STt (X : Cx) (o : Ops) (n : Nat) : Prop := ∀ {F : Fx} {e : PySem.Expr} {st : St} {p : Bool × St} {A : Around} {T : Sm} {Q : Bool → Shared → Prop} {E : Value → Shared → Prop},
  AOk A n → o.tt F.fn e st = some p → Inv X F st T → KT X F T Q p → WP X A (isTrue e F.env (eval e F.env)) Q E T
noncomputable def SEx (X : Cx) (o : Ops) (n : Nat) : Prop := ∀ {F : Fx} {ss : List Stmt} {st : St} {p : Fl × St} {A : Around} {T : Sm} {Q : Flow → Shared → Prop} {E : Value → Shared → Prop},
  AOk A n → o.ex F.fn ss st = some p → Inv X F st T → KX X F T Q p → WP X A (execs ss F.env) Q E T
noncomputable def SCall (X : Cx) (o : Ops) (n : Nat) : Prop := ∀ {f : Fn} {fa : Addr} {fo : Obj} {fd : FuncData} {vs : List V} {us : List Value} {σ : List Cell} {p : R × List Cell} {A : Around} {T : Sm} {Q : Result → Shared → Prop},
  AOk A n → o.call f vs σ = some p → FnAt T.s.heap fa f fo fd → Mid X σ T → All2 (RepV X.I T) vs us → KC X T Q p → codeAny (model X.prog X.w) A (.call (.ref fa) ⟨us, []⟩) Q T.s
structure Snd (X : Cx) (o : Ops) (n : Nat) : Prop where
  star : ∀ fn v p st, o.ev fn (.Starred v p) st = .none
  set : ∀ fn es k p st, o.ev fn (.Set es k p) st = .none
  setc : ∀ fn e gs sc p st, o.ev fn (.SetComp e gs sc p) st = .none
  dctc : ∀ fn e f gs sc p st, o.ev fn (.DictComp e f gs sc p) st = .none
  ev : SEv X o n
  tt : STt X o n
  ex : SEx X o n
  call : SCall X o n
section
variable {X : Cx} {F : Fx} {o : Ops} {n : Nat} {st st' : St} {A : Around} {T T' T'' : Sm} {Q : Value → Shared → Prop} {E : Value → Shared → Prop} {e : PySem.Expr} {r : R} {u : Value} {v : V}
theorem RR.mono (x : RR X F T T' r u) (a : Aft X F T' st T'') : RR X F T T'' r u := by
  cases r with
  | val v => exact RepV.mono a.mono x
  | fresh l =>
    exact x.imp fun b q => q.imp fun us q => ⟨q.1, q.2.new, fun f => (a.ext.fnew b f).elim q.2.nf fun f => f.elim (fun f => q.2.nw (.inl f)) fun f => f (q.2.obj.elim fun _ e => ⟨_, e⟩),
      fun f => f.elim (fun f => (a.ext.wnew b f).elim (fun f => q.2.nw (.inl f)) fun f => f (q.2.obj.elim fun _ e => ⟨_, e⟩)) fun f => q.2.nw (.inr f), q.2.obj.imp fun n e => a.ext.keep b _ e fun q' => q.2.nw (.inl q'), q.2.rep.mono a.mono, q.2.len⟩
theorem RR.older (x : RR X F T' T'' r u) (a : ∀ b, Al T.s.heap b → Al T'.s.heap b) : RR X F T T'' r u := by
  cases r with
  | val v => exact x
  | fresh l => exact x.imp fun b q => q.imp fun us q => ⟨q.1, { q.2 with new := fun f => q.2.new (a b f) }⟩
theorem KR.then {p : R × St} (k : KR X F T Q p) (a : Aft X F T st T') : KR X F T' Q p := fun u T'' b q => k u T'' (a.trans b) (q.older a.ext.al)
theorem KV.then {p : V × St} (k : KV X F T Q p) (a : Aft X F T st T') : KV X F T' Q p := fun u T'' b q => k u T'' (a.trans b) q
theorem KT.then {p : Bool × St} {Q : Bool → Shared → Prop} (k : KT X F T Q p) (a : Aft X F T st T') : KT X F T' Q p := fun T'' b => k T'' (a.trans b)
theorem KU.then {Q : Unit → Shared → Prop} (k : KU X F T Q st') (a : AftS X F T st T') : KU X F T' Q st' := fun T'' b => k T'' (a.trans b)
theorem KX.then {p : Fl × St} {Q : Flow → Shared → Prop} (k : KX X F T Q p) (a : AftS X F T st T') : KX X F T' Q p := fun f T'' b q => k f T'' (a.trans b) (by
  cases p with
  | mk p st =>
    cases p with
    | next => exact q
    | ret r => exact q.imp fun u q => ⟨q.1, q.2.older a.ext.al⟩)
theorem KR.mk {p : R × St} (k : ∀ u T', Aft X F T p.2 T' → RR X F T T' p.1 u → Q u T'.s) : KR X F T Q p := k
theorem Aft.own_frz (x : Aft X F T st T') {a : Addr} {ds : List D} {us : List Value} (q : Own X F T T' a (ds.map .d) us) : Aft X F T st (T'.mm (T'.M.frz (· = a))) ∧ RepV X.I (T'.mm (T'.M.frz (· = a))) (.d (.lst ds)) (.ref a) :=
  ⟨x.frz fun b e => e ▸ ⟨q.obj.elim fun _ e => ⟨_, e⟩, q.nw, q.new⟩, a, us, rfl, .inr rfl, q.obj, (List.length_map (as := ds) V.d) ▸ q.len, repDs_eq.mpr (All2.map (f := V.d) (P := RepV X.I (T'.mm (T'.M.frz (· = a)))) |>.mp (q.rep.mono (.frz _)))⟩
theorem Aft.own_new (x : Aft X F T st T') {a : Addr} {l : List V} {us : List Value} (q : Own X F T T' a l us) : Aft X F T (st.add (.lst l)) (T'.mm (T'.M.new a [a])) ∧ RepV X.I (T'.mm (T'.M.new a [a])) (.loc st.store.length) (.ref a) :=
  ⟨x.new (fun b e => List.mem_singleton.mp e ▸ ⟨q.nf, q.nw, q.new⟩) (List.nodup_cons.mpr ⟨List.not_mem_nil, List.nodup_nil⟩) ⟨rfl, us, q.obj, q.rep.mono (.new _ _), q.len⟩, a, by rw [← x.inv.mid.la]; exact List.getElem?_concat_length, rfl⟩
theorem keep_k {b : Bool} {p : R × St} {q : V × St} {P : Prop} (a : Aft X F T p.2 T') (hr : RR X F T T' p.1 u) (he : keepR b p.1 p.2 = some q) (k : ∀ T'', T''.s = T'.s → (∀ c, u ≠ .ref c → (T''.M.F c → T'.M.F c) ∧ (T''.M.W c → T'.M.W c)) → Aft X F T q.2 T'' → RepV X.I T'' q.1 u → P) : P := by
  obtain ⟨r, st⟩ := p
  cases r with
  | val v => cases he; exact k T' rfl (fun _ _ => ⟨id, id⟩) a hr
  | fresh l =>
    obtain ⟨c, us, rfl, hr⟩ := hr
    refine cK he (fun _ he => ?_) fun _ he => ?_
    · cases he
      exact k (T'.mm (T'.M.new c [c])) rfl (fun d hd => ⟨id, fun q => (Mm.new_W.mp q).elim id fun q => absurd (by rw [List.mem_singleton.mp q]) hd⟩) (a.own_new hr).1 (a.own_new hr).2
    · refine mQ (C := fun q => ∀ T'', T''.s = T'.s → (∀ d, Value.ref c ≠ .ref d → (T''.M.F d → T'.M.F d) ∧ (T''.M.W d → T'.M.W d)) → Aft X F T q.2 T'' → RepV X.I T'' q.1 (.ref c) → P) he k fun ds hd k => ?_
      refine allD_k (P := fun l => Own X F T T' c l us → P) hd (fun hr => ?_) hr
      exact k (T'.mm (T'.M.frz (· = c))) rfl (fun d hd => ⟨fun q => q.elim id fun q => absurd (by rw [show d = c from q]) hd, id⟩) (a.own_frz hr).1 (a.own_frz hr).2
theorem evB {β : Type} {f : R × St → Option β} {y : β} (H : Snd X o n) (hA : AOk A n) (i : Inv X F st T) (he : (o.ev F.fn e st).bind f = some y)
    (k : ∀ p u T', Aft X F T p.2 T' → RR X F T T' p.1 u → f p = some y → Q u T'.s) : WP X A (eval e F.env) Q E T :=
  bK he fun p h1 he => H.ev hA h1 i fun u T' a q => k p u T' a q he
theorem evM {f : R × St → R × St} {y : R × St} (H : Snd X o n) (hA : AOk A n) (i : Inv X F st T) (he : (o.ev F.fn e st).map f = some y) {C : R × St → Prop} (c : C y)
    (k : ∀ p u T', Aft X F T p.2 T' → RR X F T T' p.1 u → C (f p) → Q u T'.s) : WP X A (eval e F.env) Q E T :=
  mQ he c fun p h1 c => H.ev hA h1 i fun u T' a q => k p u T' a q c
theorem evKB {b : Bool} {p : V × St} (H : Snd X o n) (hA : AOk A n) (i : Inv X F st T) (he : evK o b F.fn e st = some p) (k : KV X F T Q p) : WP X A (eval e F.env) Q E T :=
  evB H hA i he fun p u T' a q he => keep_k a q he fun T'' e _ a q => e ▸ k u T'' a q
theorem numV_k {q : Bool × Int} {P : V → Prop} (h : numV v = some q) (k : P (.d (mkN q))) : P v := by
  cases v with
  | d x => cases x <;> first | (cases h; exact k) | exact nomatch h
  | _ => exact nomatch h
theorem numOf_k {q : Bool × Int} {P : R → Prop} (h : numOf r = some q) (k : P (.val (.d (mkN q)))) : P r := by
  cases r with
  | val v => exact numV_k (P := fun v => P (.val v)) h k
  | _ => exact nomatch h
theorem RR.num_k {q : Bool × Int} {P : Value → Prop} (hr : RR X F T T' r u) (h : numOf r = some q) (k : ∀ t, P (.int (X.I.f q.1 q.2) t)) : P u :=
  numOf_k (P := fun r => RR X F T T' r u → P u) h (fun hr => RepD.num_k hr k) hr
theorem evNumB {β : Type} {f : (Bool × Int) × St → Option β} {y : β} (H : Snd X o n) (hA : AOk A n) (i : Inv X F st T) (he : (evNum o F.fn e st).bind f = some y)
    (k : ∀ q t T', Aft X F T q.2 T' → f q = some y → Q (.int (X.I.f q.1.1 q.1.2) t) T'.s) : WP X A (eval e F.env) Q E T :=
  bK he fun q h1 he => evB H hA i h1 fun p u T' a r h2 => mQ (C := fun q => (∀ t T', Aft X F T q.2 T' → f q = some y → Q (.int (X.I.f q.1.1 q.1.2) t) T'.s) ∧ f q = some y) h2 ⟨k q, he⟩ fun c hc k => r.num_k (P := fun u => Q u T'.s) hc fun t => k.1 t T' a k.2
theorem plain_k {q : Bool × Int} {j : Int} {P : Bool × Int → Prop} (h : plain q = some j) (k : P (false, j)) : P q := by
  obtain ⟨b, i⟩ := q
  cases b <;> cases h
  exact k
theorem evIntB {β : Type} {f : Int × St → Option β} {y : β} (H : Snd X o n) (hA : AOk A n) (i : Inv X F st T) (he : (evInt o F.fn e st).bind f = some y)
    (k : ∀ q t T', Aft X F T q.2 T' → f q = some y → Q (.int q.1 t) T'.s) : WP X A (eval e F.env) Q E T :=
  bK he fun q h1 he => evNumB H hA i h1 fun p t T' a h2 => mQ (C := fun q => (∀ t T', Aft X F T q.2 T' → f q = some y → Q (.int q.1 t) T'.s) ∧ f q = some y) h2 ⟨k q, he⟩ fun c hc k =>
    plain_k (P := fun q => Q (.int (X.I.f q.1 q.2) t) T'.s) hc (k.1 t T' a k.2)
theorem evIntM {β : Type} {f : Int × St → β} {y : β} (H : Snd X o n) (hA : AOk A n) (i : Inv X F st T) (he : (evInt o F.fn e st).map f = some y) {C : β → Prop} (c : C y)
    (k : ∀ q t T', Aft X F T q.2 T' → C (f q) → Q (.int q.1 t) T'.s) : WP X A (eval e F.env) Q E T :=
  mQ he c fun q h1 c => evIntB H hA i (f := some) (y := q) (congrArg (Option.bind · some) h1) fun q' t T' a e => by cases e; exact k q t T' a c
noncomputable def Vw.Is (e : PySem.Expr) : Vw → Prop
  | .name x => ∃ p, e = .Name x p
  | .tup es => ∃ c p, e = .Tuple es c p
  | .sub b i => ∃ p, e = .Subscript b i p
  | .slc a b => ∃ p, e = .Slice a b .none p
  | .call f as => ∃ p q, e = .Call (.Name f p) as [] q
  | .no => ∃ k p, e = .Constant .none k p
  | .lc => ∃ a b c d, e = .ListComp a b c d
  | .other => True
theorem view_is (e : PySem.Expr) : (view e).Is e := by
  cases e with
  | Name x p => exact ⟨p, rfl⟩
  | Tuple es c p => exact ⟨c, p, rfl⟩
  | Subscript b i p => exact ⟨p, rfl⟩
  | Slice a b c p => cases c with
    | none => exact ⟨p, rfl⟩
    | some _ => exact trivial
  | Call f as ks q => cases ks with
    | nil => cases f with
      | Name g p => exact ⟨p, q, rfl⟩
      | _ => exact trivial
    | cons _ _ => exact trivial
  | Constant c k p => cases c with
    | none => exact ⟨k, p, rfl⟩
    | _ => exact trivial
  | ListComp a b c d => exact ⟨a, b, c, d, rfl⟩
  | _ => exact trivial
theorem asSlc_k {ab : Option PySem.Expr × Option PySem.Expr} {C : PySem.Expr → Prop} (h : asSlc e = some ab) (k : ∀ p, C (.Slice ab.1 ab.2 .none p)) : C e := by
  have q := view_is e
  revert h q
  unfold asSlc
  generalize view e = z
  intro h q
  cases z <;> first | exact nK h | cases h
  obtain ⟨p, rfl⟩ := q
  exact k p
theorem asCall_k {fa : Str × List PySem.Expr} {C : PySem.Expr → Prop} (h : asCall e = some fa) (k : ∀ p q, C (.Call (.Name fa.1 p) fa.2 [] q)) : C e := by
  have q := view_is e
  revert h q
  unfold asCall
  generalize view e = z
  intro h q
  cases z <;> first | exact nK h | cases h
  obtain ⟨p, q, rfl⟩ := q
  exact k p q
theorem asName_k {x : Str} {C : PySem.Expr → Prop} (h : asName e = some x) (k : ∀ p, C (.Name x p)) : C e := by
  have q := view_is e
  revert h q
  unfold asName
  generalize view e = z
  intro h q
  cases z <;> first | exact nK h | cases h
  obtain ⟨p, rfl⟩ := q
  exact k p
theorem asTup_k {es : List PySem.Expr} {C : PySem.Expr → Prop} (h : asTup e = some es) (k : ∀ c p, C (.Tuple es c p)) : C e := by
  have q := view_is e
  revert h q
  unfold asTup
  generalize view e = z
  intro h q
  cases z <;> first | exact nK h | cases h
  obtain ⟨c, p, rfl⟩ := q
  exact k c p
theorem asSub_k {b : PySem.Expr × PySem.Expr} {C : PySem.Expr → Prop} (h : asSub e = some b) (k : ∀ p, C (.Subscript b.1 b.2 p)) : C e := by
  have q := view_is e
  revert h q
  unfold asSub
  generalize view e = z
  intro h q
  cases z <;> first | exact nK h | cases h
  obtain ⟨p, rfl⟩ := q
  exact k p
theorem isNo_k {C : PySem.Expr → Prop} (h : isNo e = true) (k : ∀ c p, C (.Constant .none c p)) : C e := by
  have q := view_is e
  revert h q
  unfold isNo
  generalize view e = z
  intro h q
  cases z <;> cases h
  obtain ⟨c, p, rfl⟩ := q
  exact k c p
theorem isLC_k {C : PySem.Expr → Prop} (h : isLC e = true) (k : ∀ a b c d, C (.ListComp a b c d)) : C e := by
  have q := view_is e
  revert h q
  unfold isLC
  generalize view e = z
  intro h q
  cases z <;> cases h
  obtain ⟨a, b, c, d, rfl⟩ := q
  exact k a b c d
theorem one_k {α : Type} {l : List α} {x : α} {C : List α → Prop} (h : one l = some x) (k : C [x]) : C l := by
  cases l with
  | nil => cases h
  | cons y l => cases l <;> cases h; exact k
theorem pair_k {α : Type} {l : List α} {x : α × α} {C : List α → Prop} (h : pair l = some x) (k : C [x.1, x.2]) : C l := by
  cases l with
  | nil => cases h
  | cons y l =>
    cases l with
    | nil => cases h
    | cons z l => cases l <;> cases h; exact k
theorem three_k {α : Type} {l : List α} {x : α × α × α} {C : List α → Prop} (h : three l = some x) (k : C [x.1, x.2.1, x.2.2]) : C l := by
  cases l with
  | nil => cases h
  | cons y l =>
    cases l with
    | nil => cases h
    | cons z l =>
      cases l with
      | nil => cases h
      | cons z l => cases l <;> cases h; exact k
theorem empty_k {α : Type} {l : List α} {C : List α → Prop} (h : l.isEmpty = true) (k : C []) : C l := by
  cases l with
  | nil => exact k
  | cons _ _ => cases h
theorem locV_k {l : Nat} {P : V → Prop} (h : locV v = some l) (k : P (.loc l)) : P v := by
  cases v <;> cases h
  exact k
theorem locOf_k {l : Nat} {P : R → Prop} (h : locOf r = some l) (k : P (.val (.loc l))) : P r := by
  cases r with
  | val v => exact locV_k (P := fun v => P (.val v)) h k
  | _ => exact nomatch h
theorem RR.loc_k {l : Nat} {P : Value → Prop} (hr : RR X F T T' r u) (h : locOf r = some l) (k : ∀ a, T'.M.ad[l]? = some a → P (.ref a)) : P u :=
  locOf_k (P := fun r => RR X F T T' r u → P u) h (fun hr => RepV.loc_k (I := X.I) hr k) hr
theorem evLocB {β : Type} {f : Nat × St → Option β} {y : β} (H : Snd X o n) (hA : AOk A n) (i : Inv X F st T) (he : (evLoc o F.fn e st).bind f = some y)
    (k : ∀ q a T', Aft X F T q.2 T' → T'.M.ad[q.1]? = some a → f q = some y → Q (.ref a) T'.s) : WP X A (eval e F.env) Q E T :=
  bK he fun q h1 he => evB H hA i h1 fun p u T' a r h2 => mQ (C := fun q => (∀ b T', Aft X F T q.2 T' → T'.M.ad[q.1]? = some b → f q = some y → Q (.ref b) T'.s) ∧ f q = some y) h2 ⟨k q, he⟩ fun c hc k => r.loc_k (P := fun u => Q u T'.s) hc fun b e => k.1 b T' a e k.2
theorem star1 (H : Snd X o n) {p : R × St} {pos : Pos} {es : List PySem.Expr} {env : Env} {fn : Fn} (h : o.ev fn e st = some p) : backTo pos (starEach (e :: es) env) = (false, eval e env) :: backTo pos (starEach es env) := by
  cases e with
  | Starred v p => exact absurd ((H.star _ _ _ _).symm.trans h) nofun
  | _ => rfl
noncomputable def KVs (X : Cx) (F : Fx) (T : Sm) (Q : List Value → Shared → Prop) (p : List V × St) : Prop := ∀ us T', Aft X F T p.2 T' → All2 (RepV X.I T') p.1 us → Q us T'.s
theorem evSs_snd (H : Snd X o n) {pos : Pos} (hA : AOk A n) {es : List PySem.Expr} : ∀ {st : St} {T : Sm} {p : List V × St} {Q : List Value → Shared → Prop}, evSs o F.fn es st = some p → Inv X F st T → KVs X F T Q p → WP X A (spliced (backTo pos (starEach es F.env))) Q E T := by
  induction es with
  | nil => exact fun he i k => spliced_nil (sQ (C := KVs X F _ _) he k [] _ (.refl i) rfl)
  | cons e es ih =>
    intro st T p Q he i k
    refine bK he fun a h1 he => ?_
    have hb : backTo pos (starEach (e :: es) F.env) = (false, eval e F.env) :: backTo pos (starEach es F.env) := bK h1 fun _ h _ => star1 H h
    unfold WP
    rw [hb]
    exact spliced_cons (evKB H hA i h1 fun u T₁ a₁ q₁ => mQ he k fun b h2 k => ih h2 a₁.inv fun us T₂ a₂ q₂ => k (u :: us) T₂ (a₁.trans a₂) (.cons (q₁.mono a₂.mono) q₂))
theorem evSs_len {fn : Fn} {es : List PySem.Expr} : ∀ {st : St} {p : List V × St}, evSs o fn es st = some p → p.1.length = es.length := by
  induction es with
  | nil => intro st p he; cases he; rfl
  | cons e es ih => exact fun he => bK he fun a _ he => mK (C := fun p => p.1.length = es.length + 1) he fun b hb => congrArg (· + 1) (ih hb)
end
open PySem PyProof.Rows PySem.Calls
section
variable {X : Cx} {F : Fx} {o : Ops} {n : Nat} {st st' : St} {A : Around} {T T' T'' : Sm} {Q : Value → Shared → Prop} {E : Value → Shared → Prop} {e : PySem.Expr} {r : R} {u : Value} {v : V} {σ : List Cell} {a : Addr} {l : List V} {us : List Value} {P : Prop}
theorem lim_le : lim ≤ sizeLine := by decide
theorem lim_lt63 : (lim : Int) < 2 ^ 63 := by decide
theorem keep_push (h : Heap) (o : Obj) : ∀ b x, h.get? b = some x → (h.push o).get? b = some x := fun _ _ e => Heap.get?_push_of_some _ e
theorem All2.lim {P : V → Value → Prop} (h : All2 P l us) (z : l.length ≤ lim) : us.length ≤ sizeLine := h.length ▸ Nat.le_trans z lim_le
theorem mkTup_rep (f : T.M.F a) (o : T.seq "tuple" a us) (r : All2 (RepV X.I T) l us) (z : l.length ≤ lim) : RepV X.I T (mkTup l) (.ref a) := by
  unfold mkTup
  cases e : allD l with
  | none => exact ⟨a, us, rfl, f, o, z, repVs_eq.mpr r⟩
  | some ds => exact allD_k (P := fun l => All2 (RepV X.I T) l us → l.length ≤ lim → RepV X.I T (.d (.tup ds)) (.ref a)) e (fun r z => ⟨a, us, rfl, f, o, (List.length_map (as := ds) V.d) ▸ z, repDs_eq.mpr (All2.map (f := V.d) (P := RepV X.I T) |>.mp r)⟩) r z
noncomputable def Sm.new (T : Sm) (h : Heap) (tk : Nat) (a : Addr) : Sm := (T.hp h tk).mm (T.M.frz (· = a))
theorem push_tup (i : Inv X F st T) (hr : All2 (RepV X.I T) l us) (hl : l.length ≤ lim) (tk : Nat) :
    Aft X F T st (T.new (T.s.heap.push (seqObj "tuple" us.toArray 0)) tk T.s.heap.objs.size) ∧ RepV X.I (T.new (T.s.heap.push (seqObj "tuple" us.toArray 0)) tk T.s.heap.objs.size) (mkTup l) (.ref T.s.heap.objs.size) := by
  have a : Aft X F T st (T.new (T.s.heap.push (seqObj "tuple" us.toArray 0)) tk T.s.heap.objs.size) :=
    (Aft.grow i (tk := tk) (keep_push _ _)).frz fun b e => e ▸ ⟨⟨_, Heap.get?_push_size _ rfl⟩, fun q => not_al_size _ (q.elim i.wal i.faal), not_al_size _⟩
  exact ⟨a, mkTup_rep (.inr rfl) ⟨0, Heap.get?_push_size _ rfl⟩ (hr.mono a.mono) hl⟩
theorem push_lst (i : Inv X F st T) (hr : All2 (RepV X.I T) l us) (hl : l.length ≤ lim) {h : Heap} {tk m : Nat} (ha : ¬ Al T.s.heap a) (hs : h.get? a = some (seqObj "list" us.toArray m)) (hk : ∀ b x, T.s.heap.get? b = some x → h.get? b = some x) :
    Aft X F T st (T.hp h tk) ∧ RR X F T (T.hp h tk) (.fresh l) (.ref a) :=
  have x : Aft X F T st (T.hp h tk) := .grow i hk
  ⟨x, a, us, rfl, ha, fun f => ha (i.mid.fal _ f), fun q => ha (q.elim i.wal i.faal), ⟨m, hs⟩, hr.mono x.mono, hl⟩
theorem push_lst' (i : Inv X F st T) (hr : All2 (RepV X.I T) l us) (hl : l.length ≤ lim) (k : KR X F T Q (.fresh l, st)) : Q (.ref T.s.heap.objs.size) { T.s with heap := T.s.heap.push (seqObj "list" us.toArray 0) } :=
  have x := push_lst i hr hl (tk := T.s.toks) (m := 0) (not_al_size _) (Heap.get?_push_size _ rfl) (keep_push T.s.heap (seqObj "list" us.toArray 0))
  k _ _ x.1 x.2
theorem push_tup' (i : Inv X F st T) (hr : All2 (RepV X.I T) l us) (hl : l.length ≤ lim) (k : KR X F T Q (.val (mkTup l), st)) : Q (.ref T.s.heap.objs.size) { T.s with heap := T.s.heap.push (seqObj "tuple" us.toArray 0) } :=
  k _ _ (push_tup i hr hl T.s.toks).1 (push_tup i hr hl T.s.toks).2
theorem Mid.cell_k (m : Mid X σ T) {j : Nat} {c : Cell} (ha : T.M.ad[j]? = some a) (hc : σ[j]? = some c) (k : ∀ g, T.M.gp[j]? = some g → CellRel X T a g c → P) : P := by
  obtain ⟨b, g, p, q, r⟩ := m.cell j c hc
  cases ha.symm.trans p
  exact k g q r
theorem lstC_k (m : Mid X σ T) {j : Nat} (ha : T.M.ad[j]? = some a) (h : lstC σ[j]? = some l) (k : ∀ us, T.seq "list" a us → All2 (RepV X.I T) l us → l.length ≤ lim → P) : P := by
  cases hc : σ[j]? with
  | none => rw [hc] at h; cases h
  | some c =>
    rw [hc] at h
    cases c with
    | lst l => cases h; exact m.cell_k ha hc fun g _ ⟨_, us, o, r, z⟩ => k us o r z
    | froz ds => cases h; exact m.cell_k ha hc fun g _ ⟨_, r⟩ => RepD.lst_k (P := fun u => u = .ref a → P) r (fun b us f o z r e => by cases e; exact k us o (All2.map.mpr r) (List.length_map (as := ds) V.d ▸ z)) rfl
    | _ => cases h
theorem lst_k {C : Value → Prop} (m : Mid X σ T') (hr : RR X F T T' r u) (h : lstOf σ r = some l) (k : ∀ a us, T'.seq "list" a us → All2 (RepV X.I T') l us → l.length ≤ lim → C (.ref a)) : C u := by
  cases r with
  | fresh l => cases h; obtain ⟨a, us, rfl, q⟩ := hr; exact k a us q.obj q.rep q.len
  | val v =>
    cases v with
    | d x =>
      cases x with
      | lst ds => cases h; exact RepD.lst_k hr fun a us f o z r => k a us o (All2.map.mpr r) (List.length_map (as := ds) V.d ▸ z)
      | _ => cases h
    | loc j => exact RepV.loc_k (I := X.I) hr fun a ha => lstC_k m ha h (k a)
    | tup _ => cases h
theorem tupV_k {C : Value → Prop} (hr : RepV X.I T v u) (h : tupV v = some l) (k : ∀ a us, T.M.F a → T.seq "tuple" a us → All2 (RepV X.I T) l us → l.length ≤ lim → C (.ref a)) : C u := by
  cases v with
  | d x =>
    cases x with
    | tup ds => cases h; exact RepD.tup_k hr fun a us f o z r => k a us f o (All2.map.mpr r) (List.length_map (as := ds) V.d ▸ z)
    | _ => cases h
  | tup l => cases h; exact RepV.tup_k hr fun a us f o z r => k a us f o r z
  | loc _ => cases h
theorem tup_k {C : Value → Prop} (hr : RR X F T T' r u) (h : tupOf r = some l) (k : ∀ a us, T'.M.F a → T'.seq "tuple" a us → All2 (RepV X.I T') l us → l.length ≤ lim → C (.ref a)) : C u := by
  cases r with
  | val v => exact tupV_k hr h k
  | fresh _ => cases h
theorem seq_k {C : Value → Prop} (m : Mid X σ T') (hr : RR X F T T' r u) (h : seqOf σ r = some l) (k : ∀ ty a us, ty = "list" ∨ ty = "tuple" → T'.seq ty a us → All2 (RepV X.I T') l us → l.length ≤ lim → C (.ref a)) : C u :=
  oK h (fun a h1 h2 => lst_k m hr (h1.trans h2) fun a us => k _ a us (.inl rfl)) fun _ h => tup_k hr h fun a us _ => k _ a us (.inr rfl)
structure DctAt (X : Cx) (T : Sm) (j : Nat) (a : Addr) (b : Bool) (es : List (Int × V)) (kvs : List (Int × Value)) : Prop where
  ad : T.M.ad[j]? = some a
  gp : T.M.gp[j]? = some [a]
  obj : T.s.heap.DictOf (intKind X.prog X.w) a kvs
  rep : RepK X.I T b es kvs
  len : es.length ≤ lim
theorem dctC_k {d : Bool × List (Int × V)} (m : Mid X σ T) {j : Nat} (ha : T.M.ad[j]? = some a) (h : dctC σ[j]? = some d) (k : ∀ kvs, DctAt X T j a d.1 d.2 kvs → P) : P := by
  cases hc : σ[j]? with
  | none => rw [hc] at h; cases h
  | some c =>
    rw [hc] at h
    cases c with
    | dct b es => cases h; exact m.cell_k ha hc fun g hg ⟨e, kvs, o, r, z⟩ => k kvs ⟨ha, e ▸ hg, o, r, z⟩
    | _ => cases h
theorem dct_k {C : Value → Prop} {d : Bool × List (Int × V)} (m : Mid X σ T') (hr : RR X F T T' r u) (h : dctOf σ r = some d) (k : ∀ j a kvs, DctAt X T' j a d.1 d.2 kvs → C (.ref a)) : C u :=
  bK h fun j hj h => hr.loc_k hj fun a ha => dctC_k m ha h (k j a)
theorem ne_name {x y : Str} (h1 : F.fn.names.lookup y = .none) {k : NameKind} (h2 : F.fn.names.lookup x = some k) : (x == y) = false := by
  rw [beq_eq_false_iff_ne]; intro e; cases e; cases h1.symm.trans h2
theorem var_snd {x : Str} {pos : Pos} {k : NameKind} {p : R × St} (hk : F.fn.names.lookup x = some k) (he : (lookS x st.vars).map (fun v => (R.val v, st)) = some p) (i : Inv X F st T) (kk : KR X F T Q p) : WP X A (eval (.Name x pos) F.env) Q E T := by
  refine mQ he kk fun v hv kk => ?_
  obtain ⟨m, cm, hn, hc, hvs⟩ := i.frm.has
  obtain ⟨u, hu, q⟩ := hvs x v hv
  have fin := kk u T (.refl i) hu
  refine wpAny_Name (q.elim (fun q => wpAny_loadName_local i.frm.kind q.1 hn q.2 fin) fun q => ?_) (ne_name i.frm.dbg.1 hk)
  obtain ⟨c, hcx⟩ := i.frm.cells x q.1
  have hcell := hc x c hcx
  rw [q.2] at hcell
  exact q.1.elim (fun q => wpAny_loadName_cell i.frm.kind q hcx hcell fin) fun q => wpAny_loadName_free i.frm.kind q hcx hcell fin (ne_name i.frm.dbg.2 hk)
theorem tab_snd (H : Top X) {x : Str} {pos : Pos} {p : R × St} (hk : F.fn.names.lookup x = some .globalImplicit) (he : (lookS x X.G.tabs).map (fun d => (R.val (.d d), st)) = some p) (i : Inv X F st T) (k : KR X F T Q p) : WP X A (eval (.Name x pos) F.env) Q E T := by
  refine mQ he k fun d hv k => ?_
  obtain ⟨v, hg, hr⟩ := H.tabs x d hv
  exact Name_function_global i.frm.kind (i.frm.glo x hk) (loadGlobal_global (mg := X.mg) (by rw [i.frm.glb]; exact H.g.keeps i.mid.top) hg (k v T (.refl i) (hr i.mid.top i.mid.base))) (ne_name i.frm.dbg.1 hk)
theorem name_snd (H : Top X) {x : Str} {pos : Pos} {p : R × St} (he : evName X.G F.fn x st = some p) (i : Inv X F st T) (k : KR X F T Q p) : WP X A (eval (.Name x pos) F.env) Q E T := by
  unfold evName at he
  cases hk : F.fn.names.lookup x with
  | none => rw [hk] at he; cases he
  | some c =>
    rw [hk] at he
    cases c with
    | globalImplicit => exact tab_snd H hk he i k
    | «local» => exact var_snd hk he i k
    | cell => exact var_snd hk he i k
    | free => exact var_snd hk he i k
    | _ => cases he
theorem const_snd {c : Const} {kk : Nat} {pos : Pos} {p : R × St} (he : evConst st c = some p) (i : Inv X F st T) (k : KR X F T Q p) : WP X A (eval (.Constant c kk pos) F.env) Q E T := by
  cases c with
  | none => exact wpAny_Constant_none (sQ he k _ T (.refl i) rfl)
  | bool b => exact wpAny_Constant_bool (sQ he k _ T (.refl i) rfl)
  | int j => exact wpAny_Constant_int (sQ he k _ _ (.tok i _) ⟨_, rfl⟩)
  | str x => exact iK he fun hx he => Constant_str (sQ he k _ _ (.tok i _) ⟨_, rfl, hx⟩)
  | _ => cases he
theorem list_snd (H : Snd X o n) {es : List PySem.Expr} {pos : Pos} {p : R × St} (hA : AOk A n) (he : (if es.length ≤ lim then (evSs o F.fn es st).map fun p => (R.fresh p.1, p.2) else .none) = some p) (i : Inv X F st T) (k : KR X F T Q p) : WP X A (eval (.List es pos) F.env) Q E T :=
  pK he fun hl he => mQ he k fun q h1 k => List_ (evSs_snd H hA h1 i fun us T₁ a₁ q₁ => have z : q.1.length ≤ lim := evSs_len h1 ▸ hl
    wpAny_newList (push_lst' a₁.inv q₁ z (k.then a₁)) (q₁.lim z))
theorem tuple_snd (H : Snd X o n) {es : List PySem.Expr} {kk : Nat} {pos : Pos} {p : R × St} (hA : AOk A n) (he : (if es.length ≤ lim then (evSs o F.fn es st).map fun p => (R.val (mkTup p.1), p.2) else .none) = some p) (i : Inv X F st T) (k : KR X F T Q p) : WP X A (eval (.Tuple es kk pos) F.env) Q E T :=
  pK he fun hl he => mQ he k fun q h1 k => Tuple_ (evSs_snd H hA h1 i fun us T₁ a₁ q₁ => have z : q.1.length ≤ lim := evSs_len h1 ▸ hl
    wpAny_newTuple (push_tup' a₁.inv q₁ z (k.then a₁)) (q₁.lim z))
theorem mulOk {a b : Int} (ha : small a = true) : IntMulOk a b := by
  refine IntMulOk.of_left ?_
  unfold Builtin.Int.intBits
  split
  · exact (by decide : 0 ≤ 34) |> fun h => by omega
  · rename_i h
    have h0 : a.natAbs ≠ 0 := fun e => h (by simp at e ⊢; exact e)
    have h1 : a.natAbs ≤ 4294967296 := of_decide_eq_true ha
    have : a.natAbs.log2 < 34 := (Nat.log2_lt h0).mpr (Nat.lt_of_le_of_lt h1 (by decide))
    omega
theorem keyAdd_k {I : Iota} (hI : 2 ≤ I.gap) {k j : Int} {d : D} {C : D → Prop} (h : keyAdd I.gap k j = some d) (c : ∀ k', I.f true k' = I.f true k + j → C (.key k')) : C d := by
  refine pK h fun hr h => ?_
  cases h
  refine c _ ?_
  have e1 := Int.emod_add_mul_ediv (k % 2 + j) I.gap
  have e2 := Int.emod_nonneg (k % 2 + j) (show I.gap ≠ 0 by omega)
  generalize hx : (k % 2 + j) % I.gap = x at *
  generalize hy : (k % 2 + j) / I.gap = y at *
  show I.base + I.gap * ((2 * (k / 2 + y) + x) / 2) + (2 * (k / 2 + y) + x) % 2 = I.base + I.gap * (k / 2) + k % 2 + j
  have e3 : (2 * (k / 2 + y) + x) / 2 = k / 2 + y := by omega
  have e4 : (2 * (k / 2 + y) + x) % 2 = x := by omega
  rw [e3, e4, Int.mul_add]
  omega
theorem fmod_k {a b : Int} (h : 0 < b) : Int.fmod a b = a % b := Int.fmod_eq_emod_of_nonneg _ (Int.le_of_lt h)
noncomputable def NumRep (I : Iota) (z : Int) (d : D) : Prop := ∀ T t, RepD I T d (.int z t)
theorem NumRep.int {I : Iota} (z : Int) : NumRep I z (.int z) := fun _ t => ⟨t, rfl⟩
theorem NumRep.key {I : Iota} {z k : Int} (h : I.f true k = z) : NumRep I z (.key k) := fun _ t => ⟨t, by rw [h]⟩
theorem NumRep.raw {I : Iota} {z i : Int} {c : Nat} (h : I.raw c + i = z) : NumRep I z (.raw c i) := fun _ t => ⟨t, by rw [h]⟩
theorem num_fin {z : Int} {d : D} (i : Inv X F st T) (k : KR X F T Q (.val (.d d), st)) (h : NumRep X.I z d) : Q (.int z T.s.toks) { T.s with toks := T.s.toks + 1 } := k _ _ (.tok i _) (h _ _)
theorem binD_snd (H : Top X) {op : Operator} {j : Int} {t : Tok} {x d : D} (i : Inv X F st T) (hr : RepD X.I T x u) (he : binD X.G op j x = some d) (k : KR X F T Q (.val (.d d), st)) : WP X A (binaryOp op u (.int j t)) Q E T := by
  cases x with
  | int p =>
    obtain ⟨t', rfl⟩ := hr
    cases op with
    | Add => exact wpAny_add_int (num_fin i k (Option.some.inj he ▸ .int _))
    | Sub => exact sub_int (num_fin i k (Option.some.inj he ▸ .int _))
    | Mult => exact iK he fun hs he => mul_int (num_fin i k (Option.some.inj he ▸ .int _)) (mulOk (Bool.and_eq_true_iff.mp hs).1)
    | Mod => exact pK he fun hs he => mod_int (Int.ne_of_gt hs) (by rw [fmod_k hs]; exact num_fin i k (Option.some.inj he ▸ .int _))
    | _ => cases he
  | key p =>
    obtain ⟨t', rfl⟩ := hr
    cases op with
    | Add => exact wpAny_add_int (num_fin i k (keyAdd_k H.gap (H.ggap ▸ (he : keyAdd X.G.gap p j = some d)) fun k' e => .key e))
    | Sub => exact sub_int (num_fin i k (keyAdd_k H.gap (H.ggap ▸ (he : keyAdd X.G.gap p (-j) = some d)) fun k' e => .key e))
    | _ => cases he
  | raw c p =>
    obtain ⟨t', rfl⟩ := hr
    cases op with
    | Add => exact wpAny_add_int (num_fin i k (Option.some.inj he ▸ .raw (Int.add_assoc _ _ _).symm))
    | Mod => exact iK he fun hs he => andK hs fun h1 h2 => mod_int (Int.ne_of_gt (decK h2)) (by
        rw [fmod_k (decK h2), ← Int.emod_add_emod, decK h1, ← H.res c, ← decK h1]
        exact num_fin i k (Option.some.inj he ▸ .int _))
    | _ => cases he
  | _ => cases he
theorem addL_snd {a b : R} {x : R} {ua ub : Value} (i : Inv X F st T) (ha : RR X F T' T a ua) (hb : RR X F T'' T b ub) {l m : List V} (hl : lstOf st.store a = some l) (hm : lstOf st.store b = some m) (hz : l.length + m.length ≤ lim) (k : KR X F T Q (.fresh (l ++ m), st)) : WP X A (binaryOp .Add ua ub) Q E T :=
  lst_k (C := fun ua => WP X A (binaryOp .Add ua ub) Q E T) i.mid ha hl fun la us ⟨n1, o1⟩ r1 z1 => lst_k (C := fun ub => WP X A (binaryOp .Add (.ref la) ub) Q E T) i.mid hb hm fun lb ws ⟨n2, o2⟩ r2 z2 => by
    have hz' : (l ++ m).length ≤ lim := List.length_append ▸ hz
    have r := r1.append r2
    refine concat_meets ⟨_, o1, rfl⟩ ⟨_, o2, rfl⟩ noFill_list_add seq_list_add PySem.F.slot_list_add PySem.F.entry_list_add (PySem.F.args_list_add_2 _ _) (list_addW la lb us.toArray ws.toArray n1 n2 none none #[] #[] (by rw [← Array.size_append, List.append_toArray]; exact r.lim hz')) ⟨o1, o2, ?_⟩
    rw [List.append_toArray]
    exact push_lst' i r hz' k
theorem addT_snd {a b : R} {x : R} {ua ub : Value} (i : Inv X F st T) (ha : RR X F T' T a ua) (hb : RR X F T'' T b ub) {l m : List V} (hl : tupOf a = some l) (hm : tupOf b = some m) (hz : l.length + m.length ≤ lim) (k : KR X F T Q (.val (mkTup (l ++ m)), st)) : WP X A (binaryOp .Add ua ub) Q E T :=
  tup_k (C := fun ua => WP X A (binaryOp .Add ua ub) Q E T) ha hl fun la us f1 ⟨n1, o1⟩ r1 z1 => tup_k (C := fun ub => WP X A (binaryOp .Add (.ref la) ub) Q E T) hb hm fun lb ws f2 ⟨n2, o2⟩ r2 z2 => by
    have hz' : (l ++ m).length ≤ lim := List.length_append ▸ hz
    have r := r1.append r2
    cases us with
    | nil =>
      refine concat_meets ⟨_, o1, rfl⟩ ⟨_, o2, rfl⟩ noFill_tuple_add seq_tuple_add PySem.F.slot_tuple_add PySem.F.entry_tuple_add (PySem.F.args_tuple_add_2 _ _) (tuple_addW0 la lb (List.toArray []) ws.toArray n1 n2 none none #[] #[] rfl) ⟨o1, o2, ?_⟩
      exact k _ _ (.refl i) (mkTup_rep f2 ⟨n2, o2⟩ r hz')
    | cons c us =>
      cases ws with
      | nil =>
        refine concat_meets ⟨_, o1, rfl⟩ ⟨_, o2, rfl⟩ noFill_tuple_add seq_tuple_add PySem.F.slot_tuple_add PySem.F.entry_tuple_add (PySem.F.args_tuple_add_2 _ _) (tuple_addW1 la lb (List.toArray (c :: us)) (List.toArray []) n1 n2 none none #[] #[] nofun rfl) ⟨o1, o2, ?_⟩
        exact k _ _ (.refl i) (mkTup_rep f1 ⟨n1, o1⟩ (List.append_nil (c :: us) ▸ r) hz')
      | cons d ws =>
        refine concat_meets ⟨_, o1, rfl⟩ ⟨_, o2, rfl⟩ noFill_tuple_add seq_tuple_add PySem.F.slot_tuple_add PySem.F.entry_tuple_add (PySem.F.args_tuple_add_2 _ _) (tuple_addW2 la lb (List.toArray (c :: us)) (List.toArray (d :: ws)) n1 n2 none none #[] #[] nofun nofun (by rw [← Array.size_append, List.append_toArray]; exact r.lim hz')) ⟨o1, o2, ?_⟩
        rw [List.append_toArray]
        exact push_tup' i r hz' k
theorem bin_snd (H : Top X) {op : Operator} {a b x : R} {ua ub : Value} (i : Inv X F st T) (ha : RR X F T' T a ua) (hb : RR X F T'' T b ub) (he : binR X.G st.store op a b = some x) (k : KR X F T Q (x, st)) : WP X A (binaryOp op ua ub) Q E T :=
  oK he (fun j hj he => bK hj fun q hq hj => hb.num_k (P := fun ub => WP X A (binaryOp op ua ub) Q E T) hq fun t => plain_k (P := fun q => WP X A (binaryOp op ua (.int (X.I.f q.1 q.2) t)) Q E T) hj (bK he fun y hy he => mQ (C := fun x => KR X F T Q (x, st)) he k fun d hd k => by
      cases a with
      | val v => exact datV_k (P := fun v => RepV X.I T v ua → WP X A (binaryOp op ua (.int j t)) Q E T) hy (fun ha => binD_snd H i ha hd k) ha
      | fresh _ => cases hy))
    fun _ he => by
      cases op with
      | Add => exact oK he (fun l hl he => bK he fun m hm he => pK he fun hz he => addL_snd (x := x) i ha hb hl hm hz (sQ (C := fun x => KR X F T Q (x, st)) he k)) fun _ he => bK he fun l hl he => bK he fun m hm he => pK he fun hz he => addT_snd (x := x) i ha hb hl hm hz (sQ (C := fun x => KR X F T Q (x, st)) he k)
      | _ => cases he
end
open PySem PyProof.Rows PySem.Calls
theorem clamp_pos {n : Nat} {v : Int} (h : 0 ≤ v) : ((clamp n v : Nat) : Int) = min v n := by
  unfold clamp
  rw [if_pos h]
  cases Nat.le_total v.toNat n with
  | inl q => rw [Nat.min_eq_left q, Int.toNat_of_nonneg h, Int.min_eq_left (Int.toNat_le.mp q)]
  | inr q => rw [Nat.min_eq_right q, Int.min_eq_right (Int.toNat_of_nonneg h ▸ Int.ofNat_le.mpr q)]
theorem clamp_neg {n : Nat} {v : Int} (h : ¬ 0 ≤ v) : ((clamp n v : Nat) : Int) = max (v + n) 0 := by
  unfold clamp
  rw [if_neg h, Int.ofNat_toNat]
theorem clamp_le (n : Nat) (v : Int) : clamp n v ≤ n := by
  by_cases h : 0 ≤ v
  · exact Int.ofNat_le.mp (clamp_pos h ▸ Int.min_le_right _ _)
  · exact Int.ofNat_le.mp (clamp_neg h ▸ Int.max_le.mpr ⟨Int.add_le_of_le_sub_right (by rw [Int.sub_self]; exact Int.le_of_lt (Int.not_le.mp h)), Int.natCast_nonneg n⟩)
theorem hiN_le (n : Nat) (b : Option Int) : hiN n b ≤ n := by
  cases b with
  | none => exact Nat.le_refl _
  | some b => exact clamp_le n b
theorem clip_eq (n : Nat) (v : Int) : (if v < 0 then max (v + (n : Int)) 0 else min v (n : Int)) = ((clamp n v : Nat) : Int) := by
  by_cases h : v < 0
  · rw [if_pos h, clamp_neg (Int.not_le.mpr h)]
  · rw [if_neg h, clamp_pos (Int.not_lt.mp h)]
theorem clip_eq' (n : Nat) (v : Int) : max 0 (min (if v < 0 then v + (n : Int) else v) (n : Int)) = ((clamp n v : Nat) : Int) := by
  by_cases h : v < 0
  · rw [if_pos h, clamp_neg (Int.not_le.mpr h), Int.min_eq_left (Int.add_le_of_le_sub_right (by rw [Int.sub_self]; exact Int.le_of_lt h)), Int.max_comm]
  · rw [if_neg h, clamp_pos (Int.not_lt.mp h), Int.max_eq_right (Int.le_min.mpr ⟨Int.not_lt.mp h, Int.natCast_nonneg n⟩)]
theorem adjust_eq (a b : Option Int) (n : Nat) : Builtin.Slice.sliceAdjust a b 1 (n : Int) = (((loN n a : Nat) : Int), ((hiN n b : Nat) : Int)) := by
  cases a with
  | none => cases b with
    | none => rfl
    | some b => exact congrArg (Prod.mk _) (clip_eq n b)
  | some a => cases b with
    | none => exact congrArg (Prod.mk · _) (clip_eq n a)
    | some b => exact (congrArg (Prod.mk · _) (clip_eq n a)).trans (congrArg (Prod.mk _) (clip_eq n b))
theorem bounds_eq (a b : Option Int) (n : Nat) : sliceBounds a b none n = (((loN n a : Nat) : Int), ((hiN n b : Nat) : Int), 1) := by
  cases a with
  | none => cases b with
    | none => rfl
    | some b => exact congrArg (fun x => ((0 : Int), x, (1 : Int))) (clip_eq' n b)
  | some a => cases b with
    | none => exact congrArg (fun x => (x, (n : Int), (1 : Int))) (clip_eq' n a)
    | some b => exact congr (congrArg (fun (x y : Int) => (x, y, (1 : Int))) (clip_eq' n a)) (clip_eq' n b)
theorem sub_toNat (a b : Nat) (f : Int → Int) (hf : ∀ x, f x = x) : (if (a : Int) < (b : Int) then f ((b : Int) - (a : Int)) else 0).toNat = b - a := by
  by_cases h : (a : Int) < (b : Int)
  · rw [if_pos h, hf, ← Int.ofNat_sub (Nat.le_of_lt (Int.ofNat_lt.mp h))]; rfl
  · rw [if_neg h, Nat.sub_eq_zero_of_le (Int.ofNat_le.mp (Int.not_lt.mp h))]; rfl
theorem places_eq (a b : Nat) : Builtin.Slice.slicePlaces (a : Int) (b : Int) 1 = b - a := by
  unfold Builtin.Slice.slicePlaces
  rw [if_pos (by decide)]
  exact sub_toNat a b (fun x => (x - 1) / 1 + 1) fun x => by rw [Int.ediv_one, Int.sub_add_cancel]
theorem pick_eq (us : List Value) (a b : Nat) : (List.range (b - a)).filterMap (fun (k : Nat) => us.toArray[((a : Int) + (k : Int) * 1).toNat]?) = (us.take b).drop a := by
  have e : (fun (k : Nat) => us.toArray[((a : Int) + (k : Int) * 1).toNat]?) = (fun x => us.toArray[x]?) ∘ fun x => a + x := by
    funext k
    rw [Int.mul_one]
    rfl
  rw [e, ← List.filterMap_map, pick_run, List.drop_take]
theorem range_eq (a b : Nat) : sliceRange (a : Int) (b : Int) 1 = (List.range (b - a)).map fun (k : Nat) => ((a : Int) + 1 * (k : Int)).toNat := by
  unfold sliceRange
  rw [if_pos (by decide)]
  exact congrArg (fun n => (List.range n).map fun (k : Nat) => ((a : Int) + 1 * (k : Int)).toNat) (sub_toNat a b (fun x => (x + 1 - 1) / 1) fun x => by rw [Int.ediv_one, Int.add_sub_cancel])
theorem slicePick_eq (us : List Value) (a b : Option Int) : slicePick us.toArray a b none = List.toArray (slc us a b) := by
  unfold slicePick
  rw [List.size_toArray, bounds_eq]
  refine congrArg List.toArray ?_
  show (sliceRange _ _ 1).filterMap _ = _
  rw [range_eq, List.filterMap_map]
  refine Eq.trans (congrArg (fun f => List.filterMap f _) ?_) (pick_eq us (loN us.length a) (hiN us.length b))
  funext k
  show us.toArray[((loN us.length a : Int) + 1 * (k : Int)).toNat]? = _
  rw [Int.one_mul, Int.mul_one]
section
variable {X : Cx} {F : Fx} {o : Ops} {n : Nat} {st st' : St} {A : Around} {T T' T'' : Sm} {Q : Value → Shared → Prop} {E : Value → Shared → Prop} {e : PySem.Expr} {r : R} {u : Value} {v : V} {σ : List Cell} {a : Addr} {l : List V} {us : List Value} {P : Prop} {s : Shared} {prog : Program} {w : World}
theorem subscripted_ops (slice : PySem.Expr) (o i : Value) : ∃ ops, subscripted slice false o i = operate ops (getItem o i) := by
  cases slice with
  | Slice a b c p => cases c <;> exact ⟨_, rfl⟩
  | _ => exact ⟨_, rfl⟩
theorem tail_snd {value slice : PySem.Expr} {o i : Value} {ty id : String} (hT : s.TypeIs o ty) (hl : typeLookup (.type ty) "__getitem__" = pure (some (.builtin id))) (hg : wpAny (model prog w) A (getItem o i) Q E s) :
    wpAny (model prog w) A (subscriptTail value slice o i) Q E s := (subscripted_ops slice o i).elim fun _ hs => tail_any hT hl hg hs
theorem part_snd {v : Value} {k : Option Int} {Q : Option Int → Shared → Prop} (hp : IsPart v k) (hq : Q k s) : wpAny (model prog w) A (Builtin.Slice.slicePartIndex v) Q E s := by
  cases hp with
  | none => exact slicePart_none hq
  | int i t => exact slicePart_int hq
theorem slc_all {α : Type} (us : List α) {lo hi : Option Int} (hc : ((((loN us.length lo : Nat) : Int) == 0) && ((1 : Int) == 1) && ((hiN us.length hi - loN us.length lo) == us.length)) = true) : slc us lo hi = us := by
  obtain ⟨h1, h2⟩ := Bool.and_eq_true_iff.mp hc
  have h3 : loN us.length lo = 0 := Int.ofNat_inj.mp (beq_iff_eq.mp (Bool.and_eq_true_iff.mp h1).1)
  have h4 := beq_iff_eq.mp h2
  rw [h3] at h4
  unfold slc
  rw [h3, show hiN us.length hi = us.length from h4, List.take_length]
  rfl
theorem getItem_tuple_slice {t sl : Addr} {us : List Value} {m : Nat} {vl vu : Value} {lo hi : Option Int} (ht : s.heap.get? t = some (seqObj "tuple" us.toArray m)) (hs : s.heap.IsSliceOf sl vl vu .none) (pl : IsPart vl lo) (pu : IsPart vu hi) (hz : us.length ≤ sizeLine)
    (hw : slc us lo hi = us → Q (.ref t) s) (h : Q (.ref s.heap.objs.size) { s with heap := s.heap.push (seqObj "tuple" (List.toArray (slc us lo hi)) 0) }) : wpAny (model prog w) A (getItem (.ref t) (.ref sl)) Q E s := by
  have ht' : IsTup s.heap t us.toArray := ⟨_, ht, rfl, m, rfl⟩
  obtain ⟨os, hos, hcs, hds⟩ := id hs
  unfold getItem
  refine wpAny_holding ?_
  refine wpAny_bind (wpAny_sequenceKey ht'.typeIs (by decide) ?_)
  refine wpAny_bind (wpAny_callSpecial?_slot (name := Str.ofString "__getitem__") ht'.typeIs slot_tuple_getitem
    (wpAny_call_entry slot_tuple_getitem ht'.typeIs entry_tuple_getitem ?_ (args_tuple_getitem _ _)))
  show wpAny _ _ (Builtin.Tuple.tupleItemsOf (.ref t) >>= _) _ _ s
  refine wpAny_bind (tupleItemsOf_ ht' (wpAny_bind (wpAny_typeOf ⟨os, hos, hcs⟩ ?_)))
  rw [if_pos (by decide)]
  refine wpAny_bind (wpAny_bind (wpAny_bind (wpAny_field hos hds (x := vl) rfl (wpAny_bind (wpAny_field hos hds (x := vu) rfl (wpAny_bind (wpAny_field hos hds (x := .none) rfl (wpAny_pure (wpAny_bind (slicePart_none ?_))))))))))
  refine wpAny_bind (part_snd pl (wpAny_bind (part_snd pu (wpAny_bind (wpAny_pure ?_)))))
  show wpAny _ _ (match Builtin.Slice.sliceAdjust lo hi 1 (us.toArray.size : Int) with | (lo, hi) => pure (lo, (1 : Int), Builtin.Slice.slicePlaces lo hi 1)) _ _ s
  rw [List.size_toArray, adjust_eq]
  refine wpAny_pure ?_
  show wpAny _ _ (if (((loN us.length lo : Nat) : Int) == 0 && (1 : Int) == 1 && (Builtin.Slice.slicePlaces (loN us.length lo : Int) (hiN us.length hi : Int) 1) == us.length) = true then _ else _) _ _ s
  rw [places_eq]
  by_cases hc : ((((loN us.length lo : Nat) : Int) == 0) && ((1 : Int) == 1) && ((hiN us.length hi - loN us.length lo) == us.length)) = true
  · rw [if_pos hc]
    refine wpAny_bind (wpAny_bind (wpAny_typeOf ht'.typeIs (wpAny_pure ?_)))
    rw [if_pos (by decide)]
    exact wpAny_bind (wpAny_rule (wpAny_pure ⟨_, rfl, wpAny_pure (hw (slc_all us hc))⟩))
  · rw [if_neg hc]
    show wpAny _ _ (Builtin.Tuple.tupleExact (List.toArray ((List.range (hiN us.length hi - loN us.length lo)).filterMap fun (k : Nat) => us.toArray[(((loN us.length lo : Nat) : Int) + (k : Int) * 1).toNat]?)) >>= _) _ _ s
    rw [pick_eq]
    exact wpAny_bind (m := Builtin.Tuple.tupleExact _) (wpAny_newObj_type (wpAny_pure ⟨_, rfl, wpAny_pure h⟩) (show (List.toArray (slc us lo hi)).size ≤ sizeLine by
      rw [List.size_toArray]
      exact Nat.le_trans (Nat.le_trans (List.length_drop ▸ Nat.sub_le _ _) (List.length_take ▸ Nat.min_le_right _ _)) hz))
end
open PySem PyProof.Rows PySem.Calls
section
variable {X : Cx} {F : Fx} {o : Ops} {n : Nat} {st st' : St} {A : Around} {T T' T'' : Sm} {Q : Value → Shared → Prop} {E : Value → Shared → Prop} {e : PySem.Expr} {r : R} {u : Value} {v : V} {σ : List Cell} {a : Addr} {l : List V} {us : List Value} {P : Prop} {s : Shared} {prog : Program} {w : World} {I : Iota} {b : Bool} {es : List (Int × V)} {kvs : List (Int × Value)}
theorem ix_k {i : Int} {m j : Nat} (h : seqIndex? i m = some j) (kp : 0 ≤ i → i < m → i.toNat = j → P) (kn : i < 0 → -(m : Int) ≤ i → (i + m).toNat = j → P) : P := by
  unfold seqIndex? at h
  refine iK h fun hc h => ?_
  cases h
  by_cases hn : i < 0
  · rw [if_pos hn] at hc
    exact kn hn (by have := decK (Bool.and_eq_true_iff.mp hc).1; omega) (by rw [if_pos hn])
  · rw [if_neg hn] at hc
    exact kp (Int.not_lt.mp hn) (decK (Bool.and_eq_true_iff.mp hc).2) (by rw [if_neg hn])
theorem RepK.look (hI : 2 ≤ I.gap) (k : Int) : ∀ {kvs : List (Int × Value)}, RepK I T b es kvs → (∀ v, lookI k es = some v → ∃ u, valueAt kvs (I.f b k) = some u ∧ RepV I T v u) ∧ (lookI k es = .none → valueAt kvs (I.f b k) = .none) := by
  induction es with
  | nil => intro kvs h; cases h; exact ⟨nofun, fun _ => rfl⟩
  | cons p es ih =>
    intro kvs h
    obtain ⟨u, ws, rfl, q, r⟩ := h
    have e : valueAt ((I.f b p.1, u) :: ws) (I.f b k) = if k = p.1 then some u else valueAt ws (I.f b k) := by
      by_cases hk : k = p.1
      · rw [if_pos hk, ← hk]
        unfold valueAt
        exact congrArg (Option.map _) (List.find?_cons_of_pos (p := fun kv : Int × Value => decide (kv.1 = I.f b k)) (decide_eq_true rfl))
      · rw [if_neg hk]
        unfold valueAt
        exact congrArg (Option.map _) (List.find?_cons_of_neg (p := fun kv : Int × Value => decide (kv.1 = I.f b k)) (mt of_decide_eq_true fun e => hk (Iota.inj hI e).symm))
    rw [e]
    show (∀ v, (if k = p.1 then some p.2 else lookI k es) = some v → _) ∧ ((if k = p.1 then some p.2 else lookI k es) = .none → _)
    by_cases hk : k = p.1
    · rw [if_pos hk, if_pos hk]
      exact ⟨fun v e => ⟨u, rfl, Option.some.inj e ▸ q⟩, nofun⟩
    · rw [if_neg hk, if_neg hk]
      exact ih r
theorem RepK.cls {q : Bool × Int} (h : okK b es q = true) (r : RepK I T b es kvs) : RepK I T q.1 es kvs := by
  cases es with
  | nil => exact r
  | cons p es => exact (beq_iff_eq.mp h).symm ▸ r
theorem RepK.some_k {C : Prop} (hI : 2 ≤ I.gap) (r : RepK I T b es kvs) {q : Bool × Int} (h : okK b es q = true) (e : lookI q.2 es = some v) (k : ∀ u, valueAt kvs (I.f q.1 q.2) = some u → RepV I T v u → C) : C :=
  ((r.cls h).look hI q.2).1 v e |>.elim fun u q => k u q.1 q.2
theorem RepK.isSome (hI : 2 ≤ I.gap) (r : RepK I T b es kvs) {q : Bool × Int} (h : okK b es q = true) : (valueAt kvs (I.f q.1 q.2)).isSome = (lookI q.2 es).isSome := by
  cases e : lookI q.2 es with
  | none => rw [((r.cls h).look hI q.2).2 e]; rfl
  | some v => exact r.some_k hI h e fun u e _ => by rw [e]; rfl
theorem getD_snd (H : Top X) {value slice : PySem.Expr} {a b : R} {v : V} {ua ub : Value} {d : Bool × List (Int × V)} {q : Bool × Int} (i : Inv X F st T) (ha : RR X F T' T a ua) (hb : RR X F T'' T b ub) (hd : dctOf st.store a = some d) (hq : numOf b = some q) (ho : okK d.1 d.2 q = true) (he : lookI q.2 d.2 = some v)
    (k : KR X F T Q (.val v, st)) : WP X A (subscriptTail value slice ua ub) Q E T :=
  hb.num_k (P := fun ub => WP X A (subscriptTail value slice ua ub) Q E T) hq fun t => dct_k (C := fun ua => WP X A (subscriptTail value slice ua _) Q E T) i.mid ha hd fun j a kvs D => D.rep.some_k H.gap ho he fun u e r =>
    tail_snd D.obj.typeIs slot_dict_getitem.lookup (wpAny_getItem_of (intKind_is X.prog X.w _ t) D.obj.mapOf e (k u _ (.tok i _) (r.mono (Aft.tok i _).mono)))
theorem fit_k {j : Int} {m : Nat} (hm : m ≤ lim) (h : j < m) : j < 2 ^ 63 := Int.lt_trans (Int.lt_of_lt_of_le h (Int.ofNat_le.mpr hm)) lim_lt63
theorem fit_n {j : Int} {m : Nat} (hm : m ≤ lim) (h : -(m : Int) ≤ j) : -(2 ^ 63) ≤ j := Int.le_trans (Int.neg_le_neg (Int.le_of_lt (Int.lt_of_le_of_lt (Int.ofNat_le.mpr hm) lim_lt63))) h
theorem getS_snd {value slice : PySem.Expr} {a b : R} {v : V} {ua ub : Value} {j : Int} {l : List V} (i : Inv X F st T) (ha : RR X F T' T a ua) {t : Tok} (hl : seqOf st.store a = some l) (he : idx l j = some v)
    (k : KR X F T Q (.val v, st)) : WP X A (subscriptTail value slice ua (.int j t)) Q E T :=
  bK he fun m hm he => seq_k (C := fun ua => WP X A (subscriptTail value slice ua _) Q E T) i.mid ha hl fun ty a us hty ⟨c, o⟩ r z => by
    obtain ⟨u, eu', q⟩ := r.get he
    have eu : us.toArray[m]? = some u := List.getElem?_toArray.trans eu'
    have fin := k u T (.refl i) q
    have hlen := r.length
    cases hty with
    | inl e =>
      cases e
      have hL : T.s.heap.IsList a us.toArray := ⟨_, o, rfl, c, rfl⟩
      refine tail_snd hL.typeIs slot_list_getitem.lookup (ix_k hm (fun h0 h1 e => ?_) fun h0 h1 e => ?_)
      · exact wpAny_getItem_list hL h0 (fit_k z h1) (e.symm ▸ eu) fin
      · exact wpAny_getItem_list_neg hL h0 (by rw [List.size_toArray, hlen]; exact h1) (fit_n z h1) (by rw [List.size_toArray, hlen, e]; exact eu) fin
    | inr e =>
      cases e
      have hT : IsTup T.s.heap a us.toArray := ⟨_, o, rfl, c, rfl⟩
      exact tail_snd hT.typeIs slot_tuple_getitem.lookup (PyProof.Rows.getItem_tuple hT (ix_k hm (fun h0 _ _ => Int.le_trans (by decide) h0) fun _ h1 _ => fit_n z h1) (ix_k hm (fun _ h1 _ => fit_k z h1) fun h0 _ _ => Int.lt_trans h0 (by decide)) (by rw [List.size_toArray, hlen]; exact hm) eu fin)
theorem get_snd (H : Top X) {value slice : PySem.Expr} {a b : R} {v : V} {ua ub : Value} (i : Inv X F st T) (ha : RR X F T' T a ua) (hb : RR X F T'' T b ub) (he : getR st.store a b = some v)
    (k : KR X F T Q (.val v, st)) : WP X A (subscriptTail value slice ua ub) Q E T :=
  oK he (fun d hd he => bK he fun q hq he => iK he fun ho he => getD_snd H i ha hb hd hq ho he k) fun _ he => bK he fun j hj he => bK he fun l hl he => bK hj fun q hq hj =>
    hb.num_k (P := fun ub => WP X A (subscriptTail value slice ua ub) Q E T) hq fun t => plain_k (P := fun q => WP X A (subscriptTail value slice ua (.int (X.I.f q.1 q.2) t)) Q E T) hj (getS_snd (b := b) (ub := ub) i ha hl he k)
theorem All2.slc {P : V → Value → Prop} (h : All2 P l us) (lo hi : Option Int) : All2 P (slc l lo hi) (slc us lo hi) := by
  unfold Mine.slc
  rw [h.length]
  exact (h.take _).drop _
theorem slc_len {α : Type} {l : List α} {lo hi : Option Int} (z : l.length ≤ lim) : (slc l lo hi).length ≤ lim := Nat.le_trans (Nat.le_trans (List.length_drop ▸ Nat.sub_le _ _) (List.length_take ▸ Nat.min_le_right _ _)) z
theorem slice_snd {value slice : PySem.Expr} {a x : R} {ua vl vu : Value} {lo hi : Option Int} (i : Inv X F st T) (ha : RR X F T' T a ua) (pl : IsPart vl lo) (pu : IsPart vu hi) (he : slcR st.store a lo hi = some x) {sl : Addr} (hs : T.s.heap.IsSliceOf sl vl vu .none)
    (k : KR X F T Q (x, st)) : WP X A (subscriptTail value slice ua (.ref sl)) Q E T :=
  oK he (fun l hl he => lst_k (C := fun ua => WP X A (subscriptTail value slice ua (.ref sl)) Q E T) i.mid ha hl fun a us ⟨c, o⟩ r z => by
      have hL : T.s.heap.IsList a us.toArray := ⟨_, o, rfl, c, rfl⟩
      refine tail_snd hL.typeIs slot_list_getitem.lookup (wpAny_getItem_list_slice hL hs pl pu .none nofun ?_ (r.lim z))
      rw [slicePick_eq]
      exact push_lst' i (r.slc lo hi) (slc_len z) (sQ (C := fun x => KR X F T Q (x, st)) he k))
    fun _ he => mQ (C := fun x => KR X F T Q (x, st)) he k fun l hl k => tup_k (C := fun ua => WP X A (subscriptTail value slice ua (.ref sl)) Q E T) ha hl fun a us f ⟨c, o⟩ r z => by
      refine tail_snd (IsTup.typeIs ⟨_, o, rfl, c, rfl⟩) slot_tuple_getitem.lookup (getItem_tuple_slice o hs pl pu (r.lim z) (fun e => ?_) (push_tup' i (r.slc lo hi) (slc_len z) k))
      exact k _ _ (.refl i) (mkTup_rep f ⟨c, o⟩ (e ▸ r.slc lo hi) (slc_len z))
theorem opt_snd (H : Snd X o n) {e : Option PySem.Expr} {β : Type} {f : Option Int × St → Option β} {y : β} (hA : AOk A n) (he : (optI o F.fn e st).bind f = some y) (i : Inv X F st T)
    (k : ∀ p u T', Aft X F T p.2 T' → IsPart u p.1 → f p = some y → Q u T'.s) : WP X A (evalPart e F.env) Q E T := by
  cases e with
  | none => exact wpAny_evalPart_none (k _ _ T (.refl i) .none he)
  | some e => exact bK he fun p h1 he => wpAny_evalPart_some (evIntM H hA i h1 (C := fun p => f p = some y) he fun q t T' a he => k _ _ T' a (.int q.1 t) he)
theorem sub_snd (H : Snd X o n) (HT : Top X) {v e : PySem.Expr} {pos : Pos} {p : R × St} (hA : AOk A n) (he : evSub o F.fn v e st = some p) (i : Inv X F st T) (k : KR X F T Q p) : WP X A (eval (.Subscript v e pos) F.env) Q E T := by
  refine Subscript_ (oK he (fun ab hs he => ?_) fun _ he => ?_)
  · refine asSlc_k (C := fun e => wpAny (model X.prog X.w) A (eval v F.env) (fun o s₁ => wpAny (model X.prog X.w) A (eval e F.env) (fun i s₂ => wpAny (model X.prog X.w) A (subscriptTail v e o i) Q E s₂) E s₁) E T.s) hs fun ps => ?_
    refine evB H hA i he fun p₁ u₁ T₁ a₁ q₁ he => wpAny_Slice (opt_snd H hA he a₁.inv fun p₂ u₂ T₂ a₂ q₂ he => opt_snd H hA he a₂.inv fun p₃ u₃ T₃ a₃ q₃ he => wpAny_evalPart_none (mQ he k fun x h4 k => ?_))
    have a₄ : Aft X F T₃ p₃.2 (T₃.hp (T₃.s.heap.push { cls := .type "slice", data := .fields #[u₂, u₃, .none] }) T₃.s.toks) := .grow a₃.inv (keep_push _ _)
    exact slice_snd a₄.inv (((q₁.mono a₂).mono a₃).mono a₄) q₂ q₃ h4 (Heap.IsSliceOf.new ..) (k.then (((a₁.trans a₂).trans a₃).trans a₄))
  · exact evB H hA i he fun p₁ u₁ T₁ a₁ q₁ he => evB H hA a₁.inv he fun p₂ u₂ T₂ a₂ q₂ he => mQ he k fun w h k => get_snd HT a₂.inv (q₁.mono a₂) q₂ h (k.then (a₁.trans a₂))
end
open PySem PyProof.Rows PySem.Calls
section
variable {X : Cx} {F : Fx} {o : Ops} {n : Nat} {st st' : St} {A : Around} {T T' T'' : Sm} {Q : Value → Shared → Prop} {E : Value → Shared → Prop} {e : PySem.Expr} {r : R} {u : Value} {v : V} {σ : List Cell} {a : Addr} {l : List V} {us : List Value} {P : Prop} {s : Shared} {prog : Program} {w : World} {I : Iota} {b : Bool} {es : List (Int × V)} {kvs : List (Int × Value)} {op : CmpOp} {c : Bool} {QB : Bool → Shared → Prop}
theorem thaw_rr (m : Mid X σ T) (hr : RR X F T' T r u) : RR X F T' T (thaw σ r) u := by
  cases r with
  | fresh l => exact hr
  | val v =>
    cases v with
    | loc j =>
      refine RepV.loc_k (I := X.I) (P := fun u => RR X F T' T (thawV σ (.loc j)) u) hr fun a ha => ?_
      have hr : RepV X.I T (.loc j) (.ref a) := ⟨a, ha, rfl⟩
      show RR X F T' T (thawC j σ[j]?) (.ref a)
      cases hc : σ[j]? with
      | none => exact hr
      | some c =>
        cases c with
        | froz ds => exact m.cell_k ha hc fun g _ q => q.2
        | _ => exact hr
    | _ => exact hr
theorem dat_k {d : D} (hr : RR X F T' T r u) (h : datR r = some d) (k : ∀ T₁, T₁.s = T.s → RepD X.I T₁ d u → P) : P := by
  cases r with
  | val v => exact datV_k (P := fun v => RepV X.I T v u → P) h (k T rfl) hr
  | fresh l =>
    obtain ⟨a, us, rfl, q⟩ := hr
    refine bK h fun x hx h => mK (C := fun v => datV v = some d → P) hx (fun ds hd h => ?_) h
    cases h
    exact allD_k (P := fun l => Own X F T' T a l us → P) hd (fun q => k (T.mm (T.M.frz (· = a))) rfl ⟨a, us, rfl, .inr rfl, q.obj, (List.length_map (as := ds) V.d) ▸ q.len, repDs_eq.mpr (All2.map (f := V.d) (P := RepV X.I (T.mm (T.M.frz (· = a)))) |>.mp (q.rep.mono (.frz _)))⟩) q
theorem eqG_snd (hI : 2 ≤ X.I.gap) {x y : D} {ua ub : Value} {T₁ T₂ : Sm} (hA : AOk A n) (e₁ : T₁.s = T.s) (e₂ : T₂.s = T.s) (ha : RepD X.I T₁ x ua) (hb : RepD X.I T₂ y ub) (he : eqG x y = some c) (f : Bool → Bool)
    (rule : ∀ {da db : PyData} {as bs : List Addr}, Reads T.s.heap ua da as → Reads T.s.heap ub db bs → SeqAt.shaped da = true → SeqAt.shaped db = true → A.units + 64 < cLine → Q (.bool (f (PyData.eqv da db))) T.s → WP X A (compareOp op ua ub) Q E T) (k : Q (.bool (f c)) T.s) : WP X A (compareOp op ua ub) Q E T :=
  iK he fun ho he => andK ho fun o1 o2 => by
    have la := ha.lk o1
    have lb := hb.lk o2
    rw [e₁] at la
    rw [e₂] at lb
    obtain ⟨as, ra⟩ := la.reads
    obtain ⟨bs, rb⟩ := lb.reads
    exact rule ra rb la.shaped lb.shaped (Nat.lt_of_le_of_lt (Nat.le_trans (Nat.add_le_add_right (Nat.le_add_right _ (8 * n)) 64) (Nat.add_le_add_left (by decide) _)) hA.u) (by rw [eqv_eqO hI he]; exact k)
theorem numD_k {d : D} {q : Bool × Int} {C : D → Prop} (h : numD d = some q) (k : C (mkN q)) : C d := by
  cases d <;> first | exact nK h | (cases h; exact k)
theorem cmpN_snd (hI : 2 ≤ I.gap) {p q : Bool × Int} {t t' : Tok} (h : cmpN op p q = some c) (k : Q (.bool c) s) : wpAny (model prog w) A (compareOp op (.int (I.f p.1 p.2) t) (.int (I.f q.1 q.2) t')) Q E s :=
  iK h fun hc h => by
    rw [← beq_iff_eq.mp hc]
    cases op with
    | Lt => exact lt_int (by rw [decide_eq_decide.mpr (Iota.lt_iff hI)]; exact sQ (C := fun c => Q (.bool c) s) h k)
    | LtE => exact le_int (by rw [decide_eq_decide.mpr (Iota.le_iff hI)]; exact sQ (C := fun c => Q (.bool c) s) h k)
    | Gt => exact gt_int (by rw [decide_eq_decide.mpr (Iota.lt_iff hI)]; exact sQ (C := fun c => Q (.bool c) s) h k)
    | GtE => exact ge_int (by rw [decide_eq_decide.mpr (Iota.le_iff hI)]; exact sQ (C := fun c => Q (.bool c) s) h k)
    | _ => exact nK h
theorem ord_snd (hI : 2 ≤ X.I.gap) {x y : D} {ua ub : Value} {T₁ T₂ : Sm} (ha : RepD X.I T₁ x ua) (hb : RepD X.I T₂ y ub) (he : ((numD x).bind fun p => (numD y).bind fun q => cmpN op p q) = some c) (k : Q (.bool c) T.s) : WP X A (compareOp op ua ub) Q E T :=
  bK he fun p hp he => bK he fun q hq he => numD_k (C := fun x => RepD X.I T₁ x ua → WP X A (compareOp op ua ub) Q E T) hp (fun ha => numD_k (C := fun y => RepD X.I T₂ y ub → WP X A (compareOp op ua ub) Q E T) hq (fun hb =>
    RepD.num_k (P := fun ua => WP X A (compareOp op ua ub) Q E T) ha fun t => RepD.num_k (P := fun ub => WP X A (compareOp op _ ub) Q E T) hb fun t' => cmpN_snd hI he k) hb) ha
theorem cmp_snd (H : Top X) {a b : R} {ua ub : Value} (hA : AOk A n) (m : Mid X σ T) (ha : RR X F T' T a ua) (hb : RR X F T'' T b ub) (he : cmpR op σ a b = some c) (k : Q (.bool c) T.s) : WP X A (compareOp op ua ub) Q E T :=
  bK he fun x hx he => bK he fun y hy he => dat_k (thaw_rr m ha) hx fun T₁ e₁ ha => dat_k (thaw_rr m hb) hy fun T₂ e₂ hb => by
    cases op with
    | Eq => exact eqG_snd H.gap hA e₁ e₂ ha hb he id (fun ra rb sa sb h k => SeqAt.compareEq_shaped ra rb sa sb h k) k
    | NotEq => exact mQ (C := fun c => Q (.bool c) T.s) he k fun c' he k => eqG_snd H.gap hA e₁ e₂ ha hb he not (fun ra rb sa sb h k => SeqAt.compareNe_shaped ra rb sa sb h k) k
    | _ => exact ord_snd H.gap ha hb he k
theorem noSys (H : Top X) (i : Mid X σ T) (ha : T.M.W a) : (a == sysModules) = false := by
  cases h : a == sysModules with
  | false => rfl
  | true => exact absurd ha (beq_iff_eq.mp h ▸ i.fw _ (i.base _ H.sysm))
theorem DctAt.nosys {j : Nat} (H : Top X) (i : Mid X σ T) (D : DctAt X T j a b es kvs) : (a == sysModules) = false := noSys H i (Mm.W_of D.gp (List.mem_singleton_self a))
theorem in_snd (H : Top X) {a b : R} {ua ub : Value} (i : Inv X F st T) (ha : RR X F T' T a ua) (hb : RR X F T'' T b ub) (he : isIn st.store a b = some c) (f : Bool → Bool)
    (rule : ∀ {k : Int} {d : Addr} {key : Value} {g : Int → Option Value}, (intKind X.prog X.w).is k key = true → (d == sysModules) = false → T.s.heap.MapOf (intKind X.prog X.w) d g → Q (.bool (f (g k).isSome)) { T.s with toks := T.s.toks + 1 } → WP X A (compareOp op key (.ref d)) Q E T)
    (k : ∀ T', Aft X F T st T' → Q (.bool (f c)) T'.s) : WP X A (compareOp op ua ub) Q E T :=
  bK he fun d hd he => bK he fun q hq he => iK he fun ho he => ha.num_k (P := fun ua => WP X A (compareOp op ua ub) Q E T) hq fun t => dct_k (C := fun ub => WP X A (compareOp op _ ub) Q E T) i.mid hb hd fun j a kvs D =>
    rule (intKind_is X.prog X.w _ t) (D.nosys H i.mid) D.obj.mapOf (by show Q (.bool (f (valueAt kvs _).isSome)) _; rw [D.rep.isSome H.gap ho]; exact sQ (C := fun c => Q (.bool (f c)) _) he (k _ (.tok i _)))
theorem isNone_snd (hr : RR X F T' T r u) : plainIs u .none = true ∧ (u == .none) = isNone r := by
  have ref : ∀ a : Addr, plainIs (.ref a) .none = true ∧ (Value.ref a == .none) = false := fun a => ⟨rfl, beq_eq_false_iff_ne.mpr nofun⟩
  cases r with
  | fresh l => obtain ⟨a, us, rfl, _⟩ := hr; exact ref a
  | val v =>
    cases v with
    | loc k => obtain ⟨a, _, rfl⟩ := hr; exact ref a
    | tup l => obtain ⟨a, _, rfl, _⟩ := hr; exact ref a
    | d x =>
      cases x with
      | none => cases hr; exact ⟨rfl, beq_self_eq_true _⟩
      | bool b => cases hr; exact ⟨rfl, beq_eq_false_iff_ne.mpr nofun⟩
      | int b => obtain ⟨t, rfl⟩ := hr; exact ⟨rfl, beq_eq_false_iff_ne.mpr nofun⟩
      | key b => obtain ⟨t, rfl⟩ := hr; exact ⟨rfl, beq_eq_false_iff_ne.mpr nofun⟩
      | raw b _ => obtain ⟨t, rfl⟩ := hr; exact ⟨rfl, beq_eq_false_iff_ne.mpr nofun⟩
      | str b => obtain ⟨t, rfl, _⟩ := hr; exact ⟨rfl, beq_eq_false_iff_ne.mpr nofun⟩
      | tup b => obtain ⟨a, _, rfl, _⟩ := hr; exact ref a
      | lst b => obtain ⟨a, _, rfl, _⟩ := hr; exact ref a
theorem All2.empty {P : V → Value → Prop} (h : All2 P l us) : us.toArray.isEmpty = l.isEmpty := by
  cases l with
  | nil => cases h; rfl
  | cons x l => obtain ⟨u, ws, rfl, _⟩ := h; rfl
theorem truth_snd (i : Inv X F st T) (hr : RR X F T' T r u) (he : truth st.store r = some c) (k : ∀ T', Aft X F T st T' → QB c T'.s) : WP X A (truthy u) QB E T :=
  oK he (fun l hl he => sQ (C := fun c => (∀ T', Aft X F T st T' → QB c T'.s) → WP X A (truthy u) QB E T) he.symm (fun k => seq_k (C := fun u => WP X A (truthy u) QB E T) i.mid hr hl fun ty a us hty ⟨m, o⟩ r z => by
      have hfit : ((us.toArray.size : Nat) : Int) < 2 ^ 63 := Int.lt_of_le_of_lt (Int.ofNat_le.mpr (show us.length ≤ lim from r.length ▸ z)) lim_lt63
      cases hty with
      | inl e => cases e; exact wpAny_truthy_list ⟨_, o, rfl, m, rfl⟩ hfit (by rw [r.empty]; exact k _ (.tok i _))
      | inr e => cases e; exact truthy_tuple ⟨_, o, rfl, m, rfl⟩ hfit (by rw [r.empty]; exact k _ (.tok i _))) k)
    fun _ he => bK he fun d hd he => by
      cases r with
      | fresh _ => exact nK hd
      | val v =>
        refine datV_k (P := fun v => RepV X.I T v u → WP X A (truthy u) QB E T) hd (fun hr => ?_) hr
        cases d with
        | none => cases hr; exact truthy_none (sQ (C := fun c => QB c T.s) he (k T (.refl i)))
        | bool b => cases hr; exact wpAny_truthy_bool (sQ (C := fun c => QB c T.s) he (k T (.refl i)))
        | _ => exact nK he
theorem blt_name (H : Top X) {x : Str} {v : Value} {pos : Pos} (hb : isBlt X.G F.fn x = true) (hv : bltVal.lookup x = some v) (i : Inv X F st T) (k : Q v T.s) : WP X A (eval (.Name x pos) F.env) Q E T :=
  andK hb fun hb h4 => andK hb fun hb h3 => andK hb fun h1 h2 => by
    have g := H.blt x v hv (Option.isNone_iff_eq_none.mp h2) (Option.isNone_iff_eq_none.mp h3) (of_decide_eq_false (Bool.not_eq_true' _ |>.mp h4))
    have h1 := beq_iff_eq.mp h1
    exact Name_function_global i.frm.kind (i.frm.glo x h1) (loadGlobal_builtin (mg := X.mg) (mb := X.mb) (by rw [i.frm.glb]; exact H.g.keeps i.mid.top) g.1 (by rw [i.frm.blt]; exact H.b.keeps i.mid.top) g.2 k) (ne_name i.frm.dbg.1 h1)
theorem marks_none (H : Snd X o n) {p : R × St} {fn : Fn} (h : o.ev fn e st = some p) : behindInMarks op e = false := by
  cases e with
  | Set es k p => exact nK ((H.set _ _ _ _ _).symm.trans h)
  | _ => rfl
theorem two_snd (H : Snd X o n) {l : PySem.Expr} {pos : Pos} {whole : Sem Value} {p : Bool × St} (f : Bool → Bool) (g : List Cell → R → R → Option Bool) (hA : AOk A n)
    (he : ((o.ev F.fn l st).bind fun p => (o.ev F.fn e p.2).bind fun q => (g q.2.store p.1 q.1).map fun b => (f b, q.2)) = some p) (i : Inv X F st T) (k : KT X F T QB p)
    (rule : ∀ {st : St} {T T' T'' : Sm} {a b : R} {ua ub : Value} {c : Bool} {Q : Value → Shared → Prop}, Inv X F st T → RR X F T' T a ua → RR X F T'' T b ub → g st.store a b = some c → (∀ T', Aft X F T st T' → Q (.bool (f c)) T'.s) → WP X A (compareOp op ua ub) Q E T) :
    WP X A (isTrue (.Compare l [op] [e] pos) F.env whole) QB E T :=
  bK he fun p₁ h1 he => bK he fun p₂ h2 he => wpAny_isTrue_Compare1 (H.ev hA h1 i fun ua T₁ a₁ q₁ => H.ev hA h2 a₁.inv fun ub T₂ a₂ q₂ => mQ he k fun c hc k => rule a₂.inv (q₁.mono a₂) q₂ hc fun T₃ a₃ => wpAny_truthy_bool (k T₃ ((a₁.trans a₂).trans a₃))) (marks_none H h2)
theorem nn_snd (H : Snd X o n) {l : PySem.Expr} {pos : Pos} {whole : Sem Value} {p : Bool × St} (f : Bool → Bool) (hA : AOk A n) (hn : isNo e = true) (he : ((o.ev F.fn l st).map fun p => (f (isNone p.1), p.2)) = some p) (i : Inv X F st T) (k : KT X F T QB p)
    (rule : ∀ {s : Shared} {a : Value} {Q : Value → Shared → Prop}, plainIs a .none = true → Q (.bool (f (a == .none))) s → wpAny (model X.prog X.w) A (compareOp op a .none) Q E s) : WP X A (isTrue (.Compare l [op] [e] pos) F.env whole) QB E T :=
  isNo_k (C := fun e => WP X A (isTrue (.Compare l [op] [e] pos) F.env whole) QB E T) hn fun c q => mQ he k fun p₁ h1 k => wpAny_isTrue_Compare1 (H.ev hA h1 i fun ua T₁ a₁ q₁ => wpAny_Constant_none (rule (isNone_snd q₁).1 (wpAny_truthy_bool (by rw [(isNone_snd q₁).2]; exact k T₁ a₁)))) rfl
theorem cmp2_snd (H : Snd X o n) (HT : Top X) {l : PySem.Expr} {pos : Pos} {whole : Sem Value} {p : Bool × St} (hA : AOk A n) (he : cmp2 o F.fn l op e st = some p) (i : Inv X F st T) (k : KT X F T QB p) : WP X A (isTrue (.Compare l [op] [e] pos) F.env whole) QB E T := by
  cases op with
  | Is => exact iK he fun hn he => nn_snd H id hA hn he i k fun hp h => wpAny_is_plain hp h
  | IsNot => exact iK he fun hn he => nn_snd H not hA hn he i k fun hp h => wpAny_isNot_plain hp h
  | In => exact two_snd H id isIn hA he i k fun i a b h k => in_snd HT i a b h id (fun h1 h2 h3 h4 => wpAny_in_of h1 h2 h3 h4) k
  | NotIn => exact two_snd H not isIn hA he i k fun i a b h k => in_snd HT i a b h not (fun h1 h2 h3 h4 => wpAny_notIn_of h1 h2 h3 h4) k
  | _ => exact two_snd H id (cmpR _) hA he i k fun i a b h k => cmp_snd HT hA i.mid a b h (k _ (.refl i))
theorem allTt_snd (H : Snd X o n) (hA : AOk A n) {bop : BoolOp} {vs : List PySem.Expr} : ∀ {st : St} {T : Sm} {p : Bool × St}, allTt o F.fn bop vs st = some p → Inv X F st T → KT X F T QB p → WP X A (allTrue bop vs F.env) QB E T := by
  induction vs with
  | nil =>
    intro st T p he i k
    have k' := sQ he k T (.refl i)
    cases bop with
    | And => exact wpAny_allTrue_And_nil k'
    | Or => exact wpAny_allTrue_Or_nil k'
  | cons t vs ih =>
    intro st T p he i k
    refine bK he fun q h1 he => ?_
    cases bop with
    | And =>
      refine wpAny_allTrue_And_cons (H.tt hA h1 i fun T₁ a₁ => ?_)
      obtain ⟨b, st₁⟩ := q
      cases b with
      | true => rw [if_pos rfl]; exact ih he a₁.inv (k.then a₁)
      | false => rw [if_neg nofun]; exact sQ he k T₁ a₁
    | Or =>
      refine wpAny_allTrue_Or_cons (H.tt hA h1 i fun T₁ a₁ => ?_)
      obtain ⟨b, st₁⟩ := q
      cases b with
      | false => rw [if_neg nofun]; exact ih he a₁.inv (k.then a₁)
      | true => rw [if_pos rfl]; exact sQ he k T₁ a₁
theorem marks_C (h : isC op = true) (e : PySem.Expr) : behindInMarks op e = false := by
  cases e with
  | Set es k p => cases op <;> first | (cases h; done) | (show ((k == 0) && false && _) = false; rw [Bool.and_false]; rfl)
  | _ => rfl
theorem chain_snd (H : Snd X o n) (HT : Top X) {l : PySem.Expr} {x y : CmpOp × PySem.Expr} {pos : Pos} {p : Bool × St} (hA : AOk A n) (he : chA o F.fn l x y st = some p) (i : Inv X F st T) (k : KT X F T QB p) :
    WP X A (isTrue (.Compare l [x.1, y.1] [x.2, y.2] pos) F.env (eval (.Compare l [x.1, y.1] [x.2, y.2] pos) F.env)) QB E T :=
  iK he fun hop he => isTrue_chain (evNumB H hA i he fun a t T₁ a₁ he => test_link (evNumB H hA a₁.inv he fun b u T₂ a₂ he => bK he fun c1 hc1 he => cmpN_snd HT.gap hc1 (wpAny_truthy_bool (by
    cases c1 with
    | true => exact test_last (evNumB H hA a₂.inv he fun d v T₃ a₃ he => mQ he k fun c hc k => cmpN_snd HT.gap hc (wpAny_truthy_bool (k _ ((a₁.trans a₂).trans a₃))))
    | false => exact sQ he k _ (a₁.trans a₂))))) (marks_C hop y.2)
theorem val_snd (H : Snd X o n) {p : Bool × St} (hA : AOk A n) (i : Inv X F st T) (k : KT X F T QB p) (he : ttV o F.fn e st = some p) (h : isTrue e F.env (eval e F.env) = (do let v ← eval e F.env; standAt e.pos; holding [v] (truthy v))) : WP X A (isTrue e F.env (eval e F.env)) QB E T :=
  isTrue_plain (evB H hA i he fun p₁ u T₁ a₁ q₁ he => mQ he k fun b hb k => truth_snd a₁.inv q₁ hb fun T₂ a₂ => k T₂ (a₁.trans a₂)) h
theorem tt_snd (H : Snd X o n) (HT : Top X) {p : Bool × St} (hA : AOk A n) (he : ttStep o F.fn e st = some p) (i : Inv X F st T) (k : KT X F T QB p) : WP X A (isTrue e F.env (eval e F.env)) QB E T := by
  have val := val_snd (e := e) (E := E) H hA i k
  cases e with
  | UnaryOp op x q =>
    cases op with
    | Not => exact mQ he k fun p₁ h1 k => wpAny_isTrue_Not (H.tt hA h1 i k)
    | _ => exact val he rfl
  | BoolOp op vs q => exact wpAny_isTrue_BoolOp (allTt_snd H hA he i k)
  | Compare l ops rs q =>
    refine oK he (fun op ho he => bK he fun r hr he => ?_) fun _ he => bK he fun x hx he => bK he fun y hy he => ?_
    · exact one_k (C := fun ops => WP X A (isTrue (.Compare l ops rs q) F.env (eval (.Compare l ops rs q) F.env)) QB E T) ho (one_k (C := fun rs => WP X A (isTrue (.Compare l [op] rs q) F.env (eval (.Compare l [op] rs q) F.env)) QB E T) hr (cmp2_snd H HT hA he i k))
    · exact pair_k (C := fun ops => WP X A (isTrue (.Compare l ops rs q) F.env (eval (.Compare l ops rs q) F.env)) QB E T) hx (pair_k (C := fun rs => WP X A (isTrue (.Compare l [x.1, x.2] rs q) F.env (eval (.Compare l [x.1, x.2] rs q) F.env)) QB E T) hy (chain_snd (x := (x.1, y.1)) (y := (x.2, y.2)) H HT hA he i k))
  | IfExp a b c q => exact nK he
  | _ => exact val he rfl
end
open PySem PyProof.Rows PySem.Calls PySem.W
section
variable {α β : Type} (f : Nat → Nat → Bool) (n : Nat)
noncomputable def KW : KasT α → (α → Prop) → Prop
  | .ret a, Q => Q a
  | .ask i j k, Q => i < n ∧ j < n ∧ i ≠ j ∧ KW (k (f i j)) Q
end
section
variable {α β : Type} {f : Nat → Nat → Bool} {n : Nat}
theorem KW.mono {Q Q' : α → Prop} (h : ∀ a, Q a → Q' a) : ∀ {t : KasT α}, KW f n t Q → KW f n t Q'
  | .ret a, x => h a x
  | .ask i j k, x => ⟨x.1, x.2.1, x.2.2.1, KW.mono h x.2.2.2⟩
theorem KW.bind {g : α → KasT β} {Q : β → Prop} : ∀ {t : KasT α}, KW f n t (fun a => KW f n (g a) Q) → KW f n (t.bind g) Q
  | .ret a, x => x
  | .ask i j k, x => ⟨x.1, x.2.1, x.2.2.1, KW.bind x.2.2.2⟩
theorem KW.wp {cmp : Nat → Nat → (Bool → Shared → Prop) → Shared → Prop} {s : Shared} (hc : ∀ i j C, i < n → j < n → i ≠ j → C (f i j) s → cmp i j C s) {Q : α → Prop} {R : α → Shared → Prop} (h : ∀ a, Q a → R a s) : ∀ {t : KasT α}, KW f n t Q → t.kasWp cmp R s
  | .ret a, x => h a x
  | .ask i j k, x => hc i j _ x.1 x.2.1 x.2.2.1 (KW.wp hc h x.2.2.2)
end
section
variable {n : Nat} {key : Nat → Int}
noncomputable def POk (n : Nat) (p : Array Nat) : Prop := p.size = n ∧ p.Perm (List.toArray (List.range n))
theorem POk.lt {p : Array Nat} (h : POk n p) {i : Nat} (hi : i < n) : p.getD i 0 < n := by
  have hm : p.getD i 0 ∈ p.toList := by
    have hi' : i < p.size := by rw [h.1]; exact hi
    simp [Array.getD, hi']
  have := (Array.perm_iff_toList_perm.mp h.2).mem_iff.mp hm
  simpa using this
theorem POk.inj {p : Array Nat} (h : POk n p) {i j : Nat} (hi : i < n) (hj : j < n) (e : p.getD i 0 = p.getD j 0) : i = j := by
  have nd : p.toList.Nodup := (Array.perm_iff_toList_perm.mp h.2).symm.nodup (by simpa using List.nodup_range)
  have hi' : i < p.toList.length := by rw [Array.length_toList, h.1]; exact hi
  have hj' : j < p.toList.length := by rw [Array.length_toList, h.1]; exact hj
  have e' : p.toList[i] = p.toList[j] := by
    have hi2 : i < p.size := by rw [h.1]; exact hi
    have hj2 : j < p.size := by rw [h.1]; exact hj
    simpa [Array.getD, hi2, hj2] using e
  have pw := List.pairwise_iff_getElem.mp nd
  rcases Nat.lt_trichotomy i j with h | h | h
  · exact absurd e' (pw i j hi' hj' h)
  · exact h
  · exact absurd e'.symm (pw j i hj' hi' h)
theorem POk.ne {p : Array Nat} (h : POk n p) {i j : Nat} (hi : i < n) (hj : j < n) (e : i ≠ j) : p.getD i 0 ≠ p.getD j 0 := fun q => e (h.inj hi hj q)
noncomputable def Asc (key : Nat → Int) (p : Array Nat) (m : Nat) : Prop := ∀ i j, i < j → j < m → key (p.getD i 0) < key (p.getD j 0)
noncomputable def Dsc (key : Nat → Int) (p : Array Nat) (m : Nat) : Prop := ∀ i j, i < j → j < m → key (p.getD j 0) < key (p.getD i 0)
variable (hinj : ∀ i j, i < n → j < n → key i = key j → i = j)
include hinj
omit hinj in
theorem chain_step {R : Nat → Nat → Prop} (tr : ∀ {a b c}, R a b → R b c → R a c) {m : Nat} (h1 : 1 ≤ m) (ha : ∀ i j, i < j → j < m → R i j) (hk : R (m - 1) m) : ∀ i j, i < j → j < m + 1 → R i j := fun i j hij hj => by
  by_cases hjm : j = m
  · subst hjm
    by_cases hi : i = j - 1
    · exact hi ▸ hk
    · exact tr (ha i (j - 1) (Nat.lt_of_le_of_ne (Nat.le_sub_one_of_lt hij) hi) (Nat.sub_lt h1 Nat.one_pos)) hk
  · exact ha i j hij (Nat.lt_of_le_of_ne (Nat.le_of_lt_succ hj) hjm)
theorem up_of {p : Array Nat} (hp : POk n p) {i j : Nat} (hi : i < n) (hj : j < n) (hij : i ≠ j) (hk : ¬ key (p.getD i 0) < key (p.getD j 0)) : key (p.getD j 0) < key (p.getD i 0) := Int.lt_iff_le_and_ne.mpr ⟨Int.not_lt.mp hk,  fun e => hij (hp.inj hj hi (hinj _ _ (hp.lt hj) (hp.lt hi) e)).symm⟩
theorem kw_asc {p : Array Nat} (hp : POk n p) : ∀ (c m : Nat), 1 ≤ m → m + c ≤ n → Asc key p m → KW (fun i j => decide (key i < key j)) n (kas_asc p c m) (fun r => m ≤ r ∧ r ≤ m + c ∧ Asc key p r ∧ (r < m + c → key (p.getD r 0) < key (p.getD (r - 1) 0)))
  | 0, m, _, _, ha => ⟨Nat.le_refl _, Nat.le_refl _, ha, fun h => absurd h (Nat.lt_irrefl _)⟩
  | c + 1, m, h1, hm, ha => by
    have hmn : m < n := Nat.lt_of_lt_of_le (Nat.lt_add_of_pos_right (Nat.succ_pos c)) hm
    have hlt : m - 1 < m := Nat.sub_lt h1 Nat.one_pos
    have hm1 := Nat.lt_trans hlt hmn
    have e := Nat.succ_add_eq_add_succ m c
    refine ⟨hp.lt hmn, hp.lt hm1, hp.ne hmn hm1 (Nat.ne_of_gt hlt), ?_⟩
    dsimp only
    by_cases hk : key (p.getD m 0) < key (p.getD (m - 1) 0)
    · rw [decide_eq_true hk, if_pos rfl]
      exact ⟨Nat.le_refl _, Nat.le_add_right _ _, ha, fun _ => hk⟩
    · rw [decide_eq_false hk, if_neg Bool.false_ne_true]
      exact (kw_asc hp c (m + 1) (Nat.succ_pos _) (Nat.le_trans (Nat.le_of_eq e) hm) (chain_step (R := fun i j => key (p.getD i 0) < key (p.getD j 0)) Int.lt_trans h1 ha (up_of hinj hp hmn hm1 (Nat.ne_of_gt hlt) hk))).mono fun r hr => ⟨Nat.le_of_succ_le hr.1, Nat.le_trans hr.2.1 (Nat.le_of_eq e), hr.2.2.1, fun h => hr.2.2.2 (Nat.lt_of_lt_of_le h (Nat.le_of_eq e.symm))⟩
theorem kw_desc {p : Array Nat} (hp : POk n p) : ∀ (c m : Nat), 1 ≤ m → m + c ≤ n → Dsc key p m → KW (fun i j => decide (key i < key j)) n (kas_desc c p m 0) (fun r => r.1 = p ∧ r.2.2 = 0 ∧ m ≤ r.2.1 ∧ r.2.1 ≤ n ∧ Dsc key p r.2.1)
  | 0, m, _, hm, ha => ⟨rfl, rfl, Nat.le_refl _, hm, ha⟩
  | c + 1, m, h1, hm, ha => by
    have hmn : m < n := Nat.lt_of_lt_of_le (Nat.lt_add_of_pos_right (Nat.succ_pos c)) hm
    have hlt : m - 1 < m := Nat.sub_lt h1 Nat.one_pos
    have hm1 := Nat.lt_trans hlt hmn
    refine ⟨hp.lt hmn, hp.lt hm1, hp.ne hmn hm1 (Nat.ne_of_gt hlt), ?_⟩
    dsimp only
    by_cases hk : key (p.getD m 0) < key (p.getD (m - 1) 0)
    · rw [decide_eq_true hk, if_pos rfl, if_neg (Nat.lt_irrefl 0)]
      exact (kw_desc hp c (m + 1) (Nat.succ_pos _) (Nat.le_trans (Nat.le_of_eq (Nat.succ_add_eq_add_succ m c)) hm) (chain_step (R := fun i j => key (p.getD j 0) < key (p.getD i 0)) (fun a b => Int.lt_trans b a) h1 ha hk)).mono fun r hr => ⟨hr.1, hr.2.1, Nat.le_of_succ_le hr.2.2.1, hr.2.2.2.1, hr.2.2.2.2⟩
    · rw [decide_eq_false hk, if_neg Bool.false_ne_true]
      refine ⟨hp.lt hm1, hp.lt hmn, hp.ne hm1 hmn (Nat.ne_of_lt hlt), ?_⟩
      dsimp only
      rw [decide_eq_true (up_of hinj hp hmn hm1 (Nat.ne_of_gt hlt) hk), if_pos rfl]
      exact ⟨rfl, rfl, Nat.le_refl _, Nat.le_of_lt hmn, ha⟩
omit hinj in
theorem getD_of {p q : Array Nat} {i j : Nat} (h : p[i]? = q[j]?) : p.getD i 0 = q.getD j 0 := by
  rw [Array.getD_eq_getD_getElem?, Array.getD_eq_getD_getElem?, h]
omit hinj in
theorem rev_ok {p : Array Nat} (hp : POk n p) (m : Nat) : POk n (kas_rev p 0 m) := ⟨by unfold kas_rev; rw [mirror_size]; exact hp.1, by unfold kas_rev; exact (mirror_perm _ _ _ _).trans hp.2⟩
omit hinj in
theorem rev_asc {p : Array Nat} (hp : POk n p) {m : Nat} (hm : m ≤ n) (hd : Dsc key p m) : Asc key (kas_rev p 0 m) m := by
  have e : ∀ k, k < m → (kas_rev p 0 m).getD k 0 = p.getD (m - 1 - k) 0 := fun k hk => by
    refine getD_of ?_
    unfold kas_rev
    rw [getElem?_mirror_all (by rw [hp.1]; exact hm), if_pos ⟨Nat.zero_le _, hk⟩, Nat.zero_add]
  intro i j hij hj
  rw [e i (Nat.lt_trans hij hj), e j hj]
  exact hd _ _ (Nat.sub_lt_sub_left (Nat.lt_sub_of_add_lt (Nat.lt_of_le_of_lt hij hj)) hij) (Nat.lt_of_le_of_lt (Nat.sub_le _ _) (Nat.sub_lt (Nat.zero_lt_of_lt hj) Nat.one_pos))
theorem kw_tail {p : Array Nat} (hp : POk n p) {m : Nat} (h1 : 1 ≤ m) (hm : m ≤ n) (hd : Dsc key p m) : KW (fun i j => decide (key i < key j)) n (kas_tail3 m n p) (fun r => POk n r.2 ∧ 1 ≤ r.1 ∧ r.1 ≤ n ∧ Asc key r.2 r.1) := by
  unfold kas_tail3
  refine KW.bind ((kw_asc hinj (rev_ok hp m) (n - m) m h1 (Nat.le_of_eq (Nat.add_sub_cancel' hm)) (rev_asc hp hm hd)).mono fun r hr => ?_)
  exact ⟨rev_ok hp m, Nat.le_trans h1 hr.1, Nat.add_sub_cancel' hm ▸ hr.2.1, hr.2.2.1⟩
theorem kw_count (hn : 2 ≤ n) {p : Array Nat} (hp : POk n p) : KW (fun i j => decide (key i < key j)) n (kas_count n p) (fun r => POk n r.2 ∧ 1 ≤ r.1 ∧ r.1 ≤ n ∧ Asc key r.2 r.1) := by
  unfold kas_count
  refine KW.bind ((kw_asc hinj hp (n - 1) 1 (Nat.le_refl _) (Nat.le_of_eq (Nat.add_sub_cancel' (Nat.le_of_succ_le hn))) (fun i j hij hj => absurd (Nat.lt_of_le_of_lt (Nat.zero_le _) hij) (Nat.not_lt.mpr (Nat.le_of_lt_succ hj)))).mono fun m hm => ?_)
  obtain ⟨h1, h2, h3, h4⟩ := hm
  rw [Nat.add_sub_cancel' (Nat.le_of_succ_le hn)] at h2 h4
  by_cases hmn : m = n
  · rw [if_pos (by simp [hmn])]
    exact ⟨hp, h1, h2, h3⟩
  · rw [if_neg (by simp [hmn])]
    by_cases hm1 : m > 1
    · rw [if_pos hm1]
      have hlt : m - 1 < m := Nat.sub_lt h1 Nat.one_pos
      have hl2 := Nat.lt_of_lt_of_le hlt h2
      have hp0 : 0 < m - 1 := Nat.sub_pos_of_lt hm1
      have hn0 := Nat.zero_lt_of_lt hl2
      have := h3 0 (m - 1) hp0 hlt
      refine ⟨hp.lt hn0, hp.lt hl2, hp.ne hn0 hl2 (Nat.ne_of_lt hp0), ?_⟩
      dsimp only
      rw [decide_eq_true this, if_pos rfl]
      exact ⟨hp, h1, h2, h3⟩
    · rw [if_neg hm1]
      have hm' : m = 1 := Nat.le_antisymm (Nat.le_of_not_lt hm1) h1
      subst hm'
      have h5 := h4 hn
      unfold kas_descPart
      refine KW.bind ((kw_desc hinj hp (n - (1 + 1)) (1 + 1) (by decide) (Nat.le_of_eq (Nat.add_sub_cancel' hn)) (fun i j hij hj => ?_)).mono fun r hr => ?_)
      · have hi0 : i = 0 := by omega
        have hj1 : j = 1 := by omega
        subst hi0 hj1
        exact h5
      · obtain ⟨q1, q2, q3, q4, q5⟩ := hr
        rw [if_neg (by omega), q1]
        exact kw_tail hinj hp (Nat.le_trans (by decide) q3) q4 q5
theorem kw_place {p : Array Nat} (hp : POk n p) {k : Nat} (hk : k < n) (ha : Asc key p k) : ∀ (c l r : Nat), l ≤ r → r ≤ k → r - l ≤ c → (∀ i, i < l → key (p.getD i 0) < key (p.getD k 0)) → (∀ i, r ≤ i → i < k → key (p.getD k 0) < key (p.getD i 0)) →
    KW (fun i j => decide (key i < key j)) n (kas_place p k c l r) (fun m => m ≤ k ∧ (∀ i, i < m → key (p.getD i 0) < key (p.getD k 0)) ∧ ∀ i, m ≤ i → i < k → key (p.getD k 0) < key (p.getD i 0))
  | 0, l, r, h1, h2, h3, ha1, ha2 => ⟨Nat.le_trans h1 h2, ha1, fun i hi hik => ha2 i (Nat.le_trans (Nat.le_of_sub_eq_zero (Nat.le_zero.mp h3)) hi) hik⟩
  | c + 1, l, r, h1, h2, h3, ha1, ha2 => by
    unfold kas_place
    by_cases hlr : l ≥ r
    · rw [if_pos hlr]
      exact ⟨Nat.le_trans h1 h2, ha1, fun i hi hik => ha2 i (Nat.le_trans hlr hi) hik⟩
    · rw [if_neg hlr]
      obtain ⟨q, hq, a1, a2⟩ : ∃ q, (l + r) / 2 = q ∧ l ≤ q ∧ q < r := ⟨_, rfl, by omega, by omega⟩
      rw [hq]
      have hmk : q < k := Nat.lt_of_lt_of_le a2 h2
      have hqn := Nat.lt_trans hmk hk
      refine ⟨hp.lt hk, hp.lt hqn, hp.ne hk hqn (Nat.ne_of_gt hmk), ?_⟩
      dsimp only
      by_cases hc : key (p.getD k 0) < key (p.getD q 0)
      · rw [decide_eq_true hc, if_pos rfl]
        refine kw_place hp hk ha c l q a1 (Nat.le_of_lt hmk) (Nat.le_of_lt_succ (Nat.lt_of_lt_of_le (Nat.sub_lt_sub_right a1 a2) h3)) ha1 fun i hi hik => ?_
        by_cases he : i = q
        · exact he ▸ hc
        · exact Int.lt_trans hc (ha q i (Nat.lt_of_le_of_ne hi fun e => he e.symm) hik)
      · rw [decide_eq_false hc, if_neg Bool.false_ne_true]
        have hu := up_of hinj hp hk hqn (Nat.ne_of_gt hmk) hc
        refine kw_place hp hk ha c (q + 1) r a2 h2 (Nat.le_of_lt_succ (Nat.lt_of_lt_of_le (Nat.sub_lt_sub_left (Nat.lt_of_le_of_lt a1 a2) (Nat.lt_succ_of_le a1)) h3)) (fun i hi => ?_) ha2
        by_cases he : i = q
        · exact he ▸ hu
        · exact Int.lt_trans (ha i q (Nat.lt_of_le_of_ne (Nat.le_of_lt_succ hi) he) hmk) hu
theorem kw_bin : ∀ (c : Nat) {p : Array Nat} (hp : POk n p) (k : Nat), 1 ≤ k → k + c = n → Asc key p k → KW (fun i j => decide (key i < key j)) n (kas_bin c p k) (fun q => POk n q ∧ Asc key q n)
  | 0, p, hp, k, h1, hk, ha => ⟨hp, by rw [← hk]; exact ha⟩
  | c + 1, p, hp, k, h1, hk, ha => by
    unfold kas_bin
    have hkn : k < n := hk ▸ Nat.lt_add_of_pos_right (Nat.succ_pos c)
    refine KW.bind ((kw_place hinj hp hkn ha k 0 k (Nat.zero_le _) (Nat.le_refl _) (Nat.le_refl _) (fun i hi => absurd hi (Nat.not_lt_zero _)) (fun i h1 h2 => absurd h2 (Nat.not_lt.mpr h1))).mono fun m hm => ?_)
    obtain ⟨q1, q2, q3⟩ := hm
    have hp' : POk n (bubble p k (k - m)) := ⟨by rw [bubble_size]; exact hp.1, (bubble_perm _ _ _).trans hp.2⟩
    refine kw_bin c hp' (k + 1) (Nat.succ_pos _) ((Nat.succ_add_eq_add_succ k c).trans hk) ?_
    have e : ∀ x, x < k + 1 → (bubble p k (k - m)).getD x 0 = if x = m then p.getD k 0 else if m < x then p.getD (x - 1) 0 else p.getD x 0 := fun x hx => by
      have := getElem?_bubble (xs := p) (src := k) (by rw [hp.1]; exact hkn) (k - m) (Nat.sub_le _ _) x
      rw [Nat.sub_sub_self q1] at this
      by_cases h1 : x = m
      · rw [if_pos h1] at this ⊢
        exact getD_of this
      · rw [if_neg h1] at this ⊢
        by_cases h2 : m < x
        · rw [if_pos ⟨h2, Nat.le_of_lt_succ hx⟩] at this
          rw [if_pos h2]
          exact getD_of this
        · rw [if_neg fun h => h2 h.1] at this
          rw [if_neg h2]
          exact getD_of this
    intro i j hij hj
    rw [e i (Nat.lt_trans hij hj), e j hj]
    have hj1 : ∀ {x}, x < j → x ≤ j - 1 := Nat.le_sub_one_of_lt
    have hjk : ∀ {x}, x < j → j - 1 < k := fun h => Nat.lt_of_lt_of_le (Nat.sub_lt (Nat.zero_lt_of_lt h) Nat.one_pos) (Nat.le_of_lt_succ hj)
    by_cases hi : i = m
    · subst hi
      rw [if_pos rfl, if_neg (Nat.ne_of_gt hij), if_pos hij]
      exact q3 (j - 1) (hj1 hij) (hjk hij)
    · rw [if_neg hi]
      by_cases hj' : j = m
      · subst hj'
        rw [if_neg (Nat.lt_asymm hij), if_pos rfl]
        exact q2 i hij
      · rw [if_neg hj']
        by_cases hmi : m < i
        · rw [if_pos hmi, if_pos (Nat.lt_trans hmi hij)]
          exact ha (i - 1) (j - 1) (Nat.lt_of_lt_of_le (Nat.sub_lt (Nat.zero_lt_of_lt hmi) Nat.one_pos) (hj1 hij)) (hjk hij)
        · rw [if_neg hmi]
          by_cases hmj : m < j
          · rw [if_pos hmj]
            exact ha i (j - 1) (Nat.lt_of_lt_of_le (Nat.lt_of_le_of_ne (Nat.le_of_not_lt hmi) hi) (hj1 hmj)) (hjk hmj)
          · rw [if_neg hmj]
            exact ha i j hij (Nat.lt_of_lt_of_le (Nat.lt_of_le_of_ne (Nat.le_of_not_lt hmj) hj') q1)
theorem kw_sort (hn : 2 ≤ n) : KW (fun i j => decide (key i < key j)) n (kas_sort n) (fun q => POk n q ∧ Asc key q n) := by
  unfold kas_sort
  have h0 : POk n (List.toArray (List.range n)) := ⟨by simp, Array.Perm.refl _⟩
  refine KW.bind ((kw_count hinj hn h0).mono fun r hr => ?_)
  obtain ⟨q1, q2, q3, q4⟩ := hr
  by_cases hlt : r.1 < n
  · rw [if_pos hlt]
    rw [Nat.max_eq_left q2]
    exact kw_bin hinj (n - r.1) q1 r.1 q2 (Nat.add_sub_cancel' q3) q4
  · rw [if_neg hlt]
    exact ⟨q1, Nat.le_antisymm q3 (Nat.le_of_not_lt hlt) ▸ q4⟩
end
open PySem PyProof.Rows PySem.Calls PySem.W
section
variable {α : Type} {k : α → Int}
theorem insK_perm (x : α) (l : List α) : (insK k x l).Perm (x :: l) := by
  induction l with
  | nil => exact List.Perm.refl _
  | cons y l ih =>
    unfold insK
    by_cases h : k x ≤ k y
    · rw [if_pos h]
    · rw [if_neg h]; exact (ih.cons y).trans (List.Perm.swap x y l)
theorem srtK_perm (l : List α) : (srtK k l).Perm l := by
  induction l with
  | nil => exact List.Perm.refl _
  | cons x l ih => exact (insK_perm x (srtK k l)).trans (ih.cons x)
theorem insK_sorted (x : α) {l : List α} (h : l.Pairwise (fun a b => k a ≤ k b)) : (insK k x l).Pairwise (fun a b => k a ≤ k b) := by
  induction l with
  | nil => exact List.pairwise_singleton _ _
  | cons y l ih =>
    obtain ⟨h1, h2⟩ := List.pairwise_cons.mp h
    unfold insK
    by_cases hle : k x ≤ k y
    · rw [if_pos hle]
      exact List.pairwise_cons.mpr ⟨fun z hz => (List.mem_cons.mp hz).elim (fun e => e ▸ hle) fun hz => Int.le_trans hle (h1 z hz), h⟩
    · rw [if_neg hle]
      exact List.pairwise_cons.mpr ⟨fun z hz => (List.mem_cons.mp ((insK_perm x l).mem_iff.mp hz)).elim (fun e => e ▸ Int.le_of_lt (Int.not_le.mp hle)) (h1 z), ih h2⟩
theorem srtK_sorted (l : List α) : (srtK k l).Pairwise (fun a b => k a ≤ k b) := by
  induction l with
  | nil => exact List.Pairwise.nil
  | cons x l ih => exact insK_sorted x ih
theorem sorted_unique {a : List α} : ∀ {b : List α}, a.Perm b → a.Pairwise (fun x y => k x ≤ k y) → b.Pairwise (fun x y => k x ≤ k y) → (∀ x ∈ b, ∀ y ∈ b, k x = k y → x = y) → a = b := by
  induction a with
  | nil => exact fun p _ _ _ => List.Perm.nil_eq p
  | cons x a ih =>
    intro b p ha hb hi
    cases b with
    | nil => exact absurd p.length_eq nofun
    | cons y b =>
      have hx : x ∈ y :: b := p.mem_iff.mp List.mem_cons_self
      have e : x = y := hi x hx y List.mem_cons_self (Int.le_antisymm
        ((List.mem_cons.mp (p.mem_iff.mpr List.mem_cons_self)).elim (fun h => Int.le_of_eq (congrArg k h.symm)) fun h => (List.pairwise_cons.mp ha).1 y h)
        ((List.mem_cons.mp hx).elim (fun h => Int.le_of_eq (congrArg k h.symm)) fun h => (List.pairwise_cons.mp hb).1 x h))
      subst e
      exact congrArg (x :: ·) (ih (List.Perm.cons_inv p) (List.pairwise_cons.mp ha).2 (List.pairwise_cons.mp hb).2 fun u hu v hv => hi u (.tail _ hu) v (.tail _ hv))
theorem insK_map {β : Type} (f : β → α) (x : β) (l : List β) : insK k (f x) (l.map f) = (insK (fun y => k (f y)) x l).map f := by
  induction l with
  | nil => rfl
  | cons y l ih =>
    show (if k (f x) ≤ k (f y) then f x :: f y :: l.map f else f y :: insK k (f x) (l.map f)) = (if k (f x) ≤ k (f y) then x :: y :: l else y :: insK _ x l).map f
    by_cases h : k (f x) ≤ k (f y)
    · rw [if_pos h, if_pos h]; rfl
    · rw [if_neg h, if_neg h, ih]; rfl
theorem srtK_map {β : Type} (f : β → α) (l : List β) : srtK k (l.map f) = (srtK (fun y => k (f y)) l).map f := by
  induction l with
  | nil => rfl
  | cons x l ih => rw [List.map_cons, srtK, ih, insK_map]; rfl
end
noncomputable def kd (d : D) : Int := (keyD d).2
theorem nodupI_nodup {l : List Int} (h : nodupI l = true) : l.Nodup := by
  induction l with
  | nil => exact List.nodup_nil
  | cons x l ih =>
    obtain ⟨h1, h2⟩ := Bool.and_eq_true_iff.mp (show (!l.contains x && nodupI l) = true from h)
    exact List.nodup_cons.mpr ⟨fun q => absurd (List.contains_iff_mem.mpr q) (by rw [Bool.not_eq_true']  at h1; rw [h1]; nofun), ih h2⟩
theorem nodup_inj {α : Type} {k : α → Int} {l : List α} (h : (l.map k).Nodup) : ∀ x ∈ l, ∀ y ∈ l, k x = k y → x = y := by
  induction l with
  | nil => exact fun _ h => absurd h List.not_mem_nil
  | cons z l ih =>
    intro x hx y hy e
    obtain ⟨h1, h2⟩ := List.nodup_cons.mp h
    rcases List.mem_cons.mp hx with e1 | q1 <;> rcases List.mem_cons.mp hy with e2 | q2
    · rw [e1, e2]
    · exact absurd (List.mem_map.mpr ⟨y, q2, by rw [← e, e1]⟩) h1
    · exact absurd (List.mem_map.mpr ⟨x, q1, by rw [e, e2]⟩) h1
    · exact ih h2 x q1 y q2 e
theorem nodup_get {α : Type} {k : α → Int} {l : List α} {d : α} (h : (l.map k).Nodup) {i j : Nat} (hi : i < l.length) (hj : j < l.length) (e : k (l.getD i d) = k (l.getD j d)) : i = j := by
  have f : ∀ {i}, (hi : i < l.length) → l.getD i d = l[i] := fun hi => by rw [List.getD_eq_getElem?_getD, List.getElem?_eq_getElem hi]; rfl
  have pw := List.pairwise_iff_getElem.mp h
  have g : ∀ {i j}, i < l.length → j < l.length → i < j → k (l.getD i d) ≠ k (l.getD j d) := fun {i j} hi hj q => by
    have := pw i j (List.length_map k ▸ hi) (List.length_map k ▸ hj) q
    rw [List.getElem_map, List.getElem_map] at this
    rw [f hi, f hj]
    exact this
  exact (Nat.lt_trichotomy i j).elim (fun q => absurd e (g hi hj q)) fun q => q.elim id fun q => absurd e.symm (g hj hi q)
theorem ints_of {ds : List D} (h : ds.all isI = true) : ∃ ns : List Int, ds = ns.map .int := by
  induction ds with
  | nil => exact ⟨[], rfl⟩
  | cons d ds ih =>
    obtain ⟨h1, h2⟩ := Bool.and_eq_true_iff.mp h
    obtain ⟨ns, rfl⟩ := ih h2
    cases d with
    | int j => exact ⟨j :: ns, rfl⟩
    | _ => cases h1
theorem range_getD {α : Type} (l : List α) (d : α) : (List.range l.length).map (fun i => l.getD i d) = l := by
  apply List.ext_getElem
  · rw [List.length_map, List.length_range]
  · intro i h1 h2
    rw [List.getElem_map, List.getElem_range, List.getD_eq_getElem?_getD, List.getElem?_eq_getElem h2]; rfl
section
variable {I : Iota} {T : Sm}
theorem ints_are {ns : List Int} : ∀ {us : List Value}, All2 (RepD I T) (ns.map .int) us → IntsAre us ns := by
  induction ns with
  | nil => intro us h; cases h; exact .nil
  | cons j ns ih => intro us h; obtain ⟨u, ws, rfl, ⟨t, rfl⟩, r⟩ := h; exact .cons j t (ih r)
theorem ints_rep {us : List Value} {ns : List Int} (h : IntsAre us ns) : All2 (RepD I T) (ns.map .int) us := by
  induction h with
  | nil => exact rfl
  | cons j t h ih => exact ⟨_, _, rfl, ⟨t, rfl⟩, ih⟩
theorem All2.getD {ds : List D} {us : List Value} {i : Nat} (x : All2 (RepD I T) ds us) (hi : i < ds.length) : RepD I T (ds.getD i .none) (us.getD i .none) := by
  obtain ⟨u, e, r⟩ := x.get (List.getElem?_eq_getElem hi)
  rw [List.getD_eq_getElem?_getD, List.getD_eq_getElem?_getD, e, List.getElem?_eq_getElem hi]
  exact r
theorem All2.of_getD {ds : List D} {us : List Value} {p : List Nat} (hp : ∀ i ∈ p, RepD I T (ds.getD i .none) (us.getD i .none)) : All2 (RepD I T) (p.map fun i => ds.getD i .none) (p.map fun i => us.getD i .none) := by
  induction p with
  | nil => exact rfl
  | cons i p ih => exact ⟨_, _, rfl, hp i List.mem_cons_self, ih fun j hj => hp j (List.mem_cons_of_mem _ hj)⟩
theorem pair_at {c : Bool} {d : D} {v : Value} {P : Value → Prop} (x : RepD I T d v) (hp : isP c d = true) (k : ∀ a us m t, T.s.heap.get? a = some (seqObj "tuple" (List.toArray (.int (I.f c (kd d)) t :: us)) m) → P (.ref a)) : P v := by
  cases d with
  | tup l =>
    cases l with
    | nil => cases hp
    | cons y l =>
      refine RepD.tup_k x fun a us _ ⟨m, o⟩ _ r => ?_
      obtain ⟨u, ws, rfl, q, _⟩ := r
      have hp : opt (numD y) (fun p => p.1 == c) false = true := hp
      have hk : kd (.tup (y :: l)) = ((numD y).getD (false, 0)).2 := rfl
      rw [hk] at k
      cases hq : numD y with
      | none => rw [hq] at hp; cases hp
      | some p =>
        rw [hq] at hp k
        cases beq_iff_eq.mp hp
        exact numD_k (C := fun y => RepD I T y u → P (.ref a)) hq (fun q => RepD.num_k (P := fun u => T.s.heap.get? a = some (seqObj "tuple" (List.toArray (u :: ws)) m) → P (.ref a)) q (fun t o => k a ws m t o) o) q
  | _ => cases hp
end
section
variable {prog : Program} {w : World} {A : Around} {E : Value → Shared → Prop} {I : Iota} {T : Sm} {c : Bool} {ds : List D} {vs : List Value}
theorem isP_get (hP : ds.all (isP c) = true) {i : Nat} (hi : i < ds.length) : isP c (ds.getD i .none) = true := by
  rw [List.getD_eq_getElem?_getD, List.getElem?_eq_getElem hi]
  exact List.all_eq_true.mp hP _ (List.getElem_mem hi)
theorem ask_pairs (hI : 2 ≤ I.gap) (hR : All2 (RepD I T) ds vs) (hP : ds.all (isP c) = true) (hn : (ds.map kd).Nodup) {i j : Nat} {Q : Bool → Shared → Prop} (hi : i < ds.length) (hj : j < ds.length) (hij : i ≠ j)
    (h : Q (decide (kd (ds.getD i .none) < kd (ds.getD j .none))) T.s) : kas_ask prog w A (tuples' true) vs i j Q T.s := by
  unfold kas_ask
  refine pair_at (P := fun v => wpAny (model prog w) A (keyLt' (tuples' true) v (vs.getD j .none)) Q _ T.s) (hR.getD hi) (isP_get hP hi) fun a us m t o1 => ?_
  refine pair_at (P := fun v => wpAny (model prog w) A (keyLt' (tuples' true) (.ref a) v) Q _ T.s) (hR.getD hj) (isP_get hP hj) fun b us' m' t' o2 => ?_
  refine kat_lt o1 rfl o2 rfl (kat_cons (wpAny_eqBool_int ?_))
  rw [beq_eq_false_iff_ne.mpr fun e => hij (nodup_get hn hi hj (Iota.inj hI e))]
  exact kat_no (oneLt_int (by rw [decide_eq_decide.mpr (Iota.lt_iff hI)]; exact h))
theorem kat_tups (hP : ds.all (isP c) = true) : ∀ {vs : List Value}, All2 (RepD I T) ds vs → ∃ fs, KatTups T.s.heap vs fs ∧ fs.length = ds.length ∧ ∀ v ∈ fs, ∃ j t, v = .int j t := by
  induction ds with
  | nil => intro vs h; cases h; exact ⟨[], .nil, rfl, nofun⟩
  | cons d ds ih =>
    intro vs h
    obtain ⟨h1, h2⟩ := Bool.and_eq_true_iff.mp hP
    obtain ⟨v, ws, rfl, x, r⟩ := h
    obtain ⟨fs, k1, k2, k3⟩ := ih h2 r
    exact pair_at (P := fun v => ∃ fs, KatTups T.s.heap (v :: ws) fs ∧ fs.length = (d :: ds).length ∧ ∀ v ∈ fs, ∃ j t, v = .int j t) x h1 fun a us m t o => ⟨_ :: fs, .cons o rfl rfl rfl k1, congrArg (· + 1) k2, fun v hv => (List.mem_cons.mp hv).elim (fun e => ⟨_, t, e⟩) (k3 v)⟩
noncomputable def sortH (h : Heap) (a : Addr) (vs : List Value) : Heap := ((h.update a (Obj.mapSeq fun _ => #[])).push (seqObj "tuple" vs.toArray 0)).push (seqObj "list" #[] 0)
theorem sortH_at {h : Heap} {a : Addr} {n : Nat} (ho : h.get? a = some (seqObj "list" vs.toArray n)) : ∃ e, (h.update a (Obj.mapSeq fun _ => #[])).get? a = some (seqObj "list" #[] e) ∧ (sortH h a vs).get? a = some (seqObj "list" #[] e) :=
  have q := get?_update_seq ho (fun _ => #[])
  ⟨_, q, Heap.get?_push_of_some _ (Heap.get?_push_of_some _ q)⟩
theorem sortH_mono {a : Addr} (ha : ¬ T.M.F a) : Mono T (T.hp (sortH T.s.heap a vs) T.s.toks) :=
  ⟨fun _ f => f, fun b o f e => Heap.get?_push_of_some _ (Heap.get?_push_of_some _ ((Heap.get?_update_ne _ _ _ _ (fun q : b = a => ha (q ▸ f))).trans e)), List.prefix_refl _⟩
theorem sort_fin (hR : All2 (RepD I T) ds vs) (hn : (ds.map kd).Nodup) {p : List Nat} (hp : p.Perm (List.range ds.length)) (hs : p.Pairwise (fun i j => kd (ds.getD i .none) ≤ kd (ds.getD j .none))) : All2 (RepD I T) (srtK kd ds) (p.map fun i => vs.getD i .none) := by
  have inj := nodup_inj hn
  rw [(sorted_unique (k := kd) (((hp.map fun i => ds.getD i D.none).trans (by rw [range_getD])).trans (srtK_perm ds).symm) (List.pairwise_map.mpr hs) (srtK_sorted ds) fun x hx y hy => inj x ((srtK_perm ds).mem_iff.mp hx) y ((srtK_perm ds).mem_iff.mp hy)).symm]
  exact All2.of_getD fun i hi => hR.getD (List.mem_range.mp (hp.mem_iff.mp hi))
theorem sort_pairs (hI : 2 ≤ I.gap) {a : Addr} {n : Nat} {P : Fin → Shared → Prop} (ho : T.s.heap.get? a = some (seqObj "list" vs.toArray n)) (ha : ¬ T.M.F a) (hR : All2 (RepD I T) ds vs) (h64 : ds.length < 64) (hP : ds.all (isP c) = true) (hn : (ds.map kd).Nodup)
    (k : ∀ out : Array Value, All2 (RepD I T) (srtK kd ds) out.toList → P (.done (.ret .none)) { T.s with heap := sortedHeap T.s.heap a vs out }) : wpAny (model prog w) A (Builtin.«list.sort» ⟨[.ref a], []⟩) P E T.s := by
  have hlen := hR.length
  have hz : vs.length ≤ sizeLine := Nat.le_trans (Nat.le_of_lt (hlen ▸ h64)) (by decide)
  obtain ⟨e1, ho1, ho6⟩ := sortH_at (vs := vs) ho
  rw [list_sort_plain]
  refine wpAny_bind (listItems_at ho rfl (wpAny_bind (listUpdate_at ho rfl (wpAny_bind (seqEpoch_at ho1 rfl (wpAny_bind (wpAny_newTuple (wpAny_bind (wpAny_newList (wpAny_holding ?_) (Nat.zero_le _))) hz)))) hz (Nat.zero_le _))))
  show wpAny (model prog w) A _ P E { T.s with heap := sortH T.s.heap a vs }
  dsimp only
  by_cases h2 : vs.toArray.size < 2
  · rw [if_pos h2, if_pos h2]
    refine wpAny_bind (wpAny_pure ?_)
    rw [StateT.run_pure]
    refine wpAny_bind (wpAny_pure ?_)
    dsimp only
    refine wpAny_bind (seqEpoch_at ho6 rfl (wpAny_bind (listUpdate_at ho6 rfl ?_ (hsz2 := by rw [Array.size_map]; show (pairsOf vs).size ≤ _; rw [pairsOf_size]; exact Nat.le_succ_of_le hz))))
    rw [if_neg (by rw [bne_self_eq_false]; nofun)]
    refine wpAny_pure (k _ ?_)
    have hout := kat_snds (ks := vs) (vs := vs) rfl (st := SortSt.mk' general' (vs.toArray.zip vs.toArray) #[] 7 none) (p := List.toArray (List.range vs.length)) (by
      have e := kas_range (vs.toArray.zip vs.toArray)
      rw [show (vs.toArray.zip vs.toArray).size = vs.length from pairsOf_size vs] at e
      exact e.symm)
    rw [hout]
    refine sort_fin hR hn (by rw [hlen]) (List.pairwise_iff_getElem.mpr fun i j hi hj hij => ?_)
    have hj : j < vs.length := List.length_range (n := vs.length) ▸ hj
    exact absurd (Nat.lt_of_le_of_lt (Nat.succ_le_of_lt (Nat.lt_of_le_of_lt (Nat.succ_le_of_lt (Nat.lt_of_le_of_lt (Nat.zero_le i) hij)) hj)) h2) (Nat.lt_irrefl 2)
  · rw [if_neg h2, if_neg h2]
    have hlen2 : 2 ≤ vs.length := Nat.not_lt.mp h2
    have hR' := hR.monoD (sortH_mono (vs := vs) ha)
    obtain ⟨fs, k1, k2, k3⟩ := kat_tups hP hR'
    refine wpAny_bind (kat_kind (T := .type "int") k1 (k2 ▸ Nat.lt_of_lt_of_le (by decide) (hlen ▸ hlen2)) (fun v hv => ?_) (by decide) ?_)
    · obtain ⟨j, t, rfl⟩ := k3 v hv
      exact Looks.now
    rw [show (Value.type "int" != Value.type "tuple") = true by decide]
    refine wpAny_bind (wpAny_mono (kat_run (A := A) (ks := vs) (vs := vs) (E := E) (Q := fun st' s' => s' = { T.s with heap := sortH T.s.heap a vs } ∧ failedOf st' = none ∧ ∃ p : Array Nat, arrOf st' = p.map (kas_item (vs.toArray.zip vs.toArray)) ∧ POk ds.length p ∧ Asc (fun i => kd (ds.getD i .none)) p ds.length)
      (G := fun p s' => s' = { T.s with heap := sortH T.s.heap a vs } ∧ POk ds.length p ∧ Asc (fun i => kd (ds.getD i .none)) p ds.length)
      rfl hlen2 (hlen ▸ h64) (fun p st' s' b1 b2 b3 b4 => ⟨b4.1, b3, p, b2, b4.2⟩) ?_) ?_ fun _ _ e => e)
    · rw [hlen]
      exact KW.wp (fun i j C hi hj hij hC => ask_pairs (T := T.hp (sortH T.s.heap a vs) T.s.toks) hI hR' hP hn hi hj hij hC) (Q := fun q => POk ds.length q ∧ Asc (fun i => kd (ds.getD i .none)) q ds.length) (fun q hq => ⟨rfl, hq⟩) (kw_sort (fun i j hi hj e => nodup_get hn hi hj e) (hlen ▸ hlen2))
    · rintro ⟨⟨⟩, st'⟩ s' ⟨rfl, hf, p, har, hp, hs⟩
      dsimp only
      rw [kat_snds rfl har]
      refine wpAny_bind (seqEpoch_at ho6 rfl (wpAny_bind (listUpdate_at ho6 rfl ?_ (Nat.zero_le _) (by rw [List.size_toArray, List.length_map, Array.length_toList, hp.1, ← hlen]; exact Nat.le_succ_of_le hz))))
      rw [hf, if_neg (by rw [bne_self_eq_false]; nofun)]
      refine wpAny_pure (k (List.toArray (p.toList.map fun i => vs.getD i Value.none)) (sort_fin hR hn (Array.perm_iff_toList_perm.mp hp.2) (List.pairwise_iff_getElem.mpr fun i j hi hj hij => ?_)))
      have := hs i j hij (by rw [Array.length_toList, hp.1] at hj; exact hj)
      rw [Array.getD_eq_getD_getElem?, Array.getD_eq_getD_getElem?, Array.getElem?_eq_getElem hi, Array.getElem?_eq_getElem hj] at this
      exact Int.le_of_lt this
theorem sort_mine (hI : 2 ≤ I.gap) {a : Addr} {n : Nat} {P : Fin → Shared → Prop} (ho : T.s.heap.get? a = some (seqObj "list" vs.toArray n)) (ha : ¬ T.M.F a) (hR : All2 (RepD I T) ds vs) (hok : srtOk ds = true)
    (k : ∀ out : Array Value, All2 (RepD I T) (srtK kd ds) out.toList → P (.done (.ret .none)) { T.s with heap := sortedHeap T.s.heap a vs out }) : wpAny (model prog w) A (Builtin.«list.sort» ⟨[.ref a], []⟩) P E T.s :=
  andK hok fun h64 hok => by
    have h64 := decK h64
    have pr : ∀ c, srtP ds c = true → wpAny (model prog w) A (Builtin.«list.sort» ⟨[.ref a], []⟩) P E T.s := fun c h => andK h fun hP hn => sort_pairs hI ho ha hR h64 hP (nodupI_nodup hn) k
    cases h : ds.all isI with
    | true =>
      obtain ⟨ns, rfl⟩ := ints_of h
      refine list_sort_tree ho (ints_are hR) (hR.length ▸ h64) fun out ns' a1 a2 a3 => k out ?_
      rw [srtK_map, show srtK (fun y => kd (.int y)) ns = ns' from sorted_unique (k := fun y => y) ((srtK_perm ns).trans a2.symm) (srtK_sorted ns) (a3.imp id) fun x _ y _ e => e]
      exact ints_rep a1
    | false =>
      rw [h] at hok
      cases h' : srtP ds false with
      | true => exact pr _ h'
      | false => rw [h'] at hok; exact pr true hok
end
open PySem PyProof.Rows PySem.Calls PySem.W
section
variable {prog : Program} {w : World} {A : Around} {E : Value → Shared → Prop} {s : Shared}
theorem collect_via {R : List Value → Shared → Prop} {r : Addr} {n : Nat} {P : Nat → Value → Prop}
    (ext : ∀ {R : Result → Shared → Prop}, (∀ h' tk acc' c', (∀ b o, b ≠ s.heap.objs.size → (s.heap.push (seqObj "list" #[] 0)).get? b = some o → h'.get? b = some o) → h'.get? s.heap.objs.size = some { cls := .type "list", dict := none, data := .seq acc' c', slots := #[] } → ItemsOf P acc' n → R (.ok (.ret (.ref s.heap.objs.size))) { s with heap := h', toks := tk }) →
      wpAny (model prog w) A.in1 (Builtin.List.listExtendWith (.ref s.heap.objs.size) (.ref r) (.ref s.heap.objs.size)) (fun fin s' => match fin with | .done f => R (.ok f) s' | .again c' => c'.quiet = true ∧ codeAny (model prog w) A c' R s') (fun e s' => R (.error e) s') { s with heap := s.heap.push (seqObj "list" #[] 0) })
    (h : ∀ (h' : Heap) (tk : Nat) (vs : List Value), (∀ b o, s.heap.get? b = some o → h'.get? b = some o) → vs.length = n → (∀ j v, vs[j]? = some v → P j v) → R vs { s with heap := h', toks := tk }) :
    wpAny (model prog w) A (collect (.ref r)) R E s := by
  have ext' : ∀ {R : Result → Shared → Prop}, (∀ h' tk acc' c', (∀ b o, b ≠ s.heap.objs.size → (s.heap.push (seqObj "list" #[] 0)).get? b = some o → h'.get? b = some o) → h'.get? s.heap.objs.size = some { cls := .type "list", dict := none, data := .seq acc' c', slots := #[] } → ItemsOf P acc' n → R (.ok (.ret (.ref s.heap.objs.size))) { s with heap := h', toks := tk }) →
      codeAny (model prog w) A (.builtin "list.__iadd__" ⟨[.ref s.heap.objs.size, .ref r], []⟩) R { s with heap := s.heap.push (seqObj "list" #[] 0) } := fun hR => codeAny_builtin entry_list_iadd' (by rw [Around.under_plainId PySem.F.plain_list_iadd _]; exact ext hR)
  unfold collect
  refine wpAny_bind (wpAny_runValue (codeAny_builtin entry_proto_collect' ?_))
  rw [Around.under_plainId PySem.F.plain_proto_collect _]
  show wpAny _ A.in1 (newList [] >>= fun l => again (.builtin "list.__iadd__" ⟨[l, .ref r], []⟩)) _ _ s
  refine wpAny_bind (wpAny_newObj_type (wpAny_pure ⟨plainId_quiet PySem.F.plain_list_iadd _, ext' fun h' tk acc' c' hk hS' hacc => ?_⟩))
  exact wpAny_bind (wpAny_load hS' (wpAny_pure (h h' tk acc'.toList (fun b o e => hk b o (Nat.ne_of_lt (Heap.lt_size e)) (Heap.get?_push_of_some _ e)) (by rw [Array.length_toList]; exact hacc.1) fun j v e => hacc.2 j v (by rw [← Array.getElem?_toList]; exact e))))
end
structure SetG (prog : Program) (w : World) (P : Heap → Addr → List Int → Prop) : Prop where
  keep : ∀ {h h' : Heap} {a : Addr} {ks : List Int}, P h a ks → (∀ o, h.get? a = some o → h'.get? a = some o) → P h' a ks
  al : ∀ {h : Heap} {a : Addr} {ks : List Int}, P h a ks → Al h a
  make : ∀ {A : Around} {E Q : Value → Shared → Prop} {s : Shared} {d : Addr} {kvs : List (Int × Value)}, A.handled = none → (d == sysModules) = false → s.heap.DictOf (intKind prog w) d kvs → kvs.length ≤ 20 → (∀ p ∈ kvs, 0 ≤ p.1 ∧ p.1 < 64) →
    (∀ h' tk a, (∀ b o, s.heap.get? b = some o → h'.get? b = some o) → ¬ Al s.heap a → P h' a (kvs.map (·.1)) → Q (.ref a) { s with heap := h', toks := tk }) → wpAny (model prog w) A (call (.type "set") [.ref d]) Q E s
  union : ∀ {A : Around} {E Q : Value → Shared → Prop} {s : Shared} {a b : Addr} {ks ls : List Int}, A.handled = none → a ≠ b → P s.heap a ks → P s.heap b ls → ks.length ≤ 20 → ls.length ≤ 20 → (∀ k ∈ ks, 0 ≤ k ∧ k < 64) → (∀ k ∈ ls, 0 ≤ k ∧ k < 64) →
    (∀ h' tk c, (∀ b o, s.heap.get? b = some o → h'.get? b = some o) → ¬ Al s.heap c → P h' c (unionK ks ls) → Q (.ref c) { s with heap := h', toks := tk }) → wpAny (model prog w) A (binaryOp .BitOr (.ref a) (.ref b)) Q E s
  coll : ∀ {A : Around} {E : Value → Shared → Prop} {Q : List Value → Shared → Prop} {s : Shared} {a : Addr} {ks : List Int}, A.handled = none → P s.heap a ks →
    (∀ h' tk vs ns, (∀ b o, s.heap.get? b = some o → h'.get? b = some o) → IntsAre vs ns → ns.Perm ks → Q vs { s with heap := h', toks := tk }) → wpAny (model prog w) A (collect (.ref a)) Q E s
theorem ints_all (ns : List Int) : (ns.map D.int).all isI = true := by
  induction ns with
  | nil => rfl
  | cons a l ih => exact ih
theorem srt_perm {a b : List Int} (h : a.Perm b) : srtK kd (a.map D.int) = srtK kd (b.map D.int) := by
  rw [srtK_map, srtK_map]
  exact congrArg (List.map D.int) (sorted_unique (k := fun y => y) (((srtK_perm a).trans h).trans (srtK_perm b).symm) (srtK_sorted a) (srtK_sorted b) fun x _ y _ e => e)
section
variable {X : Cx} {F : Fx} {o : Ops} {n : Nat} {st st' : St} {A : Around} {T T' T'' : Sm} {Q : Value → Shared → Prop} {E : Value → Shared → Prop} {e : PySem.Expr} {r : R} {u : Value} {v : V} {σ : List Cell} {a : Addr} {l : List V} {us : List Value} {P : Heap → Addr → List Int → Prop} {b : Bool} {es : List (Int × V)} {kvs : List (Int × Value)} {c : Bool} {ds : List D}
noncomputable def KS (X : Cx) (F : Fx) (T : Sm) (st : St) (ds : List D) (Q : List Value → Shared → Prop) : Prop := ∀ vs T' ds', Aft X F T st T' → All2 (RepD X.I T') ds' vs → srtOk ds' = true → srtK kd ds' = srtK kd ds → Q vs T'.s
theorem sorted_of (H : Top X) {x : Value} (i : Inv X F st T) (hc : ∀ {Q' : List Value → Shared → Prop} {E' : Value → Shared → Prop}, KS X F T st ds Q' → WP X A.in1 (collect x) Q' E' T) (k : KR X F T Q (.fresh ((srtK kd ds).map .d), st)) : WP X A (call (.builtin "sorted") [x]) Q E T := by
  refine Calls.call_function_entry kind_sorted plain_sorted entry_sorted (args_sorted1 _) ?_
  unfold Builtin.«sorted»
  refine wpAny_bind (m := checkCount "sorted" 1 1 _) (wpAny_pure (wpAny_bind (hc fun vs T₁ ds' a₁ r₁ hok hsrt => ?_)))
  have h64 : ds'.length < 64 := decK (Bool.and_eq_true_iff.mp hok).1
  have hz : vs.length ≤ sizeLine := r₁.length ▸ Nat.le_trans (Nat.le_of_lt h64) (by decide)
  refine wpAny_bind (wpAny_newList ?_ hz)
  have hoL : (T₁.s.heap.push (seqObj "list" vs.toArray 0)).get? T₁.s.heap.objs.size = some (seqObj "list" vs.toArray 0) := Heap.get?_push_size _ rfl
  have a₂ : Aft X F T₁ st (T₁.hp (T₁.s.heap.push (seqObj "list" vs.toArray 0)) T₁.s.toks) := .grow a₁.inv (keep_push _ _)
  refine wpAny_bind (wpAny_holding (wpAny_call_entry slot_list_sort ⟨_, hoL, rfl⟩ entry_list_sort (sort_mine (T := T₁.hp (T₁.s.heap.push (seqObj "list" vs.toArray 0)) T₁.s.toks) H.gap hoL (fun f => not_al_size _ (a₁.inv.mid.fal _ f)) (r₁.monoD a₂.mono) hok fun out r₃ => ⟨_, rfl, wpAny_pure ⟨_, rfl, ?_⟩⟩) (args_list_sort _)))
  obtain ⟨e, he⟩ := sortedHeap_at (out := out) hoL
  have hk : ∀ b o, T₁.s.heap.get? b = some o → (sortedHeap (T₁.s.heap.push (seqObj "list" vs.toArray 0)) T₁.s.heap.objs.size vs out).get? b = some o := fun b o q => by
    have hlt : b < T₁.s.heap.objs.size := Heap.lt_size q
    rw [sortedHeap_old (Nat.ne_of_lt hlt) (by rw [size_push']; exact Nat.lt_succ_of_lt hlt)]
    exact keep_push _ _ b o q
  have back : Mono (T₁.hp (T₁.s.heap.push (seqObj "list" vs.toArray 0)) T₁.s.toks) T₁ := ⟨fun _ f => f, fun b o f e => (a₁.inv.mid.fal b f).elim fun o' e' => ((keep_push _ _ b o' e').symm.trans e) ▸ e', List.prefix_refl _⟩
  rw [hsrt] at r₃
  have x := push_lst a₁.inv (l := (srtK kd ds).map .d) (us := out.toList) (All2.map.mpr (r₃.monoD back)) (by rw [List.length_map, ← hsrt, (srtK_perm ds').length_eq]; exact Nat.le_trans (Nat.le_of_lt h64) (by decide)) (tk := T₁.s.toks) (not_al_size T₁.s.heap) he hk
  exact k _ _ (a₁.trans x.1) (x.2.older a₁.ext.al)
theorem srtD_k {l l' : List D} {C : List D → Prop} (h : srtD l = some l') (k : srtOk l = true → C (srtK kd l)) : C l' := iK h fun ho h => by cases h; exact k ho
theorem sortedL_snd (H : Top X) (i : Inv X F st T) (hr : RR X F T' T r u) (hl : lstOf st.store r = some l) (hd : allD l = some ds) (hok : srtOk ds = true) (k : KR X F T Q (.fresh ((srtK kd ds).map .d), st)) : WP X A (call (.builtin "sorted") [u]) Q E T :=
  lst_k (C := fun u => WP X A (call (.builtin "sorted") [u]) Q E T) i.mid hr hl fun a us ⟨m, o⟩ r z => sorted_of H i (fun {Q' E'} k' => collect_list ⟨_, o, rfl, m, rfl⟩ (by
    have a₁ : Aft X F T st (T.hp ((T.s.heap.push (seqObj "list" #[] 0)).update T.s.heap.objs.size (Obj.mapSeq (· ++ us.toArray))) T.s.toks) := .grow i fun b o q => (Heap.get?_update_ne _ _ _ _ (Nat.ne_of_lt (Heap.lt_size q))).trans (keep_push _ _ b o q)
    exact allD_k (P := fun l => All2 (RepV X.I T) l us → Q' us _) hd (fun r => k' us _ ds a₁ ((All2.map (f := V.d) (P := RepV X.I T)).mp r |>.monoD a₁.mono) hok rfl) r) (r.lim z)) k
theorem intKind_val {prog : Program} {w : World} {k : Int} {v : Value} (h : (intKind prog w).is k v = true) : ∃ t, v = .int k t := by
  cases v <;> simp [intKind, Value.isInt] at h
  exact ⟨_, by rw [h]⟩
theorem RepK.length {I : Iota} : ∀ {kvs : List (Int × Value)}, RepK I T b es kvs → kvs.length = es.length := by
  induction es with
  | nil => intro kvs h; cases h; rfl
  | cons p es ih => intro kvs h; obtain ⟨v, ws, rfl, _, r⟩ := h; exact congrArg (· + 1) (ih r)
theorem RepK.lim {I : Iota} (r : RepK I T b es kvs) (z : es.length ≤ Mine.lim) : kvs.length ≤ sizeLine := r.length ▸ Nat.le_trans z lim_le
theorem RepK.get {I : Iota} : ∀ {kvs : List (Int × Value)} {j : Nat} {k : Int} {x : Value}, RepK I T b es kvs → kvs[j]? = some (k, x) → ∃ p, es[j]? = some p ∧ I.f b p.1 = k ∧ RepV I T p.2 x := by
  induction es with
  | nil => intro kvs j k x r e; cases r; cases e
  | cons p es ih =>
    intro kvs j k x r e
    obtain ⟨v, ws, rfl, q, r⟩ := r
    cases j with
    | zero => cases e; exact ⟨p, rfl, rfl, q⟩
    | succ j => have q := ih r e; exact q
theorem sortedD_snd (H : Top X) {d : Bool × List (Int × V)} (hA : AOk A n) (i : Inv X F st T) (hr : RR X F T' T r u) (hl : dctOf st.store r = some d) (hok : srtOk (d.2.map fun p => mkN (d.1, p.1)) = true) (k : KR X F T Q (.fresh ((srtK kd (d.2.map fun p => mkN (d.1, p.1))).map .d), st)) : WP X A (call (.builtin "sorted") [u]) Q E T :=
  dct_k (C := fun u => WP X A (call (.builtin "sorted") [u]) Q E T) i.mid hr hl fun j a kvs D => sorted_of H i (fun {Q' E'} k' => by
    obtain ⟨ep, hAt⟩ := D.obj.dictAt
    have K := kdl_dict (knd := intKind X.prog X.w) (kvs := kvs) (ep := ep) (D.nosys H i.mid)
    have hh := K.there _ hAt
    refine collect_via (fun hR => kdl_extend (A := A.in1) (s := { T.s with heap := T.s.heap.push (seqObj "list" #[] 0) }) K hA.h (K.keep _ _ hAt fun b _ o e => Heap.get?_push_of_some _ e) _ (Nat.ne_of_gt hh.1) (Nat.ne_of_gt hh.2) _ 0 (Heap.get?_push_size _ rfl) hR (D.rep.lim D.len)) fun h' tk vs hk hl hv => ?_
    have a₁ : Aft X F T st (T.hp h' tk) := .grow i hk
    refine k' vs _ _ a₁ (All2.ext (by rw [hl, D.rep.length, List.length_map]) fun j d u e1 e2 => ?_) hok rfl
    obtain ⟨k₁, x₁, q1, q2⟩ := hv j u e2
    obtain ⟨t, rfl⟩ := intKind_val q2
    obtain ⟨p, q3, rfl, _⟩ := D.rep.get q1
    rw [List.getElem?_map, q3] at e1
    cases e1
    exact RepD.num (_, p.1) t) k
end
open PySem PyProof.Rows PySem.Calls PySem.W
theorem foldl_max_spec (l : List Int) : ∀ (x : Int), l.foldl max x ∈ x :: l ∧ ∀ a ∈ x :: l, a ≤ l.foldl max x := by
  induction l with
  | nil => exact fun x => ⟨List.mem_cons_self, fun a h => Int.le_of_eq (List.mem_singleton.mp h)⟩
  | cons y l ih =>
    intro x
    obtain ⟨h1, h2⟩ := ih (max x y)
    refine ⟨?_, fun a ha => ?_⟩
    · rcases List.mem_cons.mp h1 with h | h
      · rw [List.foldl_cons, h]
        rcases Int.le_total x y with q | q
        · rw [Int.max_eq_right q]; exact List.mem_cons_of_mem _ List.mem_cons_self
        · rw [Int.max_eq_left q]; exact List.mem_cons_self
      · exact List.mem_cons_of_mem _ (List.mem_cons_of_mem _ h)
    · have h3 := h2 _ List.mem_cons_self
      rcases List.mem_cons.mp ha with e | ha
      · rw [e]; exact Int.le_trans (Int.le_max_left x y) h3
      · rcases List.mem_cons.mp ha with e | ha
        · rw [e]; exact Int.le_trans (Int.le_max_right x y) h3
        · exact h2 a (List.mem_cons_of_mem _ ha)
section
variable {X : Cx} {F : Fx} {o : Ops} {n : Nat} {st st' : St} {A : Around} {T T' T'' : Sm} {Q : Value → Shared → Prop} {E : Value → Shared → Prop} {e : PySem.Expr} {r x : R} {u : Value} {v : V} {σ : List Cell} {a : Addr} {l : List V} {us : List Value} {b : Bool} {es : List (Int × V)} {kvs : List (Int × Value)} {c : Bool} {ds : List D} {f : Str} {p pos : Pos}
theorem len_snd (i : Inv X F st T) (hr : RR X F T' T r u) (hl : seqOf st.store r = some l) (k : KR X F T Q (.val (.d (.int l.length)), st)) : WP X A (call (.builtin "len") [u]) Q E T :=
  seq_k (C := fun u => WP X A (call (.builtin "len") [u]) Q E T) i.mid hr hl fun ty a us hty ⟨m, o⟩ r z => by
    have hfit : ((us.toArray.size : Nat) : Int) < 2 ^ 63 := Int.lt_of_le_of_lt (Int.ofNat_le.mpr (show us.length ≤ lim from r.length ▸ z)) lim_lt63
    have k' : ∀ t tk, Q (.int (us.toArray.size : Nat) t) { T.s with toks := tk } := fun t tk => by rw [List.size_toArray, r.length]; exact k _ _ (.tok i tk) ⟨t, rfl⟩
    cases hty with
    | inl e => cases e; exact call_len_list (items := us.toArray) ⟨_, o, rfl, m, rfl⟩ hfit (k' _ _)
    | inr e => cases e; exact PyProof.Rows.len_tuple (items := us.toArray) ⟨_, o, rfl, m, rfl⟩ hfit (k' _ _)
theorem lst_snd (i : Inv X F st T) (hr : RR X F T' T r u) (hl : seqOf st.store r = some l) (k : KR X F T Q (.fresh l, st)) : WP X A (call (.type "list") [u]) Q E T :=
  seq_k (C := fun u => WP X A (call (.type "list") [u]) Q E T) i.mid hr hl fun ty a us hty ⟨m, o⟩ r z => call_list_seq a hty o rfl rfl (fun h' c' hk hn => have x := push_lst i r z (tk := T.s.toks) (not_al_size T.s.heap) hn hk; k _ _ x.1 x.2) (r.lim z)
theorem tup_snd (i : Inv X F st T) (hr : RR X F T' T r u) (hl : lstOf st.store r = some l) (k : KR X F T Q (.val (mkTup l), st)) : WP X A (call (.type "tuple") [u]) Q E T :=
  lst_k (C := fun u => WP X A (call (.type "tuple") [u]) Q E T) i.mid hr hl fun a us ⟨m, o⟩ r z => call_tuple_list (items := us.toArray) ⟨_, o, rfl, m, rfl⟩ (fun h' hk => by
    have a₁ : Aft X F T st (T.hp h' T.s.toks) := .grow i hk
    exact push_tup' a₁.inv (r.mono a₁.mono) z (k.then a₁)) (r.lim z)
theorem intsD_k {ns : List Int} {C : List D → Prop} (h : intsD ds = some ns) (k : C (ns.map .int)) : C ds := by
  have : ds = ns.map .int := by
    induction ds generalizing ns C with
    | nil => cases h; rfl
    | cons d ds ih =>
      refine bK h fun q hq h => bK h fun i hi h => mK (C := fun ns => d :: ds = ns.map .int) h fun s hs => ?_
      rw [ih (C := fun _ => True) hs trivial]
      exact numD_k (C := fun d => d :: s.map .int = .int i :: s.map .int) hq (plain_k (P := fun q => mkN q :: s.map .int = .int i :: s.map .int) hi rfl)
  rw [this]; exact k
theorem max_snd {ns : List Int} {j : Int} (hA : AOk A n) (i : Inv X F st T) (hr : RR X F T' T r u) (hl : lstOf st.store r = some l) (hd : allD l = some ds) (hn : intsD ds = some ns) (hj : maxI ns = some j) (k : KR X F T Q (.val (.d (.int j)), st)) : WP X A (call (.builtin "max") [u]) Q E T :=
  lst_k (C := fun u => WP X A (call (.builtin "max") [u]) Q E T) i.mid hr hl fun la us ⟨m, o⟩ r z => allD_k (P := fun l => All2 (RepV X.I T) l us → WP X A (call (.builtin "max") [.ref la]) Q E T) hd (intsD_k (C := fun ds => All2 (RepV X.I T) (ds.map .d) us → WP X A (call (.builtin "max") [.ref la]) Q E T) hn fun r => by
    have hI := ints_are ((All2.map (f := V.d) (P := RepV X.I T)).mp r)
    obtain ⟨xs, e⟩ := hI.allInts.items
    have hns : ns = xs.toList.map (·.1) := by rw [← hI.numsOf, ← nums_intItems, ← e]
    have hz : ns.length = xs.size := by rw [hns, List.length_map, Array.length_toList]
    cases ns with
    | nil => cases hj
    | cons y ns =>
      cases hj
      have hL : T.s.heap.IsList la (intItems xs) := e ▸ (⟨_, o, rfl, m, rfl⟩ : T.s.heap.IsList la us.toArray)
      have hpos : 0 < xs.size := hz ▸ Nat.succ_pos _
      refine max_intList hA.h hL hpos fun v h' tk hv hk => ?_
      obtain ⟨t, rfl⟩ := intItems_at hv
      obtain ⟨h1, h2⟩ := argBest_gt (numAt xs) (xs.size - 1)
      obtain ⟨f1, f2⟩ := foldl_max_spec ns y
      have hm : numAt xs (argBest (fun i j => decide (numAt xs i > numAt xs j)) (xs.size - 1)) = ns.foldl max y := by
        refine Int.le_antisymm (f2 _ ?_) ?_
        · rw [numAt_eq, ← hns]; exact getD_mem (by rw [hz]; exact Nat.lt_of_le_of_lt h1 (Nat.sub_lt hpos Nat.one_pos))
        · obtain ⟨j, hj, e⟩ := mem_getD f1
          rw [← e, hns, ← numAt_eq]
          exact h2 j (Nat.le_sub_one_of_lt (hz ▸ hj))
      exact k _ _ (.grow i hk) ⟨t, by rw [← hm]⟩) r
theorem blt1 (HT : Top X) {v : Value} (hb : isBlt X.G F.fn f = true) (hv : bltVal.lookup f = some v) (hform : (∃ id, v = .builtin id) ∨ ∃ id, v = .type id) (hst : backTo pos (starEach [e] F.env) = [(false, eval e F.env)]) (i : Inv X F st T)
    (h : WP X A (eval e F.env) (fun u s => wpAny (model X.prog X.w) A (call v [u]) Q E s) E T) : WP X A (eval (.Call (.Name f p) [e] [] pos) F.env) Q E T := by
  refine wpAny_Call_Name_kw (blt_name HT hb hv i ?_)
  rw [hst]
  have h' : wpAny (model X.prog X.w) A (spliced [(false, eval e F.env)]) (fun vs s => wpAny (model X.prog X.w) A (call v vs) Q E s) E T.s := spliced_cons (wpAny_mono h (fun u s q => spliced_nil q) fun _ _ q => q)
  cases hform with
  | inl q => obtain ⟨id, rfl⟩ := q; exact callWith_builtin rfl (evalArgs_plain h')
  | inr q => obtain ⟨id, rfl⟩ := q; exact PySem.callWith_type rfl (evalArgs_plain h')
structure BltAt (X : Cx) (F : Fx) (A : Around) (Q E : Value → Shared → Prop) (T : Sm) (f : Str) (u : Value) (v : Value) : Prop where
  val : bltVal.lookup f = some v
  form : (∃ id, v = .builtin id) ∨ ∃ id, v = .type id
  wp : WP X A (call v [u]) Q E T
theorem bltn_snd (HT : Top X) (hA : AOk A n) (i : Inv X F st T) (hr : RR X F T' T r u) (he : bltn st.store f r = some x) (k : KR X F T Q (x, st)) {P : Prop} (c : ∀ v, BltAt X F A Q E T f u v → P) : P :=
  eK he (fun hf he => mQ (C := fun x => KR X F T Q (x, st)) he k fun l hl k => c _ ⟨hf ▸ rfl, .inl ⟨_, rfl⟩, len_snd i hr hl k⟩) fun he =>
  eK he (fun hf he => mQ (C := fun x => KR X F T Q (x, st)) he k fun l hl k => c _ ⟨hf ▸ rfl, .inr ⟨_, rfl⟩, lst_snd i hr hl k⟩) fun he =>
  eK he (fun hf he => mQ (C := fun x => KR X F T Q (x, st)) he k fun l hl k => c _ ⟨hf ▸ rfl, .inr ⟨_, rfl⟩, tup_snd i hr hl k⟩) fun he =>
  eK he (fun hf he => oK he (fun d hd he => mQ (C := fun x => KR X F T Q (x, st)) he k fun l hl k => srtD_k (C := fun l => KR X F T Q (.fresh (l.map .d), st) → P) hl (fun ho k => c _ ⟨hf ▸ rfl, .inl ⟨_, rfl⟩, sortedD_snd HT hA i hr hd ho k⟩) k)
    fun _ he => bK he fun l hl he => bK he fun ds hd he => mQ (C := fun x => KR X F T Q (x, st)) he k fun l' hl' k => srtD_k (C := fun l => KR X F T Q (.fresh (l.map .d), st) → P) hl' (fun ho k => c _ ⟨hf ▸ rfl, .inl ⟨_, rfl⟩, sortedL_snd HT i hr hl hd ho k⟩) k) fun he =>
  eK he (fun hf he => bK he fun l hl he => bK he fun ds hd he => bK he fun ns hn he => mQ (C := fun x => KR X F T Q (x, st)) he k fun j hj k => c _ ⟨hf ▸ rfl, .inl ⟨_, rfl⟩, max_snd hA i hr hl hd hn hj k⟩) fun he => nK he
end
open PySem PyProof.Rows PySem.Calls PySem.W
section
variable {X : Cx} {F : Fx} {o : Ops} {n : Nat} {st st' : St} {A : Around} {T T' T'' : Sm} {Q : Unit → Shared → Prop} {E : Value → Shared → Prop} {e : PySem.Expr} {r x : R} {u : Value} {v : V} {σ : List Cell} {a : Addr} {l : List V} {us : List Value}
theorem canSet_k {y : Str} {P : Prop} (h : canSet F.fn y = true) (kl : F.fn.names.lookup y = some .local → P) (kc : F.fn.names.lookup y = some .cell → P) : P :=
  (Bool.or_eq_true_iff.mp h).elim (fun h => kl (beq_iff_eq.mp h)) fun h => kc (beq_iff_eq.mp h)
theorem storeName_snd {y : Str} (hx : canSet F.fn y = true) (i : Inv X F st T) (hv : RepV X.I T v u) (k : KU X F T Q (st.set y v)) : WP X A (storeName F.env y u) Q E T := by
  obtain ⟨m, cm, hn, hc, _⟩ := i.frm.has
  refine canSet_k hx (fun hx => ?_) fun hx => ?_
  · exact wpAny_storeName_local (i.frm.loc y hx) hn (fun h' hn' hs' => k _ (.setLocal i hx hn hn' hs' hv)) (by rw [i.frm.kind]; rfl)
  · obtain ⟨c, hcl⟩ := i.frm.cells y (.inl (i.frm.cel y hx))
    exact wpAny_storeName_cell i.frm.kind (i.frm.cel y hx) hcl (hc y c hcl) fun h' hc' hs' => k _ (.setCell (tk := T.s.toks) i hx hcl hc' hs' hv)
structure PrAt (X : Cx) (T : Sm) (v : V) (u : Value) (Ta : Addr) (x y : Value) (a b : V) : Prop where
  u : u = .ref Ta
  obj : T.s.heap.IsTuple Ta #[x, y]
  v : v = .tup [a, b]
  a : RepV X.I T a x
  b : RepV X.I T b y
noncomputable def ItR (X : Cx) (pr : Bool) (T : Sm) (v : V) (u : Value) : Prop := cond pr (∃ Ta x y a b, PrAt X T v u Ta x y a b) (RepV X.I T v u)
theorem pair_snd {y z : Str} {px py pt : Pos} {kt : Nat} {Ta : Addr} {ux uy : Value} {a b : V} (hA : AOk A n) (hx : canSet F.fn y = true) (hy : canSet F.fn z = true) (i : Inv X F st T) (hT : T.s.heap.IsTuple Ta #[ux, uy]) (ha : RepV X.I T a ux) (hb : RepV X.I T b uy) (k : KU X F T Q ((st.set y a).set z b)) :
    WP X A (assign (.Tuple [.Name y px, .Name z py] kt pt) F.env (.ref Ta)) Q E T :=
  wpAny_assign_Tuple hA.h hT rfl rfl fun h' hk => by
    have a₁ : Aft X F T st (T.hp h' T.s.toks) := .grow i fun b o e => hk b o (Nat.ne_of_lt (Heap.lt_size e)) e
    exact PyProof.Rows.assignInOrder_cons (wpAny_assign_Name (storeName_snd hx a₁.inv (ha.mono a₁.mono) fun T₂ a₂ => PyProof.Rows.assignInOrder_cons (wpAny_assign_Name (storeName_snd hy a₂.inv (hb.mono (a₁.mono.trans a₂.mono)) fun T₃ a₃ => PyProof.Rows.assignInOrder_nil (k T₃ ((a₁.s.trans a₂).trans a₃))))))
noncomputable def Tg.Is (e : PySem.Expr) : Tg → Prop
  | .one x => ∃ p, e = .Name x p
  | .two x y => ∃ p q k r, e = .Tuple [.Name x p, .Name y q] k r
theorem asTg_is {t : Tg} (h : asTg e = some t) : t.Is e :=
  oK h (fun x hx h => asName_k (C := fun e => t.Is e) hx fun p => by cases h; exact ⟨p, rfl⟩) fun _ h => bK h fun es hs h => asTup_k (C := fun e => t.Is e) hs fun c q => mK (C := fun t => Tg.Is (.Tuple es c q) t) h fun p hp => bK hp fun z hz hp => bK hp fun x hx hp => mK (C := fun p : Str × Str => Tg.Is (.Tuple es c q) (Tg.two p.1 p.2)) hp fun y hy =>
    pair_k (C := fun es => (Tg.two x y).Is (.Tuple es c q)) hz (by
      obtain ⟨a, b⟩ := z
      exact asName_k (C := fun a => (Tg.two x y).Is (.Tuple [a, b] c q)) hx fun p => asName_k (C := fun b => (Tg.two x y).Is (.Tuple [.Name x p, b] c q)) hy fun p' => ⟨p, p', c, q, rfl⟩)
theorem bindT_snd {t : Tg} {pr : Bool} (hA : AOk A n) (ht : asTg e = some t) (hok : tgOk F.fn pr t = true) (he : bindT t v st = some st') (i : Inv X F st T) (hv : ItR X pr T v u) (k : KU X F T Q st') : WP X A (assign e F.env u) Q E T := by
  have hi := asTg_is ht
  cases t with
  | one y =>
    obtain ⟨p, rfl⟩ := hi
    refine andK hok fun h1 h2 => ?_
    cases pr with
    | true => cases h1
    | false => exact wpAny_assign_Name (storeName_snd h2 i hv (sQ he k))
  | two y z =>
    obtain ⟨p, q, c, s, rfl⟩ := hi
    refine andK hok fun h1 h3 => andK h1 fun _ h2 => bK he fun l hl he => mQ he k fun w hw k => ?_
    cases pr with
    | true =>
      obtain ⟨Ta, ux, uy, a, b, P⟩ := hv
      have hl : tupV (.tup [a, b]) = some l := P.v ▸ hl
      cases hl
      cases hw
      rw [P.u]
      exact pair_snd hA h2 h3 i P.obj P.a P.b k
    | false => exact tupV_k (C := fun u => WP X A (assign (.Tuple [.Name y p, .Name z q] c s) F.env u) Q E T) hv hl fun Ta us f ⟨m, o⟩ r _ => pair_k (C := fun l => All2 (RepV X.I T) l us → _) hw (fun r => r.k2 (C := fun us => T.s.heap.get? Ta = some (seqObj "tuple" us.toArray m) → WP X A (assign (.Tuple [.Name y p, .Name z q] c s) F.env (.ref Ta)) Q E T) (fun ux uy ha hb o => pair_snd hA h2 h3 i ⟨_, o, rfl, m, rfl⟩ ha hb k) o) r
noncomputable def Mm.fz (M : Mm) (l : Nat) (a : Addr) : Mm := { F := fun b => M.F b ∨ b = a, ad := M.ad, gp := M.gp.set l [] }
theorem mem_flatten_set {gs : List (List Addr)} {l : Nat} {b : Addr} (h : b ∈ (gs.set l []).flatten) : b ∈ gs.flatten := by
  obtain ⟨g, hg, hm⟩ := List.mem_flatten.mp h
  exact (List.mem_or_eq_of_mem_set hg).elim (fun hg => List.mem_flatten.mpr ⟨g, hg, hm⟩) fun e => by cases e; cases hm
theorem not_mem_flatten_set {gs : List (List Addr)} : ∀ {l : Nat} {a : Addr}, gs.flatten.Nodup → gs[l]? = some [a] → a ∉ (gs.set l []).flatten := by
  induction gs with
  | nil => exact fun _ h => nomatch h
  | cons g gs ih =>
    intro l a hn h
    obtain ⟨_, h2, h3⟩ := List.nodup_append.mp (List.flatten_cons ▸ hn)
    cases l with
    | zero => cases h; exact fun q => h3 a (List.mem_singleton_self a) a q rfl
    | succ l => exact fun q => (List.mem_append.mp (List.flatten_cons ▸ q)).elim (fun q => h3 a q a (List.mem_flatten.mpr ⟨[a], List.mem_of_getElem? h, List.mem_singleton_self a⟩) rfl) (ih h2 h)
theorem nodup_flatten_set {gs : List (List Addr)} : ∀ {l : Nat}, gs.flatten.Nodup → (gs.set l []).flatten.Nodup := by
  induction gs with
  | nil => exact fun h => h
  | cons g gs ih =>
    intro l hn
    obtain ⟨h1, h2, h3⟩ := List.nodup_append.mp (List.flatten_cons ▸ hn)
    cases l with
    | zero => exact h2
    | succ l => exact List.flatten_cons ▸ List.nodup_append.mpr ⟨h1, ih h2, fun x hx y hy => h3 x hx y (mem_flatten_set hy)⟩
theorem Mono.fz (l : Nat) (a : Addr) : Mono T (T.mm (T.M.fz l a)) := ⟨fun _ f => .inl f, fun _ _ _ e => e, List.prefix_refl _⟩
theorem Mid.fz (x : Mid X σ T) {j : Nat} {c : Cell} (hg : T.M.gp[j]? = some [a]) (ha : T.M.ad[j]? = some a) (hc : CellRel X (T.mm (T.M.fz j a)) a [] c) : Mid X (σ.set j c) (T.mm (T.M.fz j a)) where
  top := x.top
  base b q := .inl (x.base b q)
  fal b f := f.elim (x.fal b) fun e => by rw [e]; exact x.wal (Mm.W_of hg (List.mem_singleton_self a))
  fw b f q := f.elim (fun f => x.fw b f (mem_flatten_set q)) fun e => not_mem_flatten_set x.nod hg (e ▸ q)
  la := x.la.trans List.length_set.symm
  lg := (List.length_set.trans x.lg).trans List.length_set.symm
  nod := nodup_flatten_set x.nod
  cell k c' e := (getElem?_set_some e).elim (fun ⟨e1, e2⟩ => ⟨a, [], e1 ▸ ha, by rw [← e1]; exact List.getElem?_set_self (List.getElem?_eq_some_iff.mp hg).1, e2 ▸ hc⟩) fun ⟨e1, e2⟩ => (x.cell k c' e2).imp fun a' q => q.imp fun g' q =>
    ⟨q.1, (List.getElem?_set_ne e1).trans q.2.1, q.2.2.mono (.fz j a) fun b o _ e => e⟩
theorem Inv.fz (x : Inv X F st T) {j : Nat} {c : Cell} (hg : T.M.gp[j]? = some [a]) (ha : T.M.ad[j]? = some a) (hc : CellRel X (T.mm (T.M.fz j a)) a [] c) : Aft X F T (st.put j c) (T.mm (T.M.fz j a)) where
  ext := ⟨⟨_, _, rfl⟩, fun _ _ e _ => e, fun _ e => e, fun _ f => .inl f, fun b f => f.elim .inl fun e => .inr (.inl (e ▸ Mm.W_of hg (List.mem_singleton_self a))), fun b f => .inl (mem_flatten_set f), List.prefix_refl _⟩
  mono := .fz j a
  inv := ⟨x.mid.fz hg ha hc, fun b f => ⟨fun q => q.elim (x.ffa b f).1 fun e => (x.ffa b f).2 (e ▸ Mm.W_of hg (List.mem_singleton_self a)), fun q => (x.ffa b f).2 (mem_flatten_set q)⟩, x.frm.mono (.fz j a) fun b o _ e => e⟩
end
open PySem PyProof.Rows PySem.Calls PySem.W
structure SrcAt (X : Cx) (F : Fx) (A : Around) (t : PySem.Expr) (it : It) (T₀ T : Sm) (I : Addr) (N : Nat) (fp wr : List Addr) (P Md : Nat → Value → Heap → Prop) (St : Nat → Heap → Prop) : Prop where
  len : it.items.length = N
  turns : KTurns X.prog X.w A t I fp wr N P Md St
  st0 : St 0 T.s.heap
  al : ∀ i h, St i h → ∀ b ∈ fp, Al h b
  fp : ∀ b ∈ fp, ¬ Wa F T b ∧ (T.M.F b ∨ ¬ Al T₀.s.heap b)
  wr : ∀ b ∈ wr, ¬ T.M.F b ∧ ¬ Al T₀.s.heap b
  item : ∀ (i : Nat) (v : Value) (T' : Sm) (x : V), it.items[i]? = some x → Mono T T' → P i v T'.s.heap → ItR X it.pr T' x v
  self : ∀ (i : Nat) (s' : Shared) (Q : Value → Shared → Prop) (E : Value → Shared → Prop), St i s'.heap → Q (.ref I) s' → wpAny (model X.prog X.w) A (pyIter (.ref I)) Q E s'
noncomputable def Src (X : Cx) (F : Fx) (A : Around) (t : PySem.Expr) (it : It) (T₀ T : Sm) (I : Addr) : Prop := ∃ N fp wr P Md St, SrcAt X F A t it T₀ T I N fp wr P Md St
noncomputable def KI (X : Cx) (F : Fx) (A : Around) (t : PySem.Expr) (T : Sm) (Q : Value → Shared → Prop) (p : It × St) : Prop := ∀ I T', Aft X F T p.2 T' → Src X F A t p.1 T T' I → Q (.ref I) T'.s
section
variable {X : Cx} {F : Fx} {o : Ops} {n : Nat} {st st' : St} {A : Around} {T T₀ T' T'' : Sm} {Q : Value → Shared → Prop} {E : Value → Shared → Prop} {e : PySem.Expr} {r x : R} {u : Value} {v : V} {σ : List Cell} {a b I la : Addr} {l : List V} {us : List Value} {t : Tg} {s : Shared}
theorem SrcAt.older {it : It} {N : Nat} {fp wr : List Addr} {P Md : Nat → Value → Heap → Prop} {St : Nat → Heap → Prop} (x : SrcAt X F A e it T' T'' I N fp wr P Md St) (h : ∀ a, Al T.s.heap a → Al T'.s.heap a) : SrcAt X F A e it T T'' I N fp wr P Md St :=
  { x with fp := fun b q => ⟨(x.fp b q).1, (x.fp b q).2.imp_right fun q k => q (h b k)⟩, wr := fun b q => ⟨(x.wr b q).1, fun k => (x.wr b q).2 (h b k)⟩ }
theorem KI.then {p : It × St} (k : KI X F A e T Q p) (a : Aft X F T st T') : KI X F A e T' Q p := fun I T'' b ⟨N, fp, wr, P, Md, St, x⟩ => k I T'' (a.trans b) ⟨N, fp, wr, P, Md, St, x.older a.ext.al⟩
theorem go_fields {ty : String} {ob : Obj} {fs : Array Value} {Q : Unit → Shared → Prop} {w : Value} (ht : t.Is e) (ho : s.heap.get? I = some ob) (hc : ob.cls = .type ty) (hd : ob.data = .fields fs)
    (hT : ["enumerate", "zip", "dict_itemiterator", "dict_reverseitemiterator", "odict_iterator", "itertools.zip_longest", "itertools.pairwise"].contains ty = false) (k : Q () s) : wpAny (model X.prog X.w) A (letOwnedTupleGo e (.ref I) w) Q E s := by
  cases t with
  | one y => obtain ⟨p, rfl⟩ := ht; exact wpAny_pure k
  | two y z =>
    obtain ⟨p, q, c, r, rfl⟩ := ht
    unfold letOwnedTupleGo
    cases w with
    | ref w =>
      refine wpAny_bind (wpAny_load ho ?_)
      rw [hc, hd]
      dsimp only
      rw [hT]
      exact wpAny_pure k
    | _ => exact wpAny_pure k
theorem fresh_fp (i : Inv X F st T) {h : Heap} {tk : Nat} (hb : ¬ Al T.s.heap b) : ¬ Wa F (T.hp h tk) b ∧ ((T.hp h tk).M.F b ∨ ¬ Al T.s.heap b) := ⟨fun q => hb (q.elim i.wal i.faal), .inr hb⟩
theorem fresh_wr (i : Inv X F st T) {h : Heap} {tk : Nat} (hb : ¬ Al T.s.heap b) : ¬ (T.hp h tk).M.F b ∧ ¬ Al T.s.heap b := ⟨fun f => hb (i.mid.fal _ f), hb⟩
theorem All2.at_ {I : Iota} {j : Nat} {w : Value} {y : V} (r : All2 (RepV I T) l us) (e : us.toArray[j]? = some w) (hx : l[j]? = some y) : RepV I T y w := by
  obtain ⟨u, e1, q⟩ := r.get hx
  cases (List.getElem?_toArray.trans e1).symm.trans e
  exact q
theorem src_seq {ity : String} {ob : Obj} {St : Nat → Heap → Prop} (ht : t.Is e) (i : Inv X F st T) (r : All2 (RepV X.I T) l us) (hF : T.M.F la)
    (hT : ["enumerate", "zip", "dict_itemiterator", "dict_reverseitemiterator", "odict_iterator", "itertools.zip_longest", "itertools.pairwise"].contains ity = false)
    (W : Walks X.prog X.w A T.s.heap.objs.size [T.s.heap.objs.size, la] [T.s.heap.objs.size] us.toArray.size (fun j v => us.toArray[j]? = some v) St) (st0 : St 0 (T.s.heap.push ob))
    (hst : ∀ j h, St j h → (∃ ob fs, h.get? T.s.heap.objs.size = some ob ∧ ob.cls = .type ity ∧ ob.data = .fields fs) ∧ Al h la) (k : KI X F A e T Q (⟨l, false⟩, st)) : Q (.ref T.s.heap.objs.size) { T.s with heap := T.s.heap.push ob } := by
  have a₁ : Aft X F T st (T.hp (T.s.heap.push ob) T.s.toks) := .grow i (keep_push _ _)
  have hI := not_al_size T.s.heap
  exact k _ _ a₁ ⟨_, [T.s.heap.objs.size, la], [T.s.heap.objs.size], _, _, St, {
    len := r.length.symm
    turns := KTurns.ofWalks (target := e) W fun j v s₁ Q₁ E₁ h hq => (hst j _ h).1.elim fun ob q => q.elim fun fs q => go_fields ht q.1 q.2.1 q.2.2 hT hq
    st0 := st0
    al := fun j h q b hb => (List.mem_cons.mp hb).elim (fun e => e ▸ (hst j h q).1.imp fun ob q => q.elim fun _ q => q.1) fun hb => List.mem_singleton.mp hb ▸ (hst j h q).2
    fp := fun b hb => (List.mem_cons.mp hb).elim (fun e => e ▸ fresh_fp i hI) fun hb => List.mem_singleton.mp hb ▸ ⟨i.fr hF, .inl hF⟩
    wr := fun b hb => List.mem_singleton.mp hb ▸ fresh_wr i hI
    item := fun j v T' x hx m hp => (r.at_ hp hx).mono (a₁.mono.trans m)
    self := fun j s₁ Q₁ E₁ h hq => W.self j s₁ Q₁ E₁ h hq }⟩
theorem src_list (hA : AOk A n) (ht : t.Is e) (i : Inv X F st T) (o : T.seq "list" la us) (r : All2 (RepV X.I T) l us) (hF : T.M.F la) (k : KI X F A e T Q (⟨l, false⟩, st)) : WP X A (pyIter (.ref la)) Q E T := by
  obtain ⟨m, o⟩ := o
  have hL : T.s.heap.IsList la us.toArray := ⟨_, o, rfl, m, rfl⟩
  exact wpAny_pyIter_list hL (src_seq ht i r hF (by decide) (Walks.list hA.h _ la (Nat.ne_of_lt (Heap.lt_size o)) us.toArray) ⟨⟨_, Heap.get?_push_size _ rfl, rfl, rfl⟩, hL.at fun o e => keep_push _ _ _ o e⟩
    (fun j h ⟨⟨ob, ho, hc, hd⟩, ⟨oc, hc', _⟩⟩ => ⟨⟨ob, _, ho, hc, hd⟩, ⟨oc, hc'⟩⟩) k)
theorem src_tuple (hA : AOk A n) (ht : t.Is e) (i : Inv X F st T) (o : T.seq "tuple" la us) (r : All2 (RepV X.I T) l us) (hF : T.M.F la) (k : KI X F A e T Q (⟨l, false⟩, st)) : WP X A (pyIter (.ref la)) Q E T := by
  obtain ⟨m, o⟩ := o
  have hL : T.s.heap.IsTuple la us.toArray := ⟨_, o, rfl, m, rfl⟩
  exact wpAny_pyIter_tuple hL (src_seq ht i r hF (by decide) (Walks.tuple hA.h _ la (Nat.ne_of_lt (Heap.lt_size o)) us.toArray) ⟨⟨_, Heap.get?_push_size _ rfl, rfl, rfl⟩, hL.at fun o e => keep_push _ _ _ o e⟩
    (fun j h ⟨⟨ob, ho, hc, hd⟩, ⟨oc, hc', _⟩⟩ => ⟨⟨ob, _, ho, hc, hd⟩, ⟨oc, hc'⟩⟩) k)
theorem rngOk_k {a b c : Int} {P : Prop} (h : rngOk a b c = true) (k : 0 < c → a.natAbs ≤ 4294967296 → b.natAbs ≤ 4294967296 → c.natAbs ≤ 4294967296 → ((b - a + c - 1) / c).toNat ≤ lim → P) : P :=
  andK h fun h h5 => andK h fun h h4 => andK h fun h h3 => andK h fun h1 h2 => k (decK h1) (decK h2) (decK h3) (decK h4) (decK h5)
theorem src_range {b : Int} {t₁ t₂ t₃ : Tok} (hA : AOk A n) (ht : t.Is e) (i : Inv X F st T) (hr : IsRange T.s.heap la 0 b 1 t₁ t₂ t₃) (hok : rngOk 0 b 1 = true) (k : KI X F A e T Q (intIt (rangeL 0 b 1), st)) : WP X A (pyIter (.ref la)) Q E T :=
  rngOk_k hok fun _ _ hb _ hz => by
    have hsm : Builtin.Range.small 0 b 1 = true := small_one (by omega) (by omega) (by omega) (by omega)
    refine wpAny_pyIter_range hr hsm ?_
    have hlen : (It.items (intIt (rangeL 0 b 1))).length = (b - 0).toNat := by
      show (((List.range _).map _).map _).length = _
      rw [List.length_map, List.length_map, List.length_range, Int.ediv_one, Int.add_sub_cancel]
    have W := Walks.range (prog := X.prog) (w := X.w) (A := A) hA.h T.s.heap.objs.size 0 1 (b - 0).toNat
    have hI := not_al_size T.s.heap
    rw [rangeSize_nat]
    have a₁ : Aft X F T st (T.hp (T.s.heap.push { cls := .type "range_iterator", data := .fields #[rawInt 0, rawInt (((b - 0).toNat : Nat) : Int), rawInt 1] }) T.s.toks) := .grow i (keep_push _ _)
    refine k _ _ a₁ ⟨_, [T.s.heap.objs.size], [T.s.heap.objs.size], _, _, _, {
      len := hlen
      turns := KTurns.ofWalks (target := e) W fun j v s₁ Q₁ E₁ h hq => go_fields ht h rfl rfl (by decide) hq
      st0 := ?_
      al := fun j h q b hb => List.mem_singleton.mp hb ▸ ⟨_, q⟩
      fp := fun b hb => List.mem_singleton.mp hb ▸ fresh_fp i hI
      wr := fun b hb => List.mem_singleton.mp hb ▸ fresh_wr i hI
      item := fun j v T' x hx m hp => ?_
      self := fun j s₁ Q₁ E₁ h hq => W.self j s₁ Q₁ E₁ h hq }⟩
    · have q : (T.s.heap.push _).get? T.s.heap.objs.size = some { cls := .type "range_iterator", data := .fields #[rawInt 0, rawInt (((b - 0).toNat : Nat) : Int), rawInt 1] } := Heap.get?_push_size _ rfl
      show IsRangeIter (T.s.heap.push _) T.s.heap.objs.size 0 ((((b - 0).toNat : Nat) : Int) - 0) 1
      rw [show (((b - 0).toNat : Nat) : Int) - 0 = (((b - 0).toNat : Nat) : Int) from Int.sub_zero _]
      exact q
    · obtain ⟨tk, rfl⟩ := hp
      have hj : j < (List.range ((b - 0 + 1 - 1) / 1).toNat).length := by
        have := (List.getElem?_eq_some_iff.mp hx).1
        rw [hlen] at this
        rw [List.length_range, Int.ediv_one, Int.add_sub_cancel]
        exact this
      have hx : (((List.range ((b - 0 + 1 - 1) / 1).toNat).map fun (i : Nat) => (0 : Int) + i * 1).map fun i => V.d (.int i))[j]? = some x := hx
      rw [List.getElem?_map, List.getElem?_map, List.getElem?_eq_getElem hj, List.getElem_range] at hx
      cases hx
      exact ⟨tk, rfl⟩
theorem enumL_get (l : List V) : ∀ {m j : Nat} {x : V}, (enumL m l)[j]? = some x → ∃ v, l[j]? = some v ∧ x = .tup [.d (.int ((m + j : Nat) : Int)), v] := by
  induction l with
  | nil => exact fun h => nomatch h
  | cons v l ih =>
    intro m j x h
    cases j with
    | zero => cases h; exact ⟨v, rfl, rfl⟩
    | succ j =>
      obtain ⟨v', e1, e2⟩ := ih (m := m + 1) h
      exact ⟨v', e1, by rw [e2, Nat.add_right_comm]; rfl⟩
theorem enumL_length (l : List V) : ∀ m, (enumL m l).length = l.length := by
  induction l with
  | nil => exact fun _ => rfl
  | cons v l ih => exact fun m => congrArg (· + 1) (ih _)
theorem tgOk_pr {x : Str} {fn : Fn} (h : tgOk fn true (.one x) = true) {P : Prop} : P := nomatch h
theorem src_enum {fn' : Fn} (hA : AOk A n) (ht : t.Is e) (hok : tgOk fn' true t = true) (i : Inv X F st T) (o : T.seq "list" la us) (r : All2 (RepV X.I T) l us) (hF : T.M.F la) (k : KI X F A e T Q (⟨enumL 0 l, true⟩, st)) : WP X A (call (.type "enumerate") [.ref la]) (fun v s => wpAny (model X.prog X.w) A (pyIter v) Q E s) E T := by
  cases t with
  | one x => exact tgOk_pr hok
  | two x y =>
    obtain ⟨p, q, c, s, rfl⟩ := ht
    obtain ⟨m, o⟩ := o
    have hL : T.s.heap.IsList la us.toArray := ⟨_, o, rfl, m, rfl⟩
    refine call_enumerate_list hL fun h' he hit hz hk => ?_
    have a₁ : Aft X F T st (T.hp h' T.s.toks) := .grow i hk
    have big : ∀ a, T.s.heap.objs.size ≤ a → ¬ Al T.s.heap a := fun a ha q => absurd q.lt (Nat.not_lt.mpr ha)
    have hla : @LT.lt Nat _ la T.s.heap.objs.size := Heap.lt_size o
    have W := (WalksT.enumerate (prog := X.prog) (w := X.w) (A := A) hA.h (T.s.heap.objs.size + 1) T.s.heap.objs.size la (Nat.succ_ne_self _) (Nat.ne_of_lt (Nat.lt_succ_of_lt hla)) (Nat.ne_of_lt hla) us.toArray).toU
    have hlen : (It.items ⟨enumL 0 l, true⟩).length = us.toArray.size := (enumL_length l 0).trans r.length.symm
    have st0 : (∃ old, IsEnum h' (T.s.heap.objs.size + 1) T.s.heap.objs.size ((0 : Nat) : Int) old) ∧ h'.IsListIter T.s.heap.objs.size la 0 ∧ h'.IsList la us.toArray := ⟨⟨_, he⟩, hit, hL.at fun o e => hk _ o e⟩
    refine W.self 0 _ _ _ st0 (k _ _ a₁ ⟨_, [T.s.heap.objs.size + 1, T.s.heap.objs.size, la], [T.s.heap.objs.size + 1, T.s.heap.objs.size], _, _, _, {
      len := hlen
      turns := KTurns.ofWalksU W
      st0 := st0
      al := fun j h ⟨⟨old, he⟩, ⟨ob, ho, _⟩, ⟨oc, hc, _⟩⟩ b hb => (List.mem_cons.mp hb).elim (fun e => e ▸ ⟨_, he⟩) fun hb => (List.mem_cons.mp hb).elim (fun e => e ▸ ⟨_, ho⟩) fun hb => List.mem_singleton.mp hb ▸ ⟨_, hc⟩
      fp := fun b hb => (List.mem_cons.mp hb).elim (fun e => e ▸ fresh_fp i (big _ (Nat.le_succ _))) fun hb => (List.mem_cons.mp hb).elim (fun e => e ▸ fresh_fp i (big _ (Nat.le_refl _))) fun hb => List.mem_singleton.mp hb ▸ ⟨i.fr hF, .inl hF⟩
      wr := fun b hb => (List.mem_cons.mp hb).elim (fun e => e ▸ fresh_wr i (big _ (Nat.le_succ _))) fun hb => List.mem_singleton.mp hb ▸ fresh_wr i (big _ (Nat.le_refl _))
      item := fun j v T' x hx m hp => ?_
      self := fun j s₁ Q₁ E₁ h hq => W.self j s₁ Q₁ E₁ h hq }⟩)
    obtain ⟨Ta, vals, rfl, ⟨tk, y, e1, rfl⟩, hT⟩ := hp
    obtain ⟨v', e2, rfl⟩ := enumL_get l hx
    exact ⟨Ta, _, y, _, v', rfl, hT, rfl, ⟨tk, by rw [Nat.zero_add]⟩, (r.at_ e1 e2).mono (a₁.mono.trans m)⟩
theorem iterC_k {j : Nat} {p : List V × List Cell} {P : Prop} (a₀ : Aft X F T₀ st T) (ha : T.M.ad[j]? = some a) (h : iterC st.store j st.store[j]? = some p) (k : ∀ T' us, T'.s = T.s → Aft X F T₀ (st.sto p.2) T' → T'.M.F a → T'.seq "list" a us → All2 (RepV X.I T') p.1 us → p.1.length ≤ lim → P) : P := by
  cases hc : st.store[j]? with
  | none => rw [hc] at h; exact nK h
  | some c =>
    rw [hc] at h
    cases c with
    | lst l =>
      refine mQ (C := fun p : List V × List Cell => ∀ T' us, T'.s = T.s → Aft X F T₀ (st.sto p.2) T' → T'.M.F a → T'.seq "list" a us → All2 (RepV X.I T') p.1 us → p.1.length ≤ lim → P) h k fun ds hd k => a₀.inv.mid.cell_k ha hc fun g hg ⟨e, us, o, r, z⟩ => ?_
      cases e
      have r₁ := allD_k (P := fun l => All2 (RepV X.I T) l us → All2 (RepD X.I T) ds us) hd (fun r => (All2.map (f := V.d) (P := RepV X.I T)).mp r) r
      have z₁ := allD_k (P := fun l => l.length ≤ lim → ds.length ≤ lim) hd (fun z => List.length_map (as := ds) V.d ▸ z) z
      have a₁ := a₀.inv.fz (c := .froz ds) hg ha ⟨rfl, a, us, rfl, .inr rfl, o, z₁, repDs_eq.mpr (r₁.monoD (.fz j a))⟩
      exact k (T.mm (T.M.fz j a)) us rfl (a₀.trans a₁) (.inr rfl) o (r.mono a₁.mono) z
    | froz ds => cases h; exact a₀.inv.mid.cell_k ha hc fun g _ q => RepD.lst_k (P := fun u => u = .ref a → P) q.2 (fun b us f o z r e => by cases e; exact k T us rfl a₀ f o (All2.map.mpr r) (List.length_map (as := ds) V.d ▸ z)) rfl
    | _ => exact nK h
theorem iterL_k {p : List V × List Cell} {C : Value → Prop} (a₀ : Aft X F T₀ st T) (hr : RR X F T₀ T r u) (h : iterL st.store r = some p) (k : ∀ T' la us, T'.s = T.s → Aft X F T₀ (st.sto p.2) T' → T'.M.F la → T'.seq "list" la us → All2 (RepV X.I T') p.1 us → C (.ref la)) : C u :=
  oK h (fun j hj h => hr.loc_k (P := C) hj fun a ha => iterC_k a₀ ha h fun T' us e x f o r _ => k T' a us e x f o r) fun hj h => mQ (C := fun p : List V × List Cell => ∀ T' la us, T'.s = T.s → Aft X F T₀ (st.sto p.2) T' → T'.M.F la → T'.seq "list" la us → All2 (RepV X.I T') p.1 us → C (.ref la)) h k fun l hl k => by
    cases r with
    | fresh l' =>
      cases hl
      obtain ⟨a, us, rfl, q⟩ := hr
      have a₁ := a₀.frz (P := (· = a)) fun b e => e ▸ ⟨q.obj.elim fun _ e => ⟨_, e⟩, q.nw, q.new⟩
      exact k (T.mm (T.M.frz (· = a))) a us rfl a₁ (.inr rfl) q.obj (q.rep.mono (.frz _))
    | val v =>
      cases v with
      | d x => cases x with
        | lst ds => cases hl; exact RepD.lst_k (P := C) hr fun a us f o z r => k T a us rfl a₀ f o (All2.map.mpr r)
        | _ => exact nK hl
      | loc j => cases hj
      | tup _ => exact nK hl
theorem iterR_k {p : List V × List Cell} {C : Value → Prop} (a₀ : Aft X F T₀ st T) (hr : RR X F T₀ T r u) (h : iterR st.store r = some p) (k : ∀ T' ty la us, T'.s = T.s → Aft X F T₀ (st.sto p.2) T' → ty = "list" ∨ ty = "tuple" → T'.M.F la → T'.seq ty la us → All2 (RepV X.I T') p.1 us → C (.ref la)) : C u :=
  oK h (fun l hl h => tup_k (C := C) hr hl fun a us f o r _ => by cases h; exact k T _ a us rfl a₀ (.inr rfl) f o r) fun _ h => iterL_k a₀ hr h fun T' la us e a => k T' _ la us e a (.inl rfl)
theorem iter0_snd (H : Snd X o n) {t' : PySem.Expr} {p : It × St} (hA : AOk A n) (ht : t.Is t') (he : evIter0 o F.fn e st = some p) (i : Inv X F st T) (k : KI X F A t' T Q p) : WP X A (eval e F.env) (fun x s₁ => wpAny (model X.prog X.w) A (pyIter x) Q E s₁) E T :=
  evB H hA i he fun p₁ u T₁ a₁ q₁ he => mQ he k fun l hl k => iterR_k (C := fun u => wpAny (model X.prog X.w) A (pyIter u) Q E T₁.s) a₁ q₁ hl fun T₂ ty la us e a₂ hty hF o r => e ▸ by
    cases hty with
    | inl e => cases e; exact src_list hA ht a₂.inv o r hF (k.then a₂)
    | inr e => cases e; exact src_tuple hA ht a₂.inv o r hF (k.then a₂)
theorem range_snd (H : Snd X o n) (HT : Top X) {t' : PySem.Expr} {f : Str} {as : List PySem.Expr} {p : It × St} {p' pos : Pos} (hf : f = "range") (hb : isBlt X.G F.fn f = true) (hA : AOk A n) (ht : t.Is t') (he : evRange o F.fn as st = some p) (i : Inv X F st T) (k : KI X F A t' T Q p) : WP X A (eval (.Call (.Name f p') as [] pos) F.env) (fun x s₁ => wpAny (model X.prog X.w) A (pyIter x) Q E s₁) E T :=
  bK he fun a ha he => one_k (C := fun as => WP X A (eval (.Call (.Name f p') as [] pos) F.env) (fun x s₁ => wpAny (model X.prog X.w) A (pyIter x) Q E s₁) E T) ha (blt1 HT (v := .type "range") hb (hf ▸ rfl) (.inr ⟨_, rfl⟩) (bK he fun _ h _ => bK h fun _ h _ => bK h fun _ h _ => star1 H h) i
    (evIntB H hA i he fun q tk T₁ a₁ he => iK he fun hok he => call_range_1 (by
      have a₂ : Aft X F T₁ q.2 (T₁.hp (T₁.s.heap.push { cls := .type "range", data := .fields #[.int 0 T₁.s.toks, .int q.1 tk, .int 1 (T₁.s.toks + 1)] }) (T₁.s.toks + 1 + 1)) := .grow a₁.inv (keep_push _ _)
      exact src_range hA ht a₂.inv (IsRange.new ..) hok ((sQ he k).then (a₁.trans a₂)))))
theorem enum_snd (H : Snd X o n) (HT : Top X) {fn' : Fn} {t' : PySem.Expr} {f : Str} {as : List PySem.Expr} {p : It × St} {p' pos : Pos} (hf : f = "enumerate") (hb : isBlt X.G F.fn f = true) (hA : AOk A n) (ht : t.Is t') (hok : tgOk fn' p.1.pr t = true) (he : evEnum o F.fn as st = some p) (i : Inv X F st T) (k : KI X F A t' T Q p) : WP X A (eval (.Call (.Name f p') as [] pos) F.env) (fun x s₁ => wpAny (model X.prog X.w) A (pyIter x) Q E s₁) E T :=
  bK he fun a ha he => one_k (C := fun as => WP X A (eval (.Call (.Name f p') as [] pos) F.env) (fun x s₁ => wpAny (model X.prog X.w) A (pyIter x) Q E s₁) E T) ha (blt1 HT (v := .type "enumerate") hb (hf ▸ rfl) (.inr ⟨_, rfl⟩) (bK he fun _ h _ => star1 H h) i
    (evB H hA i he fun p₁ u T₁ a₁ q₁ he => mQ (C := fun p => tgOk fn' p.1.pr t = true ∧ KI X F A t' T Q p) he ⟨hok, k⟩ fun l hl k => iterL_k (C := fun u => wpAny (model X.prog X.w) A (call (.type "enumerate") [u]) _ E T₁.s) a₁ q₁ hl fun T₂ la us e a₂ hF o r => e ▸ src_enum hA ht k.1 a₂.inv o r hF (k.2.then a₂)))
theorem iter_snd (H : Snd X o n) (HT : Top X) {fn' : Fn} {t' : PySem.Expr} {p : It × St} (hA : AOk A n) (ht : t.Is t') (hok : tgOk fn' p.1.pr t = true) (he : evIter X.G o F.fn e st = some p) (i : Inv X F st T) (k : KI X F A t' T Q p) : WP X A (eval e F.env) (fun x s₁ => wpAny (model X.prog X.w) A (pyIter x) Q E s₁) E T :=
  oK he (fun fa hf he => asCall_k (C := fun e => evIterC X.G o F.fn e st fa.1 fa.2 = some p → WP X A (eval e F.env) (fun x s₁ => wpAny (model X.prog X.w) A (pyIter x) Q E s₁) E T) hf (fun p' pos he => eK he (fun h he => andK h fun h1 h2 => range_snd H HT (decK h1) h2 hA ht he i k) fun he => eK he (fun h he => andK h fun h1 h2 => enum_snd H HT (decK h1) h2 hA ht hok he i k) fun he => iter0_snd H hA ht he i k) he) fun _ he => iter0_snd H hA ht he i k
end
open PySem PyProof.Rows PySem.Calls PySem.W
noncomputable def InnerWp (prog : Program) (w : World) (A : Around) (elt : PySem.Expr) (gs0 : List Comprehension) (sc : Scope) (pos : Pos) (d : Nat) (acc : Value) (env : Env) (K : Shared → Prop) (E : Value → Shared → Prop) (s : Shared) : Prop :=
  match gs0[d]? with
  | some g' => wpAny (model prog w) A (eval g'.iter env) (fun x s₁ => wpAny (model prog w) A (pyIter x) (fun it s₃ => wpAny (model prog w) A (runOwn (.compStart (.ListComp elt gs0 sc pos) d it acc env) env) (fun _ s₄ => K s₄) E s₃) E s₁) E s
  | none => wpAny (model prog w) A (eval elt env) (fun x s₁ => wpAny (model prog w) A (call (.builtin "list.append") [acc, x]) (fun _ s₂ => K s₂) E s₁) E s
section
variable {prog : Program} {w : World} {A : Around} {s : Shared} {E : Value → Shared → Prop}
theorem wp_compTurn {elt : PySem.Expr} {gs0 : List Comprehension} {sc : Scope} {pos : Pos} {d : Nat} {g : Comprehension} (hg : gs0[d]? = some g) (ha : g.is_async = 0) (hn : ∀ g', gs0[d + 1]? = some g' → g'.is_async = 0) {env : Env} (hs : ∀ g', gs0[d + 1]? = some g' → ∀ x, foldedSetIterable g'.iter env x = pure x) {it acc : Value} {Q : Fin → Shared → Prop}
    (h : wpAny (model prog w) A (pyNext it) (fun r s₁ => match r with
      | none => Q (.done .next) s₁
      | some v => wpAny (model prog w) A (letOwnedTupleGo g.target it v) (fun _ s₂ => wpAny (model prog w) A (assign g.target env v) (fun _ s₃ =>
          wpAny (model prog w) A (forIn g.ifs true fun c r => if r = true then do let ok ← isTrue c env (eval c env); pure (ForInStep.yield ok) else pure (ForInStep.yield r)) (fun ok s₄ =>
            if ok = true then InnerWp prog w A elt gs0 sc pos (d + 1) acc env (fun s₅ => Q (.again (.compLoop (.ListComp elt gs0 sc pos) d it acc env)) s₅) E s₄
            else Q (.again (.compLoop (.ListComp elt gs0 sc pos) d it acc env)) s₄) E s₃) E s₂) E s₁) E s) :
    wpAny (model prog w) A (compTurn (.ListComp elt gs0 sc pos) d it acc env) Q E s := by
  obtain ⟨target, iter, ifs, a⟩ := g
  dsimp only at ha
  subst ha
  unfold compTurn
  dsimp only
  rw [hg]
  dsimp only
  refine wpAny_bind (wpAny_standAt ?_)
  refine wpAny_bind (wpAny_mono h (fun r s₁ h₁ => ?_) fun _ _ x => x)
  cases r with
  | none => exact wpAny_pure h₁
  | some v =>
    refine wpAny_bind (wpAny_mono h₁ (fun _ s₂ h₂ => ?_) fun _ _ x => x)
    refine wpAny_bind (wpAny_mono h₂ (fun _ s₃ h₃ => ?_) fun _ _ x => x)
    refine wpAny_bind (wpAny_mono h₃ (fun ok s₄ h₄ => ?_) fun _ _ x => x)
    cases ok with
    | false => exact wpAny_pure h₄
    | true =>
      simp only [if_true] at h₄ ⊢
      unfold InnerWp at h₄
      cases hg' : gs0[d + 1]? with
      | none =>
        rw [hg'] at h₄
        exact wpAny_bind (wpAny_bind (wpAny_mono h₄ (fun x s₅ h₅ => wpAny_bind (wpAny_mono h₅ (fun _ s₆ h₆ => wpAny_pure (wpAny_pure h₆)) fun _ _ x => x)) fun _ _ x => x))
      | some g' =>
        rw [hg'] at h₄
        have h0 := hn g' hg'
        have h1 := hs g' hg'
        obtain ⟨target', iter', ifs', a'⟩ := g'
        dsimp only at h0
        subst h0
        dsimp only at h₄ h1 ⊢
        refine wpAny_bind (wpAny_mono h₄ (fun x s₅ h₅ => wpAny_bind (wpAny_standAt ?_)) fun _ _ x => x)
        refine wpAny_bind (wpAny_of_eq (h1 x) (wpAny_bind (wpAny_holding (wpAny_mono h₅ (fun it' s₆ h₆ => wpAny_bind (wpAny_mono h₆ (fun _ s₇ h₇ => wpAny_pure h₇) fun _ _ x => x)) fun _ _ x => x))))
end
section
variable {prog : Program} {w : World} {A : Around} {R : Result → Shared → Prop} {s : Shared}
theorem codeAny_compStart_at {elt : PySem.Expr} {gs0 : List Comprehension} {sc : Scope} {pos : Pos} {d : Nat} {g : Comprehension} (hg : gs0[d]? = some g) (ha : g.is_async = 0) {it acc : Value} {env : Env}
    (h0 : codeAny (model prog w) A (.compLoop (.ListComp elt gs0 sc pos) d it acc env) R s)
    (h : wpAny (model prog w) A (pyIter it) (fun it' s' => codeAny (model prog w) A (.compLoop (.ListComp elt gs0 sc pos) d it' acc env) R s') (notedBy (model prog w) A env fun x s' => R (.error x) s') s) :
    codeAny (model prog w) A (.compStart (.ListComp elt gs0 sc pos) d it acc env) R s := by
  refine codeAny_of_tree ?_
  show wpAny _ _ ((compStart (.ListComp elt gs0 sc pos) d it acc env).onRaise (fun x => do noteFrame x env; standAt theWindowsPlace)) _ _ s
  refine wpAny_notedAt ?_
  unfold compStart
  have hc : (clausesOf (.ListComp elt gs0 sc pos))[d]? = some g := hg
  rw [hc]
  have hf : ((some g).elim false (fun x => x.is_async != 0)) = false := by simp [ha]
  simp only [hf, Bool.false_eq_true, if_false]
  refine wpAny_bind (wpAny_askSetting (wpAny_ite ?_))
  split
  · exact wpAny_pure (And.intro rfl h0)
  · exact wpAny_bind (wpAny_rule (wpAny_bind (wpAny_standAt (wpAny_bind (wpAny_mono h (fun it' s' h' => wpAny_pure (And.intro rfl h')) fun _ _ x => x)))))
end
open PySem PyProof.Rows PySem.Calls PySem.W
noncomputable def ExtB (B : Addr → Prop) (F : Fx) (T T' : Sm) : Prop := Ext (fun a => Wr F T a ∨ B a) T T'
structure LI (F : Fx) (B : Addr → Prop) (fp wr : List Addr) (Sf : Nat → Heap → Prop) (TS : Sm) (j : Nat) (T : Sm) : Prop where
  st : Sf j T.s.heap
  fp : ∀ b ∈ fp, ¬ Wa F T b ∧ ¬ B b
  wr : ∀ b ∈ wr, ¬ T.M.F b
  mono : Mono TS T
section
variable {X : Cx} {F F₀ : Fx} {o : Ops} {n : Nat} {st st' : St} {A : Around} {T T₀ T₁ TS T' T'' : Sm} {Q : Value → Shared → Prop} {E : Value → Shared → Prop} {e t : PySem.Expr} {u : Value} {v : V} {a b I D : Addr} {l : List V} {us : List Value} {B : Addr → Prop} {fp wr : List Addr} {P Md : Nat → Value → Heap → Prop} {Sf : Nat → Heap → Prop} {j N : Nat} {it : It}
theorem ExtB.of (x : Ext (Wr F T) T T') : ExtB B F T T' := x.weaken fun _ h => .inl (.inl h)
theorem ExtB.ofW (x : Ext T.M.W T T') : ExtB B F T T' := x.weaken fun _ h => .inl (.inl (.inl h))
theorem ExtB.trans (x : ExtB B F T T') (y : ExtB B F T' T'') : ExtB B F T T'' := Ext.trans x y fun a h => h.elim (fun h => h.elim (fun h => (x.wnew a h).imp_left fun h => .inl (.inl h)) fun h => .inl (.inl (.inr h))) fun h => .inl (.inr h)
theorem LI.ext (L : LI F B fp wr Sf TS j T) (W : KTurns X.prog X.w A t I fp wr N P Md Sf) (hal : ∀ i h, Sf i h → ∀ b ∈ fp, Al h b) (x : ExtB B F T T') (m : Mono T T') : LI F B fp wr Sf TS j T' where
  st := W.frame j _ _ L.st fun b hb o e => x.keep b o e fun q => q.elim (fun q => (L.fp b hb).1 q.wa) (L.fp b hb).2
  fp b hb := ⟨fun q => q.elim (fun q => (x.wnew b q).elim (fun q => (L.fp b hb).1 (.inl q)) fun q => q (hal j _ L.st b hb)) fun q => (L.fp b hb).1 (.inr q), (L.fp b hb).2⟩
  wr b hb q := (x.fnew b q).elim (L.wr b hb) fun q => q.elim (fun q => (L.fp b (W.sub b hb)).1 (.inl q)) fun q => q (hal j _ L.st b (W.sub b hb))
  mono := L.mono.trans m
structure Dr (X : Cx) (F : Fx) (B : Addr → Prop) (wr : List Addr) (st : St) (T₁ T T' : Sm) : Prop where
  M : T'.M = T.M
  keep : ∀ b o, b ∉ wr → T.s.heap.get? b = some o → T'.s.heap.get? b = some o
  mono : Mono T T'
  inv : Inv X F st T'
  ext : ExtB B F T₁ T'
theorem draw_snd (W : KTurns X.prog X.w A t I fp wr N P Md Sf) (hitem : ∀ (i : Nat) (v : Value) (T' : Sm) (x : V), it.items[i]? = some x → Mono TS T' → P i v T'.s.heap → ItR X it.pr T' x v) (hlen : it.items.length = N)
    (hwr : ∀ b ∈ wr, ¬ Al T₁.s.heap b) (L : LI F B fp wr Sf TS j T) (i : Inv X F st T) (x₀ : ExtB B F T₁ T) {Q : Option Value → Shared → Prop}
    (hd : j = N → ∀ T', Dr X F B wr st T₁ T T' → Q .none T'.s)
    (hi : ∀ x v s₁, it.items[j]? = some x → (∀ {Q' : Unit → Shared → Prop} {E' : Value → Shared → Prop}, (∀ T', Dr X F B wr st T₁ T T' → LI F B fp wr Sf TS (j + 1) T' → ItR X it.pr T' x v → Q' () T'.s) → wpAny (model X.prog X.w) A (letOwnedTupleGo t (.ref I) v) Q' E' s₁) → Q (some v) s₁)
    (hj : j ≤ N) : WP X A (pyNext (.ref I)) Q E T := by
  have dr : ∀ {h' : Heap} {tk : Nat}, (∀ b o, b ∉ wr → T.s.heap.get? b = some o → h'.get? b = some o) → Dr X F B wr st T₁ T (T.hp h' tk) := fun {h' tk} hk => by
    have hn : ∀ b, T.M.F b ∨ T.M.W b ∨ FA F.env b → b ∉ wr := fun b q z => q.elim (L.wr b z) fun q => (L.fp b (W.sub b z)).1 q
    refine ⟨rfl, hk, ⟨fun _ f => f, fun b o f => hk b o (hn b (.inl f)), List.prefix_refl _⟩, i.hp fun b o q => hk b o (hn b q), ?_⟩
    obtain ⟨h₁, t₁, hs₁⟩ := x₀.sh
    exact ⟨⟨h', tk, by show { T.s with heap := h', toks := tk } = _; rw [hs₁]⟩, fun a o e n => hk a o (fun q => hwr a q ⟨_, e⟩) (x₀.keep a o e n), fun a q => (x₀.al a q).imp fun o e => hk a o (fun z => hwr a z q) e, x₀.F, x₀.fnew, x₀.wnew, x₀.ad⟩
  by_cases hlt : j < N
  · have hx := List.getElem?_eq_getElem (hlen ▸ hlt : j < it.items.length)
    refine W.item j _ _ _ hlt L.st fun v h₁ tk₁ hMd hk₁ => hi _ v _ hx fun {Q' E'} k' => W.go j v _ _ _ hMd fun h₂ hP hst₂ hk₂ => ?_
    have d := dr (h' := h₂) (tk := tk₁) fun b o hb e => hk₂ b o hb (hk₁ b o hb e)
    exact k' _ d ⟨hst₂, L.fp, L.wr, L.mono.trans d.mono⟩ (hitem j v _ _ hx (L.mono.trans d.mono) hP)
  · cases Nat.le_antisymm hj (Nat.not_lt.mp hlt)
    exact W.done _ _ _ L.st fun h₁ tk₁ hk₁ => hd rfl _ (dr hk₁)
theorem tests_snd (H : Snd X o n) (hA : AOk A n) {ifs : List PySem.Expr} {p : Bool × St} {QB : Bool → Shared → Prop} (he : tests o F.fn st ifs = some p) (i : Inv X F st T) (k : KT X F T QB p) :
    WP X A (forIn ifs true fun c r => if r = true then do let ok ← isTrue c F.env (eval c F.env); pure (ForInStep.yield ok) else pure (ForInStep.yield r)) QB E T := by
  cases ifs with
  | nil => exact wpAny_tests_nil (sQ he k T (.refl i))
  | cons c ifs => exact iK he fun hn he => empty_k (C := fun ifs => WP X A (forIn (c :: ifs) true fun c r => if r = true then do let ok ← isTrue c F.env (eval c F.env); pure (ForInStep.yield ok) else pure (ForInStep.yield r)) QB E T) hn (wpAny_tests_one (H.tt hA he i k))
structure AccAt (X : Cx) (F : Fx) (T : Sm) (D : Addr) (l : List V) : Prop where
  at_ : ∃ us, T.seq "list" D us ∧ All2 (RepV X.I T) l us
  f : ¬ T.M.F D
  w : ¬ Wa F T D
theorem AccAt.al (a : AccAt X F T D l) : Al T.s.heap D := a.at_.elim fun _ q => q.1.elim fun _ e => ⟨_, e⟩
theorem AccAt.aft (a : AccAt X F T D l) (x : AftS X F T st T') : AccAt X F T' D l :=
  ⟨a.at_.imp fun us q => ⟨q.1.imp fun n e => x.ext.keep D _ e fun q => a.w q.wa, q.2.mono x.mono⟩, fun q => (x.ext.fnew D q).elim a.f fun q => q.elim (fun q => a.w (.inl q)) fun q => q a.al, fun q => q.elim (fun q => (x.ext.wnew D q).elim (fun q => a.w (.inl q)) fun q => q a.al) fun q => a.w (.inr q)⟩
theorem AccAt.drawn (a : AccAt X F T D l) (hD : D ∉ wr) (x : Dr X F B wr st T₁ T T') : AccAt X F T' D l :=
  ⟨a.at_.imp fun us q => ⟨q.1.imp fun n e => x.keep D _ hD e, q.2.mono x.mono⟩, x.M ▸ a.f, fun q => a.w (q.imp_left fun q => (x.M ▸ q : T.M.W D))⟩
noncomputable def KA (X : Cx) (F : Fx) (D : Addr) (T : Sm) (acc : List V) (K : Shared → Prop) (p : List V × St) : Prop := ∀ T', ExtB (· = D) F T T' → Mono T T' → Inv X F p.2 T' → AccAt X F T' D (acc ++ p.1) → K T'.s
theorem turns_k {f : V → St → Option (List V × St)} {q : List V × St} {P : Prop} (h : turns f (v :: l) st = some q) (k : ∀ p r, f v st = some p → turns f l p.2 = some r → q = (p.1 ++ r.1, r.2) → P) : P :=
  bK h fun p hp h => mK (C := fun q' => q = q' → P) h (fun r hr e => k p r hp hr e) rfl
theorem cloop_snd (H : Snd X o n) (hA : AOk A n) {elt : PySem.Expr} {gs0 : List Comprehension} {sc : Scope} {pos : Pos} {d : Nat} {g : Comprehension} (hg : gs0[d]? = some g) (ha : g.is_async = 0) (hn : ∀ g', gs0[d + 1]? = some g' → g'.is_async = 0) (hs : ∀ g', gs0[d + 1]? = some g' → ∀ x, foldedSetIterable g'.iter F.env x = pure x)
    {tg : Tg} {acc : List V} {p : List V × St} {inner : St → Option (List V × St)} {R : Result → Shared → Prop} (htg : asTg g.target = some tg) (hok : tgOk F.fn it.pr tg = true)
    (hin : ∀ {st : St} {q : List V × St} {acc : List V} {T : Sm} {E : Value → Shared → Prop} {K : Shared → Prop}, inner st = some q → Inv X F st T → AccAt X F T D acc → acc.length + q.1.length ≤ lim → KA X F D T acc K q → InnerWp X.prog X.w A elt gs0 sc pos (d + 1) (.ref D) F.env K E T.s)
    (hS : SrcAt X F₀ A g.target it T₀ TS I N fp wr P Md Sf) (hwr : ∀ b ∈ wr, ¬ Al T₁.s.heap b) (L₀ : LI F (· = D) fp wr Sf TS 0 T) (x₀ : ExtB (· = D) F T₁ T) (m₀ : Mono T₁ T)
    (he : turns (compTurn' o F.fn tg g.ifs inner) it.items st = some p) (i : Inv X F st T) (hacc : AccAt X F T D acc) (hl : acc.length + p.1.length ≤ lim) (k : KA X F D T₁ acc (fun s => R (.ok .next) s) p) :
    codeAny (model X.prog X.w) A (.compLoop (.ListComp elt gs0 sc pos) d (.ref I) (.ref D) F.env) R T.s := by
  refine codeAny_loop rfl (fun kk s' => ∃ j T' st' done rest, s' = T'.s ∧ kk = N + 1 - j ∧ j ≤ N ∧ ExtB (· = D) F T₁ T' ∧ Mono T₁ T' ∧ Inv X F st' T' ∧ LI F (· = D) fp wr Sf TS j T' ∧ AccAt X F T' D (acc ++ done) ∧ turns (compTurn' o F.fn tg g.ifs inner) (it.items.drop j) st' = some rest ∧ p = (done ++ rest.1, rest.2)) ?_ (N + 1)
    ⟨0, T, st, [], p, rfl, rfl, Nat.zero_le _, x₀, m₀, i, L₀, (List.append_nil acc).symm ▸ hacc, he, rfl⟩
  rintro kk s₁ ⟨j, T₂, st₂, done, rest, rfl, rfl, hj, x₂, m₂, i₂, L₂, acc₂, he₂, hp⟩
  have hD : D ∉ wr := fun q => (L₂.fp D (hS.turns.sub D q)).2 rfl
  refine wpAny_noted (wp_compTurn hg ha hn hs (draw_snd hS.turns hS.item hS.len hwr L₂ i₂ x₂ (fun hjn T₃ d₃ => ?_) (fun x v s₂ hx hgo => ?_) hj))
  · cases hjn
    rw [List.drop_eq_nil_of_le (Nat.le_of_eq hS.len)] at he₂
    cases he₂
    cases hp
    exact k T₃ d₃.ext (m₂.trans d₃.mono) d₃.inv ((List.append_nil done).symm ▸ acc₂.drawn hD d₃)
  · have hlt : j < it.items.length := (List.getElem?_eq_some_iff.mp hx).1
    rw [List.drop_eq_getElem_cons hlt, (List.getElem?_eq_some_iff.mp hx).2] at he₂
    refine turns_k he₂ fun a b e1 e2 e3 => bK e1 fun st₃ f1 e1 => bK e1 fun c f2 f3 => hgo fun T₃ d₃ L₃ hit => bindT_snd hA htg hok f1 d₃.inv hit fun T₄ a₄ => tests_snd H hA f2 a₄.inv fun T₅ a₅ => ?_
    have a₅ := a₄.trans a₅.s
    have acc₅ := (acc₂.drawn hD d₃).aft a₅
    have x₅ : ExtB (· = D) F T₃ T₅ := .of a₅.ext
    have L₅ := L₃.ext hS.turns hS.al x₅ a₅.mono
    have more : N + 1 - (j + 1) < N + 1 - j := Nat.sub_lt_sub_left (Nat.lt_succ_of_le hj) (Nat.lt_succ_self j)
    have hlt' : j < N := hS.len ▸ hlt
    rw [e3] at hp
    refine cK f3 (fun hc f3 => ?_) fun hc f3 => ?_
    · rw [if_pos hc]
      refine hin f3 a₅.inv acc₅ ?_ fun T₆ x₆ m₆ i₆ acc₆ => ⟨rfl, _, more, j + 1, T₆, a.2, done ++ a.1, b, rfl, rfl, hlt', (d₃.ext.trans x₅).trans x₆, ((m₂.trans d₃.mono).trans a₅.mono).trans m₆, i₆, L₅.ext hS.turns hS.al x₆ m₆, List.append_assoc _ _ _ ▸ acc₆, e2, by rw [hp, List.append_assoc]⟩
      rw [hp, List.length_append, List.length_append] at hl
      rw [List.length_append, Nat.add_assoc]
      exact Nat.le_trans (Nat.add_le_add_left (Nat.add_le_add_left (Nat.le_add_right _ _) _) _) hl
    · rw [if_neg (by rw [hc]; nofun)]
      cases f3
      exact ⟨rfl, _, more, j + 1, T₅, c.2, done, b, rfl, rfl, hlt', d₃.ext.trans x₅, (m₂.trans d₃.mono).trans a₅.mono, a₅.inv, L₅, acc₅, e2, hp⟩
end
open PySem PyProof.Rows PySem.Calls PySem.W
section
variable {X : Cx} {F F₀ : Fx} {o : Ops} {n : Nat} {st st' : St} {A : Around} {T T₀ T₁ TS T' T'' : Sm} {E : Value → Shared → Prop} {e t : PySem.Expr} {u : Value} {v : V} {a b I D : Addr} {l : List V} {us : List Value}
theorem gOk_spec {g : Comprehension} {env : Env} (h : gOk g = true) : g.is_async = 0 ∧ ∀ x, foldedSetIterable g.iter env x = pure x :=
  andK h fun h1 h2 => ⟨decK h1, fun x => by
    revert h2
    generalize g.iter = e
    intro h2
    cases e with
    | Set a b c => cases h2
    | _ => rfl⟩
theorem app_snd (i : Inv X F st T) (hv : RepV X.I T v u) {acc : List V} (hacc : AccAt X F T D acc) (hl : acc.length + 1 ≤ lim) {K : Shared → Prop} (k : KA X F D T acc K ([v], st)) : WP X A (call (.builtin "list.append") [.ref D, u]) (fun _ s => K s) E T := by
  obtain ⟨us, ⟨m, e⟩, r⟩ := hacc.at_
  refine wpAny_list_append_plain (items := us.toArray) ⟨m, e⟩ (fun h' ⟨m', hp⟩ hsb => ?_) (r.lim (Nat.le_of_succ_le hl))
  have hk : ∀ b o, b ≠ D → T.s.heap.get? b = some o → h'.get? b = some o := fun b o hb e => (hsb.2 b hb).trans e
  have hn : ∀ b, T.M.F b ∨ T.M.W b ∨ FA F.env b → b ≠ D := fun b q z => q.elim (fun q => hacc.f (z ▸ q)) fun q => hacc.w (z ▸ q)
  have m₁ : Mono T (T.hp h' T.s.toks) := ⟨fun _ f => f, fun b o f => hk b o (hn b (.inl f)), List.prefix_refl _⟩
  refine k (T.hp h' T.s.toks) ⟨⟨h', _, rfl⟩, fun b o e n => hk b o (fun q => n (.inr q)) e, fun b q => ?_, fun _ f => f, fun _ f => .inl f, fun _ f => .inl f, List.prefix_refl _⟩ m₁ (i.hp fun b o q => hk b o (hn b q)) ⟨⟨us ++ [u], ⟨m', ?_⟩, (r.mono m₁).append (.one (hv.mono m₁))⟩, hacc.f, hacc.w⟩
  · exact (Classical.em (b = D)).elim (fun z => z ▸ ⟨_, hp⟩) fun z => q.imp fun o e => hk b o z e
  · rw [List.push_toArray] at hp
    exact hp
theorem gens_snd (H : Snd X o n) (HT : Top X) (hA : AOk A n) {elt : PySem.Expr} {gs0 : List Comprehension} {sc : Scope} {pos : Pos} (hok : ∀ g ∈ gs0, gOk g = true) {gs : List Comprehension} : ∀ {pre : List Comprehension}, gs0 = pre ++ gs → ∀ {st : St} {p : List V × St} {acc : List V} {T : Sm} {E : Value → Shared → Prop} {K : Shared → Prop},
    gens X.G o F.fn elt gs st = some p → Inv X F st T → AccAt X F T D acc → acc.length + p.1.length ≤ lim → KA X F D T acc K p → InnerWp X.prog X.w A elt gs0 sc pos pre.length (.ref D) F.env K E T.s := by
  induction gs with
  | nil =>
    intro pre hgs st p acc T E K he i hacc hl k
    unfold InnerWp
    rw [show gs0[pre.length]? = none by rw [hgs, List.append_nil]; exact List.getElem?_eq_none (Nat.le_refl _)]
    refine mQ (C := fun p : List V × St => acc.length + p.1.length ≤ lim ∧ KA X F D T acc K p) he ⟨hl, k⟩ fun q hq k => evKB H hA i hq fun u T₁ a₁ q₁ => app_snd a₁.inv q₁ (hacc.aft a₁.s) k.1 fun T₂ x₂ m₂ i₂ acc₂ => k.2 T₂ ((ExtB.ofW a₁.ext).trans x₂) (a₁.mono.trans m₂) i₂ acc₂
  | cons g gs ih =>
    intro pre hgs st p acc T E K he i hacc hl k
    have hg : gs0[pre.length]? = some g := by rw [hgs, List.getElem?_append_right (Nat.le_refl _), Nat.sub_self]; rfl
    have gk : ∀ {g : Comprehension} {j : Nat}, gs0[j]? = some g → g.is_async = 0 ∧ ∀ x, foldedSetIterable g.iter F.env x = pure x := fun {g j} hj => gOk_spec (hok g (List.mem_of_getElem? hj))
    unfold InnerWp
    rw [hg]
    refine bK he fun q hq he => bK hq fun q' h1 hq => bK hq fun tg htg hq => iK hq fun ht hq => ?_
    cases hq
    refine iter_snd H HT hA (asTg_is htg) ht h1 i fun I T₁ a₁ ⟨N, fp, wr, P, Md, Sf, S⟩ => wpAny_runOwn ?_
    have acc₁ := hacc.aft a₁.s
    have inner := fun {st : St} {p : List V × St} {acc : List V} {T : Sm} {E : Value → Shared → Prop} {K : Shared → Prop} => ih (pre := pre ++ [g]) (by rw [hgs, List.append_assoc]; rfl) (st := st) (p := p) (acc := acc) (T := T) (E := E) (K := K)
    rw [List.length_append] at inner
    have loop : codeAny (model X.prog X.w) A (.compLoop (.ListComp elt gs0 sc pos) pre.length (.ref I) (.ref D) F.env) (fun r s' => match r with | .ok f => K s' | .error e => cameBackBy (model X.prog X.w) A F.env E e s') T₁.s :=
      cloop_snd (T₁ := T) H hA hg (gk hg).1 (fun g' hg' => (gk hg').1) (fun g' hg' x => (gk hg').2 x) htg ht inner S (fun b hb => (S.wr b hb).2) ⟨S.st0, fun b hb => ⟨(S.fp b hb).1, fun e => (S.fp b hb).2.elim (fun q => acc₁.f (e ▸ q)) fun q => q (e ▸ hacc.al)⟩, fun b hb => (S.wr b hb).1, .refl _⟩ (.ofW a₁.ext) a₁.mono he a₁.inv acc₁ hl k
    exact codeAny_compStart_at hg (gk hg).1 loop (S.self 0 T₁.s _ _ S.st0 loop)
noncomputable def closeL (env : Env) : List (Str × NameKind) → List (Str × Addr) → List (Str × Addr)
  | [], cs => cs
  | p :: r, cs => closeL env r (if (p.2 == .free) = true then (p.1, (env.cells.lookup p.1).getD 0) :: cs else cs)
theorem closure_go {env : Env} {f : Str × NameKind → List (Str × Addr) → Sem (ForInStep (List (Str × Addr)))} (hf : ∀ p cs, f p cs = if (p.2 == .free) = true then (do let c ← cellOf env p.1; pure (.yield ((p.1, c) :: cs))) else pure (.yield cs)) {names : List (Str × NameKind)} :
    ∀ {cs : List (Str × Addr)}, (∀ x, (x, .free) ∈ names → ∃ c, env.cells.lookup x = some c) → forIn names cs f = pure (closeL env names cs) := by
  induction names with
  | nil => exact fun _ => List.forIn_nil
  | cons p r ih =>
    intro cs h
    rw [List.forIn_cons, hf]
    unfold closeL
    by_cases hk : (p.2 == NameKind.free) = true
    · obtain ⟨x, k⟩ := p
      cases eq_of_beq hk
      obtain ⟨c, hc⟩ := h x (.head _)
      rw [if_pos hk, if_pos hk, hc]
      have hcell : cellOf env x = pure c := by unfold cellOf; rw [hc]
      rw [hcell, pure_bind, pure_bind]
      exact ih fun y hy => h y (.tail _ hy)
    · rw [if_neg hk, if_neg hk, pure_bind]
      exact ih fun y hy => h y (.tail _ hy)
end
open PySem PyProof.Rows PySem.Calls PySem.W
section
variable {env : Env} {sc : Scope} {x : Str} {c : Addr} {fn : Fn}
theorem closure_eq (h : ∀ x, (x, .free) ∈ sc.names → ∃ c, env.cells.lookup x = some c) : closureFor sc env = pure (closeL env sc.names []) := by
  unfold closureFor
  dsimp only
  rw [closure_go (fun p cs => ?_) h]
  · rfl
  · by_cases hk : (p.2 == NameKind.free) = true
    · rw [if_pos hk]
    · rw [if_neg hk]
theorem closeL_in {names : List (Str × NameKind)} : ∀ {cs : List (Str × Addr)}, (∀ x, (x, .free) ∈ names → ∃ c, env.cells.lookup x = some c) → (∀ x c, cs.lookup x = some c → env.cells.lookup x = some c) → (closeL env names cs).lookup x = some c → env.cells.lookup x = some c := by
  induction names with
  | nil => exact fun _ h e => h x c e
  | cons p r ih =>
    intro cs hf h e
    refine ih (fun z hz => hf z (.tail _ hz)) (fun z c hz => ?_) e
    by_cases hk : (p.2 == NameKind.free) = true
    · rw [if_pos hk] at hz
      obtain ⟨y, k⟩ := p
      cases eq_of_beq hk
      obtain ⟨c', hc'⟩ := hf y (.head _)
      rw [hc', List.lookup_cons] at hz
      cases q : z == y with
      | true => rw [q] at hz; cases hz; rw [eq_of_beq q]; exact hc'
      | false => rw [q] at hz; exact h z c hz
    · rw [if_neg hk] at hz; exact h z c hz
theorem closeL_keep {names : List (Str × NameKind)} : ∀ {cs : List (Str × Addr)}, (cs.lookup x).isSome = true → ((closeL env names cs).lookup x).isSome = true := by
  induction names with
  | nil => exact id
  | cons p r ih =>
    intro cs h
    refine ih ?_
    by_cases hk : (p.2 == NameKind.free) = true
    · rw [if_pos hk, List.lookup_cons]
      cases x == p.1 with
      | true => rfl
      | false => exact h
    · rw [if_neg hk]; exact h
theorem closeL_has {names : List (Str × NameKind)} : ∀ {cs : List (Str × Addr)}, (x, .free) ∈ names → ((closeL env names cs).lookup x).isSome = true := by
  induction names with
  | nil => exact fun h => nomatch h
  | cons p r ih =>
    intro cs h
    cases h with
    | head => exact closeL_keep (names := r) (by show (List.lookup x ((x, (env.cells.lookup x).getD 0) :: cs)).isSome = true; rw [List.lookup_cons, beq_self_eq_true]; rfl)
    | tail _ h => exact ih h
theorem lookup_mem {α : Type} {v : α} {l : List (Str × α)} (h : l.lookup x = some v) : (x, v) ∈ l := by
  induction l with
  | nil => cases h
  | cons p l ih =>
    rw [List.lookup_cons] at h
    cases q : x == p.1 with
    | true => rw [q] at h; cases h; rw [eq_of_beq q]; exact .head _
    | false => rw [q] at h; exact .tail _ (ih h)
theorem mem_lookup {k : NameKind} {l : List (Str × NameKind)} (hn : nodupN l = true) (h : (x, k) ∈ l) : l.lookup x = some k := by
  induction l with
  | nil => cases h
  | cons p l ih =>
    refine andK hn fun h1 h2 => ?_
    rw [List.lookup_cons]
    cases h with
    | head => rw [beq_self_eq_true]
    | tail _ h =>
      have ih := ih h2 h
      cases q : x == p.1 with
      | true => rw [← eq_of_beq q, ih] at h1; cases h1
      | false => exact ih
noncomputable def relK (env : Env) (x : Str) (k : NameKind) : NameKind := if (k == NameKind.free && env.scope.kind == .function && env.kindOf x == some .cell) = true then NameKind.cell else k
theorem relabel_lookup {l : List (Str × NameKind)} : (l.map fun (n, k) => if (k == NameKind.free && env.scope.kind == .function && env.kindOf n == some .cell) then (n, NameKind.cell) else (n, k)).lookup x = (l.lookup x).map (relK env x) := by
  induction l with
  | nil => rfl
  | cons p l ih =>
    obtain ⟨y, k⟩ := p
    have e : (if (k == NameKind.free && env.scope.kind == .function && env.kindOf y == some .cell) = true then (y, NameKind.cell) else (y, k)) = (y, relK env y k) := by
      unfold relK
      by_cases hc : (k == NameKind.free && env.scope.kind == .function && env.kindOf y == some .cell) = true
      · rw [if_pos hc, if_pos hc]
      · rw [if_neg hc, if_neg hc]
    rw [List.map_cons, List.lookup_cons]
    show List.lookup x ((if (k == NameKind.free && env.scope.kind == .function && env.kindOf y == some .cell) = true then (y, NameKind.cell) else (y, k)) :: _) = _
    rw [e, List.lookup_cons, List.lookup_cons]
    cases q : x == y with
    | true => rw [eq_of_beq q]; rfl
    | false => exact ih
theorem seen_look {names : List (Str × NameKind)} {v : V} {vars : List (Str × V)} (h : lookS x (seen names vars) = some v) : names.lookup x = some .free ∧ lookS x vars = some v := by
  induction vars with
  | nil => cases h
  | cons p vars ih =>
    show _ ∧ (if x = p.1 then some p.2 else lookS x vars) = some v
    unfold seen at h
    by_cases q : (names.lookup p.1 == some NameKind.free) = true
    · rw [List.filter_cons_of_pos (p := fun p : Str × V => names.lookup p.1 == some NameKind.free) q] at h
      have h : (if x = p.1 then some p.2 else lookS x (seen names vars)) = some v := h
      by_cases e : x = p.1
      · rw [if_pos e] at h ⊢; exact ⟨e ▸ eq_of_beq q, h⟩
      · rw [if_neg e] at h ⊢; exact ih h
    · rw [List.filter_cons_of_neg (p := fun p : Str × V => names.lookup p.1 == some NameKind.free) q] at h
      have ih := ih h
      rw [if_neg fun e => q (by rw [← e, ih.1]; rfl)]
      exact ih
structure ScOk (fn : Fn) (sc : Scope) : Prop where
  kind : sc.kind = .function
  names : ∀ p ∈ sc.names, (p.2 = .local ∨ p.2 = .globalImplicit ∨ (p.2 = .free ∧ (fn.names.lookup p.1 = some .cell ∨ fn.names.lookup p.1 = some .free))) ∧ p.1 ≠ "__debug__" ∧ p.1 ≠ "__classdict__"
  nod : nodupN sc.names = true
theorem scOk_spec (h : scOk fn sc = true) : ScOk fn sc :=
  andK h fun h h3 => andK h fun h1 h2 => ⟨eq_of_beq h1, fun p hp => andK (List.all_eq_true.mp h2 p hp) fun h h5 => andK h fun h h4 =>
    ⟨(Bool.or_eq_true_iff.mp h).elim (fun h => (Bool.or_eq_true_iff.mp h).elim (fun h => .inl (eq_of_beq h)) fun h => .inr (.inl (eq_of_beq h))) fun h => andK h fun h1 h2 => .inr (.inr ⟨eq_of_beq h1, (Bool.or_eq_true_iff.mp h2).imp eq_of_beq eq_of_beq⟩),
      of_decide_eq_false (Bool.not_eq_true' _ |>.mp h4), of_decide_eq_false (Bool.not_eq_true' _ |>.mp h5)⟩, h3⟩
theorem ScOk.free (S : ScOk fn sc) (h : (x, NameKind.free) ∈ sc.names) : fn.names.lookup x = some .cell ∨ fn.names.lookup x = some .free := (S.names _ h).1.elim nofun fun h => h.elim nofun fun h => h.2
theorem ScOk.nocell (S : ScOk fn sc) (h : (x, NameKind.cell) ∈ sc.names) {P : Prop} : P := (S.names _ h).1.elim (fun h => by cases h) fun h => h.elim (fun h => by cases h) fun h => by cases h.1
end
noncomputable def compEnv (env : Env) (sc : Scope) (L : Addr) : Env := { newEnv sc L env.globals (closeL env sc.names []) env.qual none .none (some env) builtinsNs with scope := relabel sc env }
noncomputable def compF (F : Fx) (sc : Scope) (L : Addr) : Fx := ⟨F.fn.sc sc.names, compEnv F.env sc L⟩
section
variable {X : Cx} {F : Fx} {o : Ops} {n : Nat} {st st' : St} {A : Around} {T T' T'' : Sm} {Q E : Value → Shared → Prop} {sc : Scope} {L : Addr} {h : Heap} {tk : Nat}
theorem Inv.free (S : ScOk F.fn sc) (i : Inv X F st T) (x : Str) (hx : (x, NameKind.free) ∈ sc.names) : ∃ c, F.env.cells.lookup x = some c := i.frm.cells x ((S.free hx).elim (fun h => .inl (i.frm.cel x h)) (i.frm.fre x))
theorem Inv.inC (S : ScOk F.fn sc) (i : Inv X F st T) {x : Str} {c : Addr} (h : (closeL F.env sc.names []).lookup x = some c) : F.env.cells.lookup x = some c := closeL_in (i.free S) (fun _ _ h => by rw [List.lookup_nil] at h; cases h) h
theorem Inv.faC (S : ScOk F.fn sc) (i : Inv X F st T) {a : Addr} (h : FA (compEnv F.env sc L) a) : a = L ∨ FA F.env a := h.imp id fun ⟨x, hx⟩ => .inr ⟨x, i.inC S hx⟩
theorem FS.comp (S : ScOk F.fn sc) {a : Addr} (h : FS (compF F sc L) a) : a = L := h.elim id fun ⟨x, hx, _⟩ => S.nocell (lookup_mem hx)
theorem kofC (x : Str) : (compEnv F.env sc L).kindOf x = (sc.names.lookup x).map (relK F.env x) := relabel_lookup
theorem kofC_free {x : Str} (h : sc.names.lookup x = some .free) : (compEnv F.env sc L).kindOf x = some .cell ∨ (compEnv F.env sc L).kindOf x = some .free := by
  rw [kofC, h]
  show some (relK F.env x .free) = _ ∨ some (relK F.env x .free) = _
  unfold relK
  by_cases hc : (NameKind.free == NameKind.free && F.env.scope.kind == .function && F.env.kindOf x == some .cell) = true
  · rw [if_pos hc]; exact .inl rfl
  · rw [if_neg hc]; exact .inr rfl
theorem comp_frame (S : ScOk F.fn sc) (i : Inv X F st T) (hL : ¬ Al T.s.heap L) (hn : h.Ns L (fun _ => .none)) (hk : ∀ b o, T.s.heap.get? b = some o → h.get? b = some o) : Inv X (compF F sc L) ⟨seen sc.names st.vars, st.store⟩ (T.hp h tk) := by
  have a₁ : Aft X F T st (T.hp h tk) := .grow i hk
  have nodef : ∀ {x : Str}, (∀ p ∈ sc.names, p.1 ≠ x) → sc.names.lookup x = .none := fun {x} hx => by
    cases hl : sc.names.lookup x with
    | none => rfl
    | some k => exact absurd rfl (hx _ (lookup_mem hl))
  obtain ⟨m, cm, _, hc, hv⟩ := a₁.inv.frm.has
  refine ⟨a₁.inv.mid, fun a q => (i.faC S q).elim (fun e => e ▸ ⟨fun q => hL (i.mid.fal _ q), fun q => hL (i.wal q)⟩) (i.ffa a), { kind := S.kind, dbg := ⟨nodef fun p hp => (S.names p hp).2.1, nodef fun p hp => (S.names p hp).2.2⟩, loc := fun x hx => ?_, cel := fun x hx => S.nocell (lookup_mem hx), fre := fun x hx => kofC_free hx, glo := fun x hx => ?_, glb := i.frm.glb, blt := i.frm.blt, cells := fun x hx => ?_, apart := fun x y c hx hy => i.frm.apart x y c (i.inC S hx) (i.inC S hy), above := fun x c hx e => ?_, has := ⟨_, cm, hn, fun x c hx => hc x c (i.inC S hx), fun x v hx => ?_⟩ }⟩
  · show (compEnv F.env sc L).kindOf x = _
    rw [kofC, show sc.names.lookup x = _ from hx]; rfl
  · show (compEnv F.env sc L).kindOf x = _
    rw [kofC, show sc.names.lookup x = _ from hx]; rfl
  · have hf : sc.names.lookup x = some .free := by
      have hx : (compEnv F.env sc L).kindOf x = some .cell ∨ (compEnv F.env sc L).kindOf x = some .free := hx
      rw [kofC] at hx
      cases hl : sc.names.lookup x with
      | none => rw [hl] at hx; exact hx.elim nofun nofun
      | some k =>
        rw [hl] at hx
        rcases (S.names _ (lookup_mem hl)).1 with e | e | e
        · cases e; exact hx.elim nofun nofun
        · cases e; exact hx.elim nofun nofun
        · exact congrArg some e.1
    exact Option.isSome_iff_exists.mp (closeL_has (cs := []) (lookup_mem hf))
  · exact hL ((show c = L from e) ▸ i.faal (.inr ⟨x, i.inC S hx⟩))
  · obtain ⟨h1, h2⟩ := seen_look hx
    obtain ⟨u, r, q⟩ := hv x v h2
    refine ⟨u, r, .inr ⟨kofC_free h1, ?_⟩⟩
    refine q.elim (fun q => ?_) fun q => q.2
    exact (S.free (lookup_mem h1)).elim (fun z => nomatch (i.frm.cel x z).symm.trans q.1) fun z => (i.frm.fre x z).elim (fun z => nomatch z.symm.trans q.1) fun z => nomatch z.symm.trans q.1
theorem Inv.back {F' : Fx} (i : Inv X F st T) (x : Ext T.M.W T T') (i' : Inv X F' st' T') : Aft X F T (st.sto st'.store) T' :=
  have m : Mono T T' := x.mono i.mid.fw
  ⟨x, m, i'.mid, fun a f => ⟨fun q => (x.fnew a q).elim (i.ffa a f).1 fun q => q.elim (i.ffa a f).2 fun q => q (i.faal f), fun q => (x.wnew a q).elim (i.ffa a f).2 fun q => q (i.faal f)⟩, i.frm.mono m fun b o f e => x.keep b o e (i.ffa b f).2⟩
structure CompEnd (X : Cx) (F : Fx) (T : Sm) (p : R × St) (T' : Sm) (acc : Value) (L : Addr) : Prop where
  aft : Aft X F T p.2 T'
  rr : RR X F T T' p.1 acc
  new : ¬ Al T.s.heap L
  f : ¬ T'.M.F L
  w : ¬ T'.M.W L
  ne : acc ≠ .ref L
  ns : ∃ m, T'.s.heap.Ns L m
theorem comp_snd (H : Snd X o n) (HT : Top X) {elt : PySem.Expr} {gs : List Comprehension} {pos pos' : Pos} {use : Option (Value → Sem Unit)} {p : R × St} (hA : AOk A n) (he : evLC X.G o F.fn elt gs sc st = some p) (i : Inv X F st T)
    (k : ∀ acc L T', CompEnd X F T p T' acc L → compPost (model X.prog X.w) A E use Q acc L (.ok .next) T'.s) :
    WP X A (comprehension (.ListComp elt gs sc pos) sc F.env pos' (newList []) (firstAsync gs) (firstIter gs F.env) use) Q E T := by
  cases gs with
  | nil => exact nK he
  | cons g gs =>
    refine iK he fun hok he => andK hok fun hsc hgs => bK he fun q hq he => bK hq fun q' h1 hq => bK hq fun tg htg hq => iK hq fun ht hq => ?_
    cases hq
    refine bK he fun r hr he => pK he fun hlen he => ?_
    cases he
    have S := scOk_spec hsc
    have gk : ∀ g' ∈ g :: gs, ∀ env, g'.is_async = 0 ∧ ∀ x, foldedSetIterable g'.iter env x = pure x := fun g' hg' env => gOk_spec (List.all_eq_true.mp hgs g' hg')
    have has : firstAsync (g :: gs) = false := by
      obtain ⟨a, b, c, d⟩ := g
      have := (gk _ (.head _) F.env).1
      dsimp only at this
      subst this
      rfl
    have hfi : firstIter (g :: gs) F.env = eval g.iter F.env := by obtain ⟨a, b, c, d⟩ := g; rfl
    rw [has, hfi]
    refine wpAny_comprehension_free (g := g) (gs := gs) rfl (gk g (.head _) F.env).2 (closure_eq (i.free S)) S.kind (fun x hx hl => mem_lookup S.nod (by rw [← hl]; exact hx)) ?_
    refine iter_snd H HT hA (asTg_is htg) ht h1 i fun I T₁ a₁ ⟨N, fp, wr, P, Md, Sf, Sr⟩ => wpAny_newObj_type (wpAny_newFunctionEnv (fun y hy e => S.nocell (x := y.1) (e ▸ hy)) nofun (fun h₂ hns hsb => ?_) S.kind)
    dsimp only at hns hsb ⊢
    generalize hH : T₁.s.heap.push { cls := .type "list", dict := none, data := .seq ([] : List Value).toArray } = H2 at hns hsb ⊢
    have hD0 : H2.get? T₁.s.heap.objs.size = some (seqObj "list" (List.toArray []) 0) := by rw [← hH]; exact Heap.get?_push_size _ rfl
    have hLz : H2.objs.size = T₁.s.heap.objs.size + 1 := by rw [← hH, Heap.size_push]
    have kH2 : ∀ b o, H2.get? b = some o → h₂.get? b = some o := fun b o e => hsb.extBut b o (Nat.ne_of_lt (Heap.lt_size e)) (Heap.get?_push_of_some _ e)
    have hk : ∀ b o, T₁.s.heap.get? b = some o → h₂.get? b = some o := fun b o e => kH2 b o (by rw [← hH]; exact Heap.get?_push_of_some _ e)
    have hLn : ¬ Al T₁.s.heap H2.objs.size := fun q => absurd (hLz ▸ q.lt : T₁.s.heap.objs.size + 1 < T₁.s.heap.objs.size) (Nat.not_lt.mpr (Nat.le_succ _))
    have hDn : ¬ Al T₁.s.heap T₁.s.heap.objs.size := not_al_size _
    have hDL : T₁.s.heap.objs.size ≠ H2.objs.size := by rw [hLz]; exact (Nat.succ_ne_self _).symm
    generalize hLe : H2.objs.size = L at *
    generalize hDe : T₁.s.heap.objs.size = D at *
    have a₂ : Aft X F T₁ q'.2 (T₁.hp h₂ T₁.s.toks) := .grow a₁.inv hk
    have i₁ := (Inv.back i a₁.ext a₁.inv).inv
    have i₂ : Inv X (compF F sc L) ⟨seen sc.names st.vars, q'.2.store⟩ (T₁.hp h₂ T₁.s.toks) := comp_frame S i₁ hLn hns hk
    have acc₂ : AccAt X (compF F sc L) (T₁.hp h₂ T₁.s.toks) D [] := ⟨⟨[], ⟨0, kH2 _ _ hD0⟩, rfl⟩, fun q => hDn (i₁.mid.fal _ q), fun q => q.elim (fun q => hDn (i₁.wal q)) fun q => (i₁.faC S q).elim hDL fun q => hDn (i₁.faal q)⟩
    have inner := fun {st : St} {p : List V × St} {acc : List V} {T : Sm} {E : Value → Shared → Prop} {K : Shared → Prop} => gens_snd (F := compF F sc L) H HT hA (elt := elt) (gs0 := g :: gs) (sc := sc) (pos := pos) (D := D) (List.all_eq_true.mp hgs) (gs := gs) (pre := [g]) rfl (st := st) (p := p) (acc := acc) (T := T) (E := E) (K := K)
    have m₂ := a₁.mono.trans a₂.mono
    have loop : codeAny (model X.prog X.w) A (.compLoop (.ListComp elt (g :: gs) sc pos) 0 (.ref I) (.ref D) (compEnv F.env sc L)) (compPost (model X.prog X.w) A E use Q (.ref D) L) (T₁.hp h₂ T₁.s.toks).s := by
      refine cloop_snd (F := compF F sc L) (T₁ := T) (T := T₁.hp h₂ T₁.s.toks) H hA (elt := elt) (gs0 := g :: gs) (sc := sc) (pos := pos) (d := 0) rfl (gk g (.head _) F.env).1 (fun g' hg' => (gk g' (.tail _ (List.mem_of_getElem? hg')) F.env).1) (fun g' hg' x => (gk g' (.tail _ (List.mem_of_getElem? hg')) _).2 x) htg ht inner Sr (fun b hb => (Sr.wr b hb).2)
        ⟨Sr.turns.frame 0 _ _ Sr.st0 fun b _ o e => hk b o e, fun b hb => ⟨fun q => q.elim (fun q => (Sr.fp b hb).1 (.inl q)) fun q => (i₁.faC S q).elim (fun e => hLn (e ▸ Sr.al 0 _ Sr.st0 b hb)) fun q => (Sr.fp b hb).1 (.inr q), fun (e : b = D) => hDn (e ▸ Sr.al 0 _ Sr.st0 b hb)⟩, fun b hb => (Sr.wr b hb).1, a₂.mono⟩
        (.ofW (a₁.trans a₂).ext) m₂ hr i₂ acc₂ (by rw [List.length_nil, Nat.zero_add]; exact hlen) fun T' x' m' i' acc' => ?_
      have x'' : Ext T.M.W T T' := x'.weaken fun a q => q.elim (fun q => q.elim .inl fun q => .inr fun z => hLn (FS.comp S q ▸ a₁.ext.al _ z)) fun q => .inr fun z => hDn ((show a = D from q) ▸ a₁.ext.al _ z)
      obtain ⟨us, e, rr⟩ := acc'.at_
      obtain ⟨m', _, hnm, _⟩ := i'.frm.has
      have hLF := i'.ffa L (.inl rfl)
      exact k _ _ T' ⟨Inv.back i x'' i', ⟨D, us, rfl, fun q => hDn (a₁.ext.al _ q), acc'.f, fun q => q.elim (fun q => acc'.w (.inl q)) fun q => hDn (a₁.ext.al _ (i.faal q)), e, rr, hlen⟩, fun q => hLn (a₁.ext.al _ q), hLF.1, hLF.2, fun e => hDL (Value.ref.inj e), ⟨m', hnm⟩⟩
    unfold compEnv at loop
    rw [show builtinsNs = F.env.builtins from i.frm.blt.symm] at loop
    exact codeAny_compStart_at rfl (gk g (.head _) F.env).1 loop (Sr.self 0 _ _ _ (Sr.turns.frame 0 _ _ Sr.st0 fun b _ o e => hk b o e) loop)
end
open PySem PyProof.Rows PySem.Calls PySem.W
section
variable {x : Str} {kindOf : Str → Option NameKind}
theorem cellsFrom_keep {l : List (Str × NameKind)} : ∀ {n : Nat} {acc : List (Str × Addr)}, (acc.lookup x).isSome = true → ((cellsFrom n l acc).lookup x).isSome = true := by
  induction l with
  | nil => exact fun h => h
  | cons p l ih =>
    intro n acc h
    obtain ⟨y, k⟩ := p
    unfold cellsFrom
    by_cases hk : (k == NameKind.cell) = true
    · rw [if_pos hk]
      refine ih ?_
      rw [List.lookup_cons]
      cases x == y with
      | true => rfl
      | false => exact h
    · rw [if_neg hk]; exact ih h
theorem cellsFrom_has {l : List (Str × NameKind)} : ∀ {n : Nat} {acc : List (Str × Addr)}, (x, NameKind.cell) ∈ l → ((cellsFrom n l acc).lookup x).isSome = true := by
  induction l with
  | nil => exact fun h => nomatch h
  | cons p l ih =>
    intro n acc h
    obtain ⟨y, k⟩ := p
    unfold cellsFrom
    cases h with
    | head =>
      rw [if_pos (beq_self_eq_true _)]
      exact cellsFrom_keep (by rw [List.lookup_cons, beq_self_eq_true]; rfl)
    | tail _ h =>
      by_cases hk : (k == NameKind.cell) = true
      · rw [if_pos hk]; exact ih h
      · rw [if_neg hk]; exact ih h
theorem bindL_out {binds : List (Str × Value)} : ∀ {m : Str → Option Value}, (∀ p ∈ binds, p.1 ≠ x) → bindL kindOf binds m x = m x := by
  induction binds with
  | nil => exact fun _ => rfl
  | cons p r ih =>
    intro m h
    obtain ⟨y, v⟩ := p
    rw [bindL, ih fun p hp => h p (.tail _ hp)]
    by_cases hk : kindOf y = some .local
    · rw [if_pos hk]; exact if_neg fun e => h _ (.head _) e.symm
    · rw [if_neg hk]
theorem bindC_out {binds : List (Str × Value)} : ∀ {m : Str → Option Value}, (∀ p ∈ binds, p.1 ≠ x) → bindC kindOf binds m x = m x := by
  induction binds with
  | nil => exact fun _ => rfl
  | cons p r ih =>
    intro m h
    obtain ⟨y, v⟩ := p
    rw [bindC, ih fun p hp => h p (.tail _ hp)]
    by_cases hk : kindOf y = some .local
    · rw [if_pos hk]
    · rw [if_neg hk]; exact if_neg fun e => h _ (.head _) e.symm
structure Bnd (I : Iota) (T : Sm) (kindOf : Str → Option NameKind) (b : List (Str × Value)) (m cm : Str → Option Value) (x : Str) (v : V) (u : Value) : Prop where
  rep : RepV I T v u
  loc : kindOf x = some .local → bindL kindOf b m x = some u
  cel : kindOf x ≠ some .local → bindC kindOf b cm x = some u
theorem params_look {I : Iota} {T : Sm} {v : V} {ps : List Str} : ∀ {vs : List V} {us : List Value} {m cm : Str → Option Value}, ps.Nodup → All2 (RepV I T) vs us → lookS x (ps.zip vs) = some v → x ∈ ps ∧ ∃ u, Bnd I T kindOf (ps.zip us) m cm x v u := by
  induction ps with
  | nil => exact fun _ _ e => nomatch e
  | cons p ps ih =>
    intro vs us m cm hn r e
    cases vs with
    | nil => cases e
    | cons w vs =>
      obtain ⟨u, ws, rfl, r1, r2⟩ := r
      obtain ⟨hn1, hn2⟩ := List.nodup_cons.mp hn
      have e : (if x = p then some w else lookS x (ps.zip vs)) = some v := e
      by_cases hx : x = p
      · rw [if_pos hx] at e
        cases e
        cases hx
        have hout : ∀ q ∈ ps.zip ws, q.1 ≠ x := fun q hq e => hn1 (e ▸ (List.of_mem_zip hq).1)
        exact ⟨.head _, u, r1, fun hk => by rw [List.zip_cons_cons, bindL, bindL_out hout, if_pos hk]; exact if_pos rfl, fun hk => by rw [List.zip_cons_cons, bindC, bindC_out hout, if_neg hk]; exact if_pos rfl⟩
      · rw [if_neg hx] at e
        obtain ⟨h1, u', q⟩ := ih (m := if kindOf p = some .local then fun y => if y = p then some u else m y else m) (cm := if kindOf p = some .local then cm else fun y => if y = p then some u else cm y) hn2 r2 e
        exact ⟨.tail _ h1, u', q.rep, fun hk => by rw [List.zip_cons_cons, bindL]; exact q.loc hk, fun hk => by rw [List.zip_cons_cons, bindC]; exact q.cel hk⟩
end
noncomputable def Mm.shut (M : Mm) : Mm := ⟨fun a => M.F a ∨ M.W a, [], []⟩
section
variable {X : Cx} {F : Fx} {o : Ops} {n : Nat} {st st' : St} {A : Around} {T T' T'' : Sm} {Q E : Value → Shared → Prop} {σ : List Cell} {u : Value} {v : V} {l : List V} {us : List Value}
theorem mapM_rep {f : V → Option D} {P : V → Value → Prop} {P' : D → Value → Prop} (ih : ∀ v d u, f v = some d → P v u → P' d u) {l : List V} : ∀ {ds : List D} {us : List Value}, l.mapM f = some ds → All2 P l us → All2 P' ds us ∧ ds.length = l.length := by
  induction l with
  | nil => intro ds us e r; rw [List.mapM_nil] at e; cases e; exact ⟨r, rfl⟩
  | cons v l ihl =>
    intro ds us e r
    rw [List.mapM_cons] at e
    obtain ⟨u, ws, rfl, r1, r2⟩ := r
    refine bK e fun d hd e => bK e fun ds' hs e => ?_
    cases e
    obtain ⟨q1, q2⟩ := ihl hs r2
    exact ⟨⟨u, ws, rfl, ih v d u hd r1, q1⟩, congrArg (· + 1) q2⟩
theorem freeze_rep (S : Mid X σ T) {n : Nat} : ∀ {v : V} {d : D} {u : Value}, freezeN n σ v = some d → RepV X.I T v u → RepD X.I (T.mm T.M.shut) d u := by
  have md : ∀ {d : D} {u : Value}, RepD X.I T d u → RepD X.I (T.mm T.M.shut) d u := fun r => RepD.monoF (T := T) (T' := T.mm T.M.shut) ⟨fun _ f => Or.inl f, fun _ _ _ e => e⟩ r
  induction n with
  | zero =>
    intro v d u e r
    cases v with
    | d x => cases e; exact md r
    | _ => cases e
  | succ n ih =>
    have seq : ∀ {ty : String} {a : Addr} {l : List V} {us : List Value} {ds : List D}, T.M.F a ∨ T.M.W a → T.seq ty a us → All2 (RepV X.I T) l us → l.length ≤ lim → l.mapM (freezeN n σ) = some ds → (T.mm T.M.shut).M.F a ∧ (T.mm T.M.shut).seq ty a us ∧ ds.length ≤ lim ∧ RepDs X.I (T.mm T.M.shut) ds us := fun f o r z e =>
      have q := mapM_rep (P' := RepD X.I (T.mm T.M.shut)) (fun v d u => ih) e r
      ⟨f, o, q.2 ▸ z, repDs_eq.mpr q.1⟩
    intro v d u e r
    cases v with
    | d x => cases e; exact md r
    | tup l =>
      refine RepV.tup_k (P := fun u => RepD X.I (T.mm T.M.shut) d u) r fun a us f o z r => mK (C := fun d => RepD X.I (T.mm T.M.shut) d (.ref a)) e fun ds hd => ?_
      exact ⟨a, us, rfl, seq (.inl f) o r z hd⟩
    | loc j =>
      refine RepV.loc_k (I := X.I) (P := fun u => RepD X.I (T.mm T.M.shut) d u) r fun a ha => bK e fun l hl e => mK (C := fun d => RepD X.I (T.mm T.M.shut) d (.ref a)) e fun ds hd => ?_
      have hf : T.M.F a ∨ T.M.W a := by
        cases hc : σ[j]? with
        | none => rw [hc] at hl; exact nK hl
        | some c =>
          rw [hc] at hl
          cases c with
          | lst l => exact S.cell_k ha hc fun g hg q => .inr (Mm.W_of hg (q.1 ▸ List.mem_singleton_self a))
          | froz l => exact S.cell_k ha hc fun g hg ⟨_, b, us, e, f, _⟩ => by cases e; exact .inl f
          | _ => exact nK hl
      exact lstC_k S ha hl fun us o r z => ⟨a, us, rfl, seq hf o r z hd⟩
theorem freezeR_rep (S : Mid X σ T') {r r' : R} (e : freezeR σ r = some r') (h : RC X T T' r u) : RC X T (T'.mm T'.M.shut) r' u := by
  cases r with
  | val v => exact mK (C := fun r' => RC X T (T'.mm T'.M.shut) r' u) e fun d hd => freeze_rep S hd h
  | fresh l =>
    refine mK (C := fun r' => RC X T (T'.mm T'.M.shut) r' u) e fun ds hd => h.imp fun a q => q.imp fun us q => ⟨q.1, ?_⟩
    have z := mapM_rep (P' := RepD X.I (T'.mm T'.M.shut)) (fun v d u => freeze_rep S) hd q.2.rep
    exact ⟨q.2.new, fun f => f.elim q.2.nf q.2.nw, nofun, q.2.obj, All2.map.mpr z.1, by rw [List.length_map, z.2]; exact q.2.len⟩
noncomputable def callF (f : Fn) (fd : FuncData) (s : Shared) (fa : Addr) : Fx := ⟨f, callEnvC fd s.heap.objs.size fa⟩
theorem call_frame {f : Fn} {fa : Addr} {fo : Obj} {fd : FuncData} {vs : List V} {s₁ : Shared} (hf : FnAt T.s.heap fa f fo fd) (m : Mid X σ T) (hr : All2 (RepV X.I T) vs us)
    (hi : InCallC T.s (callEnvC fd T.s.heap.objs.size fa).locals (bindL (callEnvC fd T.s.heap.objs.size fa).kindOf (f.params.zip us) fun _ => none) (callEnvC fd T.s.heap.objs.size fa).cells (bindC (callEnvC fd T.s.heap.objs.size fa).kindOf (f.params.zip us) fun _ => none) s₁) :
    ∃ T₁, T₁.s = s₁ ∧ Inv X (callF f fd T.s fa) ⟨f.params.zip vs, σ⟩ T₁ ∧ Ext T.M.W T T₁ ∧ (∀ a, FA (callF f fd T.s fa).env a → ¬ Al T.s.heap a) := by
  obtain ⟨h', tk, rfl, hk⟩ := hi.done
  have hko : ∀ x, (callEnvC fd T.s.heap.objs.size fa).kindOf x = f.names.lookup x := fun x => congrArg (List.lookup x) hf.names
  have hnew : ∀ a, FA (callEnvC fd T.s.heap.objs.size fa) a → ¬ Al T.s.heap a := fun a h q => h.elim (fun h => Nat.lt_irrefl T.s.heap.objs.size ((show a = T.s.heap.objs.size from h) ▸ q.lt)) fun ⟨x, h⟩ => Nat.lt_irrefl _ (Nat.lt_trans q.lt (hi.above x a (mem_of_lookup h)))
  have hfree : ∀ x, f.names.lookup x ≠ some .free := fun x e => nomatch List.all_eq_true.mp hf.free _ (lookup_mem e)
  have mo : Mono T (T.hp h' tk) := ⟨fun _ f => f, fun b o _ => hk b o, List.prefix_refl _⟩
  refine ⟨T.hp h' tk, rfl, ⟨m.hp fun b o _ => hk b o, fun a h => ⟨fun q => hnew a h (m.fal a q), fun q => hnew a h (m.wal q)⟩, { kind := hf.kind, dbg := hf.dbg, loc := fun x hx => (hko x).trans hx, cel := fun x hx => (hko x).trans hx, fre := fun x hx => absurd hx (hfree x), glo := fun x hx => (hko x).trans hx, glb := hf.glb, blt := hf.blt, cells := fun x hx => ?_, apart := fun x y c hx hy => name_of_addr hi.apart (mem_of_lookup hx) (mem_of_lookup hy), above := fun x c hx => Nat.ne_of_gt (hi.above x c (mem_of_lookup hx)), has := ⟨_, _, hi.toInCall.ns, hi.cell, fun x v hx => ?_⟩ }⟩, .hp _ (fun b o _ => hk b o) fun b _ q => q.imp fun o => hk b o, hnew⟩
  · refine hx.elim (fun hx => ?_) fun hx => absurd ((hko x).symm.trans hx) (hfree x)
    exact Option.isSome_iff_exists.mp (cellsFrom_has (hf.names ▸ lookup_mem ((hko x).symm.trans hx)))
  · obtain ⟨hm, u, B⟩ := params_look (kindOf := (callEnvC fd T.s.heap.objs.size fa).kindOf) (m := fun _ => none) (cm := fun _ => none) hf.pnod hr hx
    refine ⟨u, B.rep.mono mo, (Bool.or_eq_true_iff.mp (List.all_eq_true.mp hf.kinds x hm)).imp (fun h => ?_) fun h => ?_⟩
    · exact ⟨(hko x).trans (eq_of_beq h), B.loc ((hko x).trans (eq_of_beq h))⟩
    · have hc := (hko x).trans (eq_of_beq h)
      exact ⟨.inl hc, B.cel (by rw [hc]; nofun)⟩
theorem AOk.deeper {env : Env} (h : AOk A (n + 1)) : AOk (A.deeper env) n := ⟨h.h, by have := h.d; show A.depth + 1 + n < _; rw [Nat.add_right_comm]; exact this, by have := h.u; show A.units + 3 + 8 * n + 300 < _; omega⟩
theorem call_body (H : Snd X o n) (HT : Top X) {f : Fn} {fa : Addr} {fo : Obj} {fd : FuncData} {vs : List V} {p : Fl × St} {R : Result → Shared → Prop} (hA : AOk A (n + 1)) (hl : vs.length = f.params.length) (he : o.ex f f.body ⟨f.params.zip vs, σ⟩ = some p) (hf : FnAt T.s.heap fa f fo fd) (m : Mid X σ T) (hr : All2 (RepV X.I T) vs us)
    (k : ∀ u T', AftC X T p.2.store T' → RC X T T' (retR p.1) u → R (.ok (.ret u)) T'.s) : codeAny (model X.prog X.w) A (.call (.ref fa) ⟨us, []⟩) R T.s := by
  have hkind : ∀ x ∈ f.params.zip us, fd.scope.names.lookup x.1 = some .local ∨ (fd.scope.names.lookup x.1 = some .cell ∧ ((cellsFrom (T.s.heap.objs.size + 1) fd.scope.names []).lookup x.1).isSome = true) := fun x hx => by
    rw [hf.names]
    exact (Bool.or_eq_true_iff.mp (List.all_eq_true.mp hf.kinds x.1 (List.of_mem_zip hx).1)).imp eq_of_beq fun h => ⟨eq_of_beq h, cellsFrom_has (lookup_mem (eq_of_beq h))⟩
  refine codeAny_call_cells (Nat.lt_of_le_of_lt (Nat.le_add_right _ _) hA.d) hf.at_ hf.dat (HT.nolim.keeps m.top) hf.code hf.body (hf.bind us (hr.length.trans hl)) hf.clo hkind (fun s₁ hi => ?_) hf.co hf.gen hf.kind
  obtain ⟨T₁, rfl, i, x, hnew⟩ := call_frame hf m hr hi
  refine H.ex hA.deeper he i fun fl T' a hfl => ?_
  have xx : AftC X T p.2.store T' := ⟨x.trans a.ext fun b q => q.elim (x.wnew b) fun q => .inr (hnew b q.fa), a.inv.mid⟩
  have rc : ∀ {r u}, RR X (callF f fd T.s fa) T₁ T' r u → RC X T T' r u := fun {r u} h => by
    cases r with
    | val v => exact h
    | fresh l => exact h.imp fun b q => q.imp fun us q => ⟨q.1, fun z => q.2.new (x.al b z), q.2.nf, fun z => q.2.nw (.inl z), q.2.obj, q.2.rep, q.2.len⟩
  obtain ⟨fl', st'⟩ := p
  cases fl' with
  | next => cases hfl; exact k _ T' xx rfl
  | ret r => obtain ⟨u, rfl, h⟩ := hfl; exact k _ T' xx (rc h)
theorem call_snd (H : Snd X o n) (HT : Top X) {f : Fn} {fa : Addr} {fo : Obj} {fd : FuncData} {vs : List V} {p : R × List Cell} {Q : Result → Shared → Prop} (hA : AOk A (n + 1)) (he : callStep o f vs σ = some p) (hf : FnAt T.s.heap fa f fo fd) (m : Mid X σ T) (hr : All2 (RepV X.I T) vs us) (k : KC X T Q p) : codeAny (model X.prog X.w) A (.call (.ref fa) ⟨us, []⟩) Q T.s :=
  pK he fun hl he => cK he (fun _ he => mQ he k fun q hq k => call_body H HT hA hl hq hf m hr k) fun _ he => iK he fun hn he => empty_k (C := fun σ => Mid X σ T → codeAny (model X.prog X.w) A (.call (.ref fa) ⟨us, []⟩) Q T.s) hn (fun m => bK he fun q hq he => mQ he k fun r' hr' k => call_body H HT hA hl hq hf m hr fun u T' a rc => by
    have gp0 : T.M.gp = [] := List.length_eq_zero_iff.mp m.lg
    have ad0 : T.M.ad = [] := List.length_eq_zero_iff.mp m.la
    have xx := a.ext
    exact k u (T'.mm T'.M.shut) ⟨⟨xx.sh, xx.keep, xx.al, fun b q => .inl (xx.F b q), fun b q => q.elim (xx.fnew b) fun q => .inr (xx.wnew b q), nofun, by rw [ad0]; exact List.prefix_refl _⟩, a.mid.top, fun b q => .inl (a.mid.base b q), fun b q => q.elim (a.mid.fal b) a.mid.wal, fun b _ => nofun, rfl, rfl, List.nodup_nil, nofun⟩ (freezeR_rep a.mid hr' rc)) m
end
open PySem PyProof.Rows PySem.Calls PySem.W
structure ClsG (X : Cx) (K : Frag) : Prop where
  inB : K.In X.hB
  nm : X.mg X.G.cls = some (.ref X.C)
  keep : keepIn K (.ref X.C) = true
  ga : findIn K (.ref X.C) "__getattribute__" = some (some (.builtin "object.__getattribute__"))
  gn : findIn K (.ref X.C) "__getattr__" = some none
  sa : findIn K (.ref X.C) "__setattr__" = some (some (.builtin "object.__setattr__"))
  po : plainOver K X.C = true
  hd : hasDictIn K X.C = true
  mks : makesIn K X.C = true
  fld : ∀ a ∈ X.G.flds, findIn K (.ref X.C) a = some none
  ini : ∃ fI o fd, findIn K (.ref X.C) "__init__" = some (some (.ref fI)) ∧ typeIn K (.ref fI) = some (.type "function") ∧ FnAt X.hB fI X.G.init o fd
  mth : ∀ m f, lookS m X.G.meths = some f → ∃ a o fd, findIn K (.ref X.C) m = some (some (.ref a)) ∧ typeIn K (.ref a) = some (.type "function") ∧ FnAt X.hB a f o fd ∧ m ∉ X.G.flds
  fin : ∀ x f, lookS x X.G.fns = some f → x ≠ X.G.cls
theorem FnAt.keeps {h h' : Heap} {a : Addr} {f : Fn} {o : Obj} {fd : FuncData} (x : FnAt h a f o fd) (hk : ∀ b o, h.get? b = some o → h'.get? b = some o) : FnAt h' a f o fd :=
  { x with at_ := hk _ _ x.at_, code := x.code.keeps hk }
section
variable {P : Params} {I : Iota} {T : Sm} {x : Str} {fs : List (Str × V)} {v : V} {u : Value}
theorem isStr_ne {y : Str} {t : Tok} (h : ¬ x = y) : (Value.str y t).isStr x = false := beq_eq_false_iff_ne.mpr fun e => h e.symm
theorem RepA.look : ∀ {es : List DictEntry}, RepA P I T fs es → lookS x fs = some v → ∃ e, es.find? (·.key.isStr x) = some e ∧ RepV I T v e.val := by
  induction fs with
  | nil => exact fun _ h => nomatch h
  | cons p fs ih =>
    intro es r h
    obtain ⟨t, u, es', rfl, r1, r2⟩ := r
    have h : (if x = p.1 then some p.2 else lookS x fs) = some v := h
    rw [List.find?_cons]
    by_cases hx : x = p.1
    · rw [if_pos hx] at h
      cases h
      rw [show (Value.str p.1 t).isStr x = true from hx ▸ beq_self_eq_true x]
      exact ⟨_, rfl, r1⟩
    · rw [if_neg hx] at h
      rw [isStr_ne hx]
      exact ih r2 h
theorem RepA.miss : ∀ {es : List DictEntry}, RepA P I T fs es → lookS x fs = .none → es.find? (·.key.isStr x) = .none := by
  induction fs with
  | nil => intro es r _; cases r; rfl
  | cons p fs ih =>
    intro es r h
    obtain ⟨t, u, es', rfl, r1, r2⟩ := r
    have h : (if x = p.1 then some p.2 else lookS x fs) = .none := h
    rw [List.find?_cons]
    by_cases hx : x = p.1
    · rw [if_pos hx] at h; cases h
    · rw [if_neg hx] at h
      rw [isStr_ne hx]
      exact ih r2 h
theorem RepA.norefs : ∀ {es : List DictEntry}, RepA P I T fs es → es.any (·.refKey) = false := by
  induction fs with
  | nil => intro es r; cases r; rfl
  | cons p fs ih => intro es r; obtain ⟨t, u, es', rfl, r1, r2⟩ := r; exact (Bool.false_or _).trans (ih r2)
theorem RepA.put {t : Tok} (hv : RepV I T v u) : ∀ {es : List DictEntry}, RepA P I T fs es → RepA P I T (setS x v fs) (putL x (PyData.keyHash P x) (.str x t) u es) := by
  induction fs with
  | nil => intro es r; cases r; exact ⟨t, u, [], rfl, hv, rfl⟩
  | cons p fs ih =>
    intro es r
    obtain ⟨t', u', es', rfl, r1, r2⟩ := r
    show RepA P I T (if x = p.1 then (x, v) :: fs else p :: setS x v fs) _
    unfold putL
    by_cases hx : x = p.1
    · rw [if_pos hx, show (Value.str p.1 t').isStr x = true from hx ▸ beq_self_eq_true x]
      rw [← hx]
      exact ⟨t', u, es', rfl, hv, r2⟩
    · rw [if_neg hx, isStr_ne hx]
      exact ⟨t', u', _, rfl, r1, ih r2⟩
theorem RepA.len : ∀ {es : List DictEntry}, RepA P I T fs es → es.length = fs.length := by
  induction fs with
  | nil => intro es r; cases r; rfl
  | cons p fs ih => intro es r; obtain ⟨t, u, es', rfl, r1, r2⟩ := r; exact congrArg (· + 1) (ih r2)
theorem setS_len {α : Type} {v : α} (l : List (Str × α)) : (setS x v l).length ≤ l.length + 1 := by
  induction l with
  | nil => exact Nat.le_refl _
  | cons p l ih =>
    unfold setS
    by_cases h : x = p.1
    · rw [if_pos h]; exact Nat.le_succ _
    · rw [if_neg h]; exact Nat.succ_le_succ ih
theorem setS_names {α : Type} {v : α} {l : List (Str × α)} (h : (l.map (·.1)).Nodup) : ((setS x v l).map (·.1)).Nodup ∧ ∀ y ∈ (setS x v l).map (·.1), y = x ∨ y ∈ l.map (·.1) := by
  induction l with
  | nil => exact ⟨List.nodup_cons.mpr ⟨List.not_mem_nil, List.nodup_nil⟩, fun y hy => .inl (List.mem_singleton.mp hy)⟩
  | cons p l ih =>
    obtain ⟨h1, h2⟩ := List.nodup_cons.mp h
    obtain ⟨i1, i2⟩ := ih h2
    unfold setS
    by_cases e : x = p.1
    · rw [if_pos e]
      exact ⟨List.nodup_cons.mpr ⟨e ▸ h1, h2⟩, fun z hz => (List.mem_cons.mp hz).imp id (.tail _)⟩
    · rw [if_neg e]
      exact ⟨List.nodup_cons.mpr ⟨fun q => (i2 _ q).elim (fun q => e q.symm) h1, i1⟩, fun z hz => (List.mem_cons.mp hz).elim (fun q => .inr (q ▸ .head _)) fun q => (i2 z q).imp id (.tail _)⟩
theorem handed_rep (r : RepV I T v u) : handedIn u = true := by
  cases v with
  | loc k => obtain ⟨a, _, rfl⟩ := r; rfl
  | tup l => obtain ⟨a, _, rfl, _⟩ := r; rfl
  | d x =>
    cases x with
    | none => cases r; rfl
    | bool _ => cases r; rfl
    | int _ => obtain ⟨t, rfl⟩ := r; rfl
    | key _ => obtain ⟨t, rfl⟩ := r; rfl
    | raw _ _ => obtain ⟨t, rfl⟩ := r; rfl
    | str _ => obtain ⟨t, rfl, _⟩ := r; rfl
    | tup _ => obtain ⟨a, _, rfl, _⟩ := r; rfl
    | lst _ => obtain ⟨a, _, rfl, _⟩ := r; rfl
end
section
variable {X : Cx} {K : Frag} {F : Fx} {o : Ops} {n : Nat} {st st' : St} {A : Around} {T T' T'' : Sm} {Q E : Value → Shared → Prop} {QU : Unit → Shared → Prop} {σ : List Cell} {u uv : Value} {v : V} {l : List V} {us : List Value} {j : Nat} {a : Addr} {fs : List (Str × V)} {m : Str} {P : Prop}
theorem InsAt.lib {dx : Addr} {es : List DictEntry} {k : Nat} (I : InsAt X T a dx fs es k) : InstAt T.s.heap a (instObj X.C dx) X.C (some (dictOf es k)) := ⟨I.obj, rfl, rfl, I.dict⟩
theorem inst_k (i : Mid X σ T) (ha : T.M.ad[j]? = some a) (h : instC σ[j]? = some fs) (k : ∀ dx es k, T.M.gp[j]? = some [a, dx] → InsAt X T a dx fs es k → P) : P := by
  cases hc : σ[j]? with
  | none => rw [hc] at h; exact nK h
  | some c =>
    rw [hc] at h
    cases c with
    | inst fs => cases h; exact i.cell_k ha hc fun g hg ⟨dx, es, n, e, r⟩ => k dx es n (e ▸ hg) r
    | _ => exact nK h
theorem attr_snd (Y : ClsG X K) {expr : Bool} (i : Inv X F st T) (ha : T.M.ad[j]? = some a) (hc : instC st.store[j]? = some fs) (hf : X.G.flds.contains m = true) (hv : lookS m fs = some v) (k : KR X F T Q (.val v, st)) : WP X A (getAttr (.ref a) m expr) Q E T :=
  inst_k i.mid ha hc fun dx es c _ I => by
    obtain ⟨e, q1, q3⟩ := I.rep.look hv
    have hl : lookIn m (dictOf es c) = some (some e.val) := by
      rw [lookIn_dict]
      unfold getL
      rw [q1]
    exact get_value (Y.inB.keeps i.mid.top) I.lib Y.ga (findObj_own Y.hd (Y.fld m (List.contains_iff_mem.mp hf)) rfl hl) (handed_rep q3) (k _ _ (.tok i _) (q3.mono (Aft.tok i _).mono))
theorem setattr_snd (Y : ClsG X K) (i : Inv X F st T) (ha : T.M.ad[j]? = some a) (hc : instC st.store[j]? = some fs) (hf : X.G.flds.contains m = true) (h8 : fs.length < 8) (hv : RepV X.I T v uv) (k : KU X F T QU (st.put j (.inst (setS m v fs)))) : WP X A (setAttr (.ref a) m uv) QU E T :=
  inst_k i.mid ha hc fun dx es c hgp I => by
    have Xi : K.In T.s.heap := Y.inB.keeps i.mid.top
    have ht : takerIn K X.C m = some none := by unfold takerIn; rw [Y.fld m (List.contains_iff_mem.mp hf)]; rfl
    refine set_plain Xi I.lib Y.sa (osa_open (s := { T.s with toks := T.s.toks + 1 }) Xi I.lib Y.po ht fun b => ?_)
    obtain ⟨cd, hcd, hd'⟩ := any_some Y.hd
    have Xj : Frag.In K ({ T.s with toks := T.s.toks + 1 } : Shared).heap := Xi
    refine wpAny_bind (wpAny_pure (wpAny_bind (wpAny_bind (wpAny_loadPart I.obj (wpAny_bind ((looks_clsIn Xj hcd).here ?_))))))
    rw [hd']
    refine wpAny_pure (a := some dx) (wpAny_bind (wpAny_pure (wpAny_bind ?_)))
    unfold nsSet
    refine wpAny_bind (wpAny_bind (wpAny_askSetting (wpAny_pure (wpAny_bind (wpAny_mkText (wpAny_bind (wpAny_loadPart I.dict ?_)))))))
    dsimp only [dictOf]
    rw [aRefKeyMayBeTheName_at, show (!es.toArray.any (·.key.isStr m) && es.toArray.any (·.refKey)) = false by have := I.rep.norefs; simp [this]]
    refine wpAny_updatePart I.dict ?_
    have D' : (T.s.heap.update dx (Obj.putName m (PyData.keyHash X.w.params m) (.str m (T.s.toks + 1)) uv)).get? dx = some (dictOf (putL m (PyData.keyHash X.w.params m) (.str m (T.s.toks + 1)) uv es) (putN m es c)) := by
      rw [← putName_dict]
      exact Heap.get?_update_self _ I.dict (by rw [putName_dict]; rfl)
    have rp := I.rep.put (t := T.s.toks + 1) (x := m) hv
    have hs8 : (setS m v fs).length ≤ 8 := Nat.le_trans (setS_len fs) h8
    refine wpAny_bind (wpAny_lookBehind D' (pastItsLine_dict (by rw [List.size_toArray, rp.len]; exact Nat.le_trans hs8 (by decide))) (wpAny_pure ?_))
    have hxd : a ≠ dx := fun e => nomatch (e ▸ I.obj).symm.trans I.dict
    have hk : ∀ b o, b ∉ [a, dx] → T.s.heap.get? b = some o → (T.s.heap.update dx (Obj.putName m (PyData.keyHash X.w.params m) (.str m (T.s.toks + 1)) uv)).get? b = some o := fun b o hb e => (Heap.get?_update_ne _ _ _ _ fun q : b = dx => hb (by rw [q]; exact List.mem_cons_of_mem _ (List.mem_singleton_self dx))).trans e
    have o1' : (T.s.heap.update dx (Obj.putName m (PyData.keyHash X.w.params m) (.str m (T.s.toks + 1)) uv)).get? a = some (instObj X.C dx) := (Heap.get?_update_ne _ _ _ _ hxd).trans I.obj
    have mo : Mono T (T.hp (T.s.heap.update dx (Obj.putName m (PyData.keyHash X.w.params m) (.str m (T.s.toks + 1)) uv)) (T.s.toks + 1 + 1)) := ⟨fun _ f => f, fun b o f => hk b o fun q => i.mid.fw b f (Mm.W_of hgp q), List.prefix_refl _⟩
    exact k _ (Aft.upd (c := .inst (setS m v fs)) i hgp ha hk (fun b hb => (List.mem_cons.mp hb).elim (fun e => by rw [e]; exact ⟨_, o1'⟩) fun hb => by rw [List.mem_singleton.mp hb]; exact ⟨_, D'⟩) ⟨dx, _, _, rfl, o1', D', rp.mono mo, (setS_names I.nod).1, hs8⟩).s
end
open PySem PyProof.Rows PySem.Calls PySem.W
section
variable {I : Iota} {T : Sm} {b : Bool} {k : Int} {v : V} {u : Value} {es : List (Int × V)}
theorem RepK.set (hI : 2 ≤ I.gap) (hv : RepV I T v u) : ∀ {kvs : List (Int × Value)}, RepK I T b es kvs → (kvs.map (·.1)).Nodup → RepK I T b (setI k v es) (stored kvs (I.f b k) u) := by
  induction es with
  | nil => intro kvs r _; cases r; exact ⟨u, [], rfl, hv, rfl⟩
  | cons p es ih =>
    intro kvs r hn
    obtain ⟨x, ws, rfl, r1, r2⟩ := r
    obtain ⟨h1, h2⟩ := List.nodup_cons.mp hn
    show RepK I T b (if k = p.1 then (k, v) :: es else p :: setI k v es) _
    by_cases hk : k = p.1
    · rw [if_pos hk, ← hk]
      have hout : ws.map (fun kv => if kv.1 = I.f b k then (kv.1, u) else kv) = ws := (List.map_congr_left fun q hq => if_neg fun e => h1 (by rw [← hk, ← e]; exact List.mem_map.mpr ⟨q, hq, rfl⟩)).trans (List.map_id ws)
      have : stored ((I.f b k, x) :: ws) (I.f b k) u = (I.f b k, u) :: ws := by
        unfold stored
        rw [List.any_cons, decide_eq_true rfl, Bool.true_or, if_pos rfl, List.map_cons, if_pos rfl, hout]
      rw [this]
      exact ⟨u, ws, rfl, hv, r2⟩
    · rw [if_neg hk]
      have hj : ¬ I.f b p.1 = I.f b k := fun e => hk (Iota.inj hI e).symm
      have : stored ((I.f b p.1, x) :: ws) (I.f b k) u = (I.f b p.1, x) :: stored ws (I.f b k) u := by
        unfold stored
        rw [List.any_cons, decide_eq_false hj, Bool.false_or, List.map_cons, if_neg hj]
        by_cases hc : ws.any (fun kv => decide (kv.1 = I.f b k)) = true
        · rw [if_pos hc, if_pos hc]
        · rw [if_neg hc, if_neg hc]; rfl
      rw [this]
      exact ⟨x, _, rfl, r1, ih r2 h2⟩
theorem RepK.del (hI : 2 ≤ I.gap) : ∀ {kvs : List (Int × Value)}, RepK I T b es kvs → (kvs.map (·.1)).Nodup → RepK I T b (delI k es) (without kvs (I.f b k)) := by
  induction es with
  | nil => intro kvs r _; cases r; exact rfl
  | cons p es ih =>
    intro kvs r hn
    obtain ⟨x, ws, rfl, r1, r2⟩ := r
    obtain ⟨h1, h2⟩ := List.nodup_cons.mp hn
    show RepK I T b (if k = p.1 then es else p :: delI k es) _
    unfold without
    by_cases hk : k = p.1
    · rw [if_pos hk, ← hk, List.filter_cons_of_neg (p := fun kv : Int × Value => decide (kv.1 ≠ I.f b k)) (mt of_decide_eq_true fun h => h rfl)]
      rw [show ws.filter (fun kv => decide (kv.1 ≠ I.f b k)) = ws from without_of_not_mem ws _ (hk ▸ h1)]
      exact r2
    · rw [if_neg hk, List.filter_cons_of_pos (p := fun kv : Int × Value => decide (kv.1 ≠ I.f b k)) (decide_eq_true fun e => hk (Iota.inj hI e).symm)]
      exact ⟨x, _, rfl, r1, ih r2 h2⟩
end
theorem setI_len {α : Type} {k : Int} {v : α} (l : List (Int × α)) : (setI k v l).length ≤ l.length + 1 := by
  induction l with
  | nil => exact Nat.le_refl _
  | cons p l ih =>
    unfold setI
    by_cases h : k = p.1
    · rw [if_pos h]; exact Nat.le_succ _
    · rw [if_neg h]; exact Nat.succ_le_succ ih
theorem delI_len {α : Type} {k : Int} (l : List (Int × α)) : (delI k l).length ≤ l.length := by
  induction l with
  | nil => exact Nat.le_refl _
  | cons p l ih =>
    unfold delI
    by_cases h : k = p.1
    · rw [if_pos h]; exact Nat.le_succ _
    · rw [if_neg h]; exact Nat.succ_le_succ ih
theorem delI_none {α : Type} {k : Int} {l : List (Int × α)} (h : lookI k l = .none) : delI k l = l := by
  induction l with
  | nil => rfl
  | cons p l ih =>
    have h : (if k = p.1 then some p.2 else lookI k l) = .none := h
    by_cases e : k = p.1
    · rw [if_pos e] at h; cases h
    · rw [if_neg e] at h
      show (if k = p.1 then l else p :: delI k l) = _
      rw [if_neg e, ih h]
section
variable {X : Cx} {F : Fx} {o : Ops} {n : Nat} {st st' : St} {A : Around} {T T' T'' : Sm} {Q E : Value → Shared → Prop} {QU : Unit → Shared → Prop} {σ : List Cell} {u uv : Value} {v : V} {l : List V} {us us' : List Value} {j c tk : Nat} {a : Addr} {m : Str} {P : Prop} {b : Bool} {es es' : List (Int × V)} {kvs kvs' : List (Int × Value)} {p : R × List Cell}
structure LstAt (X : Cx) (T : Sm) (j : Nat) (a : Addr) (l : List V) (us : List Value) (c : Nat) : Prop where
  ad : T.M.ad[j]? = some a
  gp : T.M.gp[j]? = some [a]
  obj : T.s.heap.get? a = some (seqObj "list" (List.toArray us) c)
  rep : All2 (RepV X.I T) l us
  len : l.length ≤ lim
theorem lstAt_k (i : Mid X σ T) (ha : T.M.ad[j]? = some a) (h : σ[j]? = some (.lst l)) (k : ∀ us c, LstAt X T j a l us c → P) : P := i.cell_k ha h fun g hg ⟨e, us, ⟨c, o⟩, r, z⟩ => k us c ⟨ha, e ▸ hg, o, r, z⟩
theorem LstAt.lim (L : LstAt X T j a l us c) : us.toArray.size ≤ sizeLine := L.rep.lim L.len
theorem dctAt_k (i : Mid X σ T) (ha : T.M.ad[j]? = some a) (h : σ[j]? = some (.dct b es)) (k : ∀ kvs, DctAt X T j a b es kvs → P) : P := i.cell_k ha h fun g hg ⟨e, kvs, o, r, z⟩ => k kvs ⟨ha, e ▸ hg, o, r, z⟩
theorem DctAt.nod (D : DctAt X T j a b es kvs) : (kvs.map (·.1)).Nodup := D.obj.elim fun _ q => q.elim fun _ q => q.elim fun _ q => q.2.2.2.2.2
theorem upd_lst (i : Inv X F st T) (L : LstAt X T j a l us c) (f : Array Value → Array Value) (hf : f us.toArray = us'.toArray) {l' : List V} (hr : All2 (RepV X.I T) l' us') (hl : l'.length ≤ lim) : Aft X F T (st.put j (.lst l')) (T.hp (T.s.heap.update a (Obj.mapSeq f)) tk) := by
  have q := PySem.IsL.update (h := T.s.heap) (l := a) (items := us.toArray) (n := c) L.obj f
  rw [hf] at q
  have hk : ∀ b o, b ∉ [a] → T.s.heap.get? b = some o → (T.s.heap.update a (Obj.mapSeq f)).get? b = some o := fun b o hb e => (Heap.get?_update_ne _ _ _ _ fun z : b = a => hb (by rw [z]; exact List.mem_singleton_self a)).trans e
  have mo : Mono T (T.hp (T.s.heap.update a (Obj.mapSeq f)) tk) := ⟨fun _ f => f, fun b o f => hk b o fun z => i.mid.fw b f (Mm.W_of L.gp z), List.prefix_refl _⟩
  exact Aft.upd (c := .lst l') i L.gp L.ad hk (fun b hb => by rw [List.mem_singleton.mp hb]; exact ⟨_, q⟩) ⟨rfl, us', ⟨_, q⟩, hr.mono mo, hl⟩
theorem upd_dct {h : Heap} (i : Inv X F st T) (D : DctAt X T j a b es kvs) (hD : h.DictOf (intKind X.prog X.w) a kvs') (hsb : Heap.SameBut a T.s.heap h) {b' : Bool} (hr : RepK X.I T b' es' kvs') (hl : es'.length ≤ lim) : Aft X F T (st.put j (.dct b' es')) (T.hp h tk) := by
  have hk : ∀ b o, b ∉ [a] → T.s.heap.get? b = some o → h.get? b = some o := fun b o hb e => (hsb.2 b fun z => hb (by rw [z]; exact List.mem_singleton_self a)).trans e
  have mo : Mono T (T.hp h tk) := ⟨fun _ f => f, fun b o f => hk b o fun z => i.mid.fw b f (Mm.W_of D.gp z), List.prefix_refl _⟩
  exact Aft.upd (c := .dct b' es') i D.gp D.ad hk (fun b hb => by rw [List.mem_singleton.mp hb]; exact hD.imp fun o q => q.elim fun _ q => q.elim fun _ q => q.1) ⟨rfl, kvs', hD, hr.mono mo, hl⟩
theorem fits_small {j : Int} (h0 : 0 ≤ j) (h : j < 2 ^ 62) : Builtin.List.listFitsIndex j = true := fitsIndex_of h0 (Int.lt_trans h (by decide))
structure MethAt (X : Cx) (A : Around) (Q E : Value → Shared → Prop) (T : Sm) (ty : String) (m : Str) (u : Value) (us : List Value) (id : String) : Prop where
  slot : Slot ty m id
  desc : typeOf (.builtin id) = pure (.type "method_descriptor")
  wp : WP X A (call (.builtin id) (u :: us)) Q E T
theorem append_snd (i : Inv X F st T) (L : LstAt X T j a l us c) (hv : RepV X.I T v u) (he : lAppend st.store j l v = some p) (k : KR X F T Q (p.1, st.sto p.2)) : WP X A (call (.builtin "list.append") [.ref a, u]) Q E T :=
  pK he fun hl he => by
    have k := sQ (C := fun p : R × List Cell => KR X F T Q (p.1, st.sto p.2)) he k
    have x := upd_lst (tk := T.s.toks) i L (us' := us ++ [u]) (fun xs => xs.push u) (List.push_toArray _ _) (L.rep.append (.one hv)) (by rw [List.length_append]; exact hl)
    exact call_meets PySem.F.slot_list_append ⟨_, L.obj, rfl⟩ PySem.F.entry_list_append (PySem.F.args_list_append_2 _ _) (PySem.list_append a us.toArray c u L.lim) ⟨L.obj, k _ _ x rfl⟩
theorem insert_arr (us : List Value) (u : Value) {i : Int} (h0 : 0 ≤ i) : (have k := if i < 0 then (i + (us.toArray.size : Int)).toNat else min i.toNat us.toArray.size; (us.toArray.extract 0 k).push u ++ us.toArray.extract k) = (us.take (min i.toNat us.length) ++ u :: us.drop (min i.toNat us.length)).toArray := by
  rw [if_neg (Int.not_lt.mpr h0)]
  apply Array.toList_inj.mp
  simp
  rw [List.take_of_length_le (by simp)]
theorem insert_snd {q : V × V} (i : Inv X F st T) (L : LstAt X T j a l us c) (hi : RepV X.I T q.1 u) (hv : RepV X.I T q.2 uv) (he : lInsert st.store j l q = some p) (k : KR X F T Q (p.1, st.sto p.2)) : WP X A (call (.builtin "list.insert") [.ref a, u, uv]) Q E T :=
  bK he fun x hx he => iK he fun hok he => bK hx fun z hz hx => numV_k (P := fun v => RepV X.I T v u → WP X A (call (.builtin "list.insert") [.ref a, u, uv]) Q E T) hz (fun hi => RepD.num_k (P := fun u => WP X A (call (.builtin "list.insert") [.ref a, u, uv]) Q E T) hi fun t => plain_k (P := fun z => WP X A (call (.builtin "list.insert") [.ref a, .int (X.I.f z.1 z.2) t, uv]) Q E T) hx (andK hok fun hok hl => andK hok fun h0 hs => by
    have h0 := decK h0
    have hl := decK hl
    have k := sQ (C := fun p : R × List Cell => KR X F T Q (p.1, st.sto p.2)) he k
    have hfit : ¬ (!Builtin.List.listFitsIndex x) = true := by
      rw [fits_small h0 (Int.lt_of_le_of_lt (Int.natAbs_of_nonneg h0 ▸ Int.ofNat_le.mpr (decK hs)) (by decide))]; nofun
    have x1 := upd_lst (tk := T.s.toks) i L (us' := us.take (min x.toNat us.length) ++ uv :: us.drop (min x.toNat us.length)) (fun xs => have k := if x < 0 then (x + (xs.size : Int)).toNat else min x.toNat xs.size; (xs.extract 0 k).push uv ++ xs.extract k) (insert_arr us uv h0) (l' := insAt l (min x.toNat l.length) q.2)
      (by rw [insAt, ← L.rep.length]; exact (L.rep.take _).append (.cons hv (L.rep.drop _)))
      (by rw [insAt, List.length_append, List.length_cons, ← Nat.add_assoc, ← List.length_append, List.take_append_drop]; exact hl)
    exact call_meets PySem.F.slot_list_insert ⟨_, L.obj, rfl⟩ PySem.F.entry_list_insert (PySem.F.args_list_insert_3 _ _ _) (PySem.AutoSeq1.list_insert_list_int_val_1 a us.toArray c x t uv hfit L.lim) ⟨L.obj, k _ _ x1 rfl⟩)) hi
theorem extend_snd (i : Inv X F st T) (L : LstAt X T j a l us c) (hv : RepV X.I T v u) (he : lExtend st.store j l v = some p) (k : KR X F T Q (p.1, st.sto p.2)) : WP X A (call (.builtin "list.extend") [.ref a, u]) Q E T :=
  bK he fun d hd he => bK he fun e hl he => iK he fun hok he => locV_k (P := fun v => RepV X.I T v u → WP X A (call (.builtin "list.extend") [.ref a, u]) Q E T) hd (fun hv => RepV.loc_k (I := X.I) (P := fun u => WP X A (call (.builtin "list.extend") [.ref a, u]) Q E T) hv fun b hb => lstC_k i.mid hb hl fun us₁ ⟨c₁, o₁⟩ r₁ z₁ => andK hok fun _ hz => by
    have k := sQ (C := fun p : R × List Cell => KR X F T Q (p.1, st.sto p.2)) he k
    have hz' : (l ++ e).length ≤ lim := by rw [List.length_append]; exact decK hz
    have x := upd_lst (tk := T.s.toks) i L (us' := us ++ us₁) (fun xs => xs ++ us₁.toArray) (List.append_toArray _ _) (L.rep.append r₁) hz'
    refine call_meets PySem.F.slot_list_extend ⟨_, L.obj, rfl⟩ PySem.F.entry_list_extend (PySem.F.args_list_extend_2 _ _) (PySem.AutoSeq1.list_extend_list_list_0 a us.toArray c b us₁.toArray c₁ ?_ L.lim (by rw [← Array.size_append, List.append_toArray]; exact Nat.le_succ_of_le ((L.rep.append r₁).lim hz'))) ⟨L.obj, o₁, k _ _ x rfl⟩
    have h2 : (us.length + us₁.length : Nat) ≤ lim := by rw [← List.length_append, (L.rep.append r₁).length]; exact hz'
    have := lim_le
    simp only [List.size_toArray, Bool.and_eq_true, not_and, Builtin.List.listTooLong]
    intro _
    simp only [decide_eq_true_eq]
    first | exact Nat.not_lt.mpr (Nat.le_trans h2 lim_le) | omega) hv
theorem erase_arr {us : List Value} {i : Nat} (h : i < us.length) : us.toArray.eraseIdxIfInBounds i = (us.eraseIdx i).toArray := by
  apply Array.toList_inj.mp
  simp [Array.eraseIdxIfInBounds, h]
theorem pop_snd (i : Inv X F st T) (L : LstAt X T j a l us c) (he : lPop st.store j l = some p) (k : KR X F T Q (p.1, st.sto p.2)) : WP X A (call (.builtin "list.pop") [.ref a]) Q E T :=
  mQ (C := fun p : R × List Cell => KR X F T Q (p.1, st.sto p.2)) he k fun y hy k => by
    have hy' : l[l.length - 1]? = some y := List.getLast?_eq_getElem? ▸ hy
    have hlt := (List.getElem?_eq_some_iff.mp hy').1
    obtain ⟨uy, e1, q1⟩ := L.rep.get hy'
    have hlen := L.rep.length
    rw [← hlen] at e1 hlt
    have x := upd_lst (tk := T.s.toks) i L (us' := us.eraseIdx (us.length - 1)) (fun xs => xs.eraseIdxIfInBounds (us.toArray.size - 1)) (erase_arr hlt) (l' := l.dropLast) (by rw [← List.eraseIdx_length_sub_one, ← hlen]; exact L.rep.erase _) (Nat.le_trans (List.length_dropLast ▸ Nat.sub_le _ _) L.len)
    exact call_meets PySem.F.slot_list_pop ⟨_, L.obj, rfl⟩ PySem.F.entry_list_pop (PySem.F.args_list_pop_1 _) (PySem.MeetsSeq.list_pop_last a us.toArray c uy (List.getElem?_toArray.trans e1) L.lim) ⟨L.obj, k _ _ x (q1.mono x.mono)⟩
theorem pop0_snd (i : Inv X F st T) (L : LstAt X T j a l us c) (hi : RepV X.I T v u) (he : lPop0 st.store j l v = some p) (k : KR X F T Q (p.1, st.sto p.2)) : WP X A (call (.builtin "list.pop") [.ref a, u]) Q E T :=
  bK he fun x hx he => pK he fun h0 he => bK hx fun z hz hx => numV_k (P := fun v => RepV X.I T v u → WP X A (call (.builtin "list.pop") [.ref a, u]) Q E T) hz (fun hi => RepD.num_k (P := fun u => WP X A (call (.builtin "list.pop") [.ref a, u]) Q E T) hi fun t => plain_k (P := fun z => WP X A (call (.builtin "list.pop") [.ref a, .int (X.I.f z.1 z.2) t]) Q E T) hx (by
    cases h0
    cases l with
    | nil => exact nK he
    | cons y l =>
      have k := sQ (C := fun p : R × List Cell => KR X F T Q (p.1, st.sto p.2)) he k
      obtain ⟨uy, us₁, rfl, q1, r1⟩ := L.rep
      have x := upd_lst (tk := T.s.toks) i L (us' := us₁) (fun xs => xs.eraseIdxIfInBounds 0) (erase_arr (us := uy :: us₁) (Nat.succ_pos _)) r1 (Nat.le_of_succ_le L.len)
      exact call_meets PySem.F.slot_list_pop ⟨_, L.obj, rfl⟩ PySem.F.entry_list_pop (PySem.F.args_list_pop_2 _ _) (PySem.MeetsSeq.list_pop_at a (uy :: us₁).toArray c 0 t 0 uy (by decide) (by simp [seqIndex?]) rfl L.lim) ⟨L.obj, k _ _ x (q1.mono x.mono)⟩)) hi
theorem lmeth_snd {as : List V} (i : Inv X F st T) (L : LstAt X T j a l us c) (ha : All2 (RepV X.I T) as us') (he : lmeth st.store j l m as = some p) (k : KR X F T Q (p.1, st.sto p.2)) (f : ∀ id, MethAt X A Q E T "list" m (.ref a) us' id → P) : P :=
  eK he (fun hm he => bK he fun v hv he => f "list.append" ⟨hm ▸ PySem.F.slot_list_append, PySem.F.type_list_append, one_k (C := fun as => All2 (RepV X.I T) as us' → WP X A (call (.builtin "list.append") (.ref a :: us')) Q E T) hv (fun ha => ha.k1 (C := fun us' => WP X A (call (.builtin "list.append") (.ref a :: us')) Q E T) fun u hu => append_snd i L hu he k) ha⟩) fun he =>
  eK he (fun hm he => bK he fun v hv he => f "list.insert" ⟨hm ▸ PySem.F.slot_list_insert, PySem.F.type_list_insert, pair_k (C := fun as => All2 (RepV X.I T) as us' → WP X A (call (.builtin "list.insert") (.ref a :: us')) Q E T) hv (fun ha => ha.k2 (C := fun us' => WP X A (call (.builtin "list.insert") (.ref a :: us')) Q E T) fun u w hu hw => insert_snd i L hu hw he k) ha⟩) fun he =>
  eK he (fun hm he => bK he fun v hv he => f "list.extend" ⟨hm ▸ PySem.F.slot_list_extend, PySem.F.type_list_extend, one_k (C := fun as => All2 (RepV X.I T) as us' → WP X A (call (.builtin "list.extend") (.ref a :: us')) Q E T) hv (fun ha => ha.k1 (C := fun us' => WP X A (call (.builtin "list.extend") (.ref a :: us')) Q E T) fun u hu => extend_snd i L hu he k) ha⟩) fun he =>
  eK he (fun hm he => f "list.pop" ⟨hm ▸ PySem.F.slot_list_pop, PySem.F.type_list_pop, eK he (fun hn he => empty_k (C := fun as => All2 (RepV X.I T) as us' → WP X A (call (.builtin "list.pop") (.ref a :: us')) Q E T) hn (fun ha => ha.k0 (C := fun us' => WP X A (call (.builtin "list.pop") (.ref a :: us')) Q E T) (pop_snd i L he k)) ha) fun he => bK he fun v hv he => one_k (C := fun as => All2 (RepV X.I T) as us' → WP X A (call (.builtin "list.pop") (.ref a :: us')) Q E T) hv (fun ha => ha.k1 (C := fun us' => WP X A (call (.builtin "list.pop") (.ref a :: us')) Q E T) fun u hu => pop0_snd i L hu he k) ha⟩) fun he => nK he
theorem dget_snd (HT : Top X) (i : Inv X F st T) (D : DctAt X T j a b es kvs) (hv : RepV X.I T v u) (he : dGet st.store b es v = some p) (k : KR X F T Q (p.1, st.sto p.2)) : WP X A (call (.builtin "dict.get") [.ref a, u]) Q E T :=
  bK he fun q hq he => iK he fun ho he => numV_k (P := fun v => RepV X.I T v u → WP X A (call (.builtin "dict.get") [.ref a, u]) Q E T) hq (fun hv => RepD.num_k (P := fun u => WP X A (call (.builtin "dict.get") [.ref a, u]) Q E T) hv fun t => by
    have k := sQ (C := fun p : R × List Cell => KR X F T Q (p.1, st.sto p.2)) he k
    refine call_meetsIn PySem.F.slot_dict_get D.obj.typeIs PySem.F.entry_dict_get (PySem.F.args_dict_get_2 _ _) (meets_dict_get (knd := intKind X.prog X.w) (d := a) (intKind_is X.prog X.w _ t) (D.nosys HT i.mid)) ⟨_, D.obj.mapOf, k _ _ (.tok i _) ?_⟩
    cases hl : lookI q.2 es with
    | some v => exact D.rep.some_k HT.gap ho hl fun u e r => by rw [e]; exact r.mono (Aft.tok i _).mono
    | none => rw [((D.rep.cls ho).look HT.gap q.2).2 hl]; exact rfl) hv
theorem dpop_snd {q : V × V} (HT : Top X) (i : Inv X F st T) (hc : st.store[j]? = some (.dct b es)) (D : DctAt X T j a b es kvs) (hv : RepV X.I T q.1 u) (hn : RepV X.I T q.2 uv) (he : dPop st.store j b es q = some p) (k : KR X F T Q (p.1, st.sto p.2)) : WP X A (call (.builtin "dict.pop") [.ref a, u, uv]) Q E T :=
  bK he fun x hx he => iK he fun ho he => andK ho fun ho hno => numV_k (P := fun v => RepV X.I T v u → WP X A (call (.builtin "dict.pop") [.ref a, u, uv]) Q E T) hx (fun hv => RepD.num_k (P := fun u => WP X A (call (.builtin "dict.pop") [.ref a, u, uv]) Q E T) hv fun t => by
    have hu : uv = .none := by
      revert hn hno
      cases q.2 with
      | d y => cases y <;> first | exact fun h _ => h | exact fun _ h => nomatch h
      | _ => exact fun _ h => nomatch h
    cases hu
    have k := sQ (C := fun p : R × List Cell => KR X F T Q (p.1, st.sto p.2)) he k
    have r := D.rep.cls ho
    have hargs : argsOk "dict.pop" ⟨.ref a :: .int (X.I.f x.1 x.2) t :: [.none], []⟩ := PySem.F.args_dict_pop_3 _ _ _
    cases hl : lookI x.2 es with
    | some v =>
      refine D.rep.some_k HT.gap ho hl fun xv e1 q => call_meetsIn PySem.F.slot_dict_pop D.obj.typeIs PySem.F.entry_dict_pop hargs (meets_dict_pop_there (intKind X.prog X.w) a (intKind_is X.prog X.w _ t) [.none] (.inr ⟨_, rfl⟩) rfl) ⟨kvs, xv, D.obj, r.lim D.len, e1, fun h' hm' hs' => ?_⟩
      have x1 := upd_dct (tk := T.s.toks + 1) i D hm' hs' (RepK.del (k := x.2) HT.gap r D.nod) (Nat.le_trans (delI_len es) D.len)
      exact k _ _ x1 (by rw [hl]; exact q.mono x1.mono)
    | none =>
      refine call_meetsIn PySem.F.slot_dict_pop D.obj.typeIs PySem.F.entry_dict_pop hargs (meets_dict_pop_default (intKind X.prog X.w) a (intKind_is X.prog X.w _ t) (D.nosys HT i.mid) rfl .none) ⟨kvs, D.obj, (r.look HT.gap x.2).2 hl, ?_⟩
      have m1 : Mid X (st.store.set j (.dct x.1 (delI x.2 es))) T := by
        have := i.mid.upd (h := T.s.heap) (tk := T.s.toks) (c := .dct x.1 (delI x.2 es)) D.gp D.ad (fun _ _ _ e => e) ⟨rfl, kvs, D.obj, by rw [delI_none hl]; exact r, by rw [delI_none hl]; exact D.len⟩
        exact this
      have i1 : Inv X F (st.put j (.dct x.1 (delI x.2 es))) T := ⟨m1, i.ffa, i.frm⟩
      have a1 := Aft.tok i1 (T.s.toks + 1)
      exact k _ _ ⟨a1.ext, a1.mono, a1.inv⟩ (by rw [hl]; exact rfl)) hv
theorem dmeth_snd {as : List V} (HT : Top X) (i : Inv X F st T) (hc : st.store[j]? = some (.dct b es)) (D : DctAt X T j a b es kvs) (ha : All2 (RepV X.I T) as us') (he : dmeth st.store j b es m as = some p) (k : KR X F T Q (p.1, st.sto p.2)) (f : ∀ id, MethAt X A Q E T "dict" m (.ref a) us' id → P) : P :=
  eK he (fun hm he => bK he fun v hv he => f "dict.get" ⟨hm ▸ PySem.F.slot_dict_get, PySem.F.type_dict_get, one_k (C := fun as => All2 (RepV X.I T) as us' → WP X A (call (.builtin "dict.get") (.ref a :: us')) Q E T) hv (fun ha => ha.k1 (C := fun us' => WP X A (call (.builtin "dict.get") (.ref a :: us')) Q E T) fun u hu => dget_snd HT i D hu he k) ha⟩) fun he =>
  eK he (fun hm he => bK he fun v hv he => f "dict.pop" ⟨hm ▸ PySem.F.slot_dict_pop, PySem.F.type_dict_pop, pair_k (C := fun as => All2 (RepV X.I T) as us' → WP X A (call (.builtin "dict.pop") (.ref a :: us')) Q E T) hv (fun ha => ha.k2 (C := fun us' => WP X A (call (.builtin "dict.pop") (.ref a :: us')) Q E T) fun u w hu hw => dpop_snd HT i hc D hu hw he k) ha⟩) fun he => nK he
end
open PySem PyProof.Rows PySem.Calls PySem.W
section
variable {X : Cx} {K : Frag} {F : Fx} {o : Ops} {n : Nat} {st st' : St} {A : Around} {T T' T'' : Sm} {Q E : Value → Shared → Prop} {QU : Unit → Shared → Prop} {σ : List Cell} {u uv : Value} {v : V} {l : List V} {us us' : List Value} {j c tk : Nat} {a : Addr} {m : Str} {P : Prop} {b : Bool} {es es' : List (Int × V)} {kvs kvs' : List (Int × Value)} {e : PySem.Expr} {t : Tok} {q : Bool × Int}
theorem setL_snd {i₀ : Int} (i : Inv X F st T) (L : LstAt X T j a l us c) (h0 : 0 ≤ i₀) (hlt : i₀.toNat < l.length) (hv : RepV X.I T v uv) (k : KU X F T QU (st.put j (.lst (l.set i₀.toNat v)))) : WP X A (PySem.setItem (.ref a) (.int i₀ t) uv) QU E T := by
  have hT : T.s.TypeIs (.ref a) "list" := ⟨_, L.obj, rfl⟩
  have hfit : Builtin.List.listFitsIndex i₀ = true := fits_small h0 (Int.lt_trans ((Int.toNat_lt h0).mp (Nat.lt_of_lt_of_le hlt L.len)) (by decide))
  unfold WP PySem.setItem
  try with_reducible refine wpAny_holding ?_
  refine wpAny_bind (wpAny_sequenceKey hT (by decide) ?_)
  refine wpAny_bind (wpAny_callSpecial?_slot (name := Str.ofString "__setitem__") hT slot_list_setitem (wpAny_call_entry slot_list_setitem hT entry_list_setitem ?_ (args_list_setitem _ _ _)))
  show wpAny _ _ (Builtin.List.listSubscript? (.int i₀ t) >>= _) _ _ T.s
  refine wpAny_bind (wpAny_listSubscript_int hfit ?_)
  clear hfit
  obtain ⟨d, rfl⟩ := Int.eq_ofNat_of_zero_le h0
  have x := upd_lst (tk := T.s.toks) i L (us' := us.set d uv) (fun xs => xs.setIfInBounds d uv) (by simp) (L.rep.set hv d) (by rw [List.length_set]; exact L.len)
  have hj : d < us.length := L.rep.length ▸ hlt
  show wpAny _ _ ((seqItemAt a d >>= fun r => pure (r.map (d, ·))) >>= _) _ _ T.s
  refine wpAny_bind (wpAny_bind (wpAny_seqItemAt L.obj rfl (wpAny_pure ?_)))
  rw [show us.toArray[d]? = some us[d] from List.getElem?_toArray.trans (List.getElem?_eq_getElem hj)]
  show wpAny _ _ (setSeqItemAt a d uv >>= _) _ _ T.s
  refine wpAny_bind (wpAny_setSeqItemAt L.obj rfl ?_)
  first
    | exact wpAny_bind (wpAny_pure (wpAny_pure ⟨.none, rfl, wpAny_pure (k _ x.s)⟩))
    | exact wpAny_pure ⟨.none, rfl, wpAny_pure (k _ x.s)⟩
theorem setC_snd (HT : Top X) (i : Inv X F st T) (ha : T.M.ad[j]? = some a) (hv : RepV X.I T v uv) (he : setC st.store j q v st.store[j]? = some σ) (k : KU X F T QU (st.sto σ)) : WP X A (PySem.setItem (.ref a) (.int (X.I.f q.1 q.2) t) uv) QU E T := by
  cases hc : st.store[j]? with
  | none => rw [hc] at he; exact nK he
  | some d =>
    rw [hc] at he
    cases d with
    | lst l => exact bK he fun x hx he => iK he fun ho he => plain_k (P := fun q => WP X A (PySem.setItem (.ref a) (.int (X.I.f q.1 q.2) t) uv) QU E T) hx (andK ho fun h0 h1 => lstAt_k i.mid ha hc fun us c L => setL_snd i L (decK h0) (decK h1) hv (sQ (C := fun σ => KU X F T QU (st.sto σ)) he k))
    | dct b es => exact iK he fun ho he => andK ho fun ho hz => dctAt_k i.mid ha hc fun kvs D => wpAny_setItem_pairs (intKind_is X.prog X.w _ t) D.obj (fun h' hm' hs' => sQ (C := fun σ => KU X F T QU (st.sto σ)) he k _ (upd_dct (tk := T.s.toks + 1) i D hm' hs' (RepK.set (k := q.2) HT.gap hv (D.rep.cls ho) D.nod) (Nat.le_trans (setI_len es) (decK hz))).s) (by have := decK hz; rw [D.rep.length]; exact Nat.le_trans (Nat.le_of_lt this) lim_le)
    | _ => exact nK he
theorem delC_snd (HT : Top X) (i : Inv X F st T) (ha : T.M.ad[j]? = some a) (he : delC st.store j q st.store[j]? = some σ) (k : KU X F T QU (st.sto σ)) : WP X A (PySem.delItem (.ref a) (.int (X.I.f q.1 q.2) t)) QU E T := by
  cases hc : st.store[j]? with
  | none => rw [hc] at he; exact nK he
  | some d =>
    rw [hc] at he
    cases d with
    | lst l =>
      refine bK he fun x hx he => mQ (C := fun σ => KU X F T QU (st.sto σ)) he k fun y hy k => plain_k (P := fun q => WP X A (PySem.delItem (.ref a) (.int (X.I.f q.1 q.2) t)) QU E T) hx (lstAt_k i.mid ha hc fun us c L => ?_)
      have hlt : y < us.length := by
        rw [L.rep.length]
        exact ix_k hy (fun h0 h1 e => e ▸ (Int.toNat_lt h0).mpr h1) fun h0 h1 e => by omega
      have x1 := upd_lst (tk := T.s.toks) i L (us' := us.eraseIdx y) (fun xs => xs.eraseIdxIfInBounds y) (erase_arr hlt) (L.rep.erase y) (Nat.le_trans (List.length_eraseIdx_le l y) L.len)
      have hfit : Builtin.List.listFitsIndex x = true := by
        have hk1 : -(1000000 : Int) ≤ x ∧ x < 1000000 := by
          have z : l.length ≤ 1000000 := L.len
          exact ix_k hy (fun h0 h1 _ => by omega) fun h0 h1 _ => by omega
        unfold Builtin.List.listFitsIndex
        simp
        omega
      exact P.delItem_list (n := c) L.obj hfit (by rw [List.size_toArray, L.rep.length]; exact hy) (k _ x1.s) L.lim
    | dct b es =>
      refine iK he fun ho he => andK ho fun ho hs => dctAt_k i.mid ha hc fun kvs D => ?_
      unfold WP PySem.delItem
      try with_reducible refine wpAny_holding ?_
      refine wpAny_bind (wpAny_sequenceKey D.obj.typeIs (by decide) ?_)
      refine wpAny_bind (wpAny_callSpecial?_slot (name := Str.ofString "__delitem__") D.obj.typeIs PySem.F.slot_dict_delitem
        (call_meetsIn PySem.F.slot_dict_delitem D.obj.typeIs PySem.F.entry_dict_delitem (PySem.F.args_dict_delitem_2 _ _) (meets_dict_delitem_pairs (intKind X.prog X.w) a (intKind_is X.prog X.w _ t)) ⟨kvs, D.obj, D.rep.lim D.len, by rw [D.rep.isSome HT.gap ho]; exact hs, fun h' hm' hs' => ?_⟩))
      exact wpAny_pure (sQ (C := fun σ => KU X F T QU (st.sto σ)) he k _ (upd_dct (tk := T.s.toks + 1) i D hm' hs' (RepK.del (k := q.2) HT.gap (D.rep.cls ho) D.nod) (Nat.le_trans (delI_len es) D.len)).s)
    | _ => exact nK he
theorem starred_map (H : Snd X o n) {fn : Fn} {env : Env} {pos : Pos} {es : List PySem.Expr} : ∀ {st : St} {p : List V × St}, evSs o fn es st = some p → backTo pos (starEach es env) = es.map fun e => (false, eval e env) := by
  induction es with
  | nil => exact fun _ => rfl
  | cons e es ih => exact fun he => bK he fun q hq he => mK (C := fun _ => backTo pos (starEach (e :: es) env) = (e :: es).map fun e => (false, eval e env)) he fun r hr => by rw [bK hq fun _ h _ => star1 H h, ih hr]; rfl
theorem any_false (es : List PySem.Expr) (env : Env) : (es.map fun e => (false, eval e env)).any (fun x => x.1) = false := by
  induction es with
  | nil => rfl
  | cons e es ih => exact ih
theorem args_snd (H : Snd X o n) {pos : Pos} {f : Value} (hA : AOk A n) {es : List PySem.Expr} {p : List V × St} {QA : Args → Shared → Prop} (he : evSs o F.fn es st = some p) (i : Inv X F st T) (k : KVs X F T (fun us s => QA ⟨us, []⟩ s) p) : WP X A (evalArgs f true (backTo pos (starEach es F.env)) []) QA E T := by
  have hb := starred_map (env := F.env) H (pos := pos) he
  cases es with
  | nil => exact PyProof.Rows.evalArgs_none (sQ (C := KVs X F T (fun us s => QA ⟨us, []⟩ s)) he k [] T (.refl i) rfl)
  | cons e es =>
    have := evSs_snd (pos := pos) (E := E) H hA he i k
    unfold WP at this ⊢
    rw [hb] at this ⊢
    exact evalArgs_plain this
theorem starred_none (H : Snd X o n) {fn : Fn} {env : Env} {pos : Pos} {es : List PySem.Expr} {p : List V × St} (he : evSs o fn es st = some p) : ((backTo pos (starEach es env)).any (·.1) || ([] : List (Option Str × Sem Value)).any (·.1.isNone)) = false := by
  rw [starred_map H he, any_false]
  rfl
theorem base_ok {name : Str} {env : Env} {b : PySem.Expr} (h : asBare b = false) : attributeBase b name env (eval b env) = eval b env := by
  cases b with
  | Call f as ks pos =>
    cases f with
    | Name x p =>
      cases as with
      | nil =>
        cases ks with
        | nil => exact Bool.noConfusion h
        | cons _ _ => rfl
      | cons _ _ => rfl
    | _ => rfl
  | _ => rfl
theorem meth_call (H : Snd X o n) {b : PySem.Expr} {apos pos : Pos} {as : List PySem.Expr} {p : List V × St} (hok : mOk b apos pos as.length = true) (hst : evSs o F.fn as st' = some p)
    (h : WP X A (eval b F.env) (fun ov s₁ => ∀ pl, wpAny (model X.prog X.w) A (getMethod ov m pl) (fun fm s₂ => wpAny (model X.prog X.w) A (callWith pos fm.1 fm.2 (backTo pos (starEach as F.env)) []) Q E s₂) E s₁) E T) : WP X A (eval (.Call (.Attribute b m apos) as [] pos) F.env) Q E T :=
  andK hok fun hok hlen => andK hok fun hb hline => by
    unfold WP
    rw [arm_eval_Call, base_ok (Bool.not_eq_true' _ |>.mp hb)]
    refine wpAny_bind (wpAny_mono h (fun ov s₁ h₁ => wpAny_bind (wpAny_standAt ?_)) fun _ _ e => e)
    have hform : methodCallForm (as.length + ([] : List Keyword).length) (backTo pos (starEach as F.env)) (backToKw pos (keywordEach [] F.env)) = true := by
      unfold methodCallForm
      rw [starred_map H hst]
      have h1 : (as.map fun e => (false, eval e F.env)).all (fun x => !x.1) = true := by simp
      rw [h1]
      exact decide_eq_true (show as.length + 0 + 0 < 30 from Nat.lt_trans (decK hlen) (by decide))
    have hpos : methodCallPos true b F.env apos pos = pure pos := by unfold methodCallPos; simp [hline]
    unfold methodCall calleeOf
    rw [hform]
    refine wpAny_bind (wpAny_holding (wpAny_mono (h₁ _) (fun fm s₂ h₂ => ?_) fun _ _ e => e))
    obtain ⟨f, first⟩ := fm
    exact wpAny_bind (wpAny_of_eq hpos h₂)
theorem callWith_bm {pos : Pos} {id : String} {self : Value} {args : List (Bool × Sem Value)} {s : Shared} (hp : (args.any (·.1) || ([] : List (Option Str × Sem Value)).any (·.1.isNone)) = false)
    (h : wpAny (model X.prog X.w) A (evalArgs (.builtin id) true args []) (fun a s₁ => wpAny (model X.prog X.w) A (call (.builtin id) (self :: a.pos) a.kw) Q E s₁) E s) : wpAny (model X.prog X.w) A (callWith pos (.builtin id) [self] args []) Q E s :=
  callWith_of (P := fun _ => True) hp (fun h _ => ⟨.machine, .inr (.inl rfl), Looks.now⟩) (wpAny_mono h (fun a s₁ h₁ => ⟨trivial, h₁⟩) fun _ _ e => e)
theorem Inv.ofC (i : Inv X F st T) (x : AftC X T σ T') : Aft X F T (st.sto σ) T' :=
  have m : Mono T T' := x.ext.mono i.mid.fw
  ⟨x.ext, m, x.mid, fun a f => ⟨fun q => (x.ext.fnew a q).elim (i.ffa a f).1 fun q => q.elim (i.ffa a f).2 fun q => q (i.faal f), fun q => (x.ext.wnew a q).elim (i.ffa a f).2 fun q => q (i.faal f)⟩, i.frm.mono m fun b o f e => x.ext.keep b o e (i.ffa b f).2⟩
theorem RC.rr {r : R} (i : Inv X F st T) (h : RC X T T' r u) : RR X F T T' r u := by
  cases r with
  | val v => exact h
  | fresh l => exact h.imp fun b q => q.imp fun us q => ⟨q.1, q.2.new, q.2.nf, fun z => z.elim q.2.nw fun z => q.2.new (i.faal z), q.2.obj, q.2.rep, q.2.len⟩
theorem pureArg_k {y : D × List Cell} (i : Inv X F st T) (hv : RepV X.I T v u) (h : pureArg v st.store = some y) (k : ∀ T', T'.s = T.s → Aft X F T (st.sto y.2) T' → RepD X.I T' y.1 u → P) : P :=
  oK h (fun d hd h => locV_k (P := fun v => RepV X.I T v u → P) hd (fun hv => bK h fun p hp h => mQ (C := fun y : D × List Cell => ∀ T', T'.s = T.s → Aft X F T (st.sto y.2) T' → RepD X.I T' y.1 u → P) h k fun ds hds k => RepV.loc_k (I := X.I) (P := fun u => (∀ T', T'.s = T.s → Aft X F T (st.sto p.2) T' → RepD X.I T' (.lst ds) u → P) → P) hv (fun a ha k => iterC_k (.refl i) ha hp fun T' us e x f o r z => allD_k (P := fun l => All2 (RepV X.I T') l us → l.length ≤ lim → P) hds (fun r z => k T' e x ⟨a, us, rfl, f, o, List.length_map (as := ds) V.d ▸ z, repDs_eq.mpr ((All2.map (f := V.d) (P := RepV X.I T')).mp r)⟩) r z) k) hv)
    fun _ h => mQ (C := fun y : D × List Cell => ∀ T', T'.s = T.s → Aft X F T (st.sto y.2) T' → RepD X.I T' y.1 u → P) h k fun x hx k => datV_k (P := fun v => RepV X.I T v u → P) hx (k T rfl (.refl i)) hv
theorem pureArgs_k {vs : List V} : ∀ {st : St} {T : Sm} {us : List Value} {y : List V × List Cell}, Inv X F st T → All2 (RepV X.I T) vs us → pureArgs vs st.store = some y → (∀ T' ds, T'.s = T.s → Aft X F T (st.sto y.2) T' → y.1 = ds.map .d → All2 (RepD X.I T') ds us → P) → P := by
  induction vs with
  | nil => intro st T us y i r e k; cases r; cases e; exact k T [] rfl (.refl i) rfl rfl
  | cons v vs ih =>
    intro st T us y i r e k
    obtain ⟨u, ws, rfl, r1, r2⟩ := r
    exact bK e fun q hq e => mQ (C := fun y : List V × List Cell => ∀ T' ds, T'.s = T.s → Aft X F T (st.sto y.2) T' → y.1 = ds.map .d → All2 (RepD X.I T') ds (u :: ws) → P) e k fun p hp k => pureArg_k i r1 hq fun T₁ e₁ a₁ d₁ => ih (st := st.sto q.2) a₁.inv (r2.mono a₁.mono) hp fun T₂ ds e₂ a₂ hd r₂ => k T₂ (q.1 :: ds) (e₂.trans e₁) (a₁.trans a₂) (congrArg (V.d q.1 :: ·) hd) (.cons (d₁.mono a₂.mono) r₂)
theorem callFn_snd (H : Snd X o n) {f : Fn} {fa : Addr} {fo : Obj} {fd : FuncData} {vs : List V} {p : R × St} (hA : AOk A n) (he : callFn o f vs st = some p) (hf : FnAt X.hB fa f fo fd) (i : Inv X F st T) (hr : All2 (RepV X.I T) vs us) (k : KR X F T Q p) : WP X A (call (.ref fa) us) Q E T :=
  cK he (fun _ he => mQ he k fun q hq k => wpAny_call (H.call hA hq (hf.keeps i.mid.top) i.mid hr fun u T' a rc => k u T' (i.ofC a) (rc.rr i))) fun _ he => bK he fun q hq he => bK he fun q' hc he => iK he fun hem he => pureArgs_k i hr hq fun T₁ ds e₁ a₁ hd r₁ => by
    have i₁ := a₁.inv
    have k := sQ he k
    rw [hd] at hc
    have mc : Mid X [] (T₁.mm ⟨T₁.M.F, [], []⟩) := ⟨i₁.mid.top, i₁.mid.base, i₁.mid.fal, fun a _ => nofun, rfl, rfl, List.nodup_nil, nofun⟩
    have r₂ : All2 (RepV X.I (T₁.mm ⟨T₁.M.F, [], []⟩)) (ds.map .d) us := All2.map.mpr (r₁.imp fun d u h => RepD.monoF (T := T₁) (T' := T₁.mm ⟨T₁.M.F, [], []⟩) ⟨fun _ f => f, fun _ _ _ e => e⟩ h)
    have w : WP X A (call (.ref fa) us) Q E (T₁.mm ⟨T₁.M.F, [], []⟩) := wpAny_call (H.call hA hc (hf.keeps i₁.mid.top) mc r₂ fun u T' a rc => ?_)
    · unfold WP at w ⊢
      rw [← e₁]
      exact w
    · have keep : ∀ b ob, T₁.s.heap.get? b = some ob → T'.s.heap.get? b = some ob := fun b ob e => a.ext.keep b ob e nofun
      have fnew : ∀ b, T'.M.F b → T₁.M.F b ∨ ¬ Al T₁.s.heap b := fun b q => (a.ext.fnew b q).imp_right fun q => q.elim nofun id
      have mo : Mono T₁ (T'.mm ⟨fun b => T₁.M.F b ∨ T'.M.F b, T₁.M.ad, T₁.M.gp⟩) := ⟨fun b q => .inl q, fun b ob _ e => keep b ob e, List.prefix_refl _⟩
      have a₂ : AftC X T₁ q.2 (T'.mm ⟨fun b => T₁.M.F b ∨ T'.M.F b, T₁.M.ad, T₁.M.gp⟩) :=
        ⟨⟨a.ext.sh, fun b ob e _ => keep b ob e, a.ext.al, fun b q => .inl q, fun b q => q.elim .inl fun q => (fnew b q).imp_right .inr, fun b q => .inl q, List.prefix_refl _⟩,
          a.mid.top, fun b q => .inl (i₁.mid.base b q), fun b q => q.elim (fun q => a.ext.al b (i₁.mid.fal b q)) (a.mid.fal b), fun b q z => q.elim (fun q => i₁.mid.fw b q z) fun q => (fnew b q).elim (fun q => i₁.mid.fw b q z) fun q => q (i₁.wal z), i₁.mid.la, i₁.mid.lg, i₁.mid.nod, fun l c e => (i₁.mid.cell l c e).imp fun a q => q.imp fun g q => ⟨q.1, q.2.1, q.2.2.mono mo fun b ob _ => keep b ob⟩⟩
      have hs : q'.2 = [] := List.isEmpty_iff.mp hem
      have ad0 : T'.M.ad = [] := List.length_eq_zero_iff.mp (by rw [a.mid.la, hs]; rfl)
      have mo' : Mono T' (T'.mm ⟨fun b => T₁.M.F b ∨ T'.M.F b, T₁.M.ad, T₁.M.gp⟩) := ⟨fun b q => .inr q, fun _ _ _ e => e, by rw [ad0]; exact List.nil_prefix⟩
      have x₂ := i₁.ofC a₂
      refine k u (T'.mm ⟨fun b => T₁.M.F b ∨ T'.M.F b, T₁.M.ad, T₁.M.gp⟩) (a₁.trans x₂) ?_
      show RR X F T _ q'.1 u
      revert rc
      cases q'.1 with
      | val v => exact fun rc => RepV.mono mo' rc
      | fresh l => exact fun rc => rc.imp fun b z => z.imp fun us z => ⟨z.1, fun y => z.2.new (a₁.ext.al b y), fun y => y.elim (fun y => z.2.new (i₁.mid.fal b y)) z.2.nf, fun y => z.2.new (y.elim i₁.wal i₁.faal), z.2.obj, z.2.rep.mono mo', z.2.len⟩
end
open PySem PyProof.Rows PySem.Calls PySem.W
section
variable {X : Cx} {K : Frag} {F : Fx} {o : Ops} {n : Nat} {st st' : St} {A : Around} {T T' T'' : Sm} {Q E : Value → Shared → Prop} {σ : List Cell} {u : Value} {v : V} {l : List V} {us : List Value} {j : Nat} {a : Addr} {m : Str} {P : Prop} {e : PySem.Expr} {p : R × St}
theorem slot_uniq {ty : String} {x y : String} (h : Slot ty m x) (g : Slot ty m y) : x = y := by
  have h2 : (some (Value.builtin x)) = some (Value.builtin y) := by
    have h := h.lookup.symm.trans g.lookup
    injection h
  cases h2
  rfl
theorem lmeth_id {as : List V} {q : R × List Cell} (he : lmeth σ j l m as = some q) (k : ∀ id, Slot "list" m id → typeOf (.builtin id) = pure (.type "method_descriptor") → P) : P :=
  eK he (fun hm _ => k _ (hm ▸ PySem.F.slot_list_append) PySem.F.type_list_append) fun he => eK he (fun hm _ => k _ (hm ▸ PySem.F.slot_list_insert) PySem.F.type_list_insert) fun he => eK he (fun hm _ => k _ (hm ▸ PySem.F.slot_list_extend) PySem.F.type_list_extend) fun he => eK he (fun hm _ => k _ (hm ▸ PySem.F.slot_list_pop) PySem.F.type_list_pop) fun he => nK he
theorem dmeth_id {b : Bool} {es : List (Int × V)} {as : List V} {q : R × List Cell} (he : dmeth σ j b es m as = some q) (k : ∀ id, Slot "dict" m id → typeOf (.builtin id) = pure (.type "method_descriptor") → P) : P :=
  eK he (fun hm _ => k _ (hm ▸ PySem.F.slot_dict_get) PySem.F.type_dict_get) fun he => eK he (fun hm _ => k _ (hm ▸ PySem.F.slot_dict_pop) PySem.F.type_dict_pop) fun he => nK he
theorem bm_snd (H : Snd X o n) (hA : AOk A n) {ty id : String} {pos : Pos} {as : List PySem.Expr} {p : List V × St} {pl : Sem Bool} (i : Inv X F st T) (hT : T.s.TypeIs (.ref a) ty) (hp : PlainAttrs ty) (slot : Slot ty m id) (hty : typeOf (.builtin id) = pure (.type "method_descriptor")) (hnd : ∃ ob, T.s.heap.get? a = some ob ∧ ob.dict = none) (h2 : evSs o F.fn as st = some p)
    (k : ∀ us T₂, Aft X F T p.2 T₂ → All2 (RepV X.I T₂) p.1 us → WP X A (call (.builtin id) (.ref a :: us)) Q E T₂) :
    WP X A (getMethod (.ref a) m pl) (fun fm s₂ => wpAny (model X.prog X.w) A (callWith pos fm.1 fm.2 (backTo pos (starEach as F.env)) []) Q E s₂) E T :=
  getMethod_builtin hT hp slot hty (fun a' e => by cases e; exact hnd) (callWith_bm (starred_none H h2) (args_snd H hA h2 i fun us T₂ a₂ q₂ => k us T₂ a₂ q₂))
theorem evLocS {q : Nat × St} (H : Snd X o n) (hA : AOk A n) (i : Inv X F st T) (h : evLoc o F.fn e st = some q) (k : ∀ a T', Aft X F T q.2 T' → T'.M.ad[q.1]? = some a → Q (.ref a) T'.s) : WP X A (eval e F.env) Q E T :=
  evLocB H hA i (f := some) (y := q) (congrArg (Option.bind · some) h) fun q' a T' x ha e => by cases e; exact k a T' x ha
theorem kindC_k {c : Option Cell} {d : Nat} (h : kindC m c = d) (k1 : d = 1 → ∀ l, c = some (.lst l) → P) (k2 : d = 2 → ∀ b es, c = some (.dct b es) → P) (k3 : d = 3 → ∀ fs, c = some (.inst fs) → lookS m fs = .none → P) (k0 : d = 0 → P) : P := by
  cases c with
  | none => exact k0 h.symm
  | some c =>
    cases c with
    | lst l => exact k1 h.symm l rfl
    | froz l => exact k0 h.symm
    | dct b es => exact k2 h.symm b es rfl
    | inst fs =>
      have h : (if (lookS m fs).isNone = true then 3 else 0) = d := h
      by_cases hn : (lookS m fs).isNone = true
      · rw [if_pos hn] at h; exact k3 h.symm fs rfl (Option.isNone_iff_eq_none.mp hn)
      · rw [if_neg hn] at h; exact k0 h.symm
theorem meth_snd (H : Snd X o n) (HT : Top X) (Y : ClsG X K) {b : PySem.Expr} {apos pos : Pos} {as : List PySem.Expr} (hA : AOk A n) (hok : mOk b apos pos as.length = true) (he : evMeth X.G o F.fn b m as st = some p) (i : Inv X F st T) (k : KR X F T Q p) : WP X A (eval (.Call (.Attribute b m apos) as [] pos) F.env) Q E T :=
  bK he fun d h1 he => bK he fun q h2 he => iK he fun hk he => meth_call H hok h2 (evLocS H hA i h1 fun a T₁ a₁ ha pl => by
    have hk := beq_iff_eq.mp hk
    have ha₂ : ∀ {T₂ : Sm}, Mono T₁ T₂ → T₂.M.ad[d.1]? = some a := fun mo => mo.loc ha
    cases hc : q.2.store[d.1]? with
    | none => rw [hc] at he; exact nK he
    | some c =>
      rw [hc] at he hk
      cases c with
      | froz l => exact nK he
      | lst l =>
        refine mQ he k fun r hr k => lmeth_id hr fun id slot hty => kindC_k hk (fun _ l₀ hc₀ => lstAt_k a₁.inv.mid ha hc₀ fun us c L => ?_) (fun e => nomatch e) (fun e => nomatch e) fun e => nomatch e
        exact bm_snd H hA a₁.inv ⟨_, L.obj, rfl⟩ PySem.F.plainAttrs_list slot hty ⟨_, L.obj, rfl⟩ h2 fun ws T₂ a₂ q₂ => lstAt_k a₂.inv.mid (ha₂ a₂.mono) hc fun us₂ c₂ L₂ => lmeth_snd a₂.inv L₂ q₂ hr (k.then (a₁.trans a₂)) fun id' M => slot_uniq M.slot slot ▸ M.wp
      | dct b es =>
        refine mQ he k fun r hr k => dmeth_id hr fun id slot hty => kindC_k hk (fun e => nomatch e) (fun _ b₀ es₀ hc₀ => dctAt_k a₁.inv.mid ha hc₀ fun kvs D => ?_) (fun e => nomatch e) fun e => nomatch e
        exact bm_snd H hA a₁.inv D.obj.typeIs PySem.F.plainAttrs_dict slot hty (D.obj.imp fun ob z => z.elim fun _ z => z.elim fun _ z => ⟨z.1, z.2.1.2.1⟩) h2 fun ws T₂ a₂ q₂ => dctAt_k a₂.inv.mid (ha₂ a₂.mono) hc fun kvs₂ D₂ => dmeth_snd HT a₂.inv hc D₂ q₂ hr (k.then (a₁.trans a₂)) fun id' M => slot_uniq M.slot slot ▸ M.wp
      | inst fs =>
        refine bK he fun f hf he => kindC_k hk (fun e => nomatch e) (fun e => nomatch e) (fun _ fs₀ hc₀ hnone => inst_k a₁.inv.mid ha (congrArg instC hc₀) fun dx es cc _ I => ?_) fun e => nomatch e
        obtain ⟨fa, fo, fd, g1, g2, g3, g4⟩ := Y.mth m f hf
        have hsh : shadowIn (some (dictOf es cc)) m = some false := by
          show (lookIn m (dictOf es cc)).map (·.isSome) = some false
          rw [lookIn_dict]
          unfold getL
          rw [I.rep.miss hnone, I.rep.norefs]
          rfl
        exact method_fn (Y.inB.keeps a₁.inv.mid.top) I.lib Y.ga Y.gn g1 g2 hsh (callWith_function (o := fo) (fd := fd) (args_snd H hA h2 a₁.inv fun ws T₂ a₂ q₂ => ⟨⟨a₂.inv.mid.top _ _ g3.at_, g3.dat⟩, callFn_snd H hA he g3 a₂.inv (.cons ⟨a, ha₂ a₂.mono, rfl⟩ q₂) (k.then (a₁.trans a₂))⟩)))
theorem fun_name (HT : Top X) {x : Str} {w : Value} {pos : Pos} (hb : isFun F.fn x = true) (hv : X.mg x = some w) (i : Inv X F st T) (k : Q w T.s) : WP X A (eval (.Name x pos) F.env) Q E T :=
  Name_function_global i.frm.kind (i.frm.glo x (beq_iff_eq.mp hb)) (loadGlobal_global (mg := X.mg) (by rw [i.frm.glb]; exact HT.g.keeps i.mid.top) hv k) (ne_name i.frm.dbg.1 (beq_iff_eq.mp hb))
theorem fcall_snd (H : Snd X o n) (HT : Top X) {x : Str} {p' pos : Pos} {as : List PySem.Expr} {g : Fn} {q : List V × St} (hA : AOk A n) (hx : isFun F.fn x = true) (hg : lookS x X.G.fns = some g) (h1 : evSs o F.fn as st = some q) (he : callFn o g q.1 q.2 = some p) (i : Inv X F st T) (k : KR X F T Q p) : WP X A (eval (.Call (.Name x p') as [] pos) F.env) Q E T := by
  obtain ⟨fa, fo, fd, g1, g2⟩ := HT.fns x g hg
  exact wpAny_Call_Name_kw (fun_name HT hx g1 i (callWith_function (o := fo) (fd := fd) (args_snd H hA h1 i fun ws T₂ a₂ q₂ => ⟨⟨a₂.inv.mid.top _ _ g2.at_, g2.dat⟩, callFn_snd H hA he g2 a₂.inv q₂ (k.then a₂)⟩)))
theorem AOk.make {C : Addr} {us : List Value} (h : AOk A (n + 1)) : AOk (A.under (.builtin "type.__call__" ⟨.ref C :: us, []⟩)) n := by
  refine ⟨h.h, ?_, ?_⟩
  · have := h.d
    show A.depth + 1 + n < _
    omega
  · have := h.u
    have e : (A.under (.builtin "type.__call__" ⟨.ref C :: us, []⟩)).units ≤ A.units + 8 := by
      show A.units + Code.cUnits _ ≤ _
      exact Nat.add_le_add_left (Nat.le_of_ble_eq_true rfl) _
    omega
theorem isNn_k {r : R} (h : isNn r = true) (hr : RC X T T' r u) : u = .none := by
  cases r with
  | fresh _ => cases h
  | val v => cases v with
    | d x => cases x with
      | none => exact hr
      | _ => cases h
    | _ => cases h
theorem make_snd (H : Snd X o n) (HT : Top X) (Y : ClsG X K) {x : Str} {p' pos : Pos} {as : List PySem.Expr} (hA : AOk A (n + 1)) (hx : isFun F.fn x = true) (hg : x = X.G.cls) (he : evNew X.G o F.fn as st = some p) (i : Inv X F st T) (k : KR X F T Q p) : WP X A (eval (.Call (.Name x p') as [] pos) F.env) Q E T :=
  bK he fun q h1 he => bK he fun r hc he => iK he fun hno he => by
    have k := sQ he k
    obtain ⟨fI, fo, fd, g1, g2, g3⟩ := Y.ini
    refine wpAny_Call_Name_kw (fun_name HT hx (by rw [hg]; exact Y.nm) i (callWith_of (P := fun h => Frag.In K h) (starred_none H h1) (fun h X => keeps_K Y.keep h X) (args_snd H (hA.less (Nat.le_succ _)) h1 i fun us T₁ a₁ q₁ => ⟨Y.inB.keeps a₁.inv.mid.top, wpAny_call ?_⟩)))
    have Xi : Frag.In K T₁.s.heap := Y.inB.keeps a₁.inv.mid.top
    obtain ⟨⟨hh, g, d, t, os⟩, M⟩ := T₁
    refine make_core (makes_of Xi Y.mks) (looks_findIn Xi g1) (fun self => bind_fn Xi self g2) (.inl rfl) ?_
    have big : ∀ a, hh.objs.size ≤ a → ¬ Al hh a := fun a ha q => absurd q.lt (Nat.not_lt.mpr ha)
    have a₂ : Aft X F ⟨⟨hh, g, d, t, os⟩, M⟩ q.2 ⟨⟨(hh.push emptyDict).push (instObj X.C hh.objs.size), g, d, t, os⟩, M⟩ := Aft.grow (tk := t) a₁.inv fun b ob e => Heap.get?_push_of_some _ (Heap.get?_push_of_some _ e)
    have oa : ((hh.push emptyDict).push (instObj X.C hh.objs.size)).get? (hh.objs.size + 1) = some (instObj X.C hh.objs.size) := by rw [← Heap.size_push hh emptyDict]; exact Heap.get?_push_size _ rfl
    have hnew : ∀ b ∈ [hh.objs.size + 1, hh.objs.size], ¬ Al hh b := fun b hb => (List.mem_cons.mp hb).elim (fun e => e ▸ big _ (Nat.le_succ _)) fun hb => List.mem_singleton.mp hb ▸ big _ (Nat.le_refl _)
    have a₃ := a₂.new (a := hh.objs.size + 1) (g := [hh.objs.size + 1, hh.objs.size]) (c := .inst []) (fun b hb => ⟨fun q => hnew b hb (a₁.inv.mid.fal b q), fun q => hnew b hb (q.elim a₁.inv.wal a₁.inv.faal), hnew b hb⟩) (by simp) ⟨hh.objs.size, [], 0, rfl, oa, Heap.get?_push_of_some _ (Heap.get?_push_size _ rfl), rfl, List.nodup_nil, Nat.zero_le _⟩
    have had : (M.new (hh.objs.size + 1) [hh.objs.size + 1, hh.objs.size]).ad[q.2.store.length]? = some (hh.objs.size + 1) := by
      show (M.ad ++ [hh.objs.size + 1])[q.2.store.length]? = _
      rw [← a₁.inv.mid.la]; exact List.getElem?_concat_length
    refine H.call (T := ⟨⟨(hh.push emptyDict).push (instObj X.C hh.objs.size), g, d, t, os⟩, M.new (hh.objs.size + 1) [hh.objs.size + 1, hh.objs.size]⟩) hA.make hc (g3.keeps a₃.inv.mid.top) a₃.inv.mid (.cons ⟨hh.objs.size + 1, had, rfl⟩ (q₁.mono a₃.mono)) fun u T' x' q' => ⟨isNn_k hno q', ?_⟩
    have xx : AftC X ⟨⟨hh, g, d, t, os⟩, M⟩ r.2 T' := ⟨a₃.ext.trans x'.ext a₃.ext.wnew, x'.mid⟩
    exact k _ T' (a₁.trans (a₁.inv.ofC xx)) ⟨hh.objs.size + 1, Mono.loc (T := ⟨⟨(hh.push emptyDict).push (instObj X.C hh.objs.size), g, d, t, os⟩, M.new (hh.objs.size + 1) [hh.objs.size + 1, hh.objs.size]⟩) (x'.ext.mono a₃.inv.mid.fw) had, rfl⟩
theorem lc_snd (H : Snd X o n) (HT : Top X) {elt : PySem.Expr} {gs : List Comprehension} {sc : Scope} {pos : Pos} (hA : AOk A n) (he : evLC X.G o F.fn elt gs sc st = some p) (i : Inv X F st T) (k : KR X F T Q p) : WP X A (eval (.ListComp elt gs sc pos) F.env) Q E T := by
  unfold WP
  rw [eval_ListComp]
  refine comp_snd H HT hA he i fun acc L T' C => ?_
  obtain ⟨mm, hns⟩ := C.ns
  refine ⟨mm, hns, fun h' hsb => ?_⟩
  have hk : ∀ b ob, b ≠ L → T'.s.heap.get? b = some ob → h'.get? b = some ob := fun b ob hb e => (hsb.2 b hb).trans e
  have hfa : ¬ FA F.env L := fun q => C.new (i.faal q)
  have hn : ∀ b, T'.M.F b ∨ T'.M.W b ∨ FA F.env b → b ≠ L := fun b q z => q.elim (fun q => C.f (z ▸ q)) fun q => q.elim (fun q => C.w (z ▸ q)) fun q => hfa (z ▸ q)
  have mo : Mono T' (T'.hp h' T'.s.toks) := ⟨fun _ f => f, fun b o f => hk b o (hn b (.inl f)), List.prefix_refl _⟩
  have x := C.aft.ext
  obtain ⟨h₁, t₁, e⟩ := x.sh
  refine k acc (T'.hp h' T'.s.toks) ⟨⟨⟨h', T'.s.toks, by show { T'.s with heap := h', toks := T'.s.toks } = _; rw [e]⟩, fun a ob e1 n1 => hk a ob (fun q => C.new (q ▸ ⟨_, e1⟩)) (x.keep a ob e1 n1), fun a q => (x.al a q).imp fun ob e1 => hk a ob (fun z => C.new (z ▸ q)) e1, x.F, x.fnew, x.wnew, x.ad⟩, C.aft.mono.trans mo, C.aft.inv.hp fun b o q => hk b o (hn b q)⟩ ?_
  have hr := C.rr
  revert hr
  cases p.1 with
  | val v => exact fun hr => RepV.mono mo hr
  | fresh l => exact fun hr => hr.imp fun b z => z.imp fun us z => ⟨z.1, z.2.new, z.2.nf, z.2.nw, z.2.obj.imp fun c e => hk b _ (fun q => C.ne (q ▸ z.1)) e, z.2.rep.mono mo, z.2.len⟩
end
open PySem PyProof.Rows PySem.Calls PySem.W
section
variable {α : Type} {y : Str} {v : α} {l : List (Str × α)}
noncomputable def setMany : List (Str × V) → St → St
  | [], st => st
  | p :: r, st => setMany r (st.set p.1 p.2)
theorem setMany_store (l : List (Str × V)) : ∀ (st : St), (setMany l st).store = st.store := by
  induction l with
  | nil => exact fun _ => rfl
  | cons p l ih => exact fun st => ih _
theorem lookS_mem (h : lookS y l = some v) : (y, v) ∈ l := by
  induction l with
  | nil => cases h
  | cons p l ih =>
    have h : (if y = p.1 then some p.2 else lookS y l) = some v := h
    by_cases e : y = p.1
    · rw [if_pos e] at h; cases h; rw [e]; exact .head _
    · rw [if_neg e] at h; exact .tail _ (ih h)
theorem mem_lookS (hn : (l.map (·.1)).Nodup) (h : (y, v) ∈ l) : lookS y l = some v := by
  induction l with
  | nil => cases h
  | cons p l ih =>
    obtain ⟨h1, h2⟩ := List.nodup_cons.mp hn
    show (if y = p.1 then some p.2 else lookS y l) = some v
    cases h with
    | head => exact if_pos rfl
    | tail _ h => rw [if_neg fun e : y = p.1 => h1 (List.mem_map.mpr ⟨_, h, e⟩)]; exact ih h2 h
theorem nodup_rev {β : Type} {l : List β} (h : l.Nodup) : l.reverse.Nodup := List.pairwise_reverse.mpr (List.Pairwise.imp (fun h e => h e.symm) h)
theorem lookS_rev (hn : (l.map (·.1)).Nodup) : lookS y l.reverse = lookS y l := by
  have hn' : (l.reverse.map (·.1)).Nodup := by rw [List.map_reverse]; exact nodup_rev hn
  cases h : lookS y l with
  | some v => exact mem_lookS hn' (List.mem_reverse.mpr (lookS_mem h))
  | none =>
    cases h' : lookS y l.reverse with
    | none => rfl
    | some v => exact nomatch h.symm.trans (mem_lookS hn (List.mem_reverse.mp (lookS_mem h')))
theorem look_setMany {l : List (Str × V)} : ∀ {st : St}, (l.map (·.1)).Nodup → lookS y (setMany l st).vars = (lookS y l).or (lookS y st.vars) := by
  induction l with
  | nil => exact fun _ => rfl
  | cons p l ih =>
    intro st hn
    obtain ⟨h1, h2⟩ := List.nodup_cons.mp hn
    show lookS y (setMany l (st.set p.1 p.2)).vars = (if y = p.1 then some p.2 else lookS y l).or _
    rw [ih h2]
    show (lookS y l).or (lookS y (setS p.1 p.2 st.vars)) = _
    rw [lookS_setS]
    by_cases h : y = p.1
    · rw [if_pos h, if_pos h]
      cases hl : lookS y l with
      | none => rfl
      | some u => exact absurd (List.mem_map.mpr ⟨_, lookS_mem hl, h⟩) h1
    · rw [if_neg h, if_neg h]
theorem nodupS_nodup {l : List Str} (h : nodupS l = true) : l.Nodup := by
  induction l with
  | nil => exact List.nodup_nil
  | cons x l ih => exact andK (show (!l.contains x && nodupS l) = true from h) fun h1 h2 => List.nodup_cons.mpr ⟨fun q => absurd h1 (by rw [List.contains_iff_mem.mpr q]; nofun), ih h2⟩
theorem zip_rev {β γ : Type} {l : List β} : ∀ {m : List γ}, l.length = m.length → l.reverse.zip m.reverse = (l.zip m).reverse := by
  induction l with
  | nil => intro m h; cases m with
    | nil => rfl
    | cons _ _ => cases h
  | cons a l ih => intro m h; cases m with
    | nil => cases h
    | cons b m =>
      have h' : l.length = m.length := Nat.succ.inj h
      rw [List.reverse_cons, List.reverse_cons, List.zip_append (by rw [List.length_reverse, List.length_reverse, h']), ih h']
      show _ = ((a, b) :: l.zip m).reverse
      rw [List.reverse_cons]
      rfl
end
section
variable {X : Cx} {K : Frag} {F : Fx} {o : Ops} {n : Nat} {st st' : St} {A : Around} {T T' T'' : Sm} {Q : Unit → Shared → Prop} {E : Value → Shared → Prop} {u : Value} {v : V} {us : List Value} {t : PySem.Expr}
theorem Inv.vars (i : Inv X F st T) (h : ∀ y, lookS y st'.vars = lookS y st.vars) (hs : st'.store = st.store) : Inv X F st' T :=
  ⟨hs.symm ▸ i.mid, i.ffa, { i.frm with has := i.frm.has.imp fun m q => q.imp fun cm q => ⟨q.1, q.2.1, fun x v hx => q.2.2 x v ((h x).symm.trans hx)⟩ }⟩
theorem store1_snd (H : Snd X o n) (HT : Top X) (Y : ClsG X K) (hA : AOk A n) (he : store1 X.G o F.fn t v st = some st') (i : Inv X F st T) (hv : RepV X.I T v u) (k : KU X F T Q st') : WP X A (assign t F.env u) Q E T := by
  cases t with
  | Name x pos => exact iK he fun hx he => wpAny_assign_Name (storeName_snd hx i hv (sQ he k))
  | Attribute b m pos =>
    unfold WP
    rw [assign_Attribute]
    refine wpAny_bind (wpAny_holding (evLocB H hA i he fun q a T₁ a₁ ha he => bK he fun fs hc he => iK he fun hf he => andK hf fun h1 h2 => wpAny_bind (wpAny_standAt (wpAny_bind (wpAny_holding (setattr_snd Y a₁.inv ha hc h1 (decK h2) (hv.mono a₁.mono) fun T₂ a₂ => wpAny_release ?_))))))
    exact sQ he k T₂ (a₁.s.trans a₂)
  | Subscript b e pos =>
    unfold WP
    rw [assign_Subscript]
    exact wpAny_bind (wpAny_holding (evLocB H hA i he fun q a T₁ a₁ ha he => wpAny_bind (wpAny_holding (evNumB H hA a₁.inv he fun z tk T₂ a₂ he => mQ he k fun σ hσ k => wpAny_bind (wpAny_standAt (wpAny_bind (wpAny_holding (setC_snd HT a₂.inv (a₂.mono.loc ha) (hv.mono (a₁.mono.trans a₂.mono)) hσ fun T₃ a₃ => wpAny_release (k T₃ ((a₁.trans a₂).s.trans a₃))))))))))
  | _ => exact nK he
theorem star_t {fn : Fn} {env : Env} {ts : List PySem.Expr} (h : store1 X.G o fn t v st = some st') : assignEach (t :: ts) env = (false, assign t env) :: assignEach ts env := by
  cases t with
  | Starred a b => exact nK h
  | _ => rfl
theorem stores_snd (H : Snd X o n) (HT : Top X) (Y : ClsG X K) (hA : AOk A n) {ts : List PySem.Expr} : ∀ {vs : List V} {us : List Value} {st st' : St} {T : Sm}, stores X.G o F.fn ts vs st = some st' → Inv X F st T → All2 (RepV X.I T) vs us → KU X F T Q st' → WP X A (assignInOrder ((assignEach ts F.env).map (·.2)) us) Q E T := by
  induction ts with
  | nil => exact fun he i r k => PyProof.Rows.assignInOrder_nil (iK he fun _ he => sQ he k _ (Aft.refl i).s)
  | cons t ts ih =>
    intro vs us st st' T he i r k
    cases vs with
    | nil => exact nK he
    | cons v vs =>
      obtain ⟨u, ws, rfl, r1, r2⟩ := r
      refine bK he fun st₁ h1 h2 => ?_
      unfold WP
      rw [star_t h1]
      exact PyProof.Rows.assignInOrder_cons (store1_snd H HT Y hA h1 i r1 fun T₁ a₁ => ih h2 a₁.inv (r2.mono a₁.mono) (k.then a₁))
structure StL (fn : Fn) (env : Env) (ts : List PySem.Expr) (vs : List V) : Prop where
  len : vs.length = ts.length
  lenE : (assignEach ts env).length = ts.length
  idx : (assignEach ts env).findIdx? (·.1) = none
theorem stores_len {fn : Fn} {env : Env} {ts : List PySem.Expr} : ∀ {vs : List V} {st st' : St}, stores X.G o fn ts vs st = some st' → StL fn env ts vs := by
  induction ts with
  | nil => exact fun he => iK he fun hn _ => empty_k (C := fun vs => StL fn env [] vs) hn ⟨rfl, rfl, rfl⟩
  | cons t ts ih =>
    intro vs st st' he
    cases vs with
    | nil => exact nK he
    | cons v vs =>
      refine bK he fun st₁ h1 h2 => ?_
      have q := ih (vs := vs) h2
      refine ⟨congrArg (· + 1) q.len, ?_, ?_⟩
      · rw [star_t h1]; exact congrArg (· + 1) q.lenE
      · rw [star_t h1, List.findIdx?_cons, if_neg nofun, q.idx]; rfl
structure StN (fn : Fn) (xs : List Str) (vs : List V) (st st' : St) : Prop where
  len : vs.length = xs.length
  can : ∀ x ∈ xs, canSet fn x = true
  eq : st' = setMany (xs.zip vs) st
theorem stores_names {fn : Fn} {ts : List PySem.Expr} : ∀ {xs : List Str} {vs : List V} {st st' : St}, namesT ts = some xs → stores X.G o fn ts vs st = some st' → StN fn xs vs st st' := by
  induction ts with
  | nil => intro xs vs st st' hn h; cases hn; exact iK h fun hv h => empty_k (C := fun vs => StN fn [] vs st st') hv (by cases h; exact ⟨rfl, nofun, rfl⟩)
  | cons t ts ih =>
    intro xs vs st st' hn h
    cases vs with
    | nil => exact nK h
    | cons v vs =>
      refine bK hn fun x hx hn => mK (C := fun xs => StN fn xs (v :: vs) st st') hn fun xs' hn => bK h fun st₁ h1 h2 => ?_
      have h1 := asName_k (C := fun t => store1 X.G o fn t v st = some st₁ → (if canSet fn x = true then some (st.set x v) else .none) = some st₁) hx (fun p h => h) h1
      refine iK h1 fun hc h1 => ?_
      cases h1
      have q := ih hn h2
      exact ⟨congrArg (· + 1) q.len, fun y hy => (List.mem_cons.mp hy).elim (fun e => e ▸ hc) (q.can y), q.eq⟩
theorem binds_snd {xs : List Str} : ∀ {vs : List V} {us : List Value} {st : St} {T : Sm}, vs.length = xs.length → (∀ x ∈ xs, canSet F.fn x = true) → Inv X F st T → All2 (RepV X.I T) vs us → KU X F T Q (setMany (xs.zip vs) st) → WP X A (assignInOrder (xs.map fun n => bindName F.env n) us) Q E T := by
  induction xs with
  | nil => exact fun _ _ i _ k => PyProof.Rows.assignInOrder_nil (k _ (Aft.refl i).s)
  | cons x xs ih =>
    intro vs us st T hl hc i r k
    cases vs with
    | nil => cases hl
    | cons v vs =>
      obtain ⟨u, ws, rfl, r1, r2⟩ := r
      exact PyProof.Rows.assignInOrder_cons (wpAny_bindName (storeName_snd (hc x (.head _)) i r1 fun T₁ a₁ => ih (Nat.succ.inj hl) (fun y hy => hc y (.tail _ hy)) a₁.inv (r2.mono a₁.mono) (k.then a₁)))
theorem storeAll_snd (H : Snd X o n) (HT : Top X) (Y : ClsG X K) (hA : AOk A n) {ts : List PySem.Expr} : ∀ {st st' : St} {T : Sm}, storeAll X.G o F.fn v ts st = some st' → Inv X F st T → RepV X.I T v u → KU X F T Q st' → WP X A (assignAll u ((assignEach ts F.env).map (·.2))) Q E T := by
  induction ts with
  | nil => exact fun he i r k => wpAny_pure (sQ he k _ (Aft.refl i).s)
  | cons t ts ih =>
    intro st st' T he i r k
    refine bK he fun st₁ h1 h2 => ?_
    unfold WP
    rw [star_t h1]
    cases ts with
    | nil => exact store1_snd H HT Y hA h1 i r (sQ h2 k)
    | cons t' ts' =>
      obtain ⟨f, rest, hf⟩ : ∃ f rest, (assignEach (t' :: ts') F.env).map (·.2) = f :: rest := bK h2 fun _ h _ => ⟨_, _, by rw [star_t h]; rfl⟩
      have rec' := fun {T : Sm} => ih (st := st₁) (st' := st') (T := T) h2
      unfold WP at rec'
      show wpAny (model X.prog X.w) A (assignAll u (assign t F.env :: (assignEach (t' :: ts') F.env).map (·.2))) Q E T.s
      rw [hf] at rec' ⊢
      exact wpAny_bind (m := holding [u] (assign t F.env u)) (wpAny_holding (store1_snd H HT Y hA h1 i r fun T₁ a₁ => rec' a₁.inv (r.mono a₁.mono) (k.then a₁)))
theorem evWs_snd (H : Snd X o n) {pos : Pos} (hA : AOk A n) {ts : List PySem.Expr} : ∀ {es : List PySem.Expr} {p : List V × St} {st : St} {T : Sm} {Q : List Value → Shared → Prop}, evWs o F.fn ts es st = some p → Inv X F st T → KVs X F T Q p → WP X A (spliced (backTo pos (starEach es F.env))) Q E T := by
  induction ts with
  | nil => exact fun {es p st T Q} he i k => iK he fun hn he => empty_k (C := fun es => WP X A (spliced (backTo pos (starEach es F.env))) Q E T) hn (spliced_nil (sQ (C := KVs X F _ _) he k [] _ (.refl i) rfl))
  | cons t ts ih =>
    intro es p st T Q he i k
    cases es with
    | nil => exact nK he
    | cons e es =>
      refine bK he fun a h1 he => ?_
      unfold WP
      rw [bK h1 fun _ h _ => star1 H h]
      exact spliced_cons (evKB H hA i h1 fun u T₁ a₁ q₁ => mQ he k fun b h2 k => ih h2 a₁.inv fun us T₂ a₂ q₂ => k (u :: us) T₂ (a₁.trans a₂) (.cons (q₁.mono a₂.mono) q₂))
end
open PySem PyProof.Rows PySem.Calls PySem.W
theorem ite_ex {α β : Type} {c : Prop} [Decidable c] {a x : α} {f : β → α} {P : β → Prop} {b : β} (e : a = f b) (hb : P b) (h : ¬ c → ∃ q, x = f q ∧ P q) : ∃ q, (if c then a else x) = f q ∧ P q :=
  (Decidable.em c).elim (fun hc => ⟨b, (if_pos hc).trans e, hb⟩) fun hc => (h hc).elim fun q hq => ⟨q, (if_neg hc).trans hq.1, hq.2⟩
theorem swapped_spec {ts es : List PySem.Expr} {k k' : Nat} {p p' : Pos} {env : Env} (hc : ¬ es.all (constantsAlone 8) = true) : ∃ q, swappedStores [.Tuple ts k p] (.Tuple es k' p') env = pure q ∧ ∀ names, q = some names → names.length = ts.length ∧
    names = ts.filterMap (fun | .Name id pos => if env.kindOf id == some .local && pos.line == ((ts.head?.map (·.pos.line)).getD 0) then some id else none | _ => none) := by
  have n0 : ∀ {P : List Str → Prop} (names : List Str), (Option.none : Option (List Str)) = some names → P names := fun _ h => nK h
  refine ite_ex rfl n0 fun _ => ite_ex rfl n0 fun _ => ite_ex rfl n0 fun hl => ite_ex rfl n0 fun _ => ⟨_, if_neg hc, fun names h => ?_⟩
  cases h
  refine ⟨?_, rfl⟩
  have hl := Bool.or_eq_false_iff.mp (Bool.not_eq_true _ ▸ hl)
  exact Decidable.of_not_not (fun q => bne_iff_ne.mpr q |>.symm.trans hl.1 |> Bool.noConfusion)
theorem name_k {c : Str → Pos → Bool} {t : PySem.Expr} {x : Str} (h : (fun | .Name id pos => if c id pos then some id else none | _ => none : PySem.Expr → Option Str) t = some x) : asName t = some x := by
  cases t with
  | Name id pos => exact iK h fun _ h => h
  | _ => exact nK h
theorem names_of {c : Str → Pos → Bool} {ts : List PySem.Expr} : ∀ {names : List Str}, names = ts.filterMap (fun | .Name id pos => if c id pos then some id else none | _ => none) → names.length = ts.length → namesT ts = some names := by
  generalize hg : (fun | .Name id pos => if c id pos then some id else none | _ => none : PySem.Expr → Option Str) = g
  have hk : ∀ {t : PySem.Expr} {x : Str}, g t = some x → asName t = some x := fun {t x} h => name_k (hg ▸ h)
  clear hg
  induction ts with
  | nil => intro names h _; rw [h]; rfl
  | cons t ts ih =>
    intro names h hl
    rw [List.filterMap_cons] at h
    cases e : g t with
    | none =>
      rw [e] at h
      exact absurd hl (Nat.ne_of_lt (Nat.lt_succ_of_le (h ▸ List.length_filterMap_le g ts)))
    | some x =>
      rw [e] at h
      rw [h] at hl ⊢
      show (asName t).bind _ = _
      rw [hk e]
      exact congrArg (Option.map (x :: ·)) (ih rfl (Nat.succ.inj hl))
section
variable {X : Cx} {K : Frag} {F : Fx} {o : Ops} {n : Nat} {st st' : St} {A : Around} {T T' T'' : Sm} {Q : Flow → Shared → Prop} {E : Value → Shared → Prop} {u : Value} {v : V} {ws : List Value} {t e : PySem.Expr}
noncomputable def KN (X : Cx) (F : Fx) (T : Sm) (Q : Flow → Shared → Prop) (st : St) : Prop := ∀ T', AftS X F T st T' → Q .next T'.s
theorem All2.rev {α : Type} {P : α → Value → Prop} {l : List α} : ∀ {us : List Value}, All2 P l us → All2 P l.reverse us.reverse := by
  induction l with
  | nil => intro us r; cases r; exact rfl
  | cons a l ih => intro us r; obtain ⟨u, us', rfl, r1, r2⟩ := r; rw [List.reverse_cons, List.reverse_cons]; exact (ih r2).append (.one r1)
theorem untup_snd (H : Snd X o n) (HT : Top X) (Y : ClsG X K) {us : List PySem.Expr} {k₁ : Nat} {p₁ : Pos} {l : List V} {Ta : Addr} {QU : Unit → Shared → Prop} (hA : AOk A n) (h2 : stores X.G o F.fn us l st = some st') (i : Inv X F st T) (hT : T.s.heap.IsTuple Ta ws.toArray) (r : All2 (RepV X.I T) l ws) (k : KU X F T QU st') : WP X A (assign (.Tuple us k₁ p₁) F.env (.ref Ta)) QU E T := by
  have L := stores_len (env := F.env) h2
  refine wpAny_assign_Tuple hA.h hT (by rw [List.size_toArray, r.length, L.len, L.lenE]) L.idx fun h' hk' => ?_
  have a₁ : Aft X F T st (T.hp h' T.s.toks) := .grow i fun b ob e => hk' b ob (Nat.ne_of_lt (Heap.lt_size e)) e
  exact stores_snd H HT Y hA h2 a₁.inv (r.mono a₁.mono) (k.then a₁.s)
theorem tupTup_snd (H : Snd X o n) (HT : Top X) (Y : ClsG X K) {us es : List PySem.Expr} {k₁ k₂ : Nat} {p₁ p₂ pos : Pos} {p : List V × St} (hA : AOk A n) (ht : tgtOk us = true) (hc : ¬ es.all (constantsAlone 8) = true) (h1 : evWs o F.fn us es st = some p) (h2 : stores X.G o F.fn us p.1 p.2 = some st') (i : Inv X F st T) (k : KN X F T Q st') :
    WP X A (exec (.Assign [.Tuple us k₁ p₁] (.Tuple es k₂ p₂) pos) F.env) Q E T := by
  unfold WP
  rw [PyProof.Rows.exec_Assign]
  refine wpAny_bind (wpAny_standAt ?_)
  show wpAny _ _ ((pure false : Sem Bool) >>= _) _ _ _
  refine wpAny_bind (wpAny_pure (wpAny_bind (Tuple_ (evWs_snd H hA h1 i fun ws T₁ a₁ q₁ => ?_))))
  have L := stores_len (env := F.env) h2
  have hz : ws.length ≤ sizeLine := by rw [q₁.length, L.len]; exact Nat.le_trans (decK (Bool.and_eq_true_iff.mp ht).1) (by decide)
  refine wpAny_newTuple ?_ hz
  have a₂ : Aft X F T₁ p.2 (T₁.hp (T₁.s.heap.push { cls := .type "tuple", data := .seq ws.toArray }) T₁.s.toks) := .grow a₁.inv (keep_push _ _)
  have hT : (T₁.s.heap.push { cls := .type "tuple", data := .seq ws.toArray }).IsTuple T₁.s.heap.objs.size ws.toArray := ⟨_, Heap.get?_push_size _ rfl, rfl, 0, rfl⟩
  have a₁₂ := a₁.trans a₂
  obtain ⟨sw, hsw, hnm⟩ := swapped_spec (ts := us) (k := k₁) (k' := k₂) (p := p₁) (p' := p₂) (env := F.env) hc
  refine wpAny_bind (wpAny_of_eq hsw ?_)
  cases sw with
  | none => exact wpAny_bind (m := assign (.Tuple us k₁ p₁) F.env (.ref T₁.s.heap.objs.size)) (untup_snd H HT Y hA h2 a₂.inv hT (q₁.mono a₂.mono) fun T₃ a₃ => wpAny_pure (k T₃ (a₁₂.s.trans a₃)))
  | some names =>
    obtain ⟨hnl, hne⟩ := hnm names rfl
    have hnames := names_of (c := fun id pos => F.env.kindOf id == some .local && pos.line == ((us.head?.map (·.pos.line)).getD 0)) hne hnl
    have N := stores_names hnames h2
    have hnd : names.Nodup := nodupS_nodup (by have := (Bool.and_eq_true_iff.mp ht).2; rw [hnames] at this; exact this)
    show wpAny _ _ (rule _ >>= _) _ _ _
    refine wpAny_bind (wpAny_rule ?_)
    rw [show names.length = ws.toArray.size by rw [List.size_toArray, q₁.length, N.len]]
    refine wpAny_bind (wpAny_unpackItems_tuple (s := { T₁.s with heap := T₁.s.heap.push { cls := .type "tuple", data := .seq ws.toArray } }) hA.h hT fun h' hk' => ?_)
    have a₃ : Aft X F (T₁.hp (T₁.s.heap.push { cls := .type "tuple", data := .seq ws.toArray }) T₁.s.toks) p.2 (T₁.hp h' T₁.s.toks) := .grow a₂.inv fun b ob e => hk' b ob (Nat.ne_of_lt (Heap.lt_size e)) e
    refine wpAny_bind (binds_snd (xs := names.reverse) (vs := p.1.reverse) (by rw [List.length_reverse, List.length_reverse, N.len]) (fun x hx => N.can x (List.mem_reverse.mp hx)) a₃.inv (q₁.mono (a₂.mono.trans a₃.mono)).rev fun T₄ a₄ => wpAny_pure ?_)
    have hz1 : ((names.zip p.1).map (·.1)).Nodup := by rw [List.map_fst_zip (Nat.le_of_eq N.len.symm)]; exact hnd
    have z := (a₁₂.trans a₃).s.trans a₄
    refine k T₄ ⟨z.ext, z.mono, z.inv.vars (fun y => ?_) ?_⟩
    · rw [N.eq, look_setMany hz1, zip_rev N.len.symm, look_setMany (by rw [List.map_reverse]; exact nodup_rev hz1), lookS_rev hz1]
    · rw [N.eq, setMany_store, setMany_store]
theorem swaps_false (H : Snd X o n) {fn : Fn} {env : Env} {tt : Option PySem.Expr} {line : Nat} {q : R × St} (h : o.ev fn e st = some q) (hne : isLC e = false) : swapsWith e tt line env = pure false := by
  cases e with
  | ListComp a b c d => cases hne
  | SetComp a b c d => exact nK ((H.setc _ _ _ _ _ _).symm.trans h)
  | DictComp a b c d e => exact nK ((H.dctc _ _ _ _ _ _ _).symm.trans h)
  | _ => rfl
theorem swapped_none {us : List PySem.Expr} {k₁ : Nat} {p₁ : Pos} {env : Env} (h : asTup e = .none) : swappedStores [.Tuple us k₁ p₁] e env = pure none := by
  cases e with
  | Tuple a b c => cases h
  | _ => rfl
theorem swaps_tup {us : List PySem.Expr} {k₁ : Nat} {p₁ : Pos} {env : Env} {line : Nat} : swapsWithSole [.Tuple us k₁ p₁] e line env = pure false := by
  show swapsWith e (some (.Tuple us k₁ p₁)) line env = pure false
  cases e <;> rfl
theorem tupAny_snd (H : Snd X o n) (HT : Top X) (Y : ClsG X K) {us : List PySem.Expr} {k₁ : Nat} {p₁ pos : Pos} {p : V × St} {l : List V} (hA : AOk A n) (hne : asTup e = .none) (h1 : evK o false F.fn e st = some p) (hl : tupV p.1 = some l) (h2 : stores X.G o F.fn us l p.2 = some st') (i : Inv X F st T) (k : KN X F T Q st') : WP X A (exec (.Assign [.Tuple us k₁ p₁] e pos) F.env) Q E T := by
  unfold WP
  rw [PyProof.Rows.exec_Assign]
  refine wpAny_bind (wpAny_standAt (wpAny_bind (wpAny_of_eq swaps_tup ?_)))
  refine wpAny_bind (evKB H hA i h1 fun u T₁ a₁ q₁ => wpAny_bind (wpAny_of_eq (swapped_none hne) ?_))
  refine tupV_k (C := fun u => wpAny (model X.prog X.w) A (assignAll u ((assignEach [.Tuple us k₁ p₁] F.env).map (·.2)) >>= fun _ => pure Flow.next) Q E T₁.s) q₁ hl fun Ta ws f ⟨m, o⟩ r _ => ?_
  exact wpAny_bind (m := assign (.Tuple us k₁ p₁) F.env (.ref Ta)) (untup_snd H HT Y hA h2 a₁.inv ⟨_, o, rfl, m, rfl⟩ r fun T₃ a₃ => wpAny_pure (k T₃ (a₁.s.trans a₃)))
theorem use_snd {x : Str} {px : Pos} {L : Addr} {acc : Value} {b : Bool} {p : R × St} {q : V × St} (hx : canSet F.fn x = true) (i : Inv X F st T) (C : CompEnd X F T p T' acc L) (hkp : keepR b p.1 p.2 = some q) (k : KN X F T Q (q.2.set x q.1)) :
    compPost (model X.prog X.w) A E (some fun v => assignAll v ((assignEach [.Name x px] F.env).map (·.2))) (fun _ s' => Q .next s') acc L (.ok .next) T'.s :=
  keep_k C.aft C.rr hkp fun T₁ e₁ hmore a₁ q₁ => by
    rw [← e₁]
    show wpAny (model X.prog X.w) A (assign (.Name x px) F.env acc) _ E T₁.s
    have hLfa : ¬ FA F.env L := fun q => C.new (i.faal q)
    have hLF : ¬ T₁.M.F L := fun q => C.f ((hmore L C.ne).1 q)
    have hLW : ¬ T₁.M.W L := fun q => C.w ((hmore L C.ne).2 q)
    refine wpAny_assign_Name (storeName_snd hx a₁.inv q₁ fun T₂ a₂ => ?_)
    obtain ⟨m, hns⟩ := C.ns
    have hLal : Al T₁.s.heap L := by rw [e₁]; exact hns.imp fun o q => q.elim fun _ q => q.elim fun _ q => q.1
    have hL2 : ¬ T₂.M.F L ∧ ¬ T₂.M.W L := ⟨fun q => (a₂.ext.fnew L q).elim hLF fun q => q.elim hLW fun q => q hLal, fun q => (a₂.ext.wnew L q).elim hLW fun q => q hLal⟩
    refine ⟨m, hns.at' fun ob e => a₂.ext.keep L ob (e₁ ▸ e) fun q => q.elim hLW fun q => hLfa q.fa, fun h' hsb => ?_⟩
    have hk : ∀ b ob, b ≠ L → T₂.s.heap.get? b = some ob → h'.get? b = some ob := fun b ob hb e => (hsb.2 b hb).trans e
    have hn : ∀ b, T₂.M.F b ∨ T₂.M.W b ∨ FA F.env b → b ≠ L := fun b q z => q.elim (fun q => hL2.1 (z ▸ q)) fun q => q.elim (fun q => hL2.2 (z ▸ q)) fun q => hLfa (z ▸ q)
    have xx := a₁.s.trans a₂
    obtain ⟨h₁, t₁, e⟩ := xx.ext.sh
    exact k (T₂.hp h' T₂.s.toks) ⟨⟨⟨h', T₂.s.toks, by show { T₂.s with heap := h', toks := T₂.s.toks } = _; rw [e]⟩, fun a ob e1 n1 => hk a ob (fun q => C.new (q ▸ ⟨_, e1⟩)) (xx.ext.keep a ob e1 n1), fun a q => (xx.ext.al a q).imp fun ob e1 => hk a ob (fun z => C.new (z ▸ q)) e1, xx.ext.F, xx.ext.fnew, xx.ext.wnew, xx.ext.ad⟩,
      xx.mono.trans ⟨fun _ f => f, fun b o f => hk b o (hn b (.inl f)), List.prefix_refl _⟩, a₂.inv.hp fun b o q => hk b o (hn b q)⟩
noncomputable def LCs (X : Cx) (o : Ops) (n : Nat) (fn : Fn) : Prop := ∀ {elt gs sc p st q}, o.ev fn (.ListComp elt gs sc p) st = some q → ∃ o' n', n' ≤ n ∧ Snd X o' n' ∧ evLC X.G o' fn elt gs sc st = some q
theorem plain1_snd (H : Snd X o n) (HT : Top X) (Y : ClsG X K) {pos : Pos} {p : V × St} {b : Bool} (hA : AOk A n) (h1 : evK o b F.fn e st = some p) (h2 : store1 X.G o F.fn t p.1 p.2 = some st') (i : Inv X F st T) (k : KN X F T Q st') (hs : swapsWithSole [t] e pos.line F.env = pure false) : WP X A (exec (.Assign [t] e pos) F.env) Q E T := by
  unfold WP
  rw [PyProof.Rows.exec_Assign]
  have hsw : swappedStores [t] e F.env = pure none := by
    cases t with
    | Tuple a b c => exact nK h2
    | List a b => exact nK h2
    | _ => rfl
  refine wpAny_bind (wpAny_standAt (wpAny_bind (wpAny_of_eq hs (wpAny_bind (evKB H hA i h1 fun u T₁ a₁ q₁ => wpAny_bind (wpAny_of_eq hsw ?_))))))
  rw [star_t h2]
  exact wpAny_bind (m := assign t F.env u) (store1_snd H HT Y hA h2 a₁.inv q₁ fun T₂ a₂ => wpAny_pure (k T₂ (a₁.s.trans a₂)))
theorem assign1_snd (H : Snd X o n) (HT : Top X) (Y : ClsG X K) (HE : LCs X o n F.fn) {pos : Pos} {p : V × St} {b : Bool} (hA : AOk A n) (h1 : evK o b F.fn e st = some p) (h2 : store1 X.G o F.fn t p.1 p.2 = some st') (i : Inv X F st T) (k : KN X F T Q st') : WP X A (exec (.Assign [t] e pos) F.env) Q E T := by
  have plain := plain1_snd (pos := pos) (E := E) H HT Y hA h1 h2 i k
  cases hlc : isLC e with
  | false => exact plain (bK h1 fun q hq _ => swaps_false H hq hlc)
  | true =>
    revert h1 plain
    refine isLC_k (C := fun e => evK o b F.fn e st = some p → (swapsWithSole [t] e pos.line F.env = pure false → WP X A (exec (.Assign [t] e pos) F.env) Q E T) → WP X A (exec (.Assign [t] e pos) F.env) Q E T) hlc fun elt gs sc pe h1 plain => ?_
    cases t with
    | Name x px =>
      obtain ⟨b, hb⟩ : ∃ b, swapsWithSole [.Name x px] (.ListComp elt gs sc pe) pos.line F.env = pure b := ⟨_, rfl⟩
      cases b with
      | false => exact plain hb
      | true =>
        refine bK h1 fun q hq hkp => iK h2 fun hx h2 => ?_
        unfold WP
        rw [PyProof.Rows.exec_Assign]
        refine wpAny_bind (wpAny_standAt (wpAny_bind (wpAny_of_eq hb ?_)))
        obtain ⟨o', n', hn', H', he⟩ := HE hq
        exact wpAny_bind (wpAny_bind (wpAny_mono (comp_snd (Q := fun _ s' => Q .next s') H' HT (hA.less hn') he i fun acc L T₁ C => use_snd hx i C hkp (sQ h2 k)) (fun _ s' hq => wpAny_pure (wpAny_pure hq)) fun _ _ e => e))
    | Attribute _ _ _ => exact plain rfl
    | Subscript _ _ _ => exact plain rfl
    | _ => exact nK h2
theorem multi_snd (H : Snd X o n) (HT : Top X) (Y : ClsG X K) {ts : List PySem.Expr} {pos : Pos} {p : V × St} (hA : AOk A n) (hts : one ts = .none) (h1 : evK o false F.fn e st = some p) (h2 : storeAll X.G o F.fn p.1 ts p.2 = some st') (i : Inv X F st T) (k : KN X F T Q st') : WP X A (exec (.Assign ts e pos) F.env) Q E T := by
  unfold WP
  rw [PyProof.Rows.exec_Assign]
  have hs : swapsWithSole ts e pos.line F.env = pure false ∧ swappedStores ts e F.env = pure none := by
    cases ts with
    | nil => exact ⟨rfl, rfl⟩
    | cons a l =>
      cases l with
      | nil => cases hts
      | cons b l =>
        refine ⟨rfl, ?_⟩
        cases a <;> rfl
  refine wpAny_bind (wpAny_standAt (wpAny_bind (wpAny_of_eq hs.1 (wpAny_bind (evKB H hA i h1 fun u T₁ a₁ q₁ => wpAny_bind (wpAny_of_eq hs.2 (wpAny_bind ?_)))))))
  exact storeAll_snd H HT Y hA h2 a₁.inv q₁ fun T₂ a₂ => wpAny_pure (k T₂ (a₁.s.trans a₂))
end
open PySem PyProof.Rows PySem.Calls PySem.W
section
variable {X : Cx} {K : Frag} {F : Fx} {o : Ops} {n : Nat} {st st' : St} {A : Around} {T T' T'' : Sm} {Q : Flow → Shared → Prop} {E : Value → Shared → Prop} {u : Value} {v : V} {t e : PySem.Expr}
theorem KN.then (k : KN X F T Q st') (a : AftS X F T st T') : KN X F T' Q st' := fun T'' b => k T'' (a.trans b)
theorem iter_noset (H : Snd X o n) {fn : Fn} {env : Env} {q : It × St} (he : evIter X.G o fn e st = some q) (x : Value) : foldedSetIterable e env x = pure x := by
  cases e with
  | Set a b c => exact nK ((congrArg (Option.bind · _) (H.set _ _ _ _ _)).symm.trans he)
  | _ => rfl
theorem loadName_snd {x : Str} {Q : Value → Shared → Prop} (i : Inv X F st T) (hx : canSet F.fn x = true) (hv : lookS x st.vars = some v) (k : ∀ u, RepV X.I T v u → Q u T.s) : WP X A (loadName F.env x) Q E T := by
  obtain ⟨m, cm, hn, hc, hvs⟩ := i.frm.has
  obtain ⟨u, hu, q⟩ := hvs x v hv
  refine canSet_k hx (fun hx => ?_) fun hx => ?_
  · have hk := i.frm.loc x hx
    exact q.elim (fun q => wpAny_loadName_local i.frm.kind q.1 hn q.2 (k u hu)) fun q => q.1.elim (fun z => nomatch hk.symm.trans z) fun z => nomatch hk.symm.trans z
  · have hk := i.frm.cel x hx
    refine q.elim (fun q => nomatch hk.symm.trans q.1) fun q => ?_
    obtain ⟨c, hcx⟩ := i.frm.cells x (.inl hk)
    have hcell := hc x c hcx
    rw [q.2] at hcell
    exact wpAny_loadName_cell i.frm.kind hk hcx hcell (k u hu)
theorem delT_snd (H : Snd X o n) (HT : Top X) (hA : AOk A n) {QU : Unit → Shared → Prop} {ts : List PySem.Expr} : ∀ {st st' : St} {T : Sm}, delT o F.fn ts st = some st' → Inv X F st T → KU X F T QU st' → WP X A (deleteEach ts F.env) QU E T := by
  induction ts with
  | nil => exact fun he i k => wpAny_deleteEach_nil (sQ he k _ (Aft.refl i).s)
  | cons t ts ih =>
    intro st st' T he i k
    exact bK he fun p hp he => asSub_k (C := fun t => WP X A (deleteEach (t :: ts) F.env) QU E T) hp fun pos => wpAny_deleteEach_cons (wpAny_delete_Subscript (evLocB H hA i he fun q a T₁ a₁ ha he => evNumB H hA a₁.inv he fun z tk T₂ a₂ he => bK he fun st₃ h3 he => mK (C := fun st₃ => delT o F.fn ts st₃ = some st' → wpAny (model X.prog X.w) A (PySem.delItem (.ref a) (.int (X.I.f z.1.1 z.1.2) tk)) (fun _ s => wpAny (model X.prog X.w) A (deleteEach ts F.env) QU E s) E T₂.s) h3 (fun σ hσ he => delC_snd HT a₂.inv (a₂.mono.loc ha) hσ fun T₃ a₃ => ih he a₃.inv (k.then ((a₁.trans a₂).s.trans a₃))) he))
theorem next_k {fl : Fl} {f : Flow} (h : isNext fl = true) (hr : FRel X F T T' fl f) : f = .next := by
  cases fl with
  | next => exact hr
  | ret _ => cases h
structure ForSt (X : Cx) (F : Fx) (o : Ops) (tg : Tg) (body : List Stmt) (it : It) (st' : St) (T TS : Sm) (N : Nat) (fp wr : List Addr) (Sf : Nat → Heap → Prop) (kk : Nat) (s : Shared) (j : Nat) (T' : Sm) (st'' : St) : Prop where
  s : s = T'.s
  kk : kk = N + 1 - j
  le : j ≤ N
  ext : ExtB (fun _ => False) F T T'
  mono : Mono T T'
  inv : Inv X F st'' T'
  li : LI F (fun _ => False) fp wr Sf TS j T'
  rest : forLoop' o F.fn tg body (it.items.drop j) st'' = some st'
theorem ExtB.s {B : Addr → Prop} (x : ExtB (fun _ => False) F T T') : Ext (Wr F T) T T' := x.weaken fun _ q => .inl (q.elim id nofun)
theorem for_snd (H : Snd X o n) (HT : Top X) {body : List Stmt} {pos : Pos} {p : It × St} {tg : Tg} (hA : AOk A n) (h1 : evIter X.G o F.fn e st = some p) (htg : asTg t = some tg) (hok : tgOk F.fn p.1.pr tg = true) (h2 : forLoop' o F.fn tg body p.1.items p.2 = some st') (i : Inv X F st T) (k : KN X F T Q st') : WP X A (exec (.For t e body [] pos) F.env) Q E T := by
  refine wpAny_For (iter_snd H HT hA (asTg_is htg) hok h1 i fun I T₁ a₁ ⟨N, fp, wr, P, Md, Sf, S⟩ => ?_) (iter_noset H h1)
  refine codeAny_forLoop_any (fun kk s' => ∃ j T' st'', ForSt X F o tg body p.1 st' T T₁ N fp wr Sf kk s' j T' st'') ?_ (N + 1)
    ⟨0, T₁, p.2, rfl, rfl, Nat.zero_le _, .ofW a₁.ext, a₁.mono, a₁.inv, ⟨S.st0, fun b hb => ⟨(S.fp b hb).1, id⟩, fun b hb => (S.wr b hb).1, .refl _⟩, h2⟩
  rintro kk s₂ ⟨j, T₂, st₂, L⟩
  cases L.s
  cases L.kk
  refine draw_snd S.turns S.item S.len (fun b hb => (S.wr b hb).2) L.li L.inv L.ext (fun hjn T₃ d₃ => ?_) (fun x v s₃ hx hgo => ?_) L.le
  · cases hjn
    have he := L.rest
    rw [List.drop_eq_nil_of_le (Nat.le_of_eq S.len)] at he
    exact wpAny_execs_nil (sQ he k T₃ ⟨d₃.ext.s (B := fun _ => False), L.mono.trans d₃.mono, d₃.inv⟩)
  · have hlt : j < p.1.items.length := (List.getElem?_eq_some_iff.mp hx).1
    have he := L.rest
    rw [List.drop_eq_getElem_cons hlt, (List.getElem?_eq_some_iff.mp hx).2] at he
    refine bK he fun st₃ f1 he => bK he fun q f2 he => iK he fun hn he => hgo fun T₄ d₄ L₄ hit => bindT_snd hA htg hok f1 d₄.inv hit fun T₅ a₅ => H.ex hA f2 a₅.inv fun fl T₆ a₆ hfl => ?_
    cases next_k hn hfl
    have a₅₆ := a₅.trans a₆
    have xx : ExtB (fun _ => False) F T₄ T₆ := .of a₅₆.ext
    have hj : j < N := S.len ▸ hlt
    exact ⟨_, Nat.sub_lt_sub_left (Nat.lt_succ_of_le L.le) (Nat.lt_succ_self j), j + 1, T₆, q.2, rfl, rfl, hj, d₄.ext.trans xx, (L.mono.trans d₄.mono).trans a₅₆.mono, a₆.inv, L₄.ext S.turns S.al xx a₅₆.mono, he⟩
theorem while_snd (H : Snd X o n) {body : List Stmt} {pos : Pos} {N : Nat} (hA : AOk A n) (h2 : whileLoop' o F.fn t body N st = some st') (i : Inv X F st T) (k : KN X F T Q st') : WP X A (exec (.While t body [] pos) F.env) Q E T := by
  refine wpAny_While (codeAny_whileLoop (fun kk s' => ∃ T' st'', s' = T'.s ∧ AftS X F T st'' T' ∧ whileLoop' o F.fn t body kk st'' = some st') ?_ N ⟨T, st, rfl, (Aft.refl i).s, h2⟩)
  rintro kk s₁ ⟨T₁, st₁, rfl, a₁, he⟩
  cases kk with
  | zero => exact nK he
  | succ kk =>
    refine bK he fun q h1 he => H.tt hA h1 a₁.inv fun T₂ a₂ => cK he (fun hb he => ?_) fun hb he => ?_
    · rw [if_pos hb]
      refine bK he fun r h3 he => iK he fun hn he => H.ex hA h3 a₂.inv fun fl T₃ a₃ hfl => ?_
      cases next_k hn hfl
      exact ⟨kk, Nat.lt_succ_self _, T₃, r.2, rfl, (a₁.trans a₂.s).trans a₃, he⟩
    · rw [if_neg (by rw [hb]; nofun)]
      exact wpAny_execs_nil (sQ he k T₂ (a₁.trans a₂.s))
theorem assign_snd (H : Snd X o n) (HT : Top X) (Y : ClsG X K) (HE : LCs X o n F.fn) {ts : List PySem.Expr} {pos : Pos} (hA : AOk A n) (he : exAssign X.G o F.fn ts e st = some st') (i : Inv X F st T) (k : KN X F T Q st') : WP X A (exec (.Assign ts e pos) F.env) Q E T :=
  oK he (fun t ht he => one_k (C := fun ts => WP X A (exec (.Assign ts e pos) F.env) Q E T) ht (oK he (fun us hu he => asTup_k (C := fun t => WP X A (exec (.Assign [t] e pos) F.env) Q E T) hu fun c q => iK he fun hok he => oK he (fun es hes he => asTup_k (C := fun e => WP X A (exec (.Assign [.Tuple us c q] e pos) F.env) Q E T) hes fun c' q' => cK he (fun _ he => nK he) fun hc he => bK he fun p h1 h2 => tupTup_snd H HT Y hA hok (by rw [hc]; nofun) h1 h2 i k) fun hne he => bK he fun p h1 he => bK he fun l hl h2 => tupAny_snd H HT Y hA hne h1 hl h2 i k)
    fun _ he => bK he fun p h1 h2 => assign1_snd H HT Y HE hA h1 h2 i k)) fun hn he => iK he fun _ he => bK he fun p h1 h2 => multi_snd H HT Y hA hn h1 h2 i k
theorem aug_snd (H : Snd X o n) {x : Str} {px pos : Pos} (hA : AOk A n) (he : exAug o F.fn x e st = some st') (i : Inv X F st T) (k : KN X F T Q st') : WP X A (exec (.AugAssign (.Name x px) .Add e pos) F.env) Q E T :=
  iK he fun hx he => bK he fun v hv he => bK he fun a ha he => bK ha fun q hq ha => wpAny_AugAssign_Name (loadName_snd i hx hv fun u hu => numV_k (P := fun v => RepV X.I T v u → wpAny (model X.prog X.w) A (eval e F.env) _ E T.s) hq (fun hu => RepD.num_k (P := fun u => wpAny (model X.prog X.w) A (eval e F.env) (fun v₂ s₂ => wpAny (model X.prog X.w) A (inplaceOp .Add u v₂) _ E s₂) E T.s) hu fun t1 => plain_k (P := fun q => wpAny (model X.prog X.w) A (eval e F.env) (fun v₂ s₂ => wpAny (model X.prog X.w) A (inplaceOp .Add (.int (X.I.f q.1 q.2) t1) v₂) _ E s₂) E T.s) ha (evIntM H hA i he k fun z t2 T₁ a₁ k => P.iadd_int (storeName_snd (v := .d (.int (a + z.1))) hx (Aft.tok a₁.inv (T₁.s.toks + 1)).inv ⟨_, rfl⟩ fun T₂ a₂ => k T₂ ((a₁.trans (Aft.tok a₁.inv (T₁.s.toks + 1))).s.trans a₂)))) hu)
theorem nx {k : KX X F T Q (next st')} : KN X F T Q st' := fun T' a => k .next T' a rfl
theorem exOne_snd (H : Snd X o n) (HT : Top X) (Y : ClsG X K) (HE : LCs X o n F.fn) {c : Stmt} {p : Fl × St} (hA : AOk A n) (he : exOne X.G o F.fn c st = some p) (i : Inv X F st T) (k : KX X F T Q p) : WP X A (exec c F.env) Q E T := by
  cases c with
  | Assign ts e pos => exact mQ he k fun st₁ he k => assign_snd H HT Y HE hA he i (nx (k := k))
  | AugAssign t op e pos =>
    cases op with
    | Add => exact bK he fun x hx he => mQ he k fun st₁ he k => asName_k (C := fun t => WP X A (exec (.AugAssign t .Add e pos) F.env) Q E T) hx fun px => aug_snd H hA he i (nx (k := k))
    | _ => exact nK he
  | If t b e pos =>
    refine bK he fun q h1 he => wpAny_If (H.tt hA h1 i fun T₁ a₁ => cK he (fun hb he => ?_) fun hb he => ?_)
    · rw [if_pos hb]; exact H.ex hA he a₁.inv (k.then a₁.s)
    · rw [if_neg (by rw [hb]; nofun)]; exact H.ex hA he a₁.inv (k.then a₁.s)
  | For t e body els pos =>
    cases els with
    | cons _ _ => exact nK he
    | nil => exact bK he fun q h1 he => bK he fun tg htg he => iK he fun hok he => mQ he k fun st₂ h2 k => for_snd H HT hA h1 htg hok h2 i (nx (k := k))
  | While t body els pos =>
    cases els with
    | cons _ _ => exact nK he
    | nil => exact mQ he k fun st₂ h2 k => while_snd H hA h2 i (nx (k := k))
  | Return e pos =>
    cases e with
    | some e => exact mQ he k fun q h1 k => wpAny_Return_some (H.ev hA h1 i fun u T' a q => k _ T' a.s ⟨u, rfl, q⟩)
    | none => exact wpAny_Return_none (sQ he k _ T (Aft.refl i).s ⟨_, rfl, rfl⟩)
  | Expr e pos =>
    refine eK he (fun _ he => nK he) fun he' => ?_
    cases hlc : isLC e with
    | true => exact eK he (fun _ he => nK he) fun _ => absurd he (by show (if isLC e = true then _ else _) ≠ _; rw [if_pos hlc]; nofun)
    | false => exact mQ he' k fun q h1 k => wpAny_Expr_any (H.ev hA h1 i fun u T' a _ => k .next T' a.s rfl) (by unfold interactive; rw [i.frm.kind]; rfl) (swaps_false H h1 hlc)
  | Delete ts pos => exact mQ he k fun st₂ h2 k => wpAny_Delete (delT_snd H HT hA h2 i fun T' a => k .next T' a rfl)
  | _ => exact nK he
theorem ex_snd (H : Snd X o n) (HT : Top X) (Y : ClsG X K) (HE : LCs X o n F.fn) {ss : List Stmt} {p : Fl × St} (hA : AOk A n) (he : exStep X.G o F.fn ss st = some p) (i : Inv X F st T) (k : KX X F T Q p) : WP X A (execs ss F.env) Q E T := by
  cases ss with
  | nil => exact wpAny_execs_nil (sQ he k .next T (Aft.refl i).s rfl)
  | cons c rest =>
    refine bK he fun q h1 he => wpAny_execs_cons (exOne_snd H HT Y HE hA h1 i fun fl T₁ a₁ q₁ => ?_)
    obtain ⟨f, st₁⟩ := q
    cases f with
    | next => cases q₁; exact H.ex hA he a₁.inv (k.then a₁)
    | ret r => obtain ⟨u, rfl, q⟩ := q₁; exact sQ he k _ T₁ a₁ ⟨u, rfl, q⟩
end
open PySem PyProof.Rows PySem.Calls PySem.W PySem.Spec
theorem list_no_keys : typeLookup (.type "list") "keys" = pure none := by rw [typeLookup_type, builtinLookup_eq_fast]; kernel_rfl
theorem getAttrOpt_miss_list {prog : Program} {w : World} {A : Around} {E : Value → Shared → Prop} {s : Shared} {a : Addr} {o : Obj} {xs : Array Value} {k : Nat} {name : Str} {Q : Option Value → Shared → Prop}
    (hx : s.heap.get? a = some o) (hc : o.cls = .type "list") (hdat : o.data = .seq xs k) (hd : o.dict = none) (hmiss : typeLookup (.type "list") name = pure none) (hname : (["__module__", "__name__", "__qualname__", "__doc__", "__annotations__"] : List Str).contains name = false) (hA : A.handled = none)
    (h : ∀ h' tk, (∀ b o, s.heap.get? b = some o → h'.get? b = some o) → Q none { s with heap := h', toks := tk }) (hsz : name.length + 100 ≤ sizeLine := by size_fits) :
    wpAny (model prog w) A (getAttr? (.ref a) name) Q E s := by
  obtain ⟨c, dct, dat, sl⟩ := o
  simp only at hc hdat hd
  subst hc hdat hd
  obtain ⟨hp, g, d, tk, os⟩ := s
  have hT : ∀ tk', (⟨hp, g, d, tk', os⟩ : Shared).TypeIs (.ref a) "list" := fun _ => ⟨_, hx, rfl⟩
  have f1 := sub_AttributeError
  have f3 := F.slot_list_getattribute.lookup
  have f4 := F.slot_list_getattribute.bind (.ref a)
  have f5 := am_list_getattr_none
  unfold getAttr? getAttrBy? getAttrBy
  repeat (any_goals (first | assumption | exact hT _ | ((with_reducible show wpAny _ _ (call (Value.builtin "list.__getattribute__") _ _) _ _ _); refine call_meets F.slot_list_getattribute (hT _) am_entry_list_getattribute (F.args_list_getattribute_2 _ _) (meets_getattribute_miss_list a xs k sl name _ hmiss hname hsz) ⟨hx, hA, fun h' tk' e hx' => ?_⟩) | wp_step))
  obtain ⟨t', u', he⟩ := hx'.there
  show wpAny _ _ (getattributeRaised _ _ _ _ _ _ _) _ _ _
  unfold getattributeRaised
  repeat (any_goals (first | assumption | wp_step))
  exact h _ _ hx'.keeps
theorem entry_update_loop : entryFor table "dict.update.loop" = some Builtin.«dict.update.loop» := entryFor_of_tree (by kernel_rfl)
theorem plain_update_loop : plainId "dict.update.loop" = true := by decide +kernel
section
variable {X : Cx} {F : Fx} {o : Ops} {n : Nat} {st st' : St} {A : Around} {T T' T'' : Sm} {Q E : Value → Shared → Prop} {I : Iota} {c : Bool} {l : List V} {us : List Value} {prs : List (Int × V)} {r : R} {u : Value}
structure PrD (I : Iota) (T : Sm) (c : Bool) (p : Int × V) (u : Value) (a : Addr) (m : Nat) (t : Tok) (ux : Value) : Prop where
  u : u = .ref a
  f : T.M.F a
  obj : T.s.heap.get? a = some (seqObj "tuple" (List.toArray [.int (I.f c p.1) t, ux]) m)
  rep : RepV I T p.2 ux
theorem prD_k {d x : D} {q : Bool × Int} {C : D → Prop} (h : prD d = some (q, x)) (k : C (.tup [mkN q, x])) : C d := by
  cases d with
  | tup l =>
    cases l with
    | nil => exact nK h
    | cons y l =>
      cases l with
      | nil => exact nK h
      | cons z l =>
        cases l with
        | cons _ _ => exact nK h
        | nil =>
          have h : (numD y).map (fun q => (q, z)) = some (q, x) := h
          cases hq : numD y with
          | none => rw [hq] at h; cases h
          | some q' => rw [hq] at h; cases h; exact numD_k (C := fun y => C (.tup [y, _])) hq k
  | _ => exact nK h
theorem prs_of : ∀ {l : List V} {us : List Value} {prs : List (Int × V)}, prsOf c l = some prs → All2 (RepV I T) l us → All2 (fun p u => ∃ a m t ux, PrD I T c p u a m t ux) prs us ∧ prs.length = l.length := by
  intro l
  induction l with
  | nil => intro us prs h r; cases h; exact ⟨r, rfl⟩
  | cons v l ih =>
    intro us prs h r
    obtain ⟨u, ws, rfl, r1, r2⟩ := r
    refine bK h fun d hd h => bK h fun p hp h => iK h fun hc h => mK (C := fun prs => All2 (fun p u => ∃ a m t ux, PrD I T c p u a m t ux) prs (u :: ws) ∧ prs.length = l.length + 1) h fun s hs => ?_
    have q := ih hs r2
    refine ⟨.cons ?_ q.1, congrArg (· + 1) q.2⟩
    obtain ⟨⟨zb, zi⟩, x⟩ := p
    cases beq_iff_eq.mp hc
    refine datV_k (P := fun v => RepV I T v u → _) hd (fun r1 => prD_k (C := fun d => RepD I T d u → _) hp (fun r1 => ?_) r1) r1
    obtain ⟨a, us, rfl, f, ⟨m, o⟩, _, u1, w1, rfl, q1, u2, w2, rfl, q2, rfl⟩ := r1
    exact RepD.num_k (P := fun u1 => T.s.heap.get? a = some (seqObj "tuple" (List.toArray [u1, u2]) m) → ∃ a' m t ux, PrD I T zb (zi, .d x) (.ref a) a' m t ux) q1 (fun t o => ⟨a, m, t, u2, rfl, f, o, q2⟩) o
theorem update_loop {T₀ : Sm} {d Ia la : Addr} {R : Result → Shared → Prop} (hI : 2 ≤ I.gap) (hh : A.handled = none) (hF : ∀ a, T₀.M.F a → a ≠ d ∧ a ≠ Ia) (hdI : d ≠ Ia) (hld : la ≠ d) (hlI : la ≠ Ia) (hz : prs.length ≤ lim)
    (hp : All2 (fun p u => ∃ a m t ux, PrD I T₀ c p u a m t ux) prs us) (hlist : T₀.s.heap.IsList la us.toArray) : ∀ (kk j : Nat) (h : Heap) (tk : Nat) (es : List (Int × V)) (kvs : List (Int × Value)), j + kk = prs.length → (∀ b ob, b ≠ d → b ≠ Ia → T₀.s.heap.get? b = some ob → h.get? b = some ob) →
      h.IsListIter Ia la j → h.DictOf (intKind X.prog X.w) d kvs → RepK I (T₀.hp h tk) c es kvs → kvs.length ≤ j →
      (∀ h tk kvs', (∀ b ob, b ≠ d → b ≠ Ia → T₀.s.heap.get? b = some ob → h.get? b = some ob) → h.DictOf (intKind X.prog X.w) d kvs' → RepK I (T₀.hp h tk) c ((prs.drop j).foldl (fun es p => setI p.1 p.2 es) es) kvs' → R (.ok (.ret .none)) { T₀.s with heap := h, toks := tk }) →
      codeAny (model X.prog X.w) A (.builtin "dict.update.loop" ⟨[.ref d, .ref Ia, rawInt j, .none], []⟩) R { T₀.s with heap := h, toks := tk } := by
  intro kk
  induction kk with
  | zero =>
    intro j h tk es kvs hk hkeep hit hd hr hkl hR
    have hk : j = prs.length := hk
    have hL : h.IsList la us.toArray := hlist.at fun ob e => hkeep la ob hld hlI e
    refine codeAny_builtin entry_update_loop ?_
    rw [Around.under_plainId plain_update_loop _]
    show wpAny _ A.in1 (pyNext (.ref Ia) >>= _) _ _ _
    refine wpAny_bind (wpAny_pyNext_list_end hh hit hL (List.getElem?_toArray.trans (List.getElem?_eq_none (by rw [hp.length, hk]; exact Nat.le_refl _))) fun h' he' => ?_)
    show wpAny _ A.in1 (Builtin.Dict.addKeywords d [] >>= _) _ _ _
    refine wpAny_bind (wpAny_pure (wpAny_pure ?_))
    rw [List.drop_eq_nil_of_le (Nat.le_of_eq hk.symm)] at hR
    exact hR h' tk kvs (fun b ob h1 h2 e => he' b ob h2 (hkeep b ob h1 h2 e)) (hd.at fun ob e => he' d ob hdI e) (RepK.mono (T := T₀.hp h tk) (T' := T₀.hp h' tk) ⟨fun _ f => f, fun b ob f e => he' b ob (hF b f).2 e, List.prefix_refl _⟩ hr)
  | succ kk ih =>
    intro j h tk es kvs hk hkeep hit hd hr hkl hR
    have hlt : j < prs.length := by rw [← hk]; exact Nat.lt_add_of_pos_right (Nat.succ_pos _)
    have hL : h.IsList la us.toArray := hlist.at fun ob e => hkeep la ob hld hlI e
    obtain ⟨uj, hju, a, m, t, ux, P⟩ := hp.get (List.getElem?_eq_getElem hlt)
    refine codeAny_builtin entry_update_loop ?_
    rw [Around.under_plainId plain_update_loop _]
    show wpAny _ A.in1 (pyNext (.ref Ia) >>= _) _ _ _
    refine wpAny_bind (wpAny_pyNext_list_item hit hL (x := uj) (List.getElem?_toArray.trans hju) fun h₁ hit₁ hs₁ => ?_)
    have hk₁ : ∀ b ob, b ≠ d → b ≠ Ia → T₀.s.heap.get? b = some ob → h₁.get? b = some ob := fun b ob e1 e2 e => (hs₁.2 b e2).trans (hkeep b ob e1 e2 e)
    have o2 := hk₁ a _ (hF a P.f).1 (hF a P.f).2 P.obj
    rw [P.u]
    dsimp only
    refine wpAny_bind (wpAny_holding (wpAny_bind (wpAny_tryCatch ?_)))
    unfold Builtin.Dict.pairItems
    refine wpAny_bind (wpAny_typeOf (T := "tuple") ⟨_, o2, rfl⟩ ?_)
    rw [if_pos (by decide)]
    refine wpAny_bind (wpAny_seqItems o2 rfl (wpAny_pure ?_))
    show wpAny _ _ (holding _ (dictSet d (.int (I.f c prs[j].1) t) ux)) _ _ _
    refine wpAny_holding (wpAny_dictSet_pairs (s := { T₀.s with heap := h₁, toks := tk }) (intKind_is X.prog X.w (I.f c prs[j].1) t) (hd.at fun ob e => (hs₁.2 d hdI).trans e) (fun h₂ hd₂ hs₂ => wpAny_pure ⟨plainId_quiet plain_update_loop _, ?_⟩) (Nat.le_trans hkl (Nat.le_trans (Nat.le_of_lt hlt) (Nat.le_trans hz lim_le))))
    have hk₂ : ∀ b ob, b ≠ d → b ≠ Ia → T₀.s.heap.get? b = some ob → h₂.get? b = some ob := fun b ob e1 e2 e => (hs₂.2 b e1).trans (hk₁ b ob e1 e2 e)
    have hr₂ : RepK I (T₀.hp h₂ (tk + 1)) c es kvs := RepK.mono (T := T₀.hp h tk) (T' := T₀.hp h₂ (tk + 1)) ⟨fun _ f => f, fun b ob f e => (hs₂.2 b (hF b f).1).trans ((hs₁.2 b (hF b f).2).trans e), List.prefix_refl _⟩ hr
    have rx₂ : RepV I (T₀.hp h₂ (tk + 1)) prs[j].2 ux := RepV.mono (T := T₀) (T' := T₀.hp h₂ (tk + 1)) ⟨fun _ f => f, fun b ob f e => hk₂ b ob (hF b f).1 (hF b f).2 e, List.prefix_refl _⟩ P.rep
    have hnd : (kvs.map (·.1)).Nodup := hd.elim fun _ q => q.elim fun _ q => q.elim fun _ q => q.2.2.2.2.2
    have rs := RepK.set (k := prs[j].1) hI rx₂ hr₂ hnd
    have := ih (j + 1) h₂ (tk + 1) (setI prs[j].1 prs[j].2 es) (stored kvs (I.f c prs[j].1) ux) (by rw [← hk, Nat.add_right_comm]; rfl) hk₂ (hit₁.at fun ob e => (hs₂.2 Ia (Ne.symm hdI)).trans e) hd₂ rs (by rw [rs.length]; exact Nat.le_trans (setI_len es) (Nat.succ_le_succ (hr₂.length ▸ hkl))) (fun h' tk' kvs' a1 a2 a3 => hR h' tk' kvs' a1 a2 (by rw [List.drop_eq_getElem_cons hlt, List.foldl_cons]; exact a3))
    exact this
theorem fold_len {es : List (Int × V)} : (prs.foldl (fun es p => setI p.1 p.2 es) es).length ≤ es.length + prs.length := by
  induction prs generalizing es with
  | nil => exact Nat.le_refl _
  | cons p prs ih => exact Nat.le_trans ih (by rw [List.length_cons, Nat.add_comm prs.length 1, ← Nat.add_assoc]; exact Nat.add_le_add_right (setI_len es) _)
theorem dict_snd (HT : Top X) {σ : List Cell} (hA : AOk A n) (i : Inv X F st T) (hr : RR X F T' T r u) (he : dctR st.store r = some σ) (k : KR X F T Q (.val (.loc st.store.length), st.sto σ)) : WP X A (call (.type "dict") [u]) Q E T :=
  bK he fun l hl he => mQ (C := fun σ => KR X F T Q (.val (.loc st.store.length), st.sto σ)) he k fun prs hp k => lst_k (C := fun u => WP X A (call (.type "dict") [u]) Q E T) i.mid hr hl fun la us ⟨m, o1⟩ r1 z1 => by
    have hpl := prs_of hp r1
    have hz : prs.length ≤ lim := hpl.2 ▸ z1
    have hla : la < T.s.heap.objs.size := Heap.lt_size o1
    refine callType_codes (Q₁ := fun obj s₁ => obj = .ref T.s.heap.objs.size ∧ s₁ = { T.s with heap := T.s.heap.push { cls := .type "dict", data := .dict #[] } }) PySem.F.kt_called_dict (PySem.F.kt_typeCall_dict_1 _) PySem.F.entry_dict_init (kt_code_dict_new _ ⟨rfl, rfl⟩) ?_
    rintro obj s₁ ⟨rfl, rfl⟩
    have hnew : (T.s.heap.push { cls := .type "dict", data := .dict #[] }).DictOf (intKind X.prog X.w) T.s.heap.objs.size [] := Heap.DictOf.new T.s.heap
    have o2 : (T.s.heap.push { cls := .type "dict", data := .dict #[] }).get? la = some (seqObj "list" us.toArray m) := Heap.get?_push_of_some _ o1
    refine ⟨hnew.typeIs, PySem.F.args_dict_init_2 _ _, ?_⟩
    unfold Builtin.«dict.__init__» Builtin.Dict.selfAndRest
    refine wpAny_bind (wpAny_bind (wpAny_notOrdered_dict hnew.typeIs ?_))
    show wpAny _ _ (pure (T.s.heap.objs.size, [Value.ref la])) _ _ _
    refine wpAny_pure ?_
    show wpAny _ _ (Builtin.Dict.updateFrom "dict.__init__" T.s.heap.objs.size (.ref la) [] .none) _ _ _
    unfold Builtin.Dict.updateFrom
    refine wpAny_bind (wpAny_typeOf (T := "list") ⟨_, o2, rfl⟩ ?_)
    rw [if_pos (by decide)]
    refine wpAny_bind (getAttrOpt_miss_list (s := { T.s with heap := T.s.heap.push { cls := .type "dict", data := .dict #[] } }) o2 rfl rfl rfl list_no_keys (by decide) hA.h (fun h₁ tk₁ hk₁ => ?_) (by decide))
    rw [if_pos (c := (none : Option Value).isNone = true) rfl]
    refine wpAny_bind (wpAny_rule ?_)
    have o3 : h₁.get? la = some (seqObj "list" us.toArray m) := hk₁ _ _ o2
    have hL3 : h₁.IsList la us.toArray := ⟨_, o3, rfl, m, rfl⟩
    refine wpAny_bind (wpAny_pyIter_list (s := { T.s with heap := h₁, toks := tk₁ }) hL3 (wpAny_pure ⟨plainId_quiet plain_update_loop _, ?_⟩))
    have hd3 : h₁.DictOf (intKind X.prog X.w) T.s.heap.objs.size [] := hnew.keep hk₁
    have hsz : T.s.heap.objs.size < h₁.objs.size := hd3.elim fun ob q => q.elim fun _ q => q.elim fun _ q => Heap.lt_size q.1
    have kp := keep_push h₁ { cls := .type "list_iterator", data := .fields #[.ref la, .int 0 0] }
    have kall : ∀ b ob, T.s.heap.get? b = some ob → (h₁.push { cls := .type "list_iterator", data := .fields #[.ref la, .int 0 0] }).get? b = some ob := fun b ob e => kp b ob (hk₁ b ob (Heap.get?_push_of_some _ e))
    have big : ∀ b, Al T.s.heap b → b ≠ T.s.heap.objs.size ∧ b ≠ h₁.objs.size := fun b q => ⟨Nat.ne_of_lt q.lt, Nat.ne_of_lt (Nat.lt_trans q.lt hsz)⟩
    have mo : Mono T (T.hp (h₁.push { cls := .type "list_iterator", data := .fields #[.ref la, .int 0 0] }) tk₁) := ⟨fun _ f => f, fun b ob _ => kall b ob, List.prefix_refl _⟩
    refine update_loop (X := X) (A := A.in1) (I := X.I) (T₀ := T.hp (h₁.push { cls := .type "list_iterator", data := .fields #[.ref la, .int 0 0] }) tk₁) (d := T.s.heap.objs.size) (Ia := h₁.objs.size) (la := la) (us := us) (prs := prs) (c := clsOf l) (R := PySem.wants (fun r s₂ => r = Value.none ∧ Q (.ref T.s.heap.objs.size) s₂) E) HT.gap hA.h (fun b f => big b (i.mid.fal b f)) (Nat.ne_of_lt hsz) (big la ⟨_, o1⟩).1 (big la ⟨_, o1⟩).2 hz
      (hpl.1.imp fun p u ⟨a, m, t, ux, P⟩ => ⟨a, m, t, ux, P.u, P.f, kall _ _ P.obj, P.rep.mono mo⟩) (hL3.at fun ob e => kp _ _ e) prs.length 0 _ tk₁ [] [] (Nat.zero_add _) (fun b ob _ _ e => e) ⟨_, Heap.get?_push_size _ rfl, rfl, rfl⟩ (hd3.keep kp) rfl (Nat.zero_le _) fun h tk kvs' hk hd hr => ⟨rfl, ?_⟩
    have a₂ : Aft X F T st (T.hp h tk) := .grow i fun b ob e => hk b ob (big b ⟨_, e⟩).1 (big b ⟨_, e⟩).2 (kall b ob e)
    have hnA := not_al_size T.s.heap
    have a₃ := a₂.new (a := T.s.heap.objs.size) (g := [T.s.heap.objs.size]) (c := .dct (clsOf l) (mkDct prs)) (fun b hb => by rw [List.mem_singleton.mp hb]; exact ⟨fun q => hnA (i.mid.fal _ q), fun q => hnA (q.elim i.wal i.faal), hnA⟩) (List.nodup_cons.mpr ⟨List.not_mem_nil, List.nodup_nil⟩)
      ⟨rfl, kvs', hd, RepK.mono (T := T.hp h tk) (.new _ _) hr, Nat.le_trans (Nat.zero_add prs.length ▸ fold_len (es := [])) hz⟩
    exact k _ _ a₃ ⟨T.s.heap.objs.size, by show (T.M.ad ++ [T.s.heap.objs.size])[st.store.length]? = _; rw [← i.mid.la]; exact List.getElem?_concat_length, rfl⟩
end
open PySem PyProof.Rows PySem.Calls PySem.W PySem.Spec
theorem itemsD_k {c : Bool} {es : List (Int × V)} : ∀ {ds : List D}, itemsD c es = some ds → ds.length = es.length ∧ ∀ {j : Nat} {d : D}, ds[j]? = some d → ∃ p x, es[j]? = some p ∧ p.2 = .d x ∧ d = .tup [mkN (c, p.1), x] := by
  induction es with
  | nil => intro ds h; cases h; exact ⟨rfl, fun e => nomatch e⟩
  | cons p es ih =>
    intro ds h
    refine bK h fun x hx h => mK (C := fun ds => ds.length = es.length + 1 ∧ ∀ {j : Nat} {d : D}, ds[j]? = some d → ∃ q x, (p :: es)[j]? = some q ∧ q.2 = .d x ∧ d = .tup [mkN (c, q.1), x]) h fun s hs => ⟨congrArg (· + 1) (ih hs).1, fun {j d} e => ?_⟩
    cases j with
    | zero => cases e; exact ⟨p, x, rfl, datV_k (P := fun v => v = .d x) hx rfl, rfl⟩
    | succ j => exact (ih hs).2 (j := j) e
section
variable {X : Cx} {F : Fx} {o : Ops} {n : Nat} {st st' : St} {A : Around} {T T' T'' : Sm} {Q E : Value → Shared → Prop} {I : Iota} {c : Bool} {l : List V} {us : List Value} {r : R} {u : Value} {a : Addr} {j : Nat} {b : Bool} {es : List (Int × V)} {kvs : List (Int × Value)} {ds : List D} {P : Heap → Addr → List Int → Prop} {p : R × St} {e : PySem.Expr} {f : Str} {ap pos : Pos}
theorem sortedI_snd (HT : Top X) {vw : Addr} (hA : AOk A n) (i : Inv X F st T) (D : DctAt X T j a b es kvs) (hv : T.s.heap.IsItemsView vw a) (hi : itemsD b es = some ds) (hok : srtOk ds = true) (k : KR X F T Q (.fresh ((srtK kd ds).map .d), st)) : WP X A (call (.builtin "sorted") [.ref vw]) Q E T :=
  sorted_of HT i (fun {Q' E'} k' => by
    obtain ⟨ep, hAt⟩ := D.obj.dictAt
    refine kdx_collect (knd := intKind X.prog X.w) (kvs := kvs) (ep := ep) hA.h hv hAt (D.rep.lim D.len) fun h' tk as hk hl hg => ?_
    have a₁ : Aft X F T st (T.hp h' tk) := .grow i hk
    have hnew : ∀ a ∈ as, ¬ Al T.s.heap a := fun a ha q => absurd q.lt (Nat.not_lt.mpr (Nat.le_of_lt (hg.above a ha)))
    refine k' (as.map .ref) _ ds (a₁.frz (P := (· ∈ as)) fun a ha => ⟨?_, fun f => hnew a ha (f.elim i.wal i.faal), hnew a ha⟩) (All2.ext (by rw [List.length_map, hl, D.rep.length, (itemsD_k hi).1]) fun j d u e1 e2 => ?_) hok rfl
    · obtain ⟨j, hj⟩ := List.mem_iff_getElem?.mp ha
      obtain ⟨_, _, _, _, _, e⟩ := hg.pairs j a hj
      exact ⟨_, e⟩
    · rw [List.getElem?_map] at e2
      refine mK (C := fun u => RepD X.I ((T.hp h' tk).mm (T.M.frz (· ∈ as))) d u) e2 fun a e2 => ?_
      obtain ⟨key, k₁, x₁, q1, q2, q3⟩ := hg.pairs j a e2
      obtain ⟨t, rfl⟩ := intKind_val q2
      obtain ⟨p, q4, rfl, q5⟩ := D.rep.get q1
      obtain ⟨p', x, q6, q7, rfl⟩ := (itemsD_k hi).2 e1
      cases q4.symm.trans q6
      rw [q7] at q5
      have q5 : RepD X.I T x x₁ := q5
      exact ⟨a, [.int (X.I.f b p.1) t, x₁], rfl, .inr (List.mem_of_getElem? e2), ⟨0, q3⟩, by show 2 ≤ 1000000; decide, _, _, rfl, RepD.num (b, p.1) t, _, _, rfl, (q5.mono (a₁.mono)).mono (.frz _), rfl⟩) k
theorem items_snd (H : Snd X o n) (HT : Top X) {b : PySem.Expr} (hA : AOk A n) (hok : mOk b ap pos 0 = true) (he : evItems o F.fn b st = some p) (i : Inv X F st T) (k : KR X F T Q p) : WP X A (eval (.Call (.Attribute b "items" ap) [] [] pos) F.env) (fun u s => wpAny (model X.prog X.w) A (call (.builtin "sorted") [u]) Q E s) E T :=
  meth_call H hok (st' := st) (p := ([], st)) rfl (evB H hA i he fun q u T₁ a₁ r₁ he pl => bK he fun d hd he => bK he fun l hl he => mQ he k fun l' hl' k => srtD_k (C := fun l' => KR X F T Q (.fresh (l'.map .d), q.2) → _) hl' (fun ho k => dct_k (C := fun u => wpAny (model X.prog X.w) A (getMethod u "items" pl) _ E T₁.s) a₁.inv.mid r₁ hd fun j a kvs D => by
    have hs := D.nosys HT a₁.inv.mid
    refine getMethod_builtin D.obj.typeIs PySem.F.plainAttrs_dict PySem.F.slot_dict_items PySem.F.type_dict_items (fun a' e => by cases e; exact D.obj.imp fun ob z => z.elim fun _ z => z.elim fun _ z => ⟨z.1, z.2.1.2.1⟩) ?_
    refine callWith_bm rfl (PyProof.Rows.evalArgs_none ?_)
    refine call_meetsIn PySem.F.slot_dict_items D.obj.typeIs PySem.F.entry_dict_items (PySem.F.args_dict_items_1 _) (meets_dict_items (intKind X.prog X.w) a hs) ⟨⟨kvs, D.obj⟩, ?_⟩
    have hk := keep_push T₁.s.heap { cls := .type "dict_items", data := .fields #[.ref a] }
    have a₂ : Aft X F T₁ q.2 (T₁.hp (T₁.s.heap.push { cls := .type "dict_items", data := .fields #[.ref a] }) T₁.s.toks) := .grow a₁.inv hk
    exact sortedI_snd HT hA a₂.inv ⟨D.ad, D.gp, D.obj.keep hk, D.rep.mono a₂.mono, D.len⟩ ⟨_, Heap.get?_push_size _ rfl, rfl, rfl⟩ hl ho (k.then (a₁.trans a₂))) k)
theorem RepK.keys : ∀ {kvs : List (Int × Value)}, RepK I T false es kvs → kvs.map (·.1) = es.map (·.1) := by
  induction es with
  | nil => intro kvs h; cases h; rfl
  | cons p es ih => intro kvs h; obtain ⟨v, ws, rfl, _, r⟩ := h; exact congrArg (p.1 :: ·) (ih r)
structure SetK (d : Bool × List (Int × V)) : Prop where
  b : d.1 = false
  len : d.2.length ≤ 20
  k : ∀ k ∈ d.2.map (·.1), 0 ≤ k ∧ k < 64
theorem setOk_k {d : Bool × List (Int × V)} (h : setOk d = true) : SetK d :=
  andK h fun h h3 => andK h fun h1 h2 => ⟨(Bool.not_eq_true' _).mp h1, decK h2, fun k hk => by
    obtain ⟨p, hp, rfl⟩ := List.mem_map.mp hk
    have q := List.all_eq_true.mp h3 p hp
    exact andK q fun a b => ⟨decK a, decK b⟩⟩
theorem set_snd (H : Snd X o n) (HT : Top X) (S : SetG X.prog X.w P) {x : PySem.Expr} {d : Bool × List (Int × V)} (hA : AOk A n) (hb : isBlt X.G F.fn "set" = true) (h1 : o.ev F.fn x st = some p) (h2 : dctOf p.2.store p.1 = some d) (hok : SetK d) (i : Inv X F st T)
    (k : ∀ a T', Aft X F T p.2 T' → ¬ Al T.s.heap a → ¬ T'.M.W a → P T'.s.heap a (d.2.map (·.1)) → Q (.ref a) T'.s) : WP X A (eval (.Call (.Name "set" ap) [x] [] pos) F.env) Q E T :=
  blt1 HT hb (v := .type "set") rfl (.inr ⟨_, rfl⟩) (star1 H h1) i (H.ev hA h1 i fun u T₁ a₁ r₁ => dct_k (C := fun u => wpAny (model X.prog X.w) A (call (.type "set") [u]) Q E T₁.s) a₁.inv.mid r₁ h2 fun j a kvs D => by
    have hr := D.rep
    rw [hok.b] at hr
    have hkeys := hr.keys
    refine S.make hA.h (D.nosys HT a₁.inv.mid) D.obj (hr.length ▸ hok.len) (fun q hq => hok.k q.1 (hkeys ▸ List.mem_map_of_mem hq)) fun h' tk c hk hc hp => ?_
    rw [hkeys] at hp
    exact k c _ (a₁.trans (.grow a₁.inv hk)) (fun q => hc (a₁.ext.al _ q)) (fun q => hc (a₁.inv.wal q)) hp)
theorem union_snd (H : Snd X o n) (HT : Top X) (S : SetG X.prog X.w P) {x y : PySem.Expr} {p₁ p₂ p₃ q₁ q₂ : Pos} (hA : AOk A n) (hb : isBlt X.G F.fn "set" = true) (he : evUnion o F.fn x y st = some p) (i : Inv X F st T) (k : KR X F T Q p) :
    WP X A (eval (.BinOp (.Call (.Name "set" p₁) [x] [] q₁) .BitOr (.Call (.Name "set" p₂) [y] [] q₂) p₃) F.env) (fun u s => wpAny (model X.prog X.w) A (call (.builtin "sorted") [u]) Q E s) E T :=
  bK he fun q h1 he => bK he fun d h2 he => bK he fun q' h3 he => bK he fun d' h4 he => iK he fun hok he => andK hok fun ho ho' => mQ he k fun l hl k => srtD_k (C := fun l => KR X F T Q (.fresh (l.map .d), q'.2) → _) hl (fun hs k => wpAny_BinOp (set_snd H HT S hA hb h1 h2 (setOk_k ho) i fun a T₁ a₁ na nw pa => set_snd H HT S hA hb h3 h4 (setOk_k ho') a₁.inv fun b T₂ a₂ nb _ pb => by
    have pa₂ := S.keep pa fun ob e => a₂.ext.keep a ob e nw
    refine S.union hA.h (fun e => nb (e ▸ S.al pa)) pa₂ pb (List.length_map (as := d.2) (·.1) ▸ (setOk_k ho).len) (List.length_map (as := d'.2) (·.1) ▸ (setOk_k ho').len) (setOk_k ho).k (setOk_k ho').k fun h' tk c hk hc pc => ?_
    have a₃ : Aft X F T₂ q'.2 (T₂.hp h' tk) := .grow a₂.inv hk
    refine sorted_of (T := T₂.hp h' tk) HT a₃.inv (fun {Q' E'} k' => S.coll hA.h pc fun h₄ tk₄ vs ns hk₄ hI hperm => k' vs _ (ns.map .int) (.grow a₃.inv hk₄) (ints_rep hI) ?_ (srt_perm hperm)) (k.then ((a₁.trans a₂).trans a₃))
    refine Bool.and_eq_true_iff.mpr ⟨?_, Bool.or_eq_true_iff.mpr (.inl (Bool.or_eq_true_iff.mpr (.inl (ints_all ns))))⟩
    rw [List.length_map, hperm.length_eq, ← List.length_map (f := D.int)]
    exact (Bool.and_eq_true_iff.mp hs).1)) k
end
open PySem PyProof.Rows PySem.Calls PySem.W PySem.Spec
section
variable {prog : Program} {w : World} {A : Around} {E : Value → Shared → Prop} {s : Shared}
theorem collect_range {R : List Value → Shared → Prop} {r : Addr} {a b c : Int} {t u v : Tok} {n : Nat} (hh : A.handled = none) (hr : IsRange s.heap r a b c t u v) (hsmall : Builtin.Range.small a b c = true) (hn : Builtin.Range.rangeSize a b c = n) (hlen : n ≤ 2 ^ 24)
    (h : ∀ (h' : Heap) (tk : Nat) (vs : List Value), (∀ b o, s.heap.get? b = some o → h'.get? b = some o) → vs.length = n → (∀ (j : Nat) v, vs[j]? = some v → ∃ t, v = .int (a + j * c) t) → R vs { s with heap := h', toks := tk }) :
    wpAny (model prog w) A (collect (.ref r)) R E s :=
  collect_via (P := fun j v => ∃ t, v = .int (a + j * c) t) (fun hR => wpAny_extend_range (s := { s with heap := s.heap.push (seqObj "list" #[] 0) }) hh (Heap.get?_push_of_some _ hr) hsmall hn hlen _ _ 0 (Heap.get?_push_size _ rfl) hR) h
theorem meets_tuple_new_range (r : Addr) (a b c : Int) (t u v : Tok) (n : Nat) (hsmall : Builtin.Range.small a b c = true) (hn : Builtin.Range.rangeSize a b c = n) (hlen : n ≤ 2 ^ 24) (hsz : n ≤ sizeLine) :
    MeetsIn prog w (Builtin.«tuple.__new__» ⟨[.type "tuple", .ref r], []⟩)
      (fun A R s => A.handled = none ∧ IsRange s.heap r a b c t u v ∧ ∀ (h' : Heap) (tk : Nat) (vs : List Value), (∀ b o', s.heap.get? b = some o' → h'.get? b = some o') → vs.length = n → (∀ (j : Nat) v, vs[j]? = some v → ∃ t, v = .int (a + j * c) t) →
        R (.ok (.ret (.ref h'.objs.size))) { s with heap := h'.push { cls := .type "tuple", data := .seq vs.toArray }, toks := tk }) :=
  .of_wp fun A R s h => by
    obtain ⟨hp, g, d, tk, os⟩ := s; obtain ⟨hh, ht, h⟩ := h
    have hsub := sub_tuple_self
    have hinit := init_tuple_lookup
    have hmh := madeHere_tuple
    have hT : Shared.TypeIs ⟨hp, g, d, tk, os⟩ (.ref r) "range" := ⟨_, ht, rfl⟩
    wp_walk using wpAny_loadPart' ht, wpAny_typeOf hT, collect_range (A := A.in1) hh ht hsmall hn hlen
    intro h' tk' vs hk hl hv
    show wpAny _ _ (Builtin.Tuple.tupleExact vs.toArray >>= fun v => ret v) _ _ _
    unfold Builtin.Tuple.tupleExact
    refine wpAny_bind (wpAny_newObj_type ?_ (by show vs.length ≤ sizeLine; exact hl ▸ hsz))
    exact wpAny_pure ⟨_, rfl, h h' tk' vs hk hl hv⟩
theorem call_tuple_range {Q : Value → Shared → Prop} {r : Addr} {a b c : Int} {t u v : Tok} {n : Nat} (hh : A.handled = none) (hr : IsRange s.heap r a b c t u v) (hsmall : Builtin.Range.small a b c = true) (hn : Builtin.Range.rangeSize a b c = n) (hlen : n ≤ 2 ^ 24) (hsz : n ≤ sizeLine)
    (h : ∀ (h' : Heap) (tk : Nat) (vs : List Value), (∀ b o', s.heap.get? b = some o' → h'.get? b = some o') → vs.length = n → (∀ (j : Nat) v, vs[j]? = some v → ∃ t, v = .int (a + j * c) t) → Q (.ref h'.objs.size) { s with heap := h'.push { cls := .type "tuple", data := .seq vs.toArray }, toks := tk }) :
    wpAny (model prog w) A (call (.type "tuple") [.ref r]) Q E s :=
  callType_newIn F.called_tuple (by decide) (F.typeCall_tuple_1 _) (F.newCall_tuple_1 _) (fun obj => F.args_object_init_2 obj _) F.entry_tuple_new
    (meets_tuple_new_range r a b c t u v n hsmall hn hlen hsz) ⟨hh, hr, fun h' tk vs hk hl hv => ⟨⟨_, Heap.get?_push_size _ rfl, rfl⟩, h h' tk vs hk hl hv⟩⟩
end
theorem allD_map (l : List D) : allD (l.map .d) = some l := by
  induction l with
  | nil => rfl
  | cons d l ih => show (allD (l.map .d)).map (d :: ·) = _; rw [ih]; rfl
theorem rangeSize_pos {a b c : Int} (hc : 0 < c) : Builtin.Range.rangeSize a b c = (((b - a + c - 1) / c).toNat : Int) := by
  unfold Builtin.Range.rangeSize
  rw [if_pos hc]
  by_cases h : a < b
  · rw [if_pos h]
    have e : b - a + c - 1 = (b - a - 1) + 1 * c := by omega
    rw [e, Int.add_mul_ediv_right _ _ (Int.ne_of_gt hc), Int.toNat_of_nonneg (Int.add_nonneg (Int.ediv_nonneg (by omega) (Int.le_of_lt hc)) (by decide))]
  · rw [if_neg h, Int.toNat_of_nonpos (Int.lt_add_one_iff.mp (Int.ediv_lt_of_lt_mul hc (by omega)))]
    rfl
theorem rng_small {a b c : Int} (h : rngOk a b c = true) (hc : c < 1000000) : Builtin.Range.small a b c = true :=
  rngOk_k h fun hc0 ha hb hcs hlen => by
    unfold Builtin.Range.small
    rw [rangeSize_pos hc0]
    simp only [Builtin.Range.rangeFitsLong, Bool.and_eq_true, Bool.or_eq_true, decide_eq_true_eq, beq_iff_eq, hc0, if_true]
    unfold lim at hlen
    exact ⟨by omega, .inr (by omega)⟩
section
variable {X : Cx} {F : Fx} {o : Ops} {n : Nat} {st st' : St} {A : Around} {T T' T'' : Sm} {Q E : Value → Shared → Prop} {I : Iota} {c : Bool} {l : List V} {us : List Value} {r : R} {u : Value} {a : Addr} {j : Nat} {b : Bool} {es : List (Int × V)} {kvs : List (Int × Value)} {ds : List D} {P : Heap → Addr → List Int → Prop} {p : R × St} {e : PySem.Expr} {f : Str} {ap pos : Pos}
theorem range_rep {a b c : Int} {vs : List Value} (hl : vs.length = ((b - a + c - 1) / c).toNat) (hv : ∀ (j : Nat) v, vs[j]? = some v → ∃ t, v = .int (a + j * c) t) : All2 (RepD X.I T) ((rangeL a b c).map .int) vs := by
  refine All2.ext (by rw [List.length_map, hl]; exact (List.length_map ..).trans (List.length_range ..) |>.symm) fun j d u e1 e2 => ?_
  obtain ⟨t, rfl⟩ := hv j u e2
  have hj : j < (List.range ((b - a + c - 1) / c).toNat).length := by rw [List.length_range, ← hl]; exact (List.getElem?_eq_some_iff.mp e2).1
  have e1 : (((List.range ((b - a + c - 1) / c).toNat).map fun (i : Nat) => a + i * c).map D.int)[j]? = some d := e1
  rw [List.getElem?_map, List.getElem?_map, List.getElem?_eq_getElem hj, List.getElem_range] at e1
  cases e1
  exact ⟨t, rfl⟩
theorem trng_snd (H : Snd X o n) (HT : Top X) {x : PySem.Expr × PySem.Expr × PySem.Expr} (hA : AOk A n) (hb : isBlt X.G F.fn "range" = true) (he : evRng3 o F.fn x st = some p) (i : Inv X F st T) (k : KR X F T Q p) :
    WP X A (eval (.Call (.Name "range" ap) [x.1, x.2.1, x.2.2] [] pos) F.env) (fun u s => wpAny (model X.prog X.w) A (call (.type "tuple") [u]) Q E s) E T := by
  refine wpAny_Call_Name_kw (blt_name HT hb (v := .type "range") rfl i ?_)
  have hst : backTo pos (starEach [x.1, x.2.1, x.2.2] F.env) = [(false, eval x.1 F.env), (false, eval x.2.1 F.env), (false, eval x.2.2 F.env)] := by
    refine bK he fun a h1 he => bK he fun b h2 he => bK he fun c h3 _ => ?_
    have s1 : ∀ {e : PySem.Expr} {es : List PySem.Expr} {st : St} {q : Int × St}, evInt o F.fn e st = some q → backTo pos (starEach (e :: es) F.env) = (false, eval e F.env) :: backTo pos (starEach es F.env) := fun h => bK h fun _ h _ => bK h fun _ h _ => star1 H h
    rw [s1 h1, s1 h2, s1 h3]
    rfl
  rw [hst]
  refine PySem.callWith_type rfl (evalArgs_plain (spliced_cons (evIntB H hA i he fun qa t₁ T₁ a₁ he => spliced_cons (evIntB H hA a₁.inv he fun qb t₂ T₂ a₂ he => spliced_cons (evIntB H hA a₂.inv he fun qc t₃ T₃ a₃ he => spliced_nil ?_)))))
  refine iK he fun hok he => andK hok fun hok hc => rngOk_k hok fun hc0 _ _ _ hlen => ?_
  refine call_range_3 (Int.ne_of_gt hc0) ?_ (Or.inl (PyProof.noPylong_small (by have := decK hc; omega)))
  have a₄ : Aft X F T₃ qc.2 (T₃.hp (T₃.s.heap.push { cls := .type "range", data := .fields #[.int qa.1 t₁, .int qb.1 t₂, .int qc.1 t₃] }) T₃.s.toks) := .grow a₃.inv (keep_push _ _)
  refine call_tuple_range (s := { T₃.s with heap := T₃.s.heap.push { cls := .type "range", data := .fields #[.int qa.1 t₁, .int qb.1 t₂, .int qc.1 t₃] } }) hA.h (IsRange.new ..) (rng_small hok (decK hc)) (rangeSize_pos hc0) (Nat.le_trans hlen (by decide)) (Nat.le_trans hlen lim_le) fun h' tk vs hk' hl hv => ?_
  have a₅ : Aft X F _ qc.2 ((T₃.hp (T₃.s.heap.push { cls := .type "range", data := .fields #[.int qa.1 t₁, .int qb.1 t₂, .int qc.1 t₃] }) T₃.s.toks).hp h' tk) := .grow a₄.inv hk'
  refine push_tup' (l := ((rangeL qa.1 qb.1 qc.1).map D.int).map V.d) a₅.inv (All2.map.mpr (range_rep hl hv)) (by rw [List.length_map, List.length_map]; exact ((List.length_map ..).trans (List.length_range ..)).symm ▸ hlen) ?_
  have e : mkTup (((rangeL qa.1 qb.1 qc.1).map D.int).map V.d) = .d (.tup ((rangeL qa.1 qb.1 qc.1).map D.int)) := by unfold mkTup; rw [allD_map]; rfl
  rw [e]
  exact (sQ he k).then ((((a₁.trans a₂).trans a₃).trans a₄).trans a₅)
end
open PySem PyProof.Rows PySem.Calls PySem.W PySem.Spec
theorem ifC {c : Bool} {α : Type} {C : α → Prop} {x y : α} (h : c = true → C x) (h' : C y) : C (if c = true then x else y) := by
  cases c with
  | true => exact h rfl
  | false => exact h'
theorem optC {α β : Type} {C : β → Prop} {x : Option α} {f : α → β} {b : β} (h : ∀ a, x = some a → C (f a)) (h' : C b) : C (opt x f b) := by
  cases x with
  | none => exact h'
  | some a => exact h a rfl
noncomputable def Form.Is (G : Gl) (fn : Fn) (e : PySem.Expr) : Form → Prop
  | .items b => ∃ ap pos, mOk b ap pos 0 = true ∧ e = .Call (.Attribute b "items" ap) [] [] pos
  | .union x y => isBlt G fn "set" = true ∧ ∃ p₁ q₁ p₂ q₂ p₃, e = .BinOp (.Call (.Name "set" p₁) [x] [] q₁) .BitOr (.Call (.Name "set" p₂) [y] [] q₂) p₃
  | .rng p => isBlt G fn "range" = true ∧ ∃ ap pos, e = .Call (.Name "range" ap) [p.1, p.2.1, p.2.2] [] pos
  | .plain => True
theorem oneArg_k {g : Str} {e x : PySem.Expr} {C : PySem.Expr → Prop} (h : oneArg g e = some x) (k : ∀ p q, C (.Call (.Name g p) [x] [] q)) : C e :=
  bK h fun fa hf h1 => pK h1 fun hg h2 => asCall_k hf fun p q => by
    obtain ⟨f, as⟩ := fa
    cases hg
    exact one_k (C := fun as => C (.Call (.Name f p) as [] q)) h2 (k p q)
theorem form_is (G : Gl) (fn : Fn) (e : PySem.Expr) : (formOf G fn e).Is G fn e := by
  cases e with
  | Call f as ks pos =>
    cases ks with
    | cons _ _ => exact trivial
    | nil =>
      cases f with
      | Attribute b m ap => exact ifC (C := Form.Is G fn _) (fun h => andK h fun h hok => andK h fun hm ha => by cases decK hm; exact empty_k (C := fun as => Form.Is G fn (.Call (.Attribute b "items" ap) as [] pos) (.items b)) ha ⟨ap, pos, hok, rfl⟩) trivial
      | Name g p => exact optC (C := Form.Is G fn _) (fun a ha => ifC (C := Form.Is G fn _) (fun h => andK h fun hg hb => by cases decK hg; exact three_k (C := fun as => Form.Is G fn (.Call (.Name "range" p) as [] pos) (.rng a)) ha ⟨hb, p, pos, rfl⟩) trivial) trivial
      | _ => exact trivial
  | BinOp l op r p =>
    cases op with
    | BitOr => exact ifC (C := Form.Is G fn _) (fun hb => optC (C := Form.Is G fn _) (fun x hx => optC (C := Form.Is G fn _) (fun y hy => oneArg_k (C := fun l => Form.Is G fn (.BinOp l .BitOr r p) (.union x y)) hx fun p₁ q₁ => oneArg_k (C := fun r => Form.Is G fn (.BinOp (.Call (.Name "set" p₁) [x] [] q₁) .BitOr r p) (.union x y)) hy fun p₂ q₂ => ⟨hb, p₁, q₁, p₂, q₂, p, rfl⟩) trivial) trivial) trivial
    | _ => exact trivial
  | _ => exact trivial
section
variable {X : Cx} {K : Frag} {F : Fx} {o : Ops} {n : Nat} {st st' : St} {A : Around} {T T' T'' : Sm} {Q E : Value → Shared → Prop} {P : Heap → Addr → List Int → Prop} {p : R × St} {e : PySem.Expr} {f : Str} {ap pos : Pos}
theorem form_snd (H : Snd X o n) (HT : Top X) (S : SetG X.prog X.w P) {fm : Form} (hA : AOk A n) (hb : isBlt X.G F.fn f = true) (hf : fm.Is X.G F.fn e) (he : evForm o F.fn f e st fm = some p) (i : Inv X F st T) (k : KR X F T Q p) : WP X A (eval (.Call (.Name f ap) [e] [] pos) F.env) Q E T := by
  cases fm with
  | items b => obtain ⟨ap', pos', hok, rfl⟩ := hf; exact pK he fun hs he => blt1 HT hb (v := .builtin "sorted") (hs ▸ rfl) (.inl ⟨_, rfl⟩) rfl i (items_snd H HT hA hok he i k)
  | union x y => obtain ⟨hB, p₁, q₁, p₂, q₂, p₃, rfl⟩ := hf; exact pK he fun hs he => blt1 HT hb (v := .builtin "sorted") (hs ▸ rfl) (.inl ⟨_, rfl⟩) rfl i (union_snd H HT S hA hB he i k)
  | rng q => obtain ⟨hB, ap', pos', rfl⟩ := hf; exact pK he fun hs he => blt1 HT hb (v := .type "tuple") (hs ▸ rfl) (.inr ⟨_, rfl⟩) rfl i (trng_snd H HT hA hB he i k)
  | plain =>
    exact eK he (fun hs he => bK he fun q h1 he => mQ he k fun σ hσ k => blt1 HT hb (v := .type "dict") (hs ▸ rfl) (.inr ⟨_, rfl⟩) (star1 H h1) i (H.ev hA h1 i fun u T₁ a₁ r₁ => dict_snd HT hA a₁.inv r₁ hσ (k.then a₁)))
      fun he => bK he fun q h1 he => mQ he k fun r hr k => by
        have hv : ∃ v, bltVal.lookup f = some v ∧ ((∃ id, v = .builtin id) ∨ ∃ id, v = .type id) := by
          have q := hr
          exact eK q (fun h _ => ⟨.builtin "len", h ▸ rfl, .inl ⟨_, rfl⟩⟩) fun q => eK q (fun h _ => ⟨.type "list", h ▸ rfl, .inr ⟨_, rfl⟩⟩) fun q => eK q (fun h _ => ⟨.type "tuple", h ▸ rfl, .inr ⟨_, rfl⟩⟩) fun q => eK q (fun h _ => ⟨.builtin "sorted", h ▸ rfl, .inl ⟨_, rfl⟩⟩) fun q => eK q (fun h _ => ⟨.builtin "max", h ▸ rfl, .inl ⟨_, rfl⟩⟩) fun q => nK q
        obtain ⟨v, hv, hform⟩ := hv
        exact blt1 HT hb hv hform (star1 H h1) i (H.ev hA h1 i fun u T₁ a₁ r₁ => bltn_snd HT hA a₁.inv r₁ hr (k.then a₁) fun v' B => by cases hv.symm.trans B.val; exact B.wp)
theorem callN_snd (H : Snd X o n) (HT : Top X) (Y : ClsG X K) (S : SetG X.prog X.w P) {as : List PySem.Expr} (hA : AOk A (n + 1)) (he : evCallN X.G o F.fn f as st = some p) (i : Inv X F st T) (k : KR X F T Q p) : WP X A (eval (.Call (.Name f ap) as [] pos) F.env) Q E T :=
  have hA' : AOk A n := hA.less (Nat.le_succ _)
  iK he fun hx he => eK he (fun hc he => make_snd H HT Y hA hx hc he i k) fun he => oK he (fun g hg he => bK he fun q h1 he => fcall_snd H HT hA' hx hg h1 he i k) fun _ he => iK he fun hb he => bK he fun e h1 he =>
    one_k (C := fun as => WP X A (eval (.Call (.Name f ap) as [] pos) F.env) Q E T) h1 (form_snd H HT S hA' hb (form_is _ _ e) he i k)
theorem attrE_snd (H : Snd X o n) (Y : ClsG X K) {v : PySem.Expr} {a : Str} (hA : AOk A n) (he : evAttr X.G o F.fn v a st = some p) (i : Inv X F st T) (k : KR X F T Q p) : WP X A (eval (.Attribute v a pos) F.env) Q E T :=
  iK he fun hc he => andK hc fun hf hb => by
    unfold WP
    rw [arm_eval_Attribute, base_ok ((Bool.not_eq_true' _).mp hb)]
    exact wpAny_bind (evLocB H hA i he fun q a T₁ a₁ ha he => wpAny_bind (wpAny_standAt (bK he fun fs hc he => mQ he k fun w hw k => wpAny_bind (wpAny_holding (attr_snd Y a₁.inv ha hc hf hw fun u T₂ a₂ r₂ => wpAny_bind (wpAny_letTemporaryGo (wpAny_pure (k u T₂ (a₁.trans a₂) r₂))))))))
theorem ev_snd (H : Snd X o n) (HT : Top X) (Y : ClsG X K) (S : SetG X.prog X.w P) (hA : AOk A (n + 1)) (he : evStep X.G o F.fn e st = some p) (i : Inv X F st T) (k : KR X F T Q p) : WP X A (eval e F.env) Q E T := by
  have hA' : AOk A n := hA.less (Nat.le_succ _)
  cases e with
  | Constant c kk pos => exact const_snd he i k
  | Name x pos => exact name_snd HT he i k
  | List es pos => exact list_snd H hA' he i k
  | Tuple es kk pos => exact tuple_snd H hA' he i k
  | ListComp elt gs sc pos => exact lc_snd H HT hA' he i k
  | Subscript v e pos => exact sub_snd H HT hA' he i k
  | Attribute v a pos => exact attrE_snd H Y hA' he i k
  | BinOp l op rr pos => exact wpAny_BinOp (evB H hA' i he fun q u T₁ a₁ r₁ he => evB H hA' a₁.inv he fun q' u' T₂ a₂ r₂ he => mQ he k fun x hx k => bin_snd HT a₂.inv (r₁.mono a₂) r₂ hx (k.then (a₁.trans a₂)))
  | IfExp t b e pos =>
    exact bK he fun q h1 he => wpAny_IfExp (H.tt hA' h1 i fun T₁ a₁ => by
      revert he
      cases q.1 with
      | true => exact fun he => H.ev hA' he a₁.inv (k.then a₁)
      | false => exact fun he => H.ev hA' he a₁.inv (k.then a₁))
  | UnaryOp op x pos =>
    cases op with
    | USub => exact wpAny_UnaryOp (evIntM H hA' i he k fun q t T₁ a₁ k => PySem.P.neg_int (k _ _ (a₁.trans (.tok a₁.inv _)) ⟨_, rfl⟩))
    | _ => exact nK he
  | Dict ks vs pos =>
    refine iK he fun hc he => andK hc fun h1 h2 => empty_k (C := fun ks => WP X A (eval (.Dict ks vs pos) F.env) Q E T) h1 (empty_k (C := fun vs => WP X A (eval (.Dict [] vs pos) F.env) Q E T) h2 (wpAny_Dict_empty ?_))
    have a₂ : Aft X F T st (T.hp (T.s.heap.push { cls := .type "dict", data := .dict #[] }) T.s.toks) := .grow i (keep_push _ _)
    have hnA := not_al_size T.s.heap
    have a₃ := a₂.new (a := T.s.heap.objs.size) (g := [T.s.heap.objs.size]) (c := .dct false []) (fun b hb => by rw [List.mem_singleton.mp hb]; exact ⟨fun q => hnA (i.mid.fal _ q), fun q => hnA (q.elim i.wal i.faal), hnA⟩) (List.nodup_cons.mpr ⟨List.not_mem_nil, List.nodup_nil⟩) ⟨rfl, [], Heap.DictOf.new T.s.heap, rfl, Nat.zero_le _⟩
    exact sQ he k _ _ a₃ ⟨T.s.heap.objs.size, by show (T.M.ad ++ [T.s.heap.objs.size])[st.store.length]? = _; rw [← i.mid.la]; exact List.getElem?_concat_length, rfl⟩
  | Call f as kws pos =>
    cases kws with
    | cons _ _ => exact nK he
    | nil =>
      cases f with
      | Name x px => exact callN_snd H HT Y S hA he i k
      | Attribute b m ap => exact iK he fun hok he => meth_snd H HT Y hA' hok he i k
      | _ => exact nK he
  | _ => exact nK he
theorem snd (HT : Top X) (Y : ClsG X K) (S : SetG X.prog X.w P) : ∀ n, Snd X (run X.G n) n := by
  have key : ∀ n, Snd X (run X.G n) n ∧ ∀ fn, LCs X (run X.G n) n fn := by
    intro n
    induction n with
    | zero => exact ⟨⟨fun _ _ _ _ => rfl, fun _ _ _ _ _ => rfl, fun _ _ _ _ _ _ => rfl, fun _ _ _ _ _ _ _ => rfl, fun _ h => nK h, fun _ h => nK h, fun _ h => nK h, fun _ h => nK h⟩, fun _ _ _ _ _ _ _ h => nK h⟩
    | succ n ih =>
      obtain ⟨H, HE⟩ := ih
      exact ⟨⟨fun _ _ _ _ => rfl, fun _ _ _ _ _ => rfl, fun _ _ _ _ _ _ => rfl, fun _ _ _ _ _ _ _ => rfl, fun hA h i k => ev_snd H HT Y S hA h i k, fun hA h i k => tt_snd H HT (hA.less (Nat.le_succ _)) h i k, fun hA h i k => ex_snd H HT Y (HE _) (hA.less (Nat.le_succ _)) h i k, fun hA h hf m hr k => call_snd H HT hA h hf m hr k⟩, fun fn _ _ _ _ _ _ h => ⟨run X.G n, n, Nat.le_succ _, H, h⟩⟩
  exact fun n => (key n).1
end
open PySem
abbrev pw : Program := Challenge.pw_sx_r033_1
noncomputable def fnOf (hm sh : Bool) (mv : List Str) : Stmt → Fn
  | .FunctionDef _ a b _ _ _ sc _ _ _ => ⟨a.args.map (·.arg), b, sc.names, hm, sh, mv⟩
  | _ => ⟨[], [], [], hm, sh, mv⟩
noncomputable def clsB : Stmt → List Stmt
  | .ClassDef _ _ _ b _ _ _ _ _ _ _ => b
  | _ => []
noncomputable def topAt (k : Nat) : Stmt := pw.main.body[k]?.getD (.Pass default)
noncomputable def mthAt (k : Nat) : Stmt := (clsB (topAt 1))[k]?.getD (.Pass default)
noncomputable def litD : Nat → PySem.Expr → D
  | _, .Constant (.int i) _ _ => .int i
  | _, .Constant (.str s) _ _ => .str s
  | n+1, .UnaryOp .USub x _ => match litD n x with | .int i => .int (-i) | _ => .none
  | n+1, .Tuple es _ _ => .tup (es.map (litD n))
  | n+1, .List es _ => .lst (es.map (litD n))
  | _, _ => .none
noncomputable def valOf : Stmt → D
  | .Assign _ e _ => litD 10 e
  | _ => .none
noncomputable def fInit : Fn := fnOf true true [] (mthAt 0)
noncomputable def fOut : Fn := fnOf true true [] (mthAt 1)
noncomputable def fNew : Fn := fnOf true true [] (mthAt 2)
noncomputable def fChild : Fn := fnOf true true [] (mthAt 3)
noncomputable def fTPut : Fn := fnOf true true [] (mthAt 4)
noncomputable def fPutIn : Fn := fnOf true true [] (mthAt 5)
noncomputable def fTRemove : Fn := fnOf true true [] (mthAt 6)
noncomputable def fRemIn : Fn := fnOf true true [] (mthAt 7)
noncomputable def fGet : Fn := fnOf false false [] (topAt 2)
noncomputable def fPairs : Fn := fnOf false true [] (topAt 3)
noncomputable def fScan : Fn := fnOf false false [] (topAt 4)
noncomputable def fPut : Fn := fnOf false false [] (topAt 5)
noncomputable def fRemove : Fn := fnOf false false [] (topAt 6)
noncomputable def fChanges : Fn := fnOf false false ["out"] (topAt 7)
noncomputable def fReplay : Fn := fnOf false false [] (topAt 8)
noncomputable def fPlay : Fn := fnOf false false [] (topAt 9)
noncomputable def fLTree : Fn := fnOf false false ["pages"] (topAt 15)
noncomputable def fLActs : Fn := fnOf false true ["acts"] (topAt 16)
noncomputable def fLDiff : Fn := fnOf false false ["out"] (topAt 17)
noncomputable def fLHold : Fn := fnOf false false [] (topAt 18)
noncomputable def fLFlush : Fn := fnOf false false [] (topAt 19)
noncomputable def fLaw : Fn := fnOf false false ["acts", "past"] (topAt 20)
noncomputable def mods : List Int := [1, 3, 3, 12, 4, 3, 16, 4, 3, 10, 10, 3, 20, 28, 12, 18]
noncomputable def G (rs : List Int) : Gl where
  fns := [("get", fGet), ("_pairs", fPairs), ("scan", fScan), ("put", fPut), ("remove", fRemove), ("changes", fChanges), ("replay", fReplay), ("play", fPlay), ("_law_tree", fLTree), ("_law_acts", fLActs), ("_law_diff", fLDiff), ("_law_hold", fLHold), ("_law_flush", fLFlush), ("law", fLaw)]
  meths := [("out", fOut), ("new", fNew), ("child", fChild), ("put", fTPut), ("put_in", fPutIn), ("remove", fTRemove), ("remove_in", fRemIn)]
  cls := "_Tree"
  init := fInit
  tabs := [("_law_values", valOf (topAt 11)), ("_law_holds", valOf (topAt 12)), ("_law_starts", valOf (topAt 13)), ("_law_cases", valOf (topAt 14))]
  flds := ["pages", "root"]
  gap := rs.getD 1 0 + 2
  md := fun j => mods.getD j 0
  res := fun j => rs.getD j 0
open PySem PyProof.Rows PySem.Calls PySem.W
theorem zip_look {ns : List Str} (hn : ns.Nodup) : ∀ {vs : List Value}, vs.length = ns.length → (ns.filter fun n => ((ns.zip vs).lookup n).isNone) = [] ∧ (ns.filterMap fun n => ((ns.zip vs).lookup n).map (n, ·)) = ns.zip vs := by
  have key : ∀ (ns : List Str), ns.Nodup → ∀ (vs : List Value), vs.length = ns.length → (∀ n ∈ ns, ((ns.zip vs).lookup n).isNone = false) ∧ (ns.filterMap fun n => ((ns.zip vs).lookup n).map (n, ·)) = ns.zip vs := by
    intro ns
    induction ns with
    | nil => intro _ vs _; exact ⟨nofun, rfl⟩
    | cons x ns ih =>
      intro hn vs hl
      cases vs with
      | nil => cases hl
      | cons v vs =>
        have hx : ∀ n ∈ ns, (n == x) = false := fun n h => beq_eq_false_iff_ne.mpr fun e => (List.nodup_cons.mp hn).1 (e ▸ h)
        have q := ih (List.nodup_cons.mp hn).2 vs (Nat.succ.inj hl)
        have lk : ∀ n ∈ ns, ((x :: ns).zip (v :: vs)).lookup n = (ns.zip vs).lookup n := fun n h => by
          show (match n == x with | true => some v | false => (ns.zip vs).lookup n) = _
          rw [hx n h]
        have lx : ((x :: ns).zip (v :: vs)).lookup x = some v := by
          show (match x == x with | true => some v | false => (ns.zip vs).lookup x) = _
          rw [beq_self_eq_true]
        refine ⟨fun n h => ?_, ?_⟩
        · cases List.mem_cons.mp h with
          | inl e => rw [e, lx]; rfl
          | inr h => rw [lk n h]; exact q.1 n h
        · rw [List.filterMap_cons, lx]
          show (x, v) :: _ = (x, v) :: _
          refine congrArg _ (Eq.trans ?_ q.2)
          have : ∀ (l : List Str), (∀ n ∈ l, n ∈ ns) → (l.filterMap fun n => (((x :: ns).zip (v :: vs)).lookup n).map (n, ·)) = l.filterMap fun n => ((ns.zip vs).lookup n).map (n, ·) := by
            intro l
            induction l with
            | nil => exact fun _ => rfl
            | cons y l ih => exact fun h => by rw [List.filterMap_cons, List.filterMap_cons, lk y (h y List.mem_cons_self), ih fun n hn => h n (List.mem_cons_of_mem _ hn)]
          exact this ns fun _ h => h
  intro vs hl
  refine ⟨List.filter_eq_nil_iff.mpr fun n h => by rw [(key ns hn vs hl).1 n h]; exact Bool.false_ne_true, (key ns hn vs hl).2⟩
noncomputable def plainA (a : Arguments) : Bool := a.posonlyargs.isEmpty && a.kwonlyargs.isEmpty && a.vararg.isNone && a.kwarg.isNone
theorem for_nil {α β γ : Type} {L : List α} {i : β} {f : α → β → Sem (ForInStep β)} {k : β → Sem γ} {y : Sem γ} (h : L = []) (e : k i = y) : (forIn L i f >>= k) = y := by subst h; exact e
theorem bind_core {nm qn : Str} {ar : List Arg} {kd df bd sc gl cl kk dc pm an co ct bl} {ns : List Str} (vs : List Value) (hs : ar.map Arg.arg = ns) (hl : vs.length = ns.length) (z1 : (ns.filter fun n => ((ns.zip vs).lookup n).isNone) = []) : bindArgs ⟨nm, qn, ⟨[], ar, none, [], kd, none, df⟩, bd, sc, gl, cl, .none, kk, dc, pm, an, co, ct, bl⟩ ⟨vs, []⟩ = pure (ns.filterMap fun n => ((ns.zip vs).lookup n).map (n, ·)) := by
  subst hs
  have hlt : ¬ (decide (vs.length > (ar.map Arg.arg).length) && true) = true := fun h => Nat.lt_irrefl _ (hl ▸ of_decide_eq_true (Bool.and_eq_true_iff.mp h).1)
  have hms : ∀ k, ¬ (!(((ar.map Arg.arg).take ((ar.map Arg.arg).length - (List.drop k ([] : List Value)).length)).filter fun n => (((ar.map Arg.arg).zip vs).lookup n).isNone).isEmpty) = true := fun k => by
    rw [List.drop_nil, show (ar.map Arg.arg).length - ([] : List Value).length = (ar.map Arg.arg).length from rfl, List.take_length, z1]
    exact Bool.noConfusion
  refine (if_neg hlt).trans ((if_neg (hms _)).trans (for_nil ?_ ?_))
  · exact (congrArg _ List.drop_nil).trans List.zip_nil_right
  · exact congrArg (fun l => (pure (List.filterMap (fun n => (((ar.map Arg.arg).zip vs).lookup n).map (n, ·)) l) : Sem (List (Str × Value)))) (List.append_nil (ar.map Arg.arg))
theorem bind_plain {fd : FuncData} (hp : plainA fd.params = true) (hd : fd.defaults = .none) (hn : (fd.params.args.map (·.arg)).Nodup) (vs : List Value) (hl : vs.length = (fd.params.args.map (·.arg)).length) : bindArgs fd ⟨vs, []⟩ = pure ((fd.params.args.map (·.arg)).zip vs) := by
  have z := zip_look hn hl
  refine Eq.trans ?_ (congrArg pure z.2)
  have z1 := z.1
  clear z hn
  generalize hs : fd.params.args.map (·.arg) = ns at *
  obtain ⟨nm, qn, ⟨po, ar, va, ko, kd, ka, df⟩, bd, sc, gl, cl, dd, kk, dc, pm, an, co, ct, bl⟩ := fd
  cases hd
  cases po with
  | cons _ _ => exact Bool.noConfusion hp
  | nil =>
    cases ko with
    | cons _ _ => exact Bool.noConfusion hp
    | nil =>
      cases va with
      | some _ => exact Bool.noConfusion hp
      | none =>
        cases ka with
        | some _ => exact Bool.noConfusion hp
        | none => exact bind_core vs hs hl z1
open PySem PyProof.Rows PySem.Calls PySem.W
structure FSeen where
  body : FuncBody
  params : Arguments
  scope : Scope
  glb : Addr
  clo : List (Str × Addr)
  dfl : Value
  blt : Addr
  code : Bool
noncomputable def strIs (q : Str) : Option Value → Bool
  | some (.str q' _) => decide (q' = q)
  | _ => false
noncomputable def codeD (q : Str) : Data → Bool
  | .fields vs => strIs q vs[1]?
  | _ => false
noncomputable def codeOk (h : Heap) (cd : Value) (q : Str) : Bool := match cd with
  | .ref c => opt (h.get? c) (fun o => codeD q o.data) false
  | _ => false
noncomputable def fSeenD (h : Heap) : Data → Option FSeen
  | .func fd => some ⟨fd.body, fd.params, fd.scope, fd.globals, fd.closure, fd.defaults, fd.builtins, codeOk h fd.code fd.qualname⟩
  | _ => .none
noncomputable def refA : Option Value → Option Addr
  | some (.ref a) => some a
  | _ => .none
noncomputable def fSeen (h : Heap) (v : Option Value) : Option FSeen := (refA v).bind fun a => (h.get? a).bind fun o => fSeenD h o.data
noncomputable def fWant : Stmt → Option FSeen
  | .FunctionDef _ a b _ _ _ sc _ _ _ => some ⟨.stmts b, a, sc, mainGlobals, [], .none, builtinsNs, true⟩
  | _ => .none
noncomputable def nodS : List Str → Bool
  | [] => true
  | x :: r => !r.contains x && nodS r
theorem nodS_k : ∀ {l : List Str}, nodS l = true → l.Nodup := by
  intro l
  induction l with
  | nil => exact fun _ => List.nodup_nil
  | cons x l ih => exact fun h => andK h fun h1 h2 => List.nodup_cons.mpr ⟨fun m => absurd (List.contains_iff_mem.mpr m) (by rw [(Bool.not_eq_true' _).mp h1]; exact Bool.false_ne_true), ih h2⟩
noncomputable def isFnK : ScopeKind → Bool
  | .function => true
  | _ => false
noncomputable def fnOk : Stmt → Bool
  | .FunctionDef _ a b _ _ _ sc _ _ _ => plainA a && nodS (a.args.map (·.arg)) && isFnK sc.kind && (sc.names.lookup ("__debug__" : Str)).isNone && (sc.names.lookup ("__classdict__" : Str)).isNone && !sc.isCoroutine && !sc.isGenerator &&
      (a.args.map (·.arg)).all (fun x => sc.names.lookup x == some .local || sc.names.lookup x == some .cell) && nodS (sc.names.map (·.1)) && sc.names.all (fun x => !(x.2 == .free))
  | _ => false
theorem fK {P : Prop} (h : false = true) : P := Bool.noConfusion h
theorem strIs_k {q : Str} {v : Option Value} (e : strIs q v = true) : ∃ t, v = some (.str q t) := by
  cases v with
  | none => exact fK e
  | some v =>
    cases v with
    | str q' t => exact ⟨t, by rw [show q' = q from decK e]⟩
    | _ => exact fK e
theorem codeD_k {q : Str} {d : Data} (e : codeD q d = true) : ∃ vs t, d = .fields vs ∧ vs[1]? = some (.str q t) := by
  cases d with
  | fields vs =>
    obtain ⟨t, r⟩ := strIs_k e
    exact ⟨vs, t, rfl, r⟩
  | _ => exact fK e
theorem codeOk_k {h : Heap} {cd : Value} {q : Str} (e : codeOk h cd q = true) : h.CodeRec cd q := by
  cases cd with
  | ref c =>
    have e : opt (h.get? c) (fun o => codeD q o.data) false = true := e
    cases ho : h.get? c with
    | none => rw [ho] at e; exact fK e
    | some oc =>
      rw [ho] at e
      obtain ⟨vs, t, h1, h2⟩ := codeD_k e
      exact ⟨c, oc, vs, t, rfl, ho, h1, h2⟩
  | _ => exact fK e
theorem fSeenD_k {h : Heap} {d : Data} {x : FSeen} (e : fSeenD h d = some x) : ∃ fd, d = .func fd ∧ x = ⟨fd.body, fd.params, fd.scope, fd.globals, fd.closure, fd.defaults, fd.builtins, codeOk h fd.code fd.qualname⟩ := by
  cases d with
  | func fd => exact ⟨fd, rfl, (Option.some.inj e).symm⟩
  | _ => exact nK e
theorem refA_k {v : Option Value} {a : Addr} (h : refA v = some a) : v = some (.ref a) := by
  cases v with
  | none => exact nK h
  | some v =>
    cases v with
    | ref b => exact congrArg (fun x => some (Value.ref x)) (Option.some.inj h)
    | _ => exact nK h
theorem isFnK_k {k : ScopeKind} (h : isFnK k = true) : k = .function := by
  cases k with
  | function => rfl
  | _ => exact fK h
theorem fn_at {h : Heap} {v : Option Value} {st : Stmt} {hm sh : Bool} {mv : List Str} (hk : fnOk st = true) (e : fSeen h v = fWant st) : ∃ a o fd, v = some (.ref a) ∧ FnAt h a (fnOf hm sh mv st) o fd := by
  cases st with
  | FunctionDef nm a b ds rt tp sc ts bd pos =>
    refine bK e fun ad hv e => bK e fun o ho e => ?_
    obtain ⟨fd, hd, e⟩ := fSeenD_k e
    have e1 : FuncBody.stmts b = fd.body := congrArg FSeen.body e
    have e2 : a = fd.params := congrArg FSeen.params e
    have e3 : sc = fd.scope := congrArg FSeen.scope e
    have e4 : mainGlobals = fd.globals := congrArg FSeen.glb e
    have e5 : [] = fd.closure := congrArg FSeen.clo e
    have e6 : Value.none = fd.defaults := congrArg FSeen.dfl e
    have e7 : builtinsNs = fd.builtins := congrArg FSeen.blt e
    have e8 : true = codeOk h fd.code fd.qualname := congrArg FSeen.code e
    refine andK hk fun hk h10 => andK hk fun hk h9 => andK hk fun hk h8 => andK hk fun hk h7 => andK hk fun hk h6 => andK hk fun hk h5 => andK hk fun hk h4 => andK hk fun hk h3 => andK hk fun h1 h2 => ?_
    exact ⟨ad, o, fd, refA_k hv, ⟨ho, hd, e1.symm, congrArg Scope.names e3.symm, e3 ▸ isFnK_k h3, ⟨Option.isNone_iff_eq_none.mp h4, Option.isNone_iff_eq_none.mp h5⟩, e3 ▸ (Bool.not_eq_true' _).mp h6, e3 ▸ (Bool.not_eq_true' _).mp h7, e5.symm, e4.symm, e7.symm, codeOk_k e8.symm, fun vs hl => by
      have q := bind_plain (fd := fd) (e2 ▸ h1) e6.symm (e2 ▸ nodS_k h2) vs (e2 ▸ hl)
      rw [← e2] at q
      exact q, h8, nodS_k h9, h10, nodS_k h2⟩⟩
  | _ => exact fK hk
noncomputable def seqD : Data → Option (List Value × Nat)
  | .seq xs n => some (xs.toList, n)
  | _ => .none
noncomputable def isTy (ty : String) : Value → Bool
  | .type t => decide (t = ty)
  | _ => false
noncomputable def isSeqD (ty : String) (o : Obj) : Option (List Value) := if (isTy ty o.cls && o.dict.isNone && o.slots.isEmpty) = true then (seqD o.data).map (·.1) else .none
mutual
noncomputable def repO (h : Heap) : D → Value → Bool
  | .none, v => (match v with | .none => true | _ => false)
  | .bool _, _ => false
  | .int i, v => (match v with | .int j _ => decide (i = j) | _ => false)
  | .key _, _ => false
  | .raw _ _, _ => false
  | .str s, v => (match v with | .str s' _ => decide (s = s') && PyData.strOk s | _ => false)
  | .tup l, v => opt (refA (some v)) (fun a => opt ((h.get? a).bind (isSeqD "tuple")) (fun us => decide (l.length ≤ lim) && repOs h l us) false) false
  | .lst l, v => opt (refA (some v)) (fun a => opt ((h.get? a).bind (isSeqD "list")) (fun us => decide (l.length ≤ lim) && repOs h l us) false) false
noncomputable def repOs (h : Heap) : List D → List Value → Bool
  | [], us => us.isEmpty
  | d :: r, us => (match us with | u :: us => repO h d u && repOs h r us | [] => false)
end
theorem isTy_k {ty : String} {v : Value} (h : isTy ty v = true) : v = .type ty := by
  cases v with
  | type t => exact congrArg Value.type (decK h)
  | _ => exact fK h
theorem seqD_k {d : Data} {p : List Value × Nat} (h : seqD d = some p) : d = .seq p.1.toArray p.2 := by
  cases d with
  | seq xs n => cases h; rfl
  | _ => exact nK h
theorem isSeqD_k {ty : String} {o : Obj} {us : List Value} (h : isSeqD ty o = some us) : ∃ n, o = seqObj ty us.toArray n :=
  iK h fun hc h => andK hc fun hc h3 => andK hc fun h1 h2 => mK (C := fun us => ∃ n, o = seqObj ty us.toArray n) h fun p hp => ⟨p.2, by
    obtain ⟨c, d, dt, sl⟩ := o
    cases isTy_k h1
    cases Option.isNone_iff_eq_none.mp h2
    cases seqD_k hp
    cases Array.isEmpty_iff.mp h3
    rfl⟩
theorem ref_k {v : Value} {a : Addr} (h : refA (some v) = some a) : v = .ref a := Option.some.inj (refA_k h)
theorem opt_k {α : Type} {x : Option α} {f : α → Bool} (h : opt x f false = true) : ∃ a, x = some a ∧ f a = true := by
  cases x with
  | none => exact nomatch h
  | some a => exact ⟨a, rfl, h⟩
mutual
theorem repO_k {h : Heap} {I : Iota} {T : Sm} (hk : ∀ b o, h.get? b = some o → T.s.heap.get? b = some o) (hF : ∀ a, Al h a → T.M.F a) : ∀ (d : D) {v : Value}, repO h d v = true → RepD I T d v
  | .none, v, e => by cases v <;> first | exact rfl | exact nomatch e
  | .bool _, v, e => nomatch e
  | .int i, v, e => by
    cases v with
    | int j t => exact ⟨t, by rw [show i = j from decK e]⟩
    | _ => exact nomatch e
  | .key _, v, e => nomatch e
  | .raw _ _, v, e => nomatch e
  | .str s, v, e => by
    cases v with
    | str s' t => exact andK e fun h1 h2 => ⟨t, by rw [show s = s' from decK h1], h2⟩
    | _ => exact nomatch e
  | .tup l, v, e => by
    obtain ⟨a, ha, e⟩ := opt_k e
    obtain ⟨us, hu, e⟩ := opt_k e
    refine bK hu fun o ho hu => andK e fun h1 h2 => ?_
    obtain ⟨n, rfl⟩ := isSeqD_k hu
    exact ⟨a, us, ref_k ha, hF a ⟨_, ho⟩, ⟨n, hk _ _ ho⟩, decK h1, repOs_k hk hF l h2⟩
  | .lst l, v, e => by
    obtain ⟨a, ha, e⟩ := opt_k e
    obtain ⟨us, hu, e⟩ := opt_k e
    refine bK hu fun o ho hu => andK e fun h1 h2 => ?_
    obtain ⟨n, rfl⟩ := isSeqD_k hu
    exact ⟨a, us, ref_k ha, hF a ⟨_, ho⟩, ⟨n, hk _ _ ho⟩, decK h1, repOs_k hk hF l h2⟩
theorem repOs_k {h : Heap} {I : Iota} {T : Sm} (hk : ∀ b o, h.get? b = some o → T.s.heap.get? b = some o) (hF : ∀ a, Al h a → T.M.F a) : ∀ (l : List D) {us : List Value}, repOs h l us = true → RepDs I T l us
  | [], us, e => List.isEmpty_iff.mp e
  | d :: r, us, e => by
    cases us with
    | nil => exact nomatch e
    | cons u us => exact andK e fun h1 h2 => ⟨u, us, rfl, repO_k hk hF d h1, repOs_k hk hF r h2⟩
end
open PySem PyProof.Rows PySem.Calls PySem.W
structure FE where
  x : Str
  hm : Bool
  sh : Bool
  mv : List Str
  st : Stmt
noncomputable def FE.fn (e : FE) : Fn := fnOf e.hm e.sh e.mv e.st
noncomputable def fes : List FE := [⟨"get", false, false, [], topAt 2⟩, ⟨"_pairs", false, true, [], topAt 3⟩, ⟨"scan", false, false, [], topAt 4⟩, ⟨"put", false, false, [], topAt 5⟩, ⟨"remove", false, false, [], topAt 6⟩, ⟨"changes", false, false, ["out"], topAt 7⟩, ⟨"replay", false, false, [], topAt 8⟩, ⟨"play", false, false, [], topAt 9⟩,
  ⟨"_law_tree", false, false, ["pages"], topAt 15⟩, ⟨"_law_acts", false, true, ["acts"], topAt 16⟩, ⟨"_law_diff", false, false, ["out"], topAt 17⟩, ⟨"_law_hold", false, false, [], topAt 18⟩, ⟨"_law_flush", false, false, [], topAt 19⟩, ⟨"law", false, false, ["acts", "past"], topAt 20⟩]
noncomputable def mes : List FE := [⟨"out", true, true, [], mthAt 1⟩, ⟨"new", true, true, [], mthAt 2⟩, ⟨"child", true, true, [], mthAt 3⟩, ⟨"put", true, true, [], mthAt 4⟩, ⟨"put_in", true, true, [], mthAt 5⟩, ⟨"remove", true, true, [], mthAt 6⟩, ⟨"remove_in", true, true, [], mthAt 7⟩]
noncomputable def mnames : List Str := "__init__" :: mes.map (·.x)
noncomputable def clsA (h : Heap) : Option Addr := refA (h.nsMap mainGlobals "_Tree")
noncomputable def nsOfO : Obj → Addr
  | ⟨_, _, .cls cd, _⟩ => cd.ns
  | _ => 0
noncomputable def fragAt (h : Heap) (as : List Addr) : Frag := as.filterMap fun a => (h.get? a).map fun o => (a, o)
noncomputable def kOf (h : Heap) (C : Addr) : Frag := fragAt h (C :: opt (h.get? C) nsOfO 0 :: mnames.filterMap fun m => refA (h.nsMap (opt (h.get? C) nsOfO 0) m))
noncomputable def foundV (K : Frag) (C : Addr) (m : Str) : Option Value := match findIn K (.ref C) m with
  | some v => v
  | .none => .none
noncomputable def oo (x : Option (Option Value)) (y : Option (Option Value)) : Bool := decide (x = y)
noncomputable def ov (x : Option Value) (y : Option Value) : Bool := decide (x = y)
noncomputable def fieldsN : List Str := ["pages", "root"]
noncomputable def tabsD : List (Str × D) := [("_law_values", valOf (topAt 11)), ("_law_holds", valOf (topAt 12)), ("_law_starts", valOf (topAt 13)), ("_law_cases", valOf (topAt 14))]
noncomputable def clsB1 (h : Heap) (C : Addr) : Bool :=
  keepIn (kOf h C) (.ref C) && oo (findIn (kOf h C) (.ref C) "__getattribute__") (some (some (.builtin "object.__getattribute__"))) && oo (findIn (kOf h C) (.ref C) "__getattr__") (some .none) && oo (findIn (kOf h C) (.ref C) "__setattr__") (some (some (.builtin "object.__setattr__"))) &&
  plainOver (kOf h C) C && hasDictIn (kOf h C) C && makesIn (kOf h C) C && fieldsN.all (fun a => oo (findIn (kOf h C) (.ref C) a) (some .none)) &&
  mnames.all (fun m => opt (refA (foundV (kOf h C) C m)) (fun a => ov (typeIn (kOf h C) (.ref a)) (some (.type "function"))) false)
noncomputable def topB (h : Heap) : Bool :=
  h.isNs mainGlobals && h.isNs builtinsNs && h.isNs cStatics && (h.nsMap cStatics "sys.recursionlimit").isNone && (h.get? sysModules).isSome &&
  tabsD.all (fun p => opt (h.nsMap mainGlobals p.1) (repO h p.2) false) && bltVal.all (fun p => (h.nsMap mainGlobals p.1).isNone && ov (h.nsMap builtinsNs p.1) (some p.2)) && opt (clsA h) (clsB1 h) false
noncomputable def obsF (h : Heap) : List (Option FSeen) := fes.map (fun e => fSeen h (h.nsMap mainGlobals e.x)) ++ (fSeen h (foundV (kOf h ((clsA h).getD 0)) ((clsA h).getD 0) "__init__") :: mes.map fun e => fSeen h (foundV (kOf h ((clsA h).getD 0)) ((clsA h).getD 0) e.x))
noncomputable def wantF : List (Option FSeen) := fes.map (fun e => fWant e.st) ++ (fWant (mthAt 0) :: mes.map fun e => fWant e.st)
noncomputable def obsN (s : Shared) : Bool × List (Option FSeen) := (topB s.heap, obsF s.heap)
theorem frag_in {h : Heap} {as : List Addr} : (fragAt h as).In h := by
  intro a o e
  induction as with
  | nil => cases e
  | cons b as ih =>
    unfold fragAt at e ih
    rw [List.filterMap_cons] at e
    cases hb : h.get? b with
    | none => rw [hb] at e; exact ih e
    | some ob =>
      rw [hb] at e
      have e : (match a == b with | true => some ob | false => List.lookup a (as.filterMap fun a => (h.get? a).map fun o => (a, o))) = some o := e
      cases hab : a == b with
      | true => rw [hab] at e; cases e; rw [beq_iff_eq.mp hab]; exact hb
      | false => rw [hab] at e; exact ih e
theorem oo_k {x y : Option (Option Value)} (h : oo x y = true) : x = y := decK h
theorem ov_k {x y : Option Value} (h : ov x y = true) : x = y := decK h
theorem lookE {x : Str} {f : Fn} : ∀ {l : List FE}, lookS x (l.map fun e => (e.x, e.fn)) = some f → ∃ e ∈ l, x = e.x ∧ f = e.fn := by
  intro l
  induction l with
  | nil => exact fun h => nomatch h
  | cons e l ih =>
    intro h
    have h : (if x = e.x then some e.fn else lookS x (l.map fun e => (e.x, e.fn))) = some f := h
    exact eK h (fun hx h => by cases h; exact ⟨e, List.mem_cons_self, hx, rfl⟩) fun h => (ih h).imp fun e q => ⟨List.mem_cons_of_mem _ q.1, q.2⟩
theorem mapE {l : List FE} {g g' : FE → Option FSeen} : ∀ {r r' : List (Option FSeen)}, l.map g ++ r = l.map g' ++ r' → (∀ e ∈ l, g e = g' e) ∧ r = r' := by
  induction l with
  | nil => exact fun h => ⟨nofun, h⟩
  | cons e l ih =>
    intro r r' h
    injection h with h1 h2
    exact ⟨fun e' he => (List.mem_cons.mp he).elim (fun q => q ▸ h1) ((ih h2).1 e'), (ih h2).2⟩
theorem fes_ok : ∀ e ∈ fes, fnOk e.st = true := List.all_eq_true.mp (by decide +kernel : fes.all (fun e => fnOk e.st) = true)
theorem mes_ok : ∀ e ∈ mes, fnOk e.st = true := List.all_eq_true.mp (by decide +kernel : mes.all (fun e => fnOk e.st) = true)
theorem ini_ok : fnOk (mthAt 0) = true := by decide +kernel
theorem mes_fld : ∀ e ∈ mes, e.x ∉ fieldsN := fun e he q => absurd (List.contains_iff_mem.mpr q) (by rw [(Bool.not_eq_true' _).mp (List.all_eq_true.mp (by decide +kernel : mes.all (fun e => !fieldsN.contains e.x) = true) e he)]; exact Bool.false_ne_true)
theorem fes_cls : ∀ e ∈ fes, e.x ≠ "_Tree" := fun e he q => absurd (decide_eq_true q) (by rw [(Bool.not_eq_true' _).mp (List.all_eq_true.mp (by decide +kernel : fes.all (fun e => !decide (e.x = "_Tree")) = true) e he)]; exact Bool.false_ne_true)
theorem lookT {x : Str} {d : D} : ∀ {l : List (Str × D)}, lookS x l = some d → (x, d) ∈ l := by
  intro l
  induction l with
  | nil => exact fun h => nomatch h
  | cons p l ih =>
    intro h
    exact eK (h : (if x = p.1 then some p.2 else lookS x l) = some d) (fun hx h => by cases h; cases hx; exact List.mem_cons_self) fun h => List.mem_cons_of_mem _ (ih h)
theorem lookB {x : Str} {v : Value} : ∀ {l : List (Str × Value)}, l.lookup x = some v → (x, v) ∈ l := by
  intro l
  induction l with
  | nil => exact fun h => nomatch h
  | cons p l ih =>
    intro h
    have h : (match x == p.1 with | true => some p.2 | false => l.lookup x) = some v := h
    cases hx : x == p.1 with
    | true => rw [hx] at h; cases h; rw [beq_iff_eq.mp hx]; exact List.mem_cons_self
    | false => rw [hx] at h; exact List.mem_cons_of_mem _ (ih h)
noncomputable def cx (w : World) (h : Heap) (C : Addr) (mg mb : Str → Option Value) (I : Iota) (rs : List Int) : Cx := ⟨pw, w, C, h, I, G rs, mg, mb⟩
structure IOk (I : Iota) (rs : List Int) : Prop where
  gap : 2 ≤ I.gap
  ggap : (G rs).gap = I.gap
  res : ∀ j, (G rs).res j = I.raw j % (G rs).md j
noncomputable def Says (w : World) (h : Heap) : Prop := ∃ C K mg mb, ∀ I rs, IOk I rs → Top (cx w h C mg mb I rs) ∧ ClsG (cx w h C mg mb I rs) K
theorem foundV_k {K : Frag} {C : Addr} {m : Str} {a : Addr} (h : foundV K C m = some (.ref a)) : findIn K (.ref C) m = some (some (.ref a)) := by
  unfold foundV at h
  cases hf : findIn K (.ref C) m with
  | none => rw [hf] at h; exact nomatch h
  | some v => rw [hf] at h; exact congrArg some h
theorem says_of (w : World) (s : Shared) (e : obsN s = (true, wantF)) : Says w s.heap := by
  have hT : topB s.heap = true := congrArg (·.1) e
  have hF : obsF s.heap = wantF := congrArg (·.2) e
  obtain ⟨f1, f2⟩ := mapE hF
  injection f2 with f2 f3
  obtain ⟨f3, _⟩ := mapE (l := mes) (r := []) (r' := []) ((List.append_nil _).trans (f3.trans (List.append_nil _).symm))
  refine andK hT fun hT h8 => andK hT fun hT h7 => andK hT fun hT h6 => andK hT fun hT h5 => andK hT fun hT h4 => andK hT fun hT h3 => andK hT fun h1 h2 => ?_
  obtain ⟨C, hC, hB⟩ := opt_k h8
  rw [hC] at f2 f3
  refine andK hB fun hB c9 => andK hB fun hB c8 => andK hB fun hB c7 => andK hB fun hB c6 => andK hB fun hB c5 => andK hB fun hB c4 => andK hB fun hB c3 => andK hB fun c1 c2 => ?_
  have cn : s.heap.nsMap mainGlobals "_Tree" = some (.ref C) := by
    revert hC
    unfold clsA
    cases s.heap.nsMap mainGlobals "_Tree" with
    | none => exact fun h => nomatch h
    | some v => exact fun h => congrArg some (ref_k h)
  have typ : ∀ {m : Str} {a : Addr}, m ∈ mnames → foundV (kOf s.heap C) C m = some (.ref a) → typeIn (kOf s.heap C) (.ref a) = some (.type "function") := fun {m a} hm hf => by
    have q := List.all_eq_true.mp c9 m hm
    rw [hf] at q
    exact ov_k q
  refine ⟨C, kOf s.heap C, s.heap.nsMap mainGlobals, s.heap.nsMap builtinsNs, fun I rs hI => ⟨⟨hI.gap, hI.ggap, hI.res, ⟨_, .of_isNs h3, Option.isNone_iff_eq_none.mp h4⟩, .of_isNs h1, .of_isNs h2, fun x d hx => ?_, fun x f hx => ?_, fun x v hx _ _ _ => ?_, Option.isSome_iff_exists.mp h5⟩, ⟨frag_in, cn, c1, oo_k c2, oo_k c3, oo_k c4, c5, c6, c7, fun a ha => oo_k (List.all_eq_true.mp c8 a ha), ?_, fun m f hm => ?_, fun x f hx => ?_⟩⟩⟩
  · obtain ⟨v, hv, hr⟩ := opt_k (List.all_eq_true.mp h6 _ (lookT (l := tabsD) hx))
    exact ⟨v, hv, fun hk hF => repO_k hk hF d hr⟩
  · obtain ⟨e, he, rfl, rfl⟩ := lookE (l := fes) hx
    obtain ⟨a, o, fd, q1, q2⟩ := fn_at (hm := e.hm) (sh := e.sh) (mv := e.mv) (fes_ok e he) (f1 e he)
    exact ⟨a, o, fd, q1, q2⟩
  · exact andK (List.all_eq_true.mp h7 _ (lookB hx)) fun a b => ⟨Option.isNone_iff_eq_none.mp a, ov_k b⟩
  · obtain ⟨a, o, fd, q1, q2⟩ := fn_at (hm := true) (sh := true) (mv := []) ini_ok f2
    exact ⟨a, o, fd, foundV_k q1, typ List.mem_cons_self q1, q2⟩
  · obtain ⟨e, he, rfl, rfl⟩ := lookE (l := mes) hm
    obtain ⟨a, o, fd, q1, q2⟩ := fn_at (hm := e.hm) (sh := e.sh) (mv := e.mv) (mes_ok e he) (f3 e he)
    exact ⟨a, o, fd, foundV_k q1, typ (List.mem_cons_of_mem _ (List.mem_map_of_mem he)) q1, q2, mes_fld e he⟩
  · obtain ⟨e, he, rfl, _⟩ := lookE (l := fes) hx
    exact fes_cls e he
theorem says_keeps (w : World) (h h' : Heap) (x : Says w h) (k : ∀ b o, h.get? b = some o → h'.get? b = some o) : Says w h' := by
  obtain ⟨C, K, mg, mb, x⟩ := x
  refine ⟨C, K, mg, mb, fun I rs hI => ?_⟩
  obtain ⟨HT, Y⟩ := x I rs hI
  exact ⟨⟨HT.gap, HT.ggap, HT.res, HT.nolim.keeps k, HT.g.keeps k, HT.b.keeps k, fun x d hx => (HT.tabs x d hx).imp fun v q => ⟨q.1, fun hk hF => q.2 (fun b o e => hk b o (k b o e)) fun a ha => hF a (ha.imp fun o e => k a o e)⟩, fun x f hx => (HT.fns x f hx).imp fun a q => q.imp fun o q => q.imp fun fd q => ⟨q.1, q.2.keeps k⟩, HT.blt, HT.sysm.imp fun o e => k _ o e⟩,
    ⟨Y.inB.keeps k, Y.nm, Y.keep, Y.ga, Y.gn, Y.sa, Y.po, Y.hd, Y.mks, Y.fld, Y.ini.imp fun a q => q.imp fun o q => q.imp fun fd q => ⟨q.1, q.2.1, q.2.2.keeps k⟩, fun m f hm => (Y.mth m f hm).imp fun a q => q.imp fun o q => q.imp fun fd q => ⟨q.1, q.2.1, q.2.2.1.keeps k, q.2.2.2⟩, Y.fin⟩⟩
open PySem PyProof.Rows PySem.Calls PySem.W
noncomputable def qv : Program := { pw with main := { pw.main with body := [topAt 20] } }
noncomputable def loose : List Str := ["_Tree", "get", "_pairs", "scan", "put", "remove", "changes", "replay", "play", "_law_values", "_law_holds", "_law_starts", "_law_cases", "_law_tree", "_law_acts", "_law_diff", "_law_hold", "_law_flush"]
noncomputable def recD : Stmt → DefRec
  | .FunctionDef n a b _ _ _ sc _ _ pos => ⟨n, a, b, sc, pos⟩
  | _ => ⟨"", default, [], default, default⟩
noncomputable def dLaw : DefRec := recD (topAt 20)
theorem left : LeftO pw qv loose (fun s => recOk [] s) obsN (fun _ => (true, wantF)) 4150 := by
  intro w
  kernel_rfl
theorem head (call : WalkO qv loose (fun _ _ => True) Says Challenge.rw_sx_r033_1.row.toRowW dLaw [] fun f vs => PySem.call f vs) : Challenge.rw_sx_r033_1.Holds := by
  refine PySem.W.holds_law (by kernel_rfl) fun hsaid => ?_
  exact PySem.W.holds_open (r := Challenge.rw_sx_r033_1.row) (q := qv) (loose := loose) (Xt := fun s => recOk [] s) (XP := fun _ _ => True) (Yf := obsN) (Ya := fun _ => (true, wantF)) (YP := Says) (N := 4150) left says_of says_keeps (fun _ _ => trivial) (fun _ _ _ _ _ => trivial) (by kernel_rfl) (by kernel_rfl) (by kernel_rfl) (fun s e => recFacts_of e) (by rfl) (by assumption) (by decide +kernel) ⟨rfl, rfl, rfl, rfl, rfl, by decide +kernel⟩ ⟨[.list []], by decide +kernel, by decide +kernel⟩ call
end Mine
namespace Mine.U
open PySem
theorem bnd {α β : Type} {x : Option α} {a : α} {f : α → Option β} {y : Option β} (h : x = some a) (k : f a = y) : x.bind f = y := by subst h; exact k
theorem mpd {α β : Type} {x : Option α} {a : α} {f : α → β} {y : β} (h : x = some a) (k : f a = y) : x.map f = some y := by subst h k; rfl
theorem opn {α β : Type} {x : Option α} {f : α → β} {b y : β} (h : x = .none) (k : b = y) : opt x f b = y := by subst h; exact k
theorem ops {α β : Type} {x : Option α} {a : α} {f : α → β} {b y : β} (h : x = some a) (k : f a = y) : opt x f b = y := by subst h; exact k
theorem ift {β : Type} {b : Bool} {x z y : β} (h : b = true) (k : x = y) : (if b = true then x else z) = y := by subst h; exact k
theorem ifp {β : Type} {c : Prop} [Decidable c] {x z y : β} (h : c) (k : x = y) : (if c then x else z) = y := by rw [if_pos h]; exact k
theorem ifn {β : Type} {c : Prop} [Decidable c] {x z y : β} (h : ¬ c) (k : z = y) : (if c then x else z) = y := by rw [if_neg h]; exact k
noncomputable def stAt (fn : Fn) (k : Nat) : Stmt := fn.body[k]?.getD (.Pass default)
noncomputable def at' (l : List Stmt) (k : Nat) : Stmt := l[k]?.getD (.Pass default)
noncomputable def bOf : Stmt → List Stmt
  | .For _ _ b _ _ => b
  | .While _ b _ _ => b
  | .If _ b _ _ => b
  | _ => []
noncomputable def elOf : Stmt → List Stmt
  | .If _ _ e _ => e
  | _ => []
noncomputable def tOf : Stmt → PySem.Expr
  | .If t _ _ _ => t
  | .While t _ _ _ => t
  | _ => .Constant .none 0 default
section
variable (G : Gl) (fn : Fn) (K : Nat)
noncomputable def Ev (e : PySem.Expr) (st : St) (r : R) (st' : St) : Prop := ∀ n, (run G (n + K)).ev fn e st = some (r, st')
noncomputable def Tt (e : PySem.Expr) (st : St) (b : Bool) (st' : St) : Prop := ∀ n, (run G (n + K)).tt fn e st = some (b, st')
noncomputable def Ex (ss : List Stmt) (st : St) (fl : Fl) (st' : St) : Prop := ∀ n, (run G (n + K)).ex fn ss st = some (fl, st')
noncomputable def X1 (s : Stmt) (st : St) (fl : Fl) (st' : St) : Prop := ∀ n, exOne G (run G (n + K)) fn s st = some (fl, st')
noncomputable def Cl (vs : List V) (σ : List Cell) (r : R) (σ' : List Cell) : Prop := ∀ n, (run G (n + K)).call fn vs σ = some (r, σ')
noncomputable def Kp (b : Bool) (e : PySem.Expr) (st : St) (v : V) (st' : St) : Prop := ∀ n, evK (run G (n + K)) b fn e st = some (v, st')
noncomputable def Sl (es : List PySem.Expr) (st : St) (vs : List V) (st' : St) : Prop := ∀ n, evSs (run G (n + K)) fn es st = some (vs, st')
noncomputable def Ws (us es : List PySem.Expr) (st : St) (vs : List V) (st' : St) : Prop := ∀ n, evWs (run G (n + K)) fn us es st = some (vs, st')
noncomputable def To (t : PySem.Expr) (v : V) (st st' : St) : Prop := ∀ n, store1 G (run G (n + K)) fn t v st = some st'
noncomputable def Tos (ts : List PySem.Expr) (vs : List V) (st st' : St) : Prop := ∀ n, stores G (run G (n + K)) fn ts vs st = some st'
noncomputable def ItE (e : PySem.Expr) (st : St) (l : It) (st' : St) : Prop := ∀ n, evIter G (run G (n + K)) fn e st = some (l, st')
noncomputable def Lp (t : Tg) (body : List Stmt) (l : List V) (st st' : St) : Prop := ∀ n, forLoop' (run G (n + K)) fn t body l st = some st'
noncomputable def Ret (k : Nat) (xs : List (Str × V)) (σ : List Cell) (r : R) : Prop := ∃ r' st', (∀ n, (run G (n + K)).ex fn (fn.body.drop k) ⟨xs, σ⟩ = some (.ret r', st')) ∧ freezeR st'.store r' = some r
end
section
variable {G : Gl} {fn f : Fn} {K K' : Nat} {st st' st₁ st₂ st₃ : St} {r r₁ r₂ : R} {σ σ₁ σ₂ σ' : List Cell} {xs ys zs xs' : List (Str × V)} {e l t : PySem.Expr} {es us : List PySem.Expr} {p q pos : Pos} {v w : V} {vs : List V} {b c : Bool} {d : D} {fl : Fl} {s : Stmt} {ss body : List Stmt} {x y : Str}
theorem up (hk : K ≤ K') {P : Nat → Prop} (h : ∀ n, P (n + K)) : ∀ n, P (n + K') := fun n => by
  have := h (n + (K' - K))
  rwa [show n + (K' - K) + K = n + K' from by omega] at this
theorem Ev.up (h : Ev G fn K e st r st') (hk : K ≤ K') : Ev G fn K' e st r st' := Mine.U.up hk (P := fun n => (run G n).ev fn e st = some (r, st')) h
theorem Tt.up (h : Tt G fn K e st b st') (hk : K ≤ K') : Tt G fn K' e st b st' := Mine.U.up hk (P := fun n => (run G n).tt fn e st = some (b, st')) h
theorem Ex.up (h : Ex G fn K ss st fl st') (hk : K ≤ K') : Ex G fn K' ss st fl st' := Mine.U.up hk (P := fun n => (run G n).ex fn ss st = some (fl, st')) h
theorem X1.up (h : X1 G fn K s st fl st') (hk : K ≤ K') : X1 G fn K' s st fl st' := Mine.U.up hk (P := fun n => exOne G (run G n) fn s st = some (fl, st')) h
theorem Cl.up (h : Cl G f K vs σ r σ') (hk : K ≤ K') : Cl G f K' vs σ r σ' := Mine.U.up hk (P := fun n => (run G n).call f vs σ = some (r, σ')) h
noncomputable def Sees (xs ys : List (Str × V)) : Prop := ∀ x v, lookS x ys = some v → lookS x xs = some v
theorem Sees.refl : Sees xs xs := fun _ _ h => h
theorem Sees.nil : Sees xs [] := fun _ _ h => nomatch h
theorem Sees.cons (h : lookS x xs = some v) (k : Sees xs ys) : Sees xs ((x, v) :: ys) := fun z w e => by
  simp only [lookS] at e
  split at e
  · rename_i hz; cases e; rw [hz]; exact h
  · exact k z w e
theorem Sees.trans (h : Sees xs ys) (k : Sees ys zs) : Sees xs zs := fun x v e => h x v (k x v e)
theorem lk_same {α : Type} {x : Str} {v : α} : ∀ {xs : List (Str × α)}, lookS x (setS x v xs) = some v
  | [] => by simp [setS, lookS]
  | (y, w) :: r => by
    simp only [setS]
    split
    · simp [lookS]
    · rename_i e
      simp only [lookS, if_neg e]
      exact lk_same
theorem lk_ne {α : Type} {x y : Str} {v : α} (h : x ≠ y) : ∀ {xs : List (Str × α)}, lookS x (setS y v xs) = lookS x xs
  | [] => by simp [setS, lookS, h]
  | (z, w) :: r => by
    simp only [setS]
    split
    · rename_i e; subst e; simp [lookS, h]
    · simp only [lookS]
      split
      · rfl
      · exact lk_ne h
theorem Sees.set (h : Sees xs ys) : Sees (setS x v xs) (setS x v ys) := fun z w e => by
  by_cases hz : z = x
  · subst hz; rw [lk_same] at e ⊢; exact e
  · rw [lk_ne hz] at e ⊢; exact h z w e
theorem Sees.put (h : Sees xs ys) (k : setS x v ys = zs) : Sees (setS x v xs) zs := k ▸ h.set
theorem Sees.other (h : Sees xs ys) (k : lookS x ys = .none) : Sees (setS x v xs) ys := fun z w e => by
  by_cases hz : z = x
  · subst hz; rw [k] at e; cases e
  · rw [lk_ne hz]; exact h z w e
noncomputable def isLoc : Option NameKind → Bool
  | some .local => true
  | some .cell => true
  | some .free => true
  | _ => false
theorem pn (h : Sees xs ys) (hk : isLoc (fn.names.lookup x) = true) (hl : lookS x ys = some v) : Ev G fn (K+1) (.Name x p) ⟨xs, σ⟩ (.val v) ⟨xs, σ⟩ := fun n => by
  show evName G fn x ⟨xs, σ⟩ = _
  unfold evName
  cases e : fn.names.lookup x with
  | none => rw [e] at hk; cases hk
  | some k => cases k <;> first | (rw [e] at hk; cases hk; done) | exact mpd (h x v hl) rfl
theorem ev_bin {op : Operator} {l e : PySem.Expr} {a b x : R} (h1 : Ev G fn K l st a st₁) (h2 : Ev G fn K e st₁ b st₂) (h3 : binR G st₂.store op a b = some x) : Ev G fn (K+1) (.BinOp l op e p) st x st₂ := fun n => bnd (h1 n) (bnd (h2 n) (mpd h3 rfl))
theorem ev_idx {s : PySem.Expr} {i : R} (hs : asSlc s = .none) (h1 : Ev G fn K e st r st₁) (h2 : Ev G fn K s st₁ i st₂) (h3 : getR st₂.store r i = some w) : Ev G fn (K+1) (.Subscript e s p) st (.val w) st₂ := fun n => opn hs (bnd (h1 n) (bnd (h2 n) (mpd h3 rfl)))
theorem ev_slc {a b : Option PySem.Expr} {i j : Option Int} (h1 : Ev G fn K e st r st₁) (h2 : ∀ n, optI (run G (n+K)) fn a st₁ = some (i, st₂)) (h3 : ∀ n, optI (run G (n+K)) fn b st₂ = some (j, st₃)) (h4 : slcR st₃.store r i j = some r₁) : Ev G fn (K+1) (.Subscript e (.Slice a b .none q) p) st r₁ st₃ := fun n => bnd (h1 n) (bnd (h2 n) (bnd (h3 n) (mpd h4 rfl)))
theorem op_none {n : Nat} : optI (run G n) fn .none st = some (.none, st) := rfl
theorem op_some {i : Int} (h : Ev G fn K e st (.val (.d (.int i))) st₁) : ∀ n, optI (run G (n+K)) fn (some e) st = some (some i, st₁) := fun n => mpd (bnd (bnd (h n) rfl) rfl) rfl
theorem ev_list (h : Sl G fn K es st vs st₁) (hl : es.length ≤ lim) : Ev G fn (K+1) (.List es p) st (.fresh vs) st₁ := fun n => ifp hl (mpd (h n) rfl)
theorem ev_tup {k : Nat} (h : Sl G fn K es st vs st₁) (hv : mkTup vs = v) (hl : es.length ≤ lim) : Ev G fn (K+1) (.Tuple es k p) st (.val v) st₁ := fun n => ifp hl (mpd (h n) (by rw [hv]))
theorem sl_nil : Sl G fn K [] st [] st := fun n => rfl
theorem sl_cons (h : Kp G fn K fn.hm e st v st₁) (k : Sl G fn K es st₁ vs st₂) : Sl G fn K (e :: es) st (v :: vs) st₂ := fun n => bnd (h n) (mpd (k n) rfl)
theorem kp_val (h : Ev G fn K e st (.val v) st₁) : Kp G fn K b e st v st₁ := fun n => bnd (h n) rfl
theorem kp_fz {l : List V} {ds : List D} (h : Ev G fn K e st (.fresh l) st₁) (hb : b = false) (hd : allD l = some ds) : Kp G fn K b e st (.d (.lst ds)) st₁ := fun n => by subst hb; exact bnd (h n) (mpd hd rfl)
theorem kp_new {l : List V} (h : Ev G fn K e st (.fresh l) ⟨xs, σ⟩) (hb : b = true) : Kp G fn K b e st (.loc σ.length) ⟨xs, σ ++ [.lst l]⟩ := fun n => by subst hb; exact bnd (h n) rfl
theorem allD_d : ∀ l : List D, allD (l.map V.d) = some l
  | [] => rfl
  | x :: r => by
    simp only [List.map_cons, allD, allD_d r]
    rfl
theorem ev_str {k : Nat} {x : Str} (h : PyData.strOk x = true) : Ev G fn (K+1) (.Constant (.str x) k p) st (.val (.d (.str x))) st := fun n => ift h rfl
theorem ev_int {k : Nat} {i : Int} : Ev G fn (K+1) (.Constant (.int i) k p) st (.val (.d (.int i))) st := fun n => rfl
theorem ev_no {k : Nat} : Ev G fn (K+1) (.Constant .none k p) st (.val (.d .none)) st := fun n => rfl
theorem ev_fn {us : List V} (hx : isFun fn x = true) (hc : x ≠ G.cls) (hf : lookS x G.fns = some f) (hs : f.sh = false) (ha : Sl G fn K es st vs ⟨xs, σ⟩) (hp : pureArgs vs σ = some (us, σ')) (hcall : Cl G f K us [] r []) :
    Ev G fn (K+1) (.Call (.Name x q) es [] p) st r ⟨xs, σ'⟩ := fun n => by
  refine ift hx (ifn hc (ops hf (bnd (ha n) ?_)))
  show cond f.sh _ _ = _
  rw [hs]
  exact bnd hp (bnd (hcall n) rfl)
theorem ev_fnS (hx : isFun fn x = true) (hc : x ≠ G.cls) (hf : lookS x G.fns = some f) (hs : f.sh = true) (ha : Sl G fn K es st vs ⟨xs, σ⟩) (hcall : Cl G f K vs σ r σ') :
    Ev G fn (K+1) (.Call (.Name x q) es [] p) st r ⟨xs, σ'⟩ := fun n => by
  refine ift hx (ifn hc (ops hf (bnd (ha n) ?_)))
  show cond f.sh _ _ = _
  rw [hs]
  exact mpd (hcall n) rfl
theorem ev_b1 (hE : ∀ n, evCallN G (run G (n+K)) fn x [e] st = evBlt1 (run G (n+K)) fn x e st) (h : Ev G fn K e st r st₁) (hb : bltn st₁.store x r = some r₁) : Ev G fn (K+1) (.Call (.Name x q) [e] [] p) st r₁ st₁ := fun n => (hE n).trans (bnd (h n) (mpd hb rfl))
theorem ev_dict (hE : ∀ n, evCallN G (run G (n+K)) fn "dict" [e] st = evDct (run G (n+K)) fn e st) (h : Ev G fn K e st r ⟨xs, σ⟩) {l : List V} {prs : List (Int × V)} (hl : lstOf σ r = some l) (hp : prsOf (clsOf l) l = some prs) : Ev G fn (K+1) (.Call (.Name "dict" q) [e] [] p) st (.val (.loc σ.length)) ⟨xs, σ ++ [.dct (clsOf l) (mkDct prs)]⟩ := fun n => (hE n).trans (bnd (h n) (mpd (bnd hl (mpd hp rfl)) rfl))
theorem ev_items {ap : Pos} {dd : Bool × List (Int × V)} {l l' : List D} (hE : ∀ n, evCallN G (run G (n+K)) fn "sorted" [.Call (.Attribute e "items" ap) [] [] q] st = evItems (run G (n+K)) fn e st) (h : Ev G fn K e st r st₁) (hd : dctOf st₁.store r = some dd) (hi : itemsD dd.1 dd.2 = some l) (hs : srtD l = some l') : Ev G fn (K+1) (.Call (.Name "sorted" p) [.Call (.Attribute e "items" ap) [] [] q] [] pos) st (.fresh (l'.map .d)) st₁ := fun n => (hE n).trans (bnd (h n) (bnd hd (bnd hi (mpd hs rfl))))
theorem ev_lm {m : Str} {ap : Pos} {i : Nat} {l₀ l : List V} (hok : mOk e ap pos es.length = true) (hb : Ev G fn K e st (.val (.loc i)) st₁) (hs : st₁.store[i]? = some (.lst l₀)) (ha : Sl G fn K es st₁ vs ⟨xs, σ⟩) (hs' : σ[i]? = some (.lst l)) (hc : lmeth σ i l m vs = some (r, σ')) : Ev G fn (K+1) (.Call (.Attribute e m ap) es [] pos) st r ⟨xs, σ'⟩ := fun n => by
  refine ift hok (bnd (bnd (hb n) rfl) (bnd (ha n) ?_))
  show (if (kindC m st₁.store[i]? == kindD σ[i]?) = true then methC G _ i m vs ⟨xs, σ⟩ σ[i]? else .none) = _
  rw [hs, hs']
  exact mpd hc rfl
theorem ev_dm {m : Str} {ap : Pos} {i : Nat} {b₀ b : Bool} {l₀ l : List (Int × V)} (hok : mOk e ap pos es.length = true) (hb : Ev G fn K e st (.val (.loc i)) st₁) (hs : st₁.store[i]? = some (.dct b₀ l₀)) (ha : Sl G fn K es st₁ vs ⟨xs, σ⟩) (hs' : σ[i]? = some (.dct b l)) (hc : dmeth σ i b l m vs = some (r, σ')) : Ev G fn (K+1) (.Call (.Attribute e m ap) es [] pos) st r ⟨xs, σ'⟩ := fun n => by
  refine ift hok (bnd (bnd (hb n) rfl) (bnd (ha n) ?_))
  show (if (kindC m st₁.store[i]? == kindD σ[i]?) = true then methC G _ i m vs ⟨xs, σ⟩ σ[i]? else .none) = _
  rw [hs, hs']
  exact mpd hc rfl
theorem tt_cmp {op : CmpOp} {l : PySem.Expr} (hop : ∀ n, cmp2 (run G (n+K)) fn l op e st = ((run G (n+K)).ev fn l st).bind fun p => ((run G (n+K)).ev fn e p.2).bind fun q => (cmpR op q.2.store p.1 q.1).map fun b => (b, q.2)) (h1 : Ev G fn K l st r₁ st₁) (h2 : Ev G fn K e st₁ r₂ st₂) (h3 : cmpR op st₂.store r₁ r₂ = some b) : Tt G fn (K+1) (.Compare l [op] [e] p) st b st₂ := fun n => (hop n).trans (bnd (h1 n) (bnd (h2 n) (mpd h3 rfl)))
theorem tt_in {l : PySem.Expr} (h1 : Ev G fn K l st r₁ st₁) (h2 : Ev G fn K e st₁ r₂ st₂) (h3 : isIn st₂.store r₁ r₂ = some b) : Tt G fn (K+1) (.Compare l [.In] [e] p) st b st₂ := fun n => bnd (h1 n) (bnd (h2 n) (mpd h3 rfl))
theorem tt_nin {l : PySem.Expr} (h1 : Ev G fn K l st r₁ st₁) (h2 : Ev G fn K e st₁ r₂ st₂) (h3 : isIn st₂.store r₁ r₂ = some c) (hb : (!c) = b) : Tt G fn (K+1) (.Compare l [.NotIn] [e] p) st b st₂ := fun n => bnd (h1 n) (bnd (h2 n) (mpd h3 (by rw [hb])))
theorem tt_val (hE : ∀ n, (run G (n+(K+1))).tt fn e st = ttV (run G (n+K)) fn e st) (h : Ev G fn K e st r st₁) (ht : truth st₁.store r = some b) : Tt G fn (K+1) e st b st₁ := fun n => (hE n).trans (bnd (h n) (mpd ht rfl))
theorem tt_not (h : Tt G fn K e st c st₁) (hb : (!c) = b) : Tt G fn (K+1) (.UnaryOp .Not e p) st b st₁ := fun n => mpd (h n) (by rw [hb])
theorem tt_and (h : ∀ n, allTt (run G (n+K)) fn .And es st = some (b, st₁)) : Tt G fn (K+1) (.BoolOp .And es p) st b st₁ := h
theorem tt_or (h : ∀ n, allTt (run G (n+K)) fn .Or es st = some (b, st₁)) : Tt G fn (K+1) (.BoolOp .Or es p) st b st₁ := h
theorem a_t (h : Tt G fn K e st true st₁) (k : ∀ n, allTt (run G (n+K)) fn .And es st₁ = some (b, st₂)) : ∀ n, allTt (run G (n+K)) fn .And (e :: es) st = some (b, st₂) := fun n => bnd (h n) (k n)
theorem a_f (h : Tt G fn K e st false st₁) : ∀ n, allTt (run G (n+K)) fn .And (e :: es) st = some (false, st₁) := fun n => bnd (h n) rfl
theorem a_l (h : Tt G fn K e st b st₁) : ∀ n, allTt (run G (n+K)) fn .And [e] st = some (b, st₁) := fun n => by
  refine bnd (h n) ?_
  cases b <;> rfl
theorem o_f (h : Tt G fn K e st false st₁) (k : ∀ n, allTt (run G (n+K)) fn .Or es st₁ = some (b, st₂)) : ∀ n, allTt (run G (n+K)) fn .Or (e :: es) st = some (b, st₂) := fun n => bnd (h n) (k n)
theorem o_t (h : Tt G fn K e st true st₁) : ∀ n, allTt (run G (n+K)) fn .Or (e :: es) st = some (true, st₁) := fun n => bnd (h n) rfl
theorem o_l (h : Tt G fn K e st b st₁) : ∀ n, allTt (run G (n+K)) fn .Or [e] st = some (b, st₁) := fun n => by
  refine bnd (h n) ?_
  cases b <;> rfl
theorem x_nil : Ex G fn (K+1) [] st .next st := fun n => rfl
theorem x_cons (h : X1 G fn K s st .next st₁) (k : Ex G fn K ss st₁ fl st₂) : Ex G fn (K+1) (s :: ss) st fl st₂ := fun n => bnd (h n) (k n)
theorem x_ret (h : X1 G fn K s st (.ret r) st₁) : Ex G fn (K+1) (s :: ss) st (.ret r) st₁ := fun n => bnd (h n) rfl
theorem x_retE (h : Ev G fn K e st r st₁) : X1 G fn K (.Return (some e) p) st (.ret r) st₁ := fun n => mpd (h n) rfl
theorem x_ift {b₁ b₂ : List Stmt} (h : Tt G fn K t st true st₁) (k : Ex G fn K b₁ st₁ fl st₂) : X1 G fn K (.If t b₁ b₂ p) st fl st₂ := fun n => bnd (h n) (k n)
theorem x_iff {b₁ b₂ : List Stmt} (h : Tt G fn K t st false st₁) (k : Ex G fn K b₂ st₁ fl st₂) : X1 G fn K (.If t b₁ b₂ p) st fl st₂ := fun n => bnd (h n) (k n)
theorem x_asgN (h : Kp G fn K (wants fn (.Name x p)) e st v ⟨xs, σ⟩) (hc : canSet fn x = true) : X1 G fn K (.Assign [.Name x p] e q) st .next ⟨setS x v xs, σ⟩ := fun n => mpd (bnd (h n) (ift hc rfl)) rfl
theorem x_asgT {k1 k2 : Nat} {p1 p2 : Pos} (ht : tgtOk us = true) (hc : es.all (constantsAlone 8) = false) (h : Ws G fn K us es st vs st₁) (k : Tos G fn K us vs st₁ st₂) : X1 G fn K (.Assign [.Tuple us k1 p1] (.Tuple es k2 p2) q) st .next st₂ := fun n => by
  refine mpd (a := st₂) (ift ht ?_) rfl
  show cond (es.all (constantsAlone 8)) _ _ = _
  rw [hc]
  exact bnd (h n) (k n)
theorem x_asgU {k1 : Nat} {p1 : Pos} {l : List V} (ht : tgtOk us = true) (hn : asTup e = .none) (h : Kp G fn K false e st v st₁) (hv : tupV v = some l) (k : Tos G fn K us l st₁ st₂) : X1 G fn K (.Assign [.Tuple us k1 p1] e q) st .next st₂ := fun n => mpd (a := st₂) (ift ht (opn hn (bnd (h n) (bnd hv (k n))))) rfl
theorem x_asgI {i : PySem.Expr} (h : Kp G fn K (wants fn (.Subscript t i p)) e st v st₁) (k : To G fn K (.Subscript t i p) v st₁ st₂) : X1 G fn K (.Assign [.Subscript t i p] e q) st .next st₂ := fun n => mpd (bnd (h n) (k n)) rfl
theorem ws_nil : Ws G fn K [] [] st [] st := fun n => rfl
theorem ws_cons (h : Kp G fn K (wants fn t) e st v st₁) (k : Ws G fn K us es st₁ vs st₂) : Ws G fn K (t :: us) (e :: es) st (v :: vs) st₂ := fun n => bnd (h n) (mpd (k n) rfl)
theorem tos_nil : Tos G fn K [] [] st st := fun n => rfl
theorem tos_cons (h : To G fn K t v st st₁) (k : Tos G fn K us vs st₁ st₂) : Tos G fn K (t :: us) (v :: vs) st st₂ := fun n => bnd (h n) (k n)
theorem to_name (hc : canSet fn x = true) : To G fn K (.Name x p) v ⟨xs, σ⟩ ⟨setS x v xs, σ⟩ := fun n => ift hc rfl
theorem to_item {i : PySem.Expr} {m : Nat} {k : Bool × Int} {dk : D} (h1 : Ev G fn K t st (.val (.loc m)) st₁) (h2 : Ev G fn K i st₁ (.val (.d dk)) ⟨xs, σ⟩) (hk : numD dk = some k) (h3 : setC σ m k v σ[m]? = some σ') : To G fn K (.Subscript t i p) v st ⟨xs, σ'⟩ := fun n => bnd (bnd (h1 n) rfl) (bnd (bnd (h2 n) (mpd hk rfl)) (mpd h3 rfl))
theorem x_expr (hl : isLC e = false) (h : Ev G fn K e st r st₁) : X1 G fn K (.Expr e p) st .next st₁ := fun n => by
  show (if isLC e = true then _ else _) = _
  rw [hl]
  exact mpd (h n) rfl
theorem x_for {it : PySem.Expr} {l : It} {tg : Tg} (h : ItE G fn K it st l st₁) (ht : asTg t = some tg) (hk : tgOk fn l.pr tg = true) (k : Lp G fn K tg body l.items st₁ st₂) : X1 G fn K (.For t it body [] p) st .next st₂ := fun n => bnd (h n) (bnd ht (ift hk (mpd (k n) rfl)))
theorem lp_nil {tg : Tg} : Lp G fn K tg body [] st st := fun n => rfl
theorem lp_cons {tg : Tg} (hb : bindT tg v st = some st₁) (h : Ex G fn K body st₁ .next st₂) (k : Lp G fn K tg body vs st₂ st₃) : Lp G fn K tg body (v :: vs) st st₃ := fun n => bnd hb (bnd (h n) (k n))
theorem it_ev {l : List V} (hE : ∀ n, evIter G (run G (n+K)) fn e st = evIter0 (run G (n+K)) fn e st) (h : Ev G fn K e st r ⟨xs, σ⟩) (hi : iterR σ r = some (l, σ')) : ItE G fn K e st ⟨l, false⟩ ⟨xs, σ'⟩ := fun n => (hE n).trans (bnd (h n) (mpd hi rfl))
theorem it_enum (hE : ∀ n, evIter G (run G (n+K)) fn (.Call (.Name "enumerate" p) [e] [] q) st = evEnum (run G (n+K)) fn [e] st) {l : List V} (h : Ev G fn K e st r ⟨xs, σ⟩) (hi : iterL σ r = some (l, σ')) : ItE G fn K (.Call (.Name "enumerate" p) [e] [] q) st ⟨enumL 0 l, true⟩ ⟨xs, σ'⟩ := fun n => (hE n).trans (bnd rfl (bnd (h n) (mpd hi rfl)))
theorem c_own (hl : vs.length = f.params.length) (hs : f.sh = false) (h : Ret G f K 0 (f.params.zip vs) [] r) : Cl G f (K+1) vs [] r [] := fun n => by
  obtain ⟨r', st', h, hf⟩ := h
  refine ifp hl ?_
  rw [hs]
  exact bnd (h n) (mpd hf rfl)
theorem r_at {k : Nat} (hk : decide (k < fn.body.length) = true) : fn.body.drop k = stAt fn k :: fn.body.drop (k + 1) := by
  have hk := of_decide_eq_true hk
  rw [List.drop_eq_getElem_cons hk, show fn.body[k] = stAt fn k from by unfold stAt; rw [List.getElem?_eq_getElem hk]; rfl]
theorem r_step {k : Nat} (hk : decide (k < fn.body.length) = true) (h : X1 G fn K (stAt fn k) ⟨xs, σ⟩ .next ⟨xs', σ'⟩) (r' : Ret G fn K (k+1) xs' σ' r) : Ret G fn (K+1) k xs σ r := by
  obtain ⟨r'', st', r', hf⟩ := r'
  refine ⟨r'', st', fun n => ?_, hf⟩
  rw [r_at hk]
  exact bnd (h n) (r' n)
theorem r_ret {k : Nat} (hk : decide (k < fn.body.length) = true) (h : X1 G fn K (stAt fn k) ⟨xs, σ⟩ (.ret r₁) st') (hf : freezeR st'.store r₁ = some r) : Ret G fn (K+1) k xs σ r := by
  refine ⟨r₁, st', fun n => ?_, hf⟩
  rw [r_at hk]
  exact bnd (h n) rfl
theorem Ret.up {k : Nat} (h : Ret G fn K k xs σ r) (hk : K ≤ K') : Ret G fn K' k xs σ r := by
  obtain ⟨r', st', h, hf⟩ := h
  exact ⟨r', st', Mine.U.up hk (P := fun n => (run G n).ex fn (fn.body.drop k) ⟨xs, σ⟩ = some (.ret r', st')) h, hf⟩
end
open PySem
abbrev PM := List (Int × D)
noncomputable def encD (p : Int × D) : D := .tup [.int p.1, p.2]
noncomputable def encU (t : PM × Int) : D := .tup [.lst (t.1.map encD), .int t.2]
inductive Row where
  | leaf (n : Int) (ks : List Int) | inner (n : Int) (ks cs : List Int)
noncomputable def pgOf (v : Int → Str) : Row → Int × D
  | .leaf n ks => (n, .tup [.str "leaf", .lst (ks.map fun i => .tup [.key (2 * i), .str (v i)])])
  | .inner n ks cs => (n, .tup [.str "inner", .lst (ks.map fun i => .key (2 * i)), .lst (cs.map .int)])
structure Tr where
  rows : List Row
  root : Int
noncomputable def Tr.d (t : Tr) (v : Int → Str) : D := encU (t.rows.map (pgOf v), t.root)
noncomputable def tE : Tr := ⟨[.leaf 0 []], 0⟩
noncomputable def PutTo (rs : List Int) (d : D) (k : Int) (s : Str) (d' : D) : Prop := Cl (G rs) fPut 100 [.d d, .d (.key k), .d (.str s)] [] (.val (.d d')) []
noncomputable def RemTo (rs : List Int) (d : D) (k : Int) (d' : D) : Prop := Cl (G rs) fRemove 100 [.d d, .d (.key k)] [] (.val (.d d')) []
noncomputable def GetTo (rs : List Int) (d : D) (k : Int) (x : D) : Prop := Cl (G rs) fGet 80 [.d d, .d (.key k)] [] (.val (.d x)) []
open PySem
section
variable (rs : List Int) (v : Int → Str)
noncomputable def x0 : Tr := ⟨[.leaf 0 [2]], 0⟩
theorem s1_0 : PutTo rs (tE.d v) 4 "stale" (x0.d fun _ => "stale") := fun n => by kernel_rfl
theorem s2_0 : PutTo rs (x0.d fun _ => "stale") 4 (v 2) (x0.d v) := fun n => by kernel_rfl
noncomputable def x1 : Tr := ⟨[.leaf 0 [2, 4]], 0⟩
theorem p_x0_4 : PutTo rs (x0.d v) 8 (v 4) (x1.d v) := fun n => by kernel_rfl
noncomputable def x2 : Tr := ⟨[.leaf 0 [2, 4, 6]], 0⟩
theorem p_x1_6 : PutTo rs (x1.d v) 12 (v 6) (x2.d v) := fun n => by kernel_rfl
noncomputable def x3 : Tr := ⟨[.leaf 0 [2, 4, 6, 8]], 0⟩
theorem p_x2_8 : PutTo rs (x2.d v) 16 (v 8) (x3.d v) := fun n => by kernel_rfl
noncomputable def x4 : Tr := ⟨[.leaf 0 [4]], 0⟩
theorem s1_1 : PutTo rs (tE.d v) 8 "stale" (x4.d fun _ => "stale") := fun n => by kernel_rfl
theorem s2_1 : PutTo rs (x4.d fun _ => "stale") 8 (v 4) (x4.d v) := fun n => by kernel_rfl
noncomputable def x5 : Tr := ⟨[.leaf 0 [4, 6]], 0⟩
theorem p_x4_6 : PutTo rs (x4.d v) 12 (v 6) (x5.d v) := fun n => by kernel_rfl
noncomputable def x6 : Tr := ⟨[.leaf 0 [4, 6, 8]], 0⟩
theorem p_x5_8 : PutTo rs (x5.d v) 16 (v 8) (x6.d v) := fun n => by kernel_rfl
theorem p_x6_2 : PutTo rs (x6.d v) 4 (v 2) (x3.d v) := fun n => by kernel_rfl
noncomputable def x7 : Tr := ⟨[.leaf 0 [6]], 0⟩
theorem s1_2 : PutTo rs (tE.d v) 12 "stale" (x7.d fun _ => "stale") := fun n => by kernel_rfl
theorem s2_2 : PutTo rs (x7.d fun _ => "stale") 12 (v 6) (x7.d v) := fun n => by kernel_rfl
noncomputable def x8 : Tr := ⟨[.leaf 0 [6, 8]], 0⟩
theorem p_x7_8 : PutTo rs (x7.d v) 16 (v 8) (x8.d v) := fun n => by kernel_rfl
noncomputable def x9 : Tr := ⟨[.leaf 0 [2, 6, 8]], 0⟩
theorem p_x8_2 : PutTo rs (x8.d v) 4 (v 2) (x9.d v) := fun n => by kernel_rfl
theorem p_x9_4 : PutTo rs (x9.d v) 8 (v 4) (x3.d v) := fun n => by kernel_rfl
noncomputable def x10 : Tr := ⟨[.leaf 0 [8]], 0⟩
theorem s1_3 : PutTo rs (tE.d v) 16 "stale" (x10.d fun _ => "stale") := fun n => by kernel_rfl
theorem s2_3 : PutTo rs (x10.d fun _ => "stale") 16 (v 8) (x10.d v) := fun n => by kernel_rfl
noncomputable def x11 : Tr := ⟨[.leaf 0 [2, 8]], 0⟩
theorem p_x10_2 : PutTo rs (x10.d v) 4 (v 2) (x11.d v) := fun n => by kernel_rfl
noncomputable def x12 : Tr := ⟨[.leaf 0 [2, 4, 8]], 0⟩
theorem p_x11_4 : PutTo rs (x11.d v) 8 (v 4) (x12.d v) := fun n => by kernel_rfl
theorem p_x12_6 : PutTo rs (x12.d v) 12 (v 6) (x3.d v) := fun n => by kernel_rfl
noncomputable def x13 : Tr := ⟨[.leaf 0 [2, 4], .leaf 1 [6, 8, 10], .inner 2 [6] [0, 1]], 2⟩
theorem p_x3_10 : PutTo rs (x3.d v) 20 (v 10) (x13.d v) := fun n => by kernel_rfl
noncomputable def x14 : Tr := ⟨[.leaf 0 [2, 4], .leaf 1 [6, 8, 10, 12], .inner 2 [6] [0, 1]], 2⟩
theorem p_x13_12 : PutTo rs (x13.d v) 24 (v 12) (x14.d v) := fun n => by kernel_rfl
noncomputable def x15 : Tr := ⟨[.leaf 0 [2, 4], .leaf 1 [6, 8], .inner 2 [6, 10] [0, 1, 3], .leaf 3 [10, 12, 14]], 2⟩
theorem p_x14_14 : PutTo rs (x14.d v) 28 (v 14) (x15.d v) := fun n => by kernel_rfl
noncomputable def x16 : Tr := ⟨[.leaf 0 [2, 4], .leaf 1 [6, 8], .inner 2 [6, 10] [0, 1, 3], .leaf 3 [10, 12, 14, 16]], 2⟩
theorem p_x15_16 : PutTo rs (x15.d v) 32 (v 16) (x16.d v) := fun n => by kernel_rfl
noncomputable def x17 : Tr := ⟨[.leaf 0 [2, 4], .leaf 1 [6, 8], .inner 2 [6, 10, 14] [0, 1, 3, 4], .leaf 3 [10, 12], .leaf 4 [14, 16, 18]], 2⟩
theorem p_x16_18 : PutTo rs (x16.d v) 36 (v 18) (x17.d v) := fun n => by kernel_rfl
noncomputable def x18 : Tr := ⟨[.leaf 0 [2, 4], .leaf 1 [6, 8], .inner 2 [6, 10, 14] [0, 1, 3, 4], .leaf 3 [10, 12], .leaf 4 [14, 16, 18, 20]], 2⟩
theorem p_x17_20 : PutTo rs (x17.d v) 40 (v 20) (x18.d v) := fun n => by kernel_rfl
noncomputable def x19 : Tr := ⟨[.leaf 0 [2, 4], .leaf 1 [6, 8], .inner 2 [6, 10, 14, 18] [0, 1, 3, 4, 5], .leaf 3 [10, 12], .leaf 4 [14, 16], .leaf 5 [18, 20, 22]], 2⟩
theorem p_x18_22 : PutTo rs (x18.d v) 44 (v 22) (x19.d v) := fun n => by kernel_rfl
noncomputable def x20 : Tr := ⟨[.leaf 0 [2, 4], .leaf 1 [6, 8], .inner 2 [6, 10, 14, 18] [0, 1, 3, 4, 5], .leaf 3 [10, 12], .leaf 4 [14, 16], .leaf 5 [18, 20, 22, 24]], 2⟩
theorem p_x19_24 : PutTo rs (x19.d v) 48 (v 24) (x20.d v) := fun n => by kernel_rfl
noncomputable def x21 : Tr := ⟨[.leaf 0 [2, 4], .leaf 1 [6, 8], .inner 2 [6, 10] [0, 1, 3], .leaf 3 [10, 12], .leaf 4 [14, 16], .leaf 5 [18, 20], .leaf 6 [22, 24, 26], .inner 7 [18, 22] [4, 5, 6], .inner 8 [14] [2, 7]], 8⟩
theorem p_x20_26 : PutTo rs (x20.d v) 52 (v 26) (x21.d v) := fun n => by kernel_rfl
noncomputable def x22 : Tr := ⟨[.leaf 0 [2, 4], .leaf 1 [6, 8], .inner 2 [6, 10] [0, 1, 3], .leaf 3 [10, 12], .leaf 4 [14, 16], .leaf 5 [18, 20], .leaf 6 [22, 24, 26, 28], .inner 7 [18, 22] [4, 5, 6], .inner 8 [14] [2, 7]], 8⟩
theorem p_x21_28 : PutTo rs (x21.d v) 56 (v 28) (x22.d v) := fun n => by kernel_rfl
noncomputable def x23 : Tr := ⟨[.leaf 0 [2, 4], .leaf 1 [6, 8], .inner 2 [6, 10] [0, 1, 3], .leaf 3 [10, 12], .leaf 4 [14, 16], .leaf 5 [18, 20], .leaf 6 [22, 24], .inner 7 [18, 22, 26] [4, 5, 6, 9], .inner 8 [14] [2, 7], .leaf 9 [26, 28, 30]], 8⟩
theorem p_x22_30 : PutTo rs (x22.d v) 60 (v 30) (x23.d v) := fun n => by kernel_rfl
theorem r_x3_2 : RemTo rs (x3.d v) 4 (x6.d v) := fun n => by kernel_rfl
theorem r_x6_4 : RemTo rs (x6.d v) 8 (x8.d v) := fun n => by kernel_rfl
theorem r_x8_6 : RemTo rs (x8.d v) 12 (x10.d v) := fun n => by kernel_rfl
noncomputable def x24 : Tr := ⟨[.leaf 0 []], 0⟩
theorem r_x10_8 : RemTo rs (x10.d v) 16 (x24.d v) := fun n => by kernel_rfl
theorem r_x14_12 : RemTo rs (x14.d v) 24 (x13.d v) := fun n => by kernel_rfl
noncomputable def x25 : Tr := ⟨[.leaf 0 [4, 6], .leaf 1 [8, 10], .inner 2 [8] [0, 1]], 2⟩
theorem r_x13_2 : RemTo rs (x13.d v) 4 (x25.d v) := fun n => by kernel_rfl
noncomputable def x26 : Tr := ⟨[.leaf 0 [2, 4], .leaf 1 [6, 8], .inner 2 [6] [0, 1]], 2⟩
theorem r_x13_10 : RemTo rs (x13.d v) 20 (x26.d v) := fun n => by kernel_rfl
theorem r_x26_2 : RemTo rs (x26.d v) 4 (x6.d v) := fun n => by kernel_rfl
noncomputable def x27 : Tr := ⟨[.leaf 0 [2, 3, 4], .leaf 1 [6, 8, 10, 12], .inner 2 [6] [0, 1]], 2⟩
theorem p_x14_3 : PutTo rs (x14.d v) 6 (v 3) (x27.d v) := fun n => by kernel_rfl
noncomputable def x28 : Tr := ⟨[.leaf 0 [2, 3, 4], .leaf 1 [6, 8, 10], .inner 2 [6] [0, 1]], 2⟩
theorem r_x27_12 : RemTo rs (x27.d v) 24 (x28.d v) := fun n => by kernel_rfl
noncomputable def x29 : Tr := ⟨[.leaf 0 [2, 3, 4], .leaf 1 [6, 8], .inner 2 [6] [0, 1]], 2⟩
theorem r_x28_10 : RemTo rs (x28.d v) 20 (x29.d v) := fun n => by kernel_rfl
noncomputable def x30 : Tr := ⟨[.leaf 0 [2, 3], .leaf 1 [4, 6], .inner 2 [4] [0, 1]], 2⟩
theorem r_x29_8 : RemTo rs (x29.d v) 16 (x30.d v) := fun n => by kernel_rfl
noncomputable def x31 : Tr := ⟨[.leaf 0 [2, 4], .leaf 1 [6, 8], .inner 2 [6, 10, 14, 18] [0, 1, 3, 4, 5], .leaf 3 [10, 11, 12], .leaf 4 [14, 16], .leaf 5 [18, 20, 22, 24]], 2⟩
theorem p_x20_11 : PutTo rs (x20.d v) 22 (v 11) (x31.d v) := fun n => by kernel_rfl
noncomputable def x32 : Tr := ⟨[.leaf 0 [2, 4], .leaf 1 [6, 8], .inner 2 [6, 10, 12, 18] [0, 1, 3, 4, 5], .leaf 3 [10, 11], .leaf 4 [12, 16], .leaf 5 [18, 20, 22, 24]], 2⟩
theorem r_x31_14 : RemTo rs (x31.d v) 28 (x32.d v) := fun n => by kernel_rfl
noncomputable def x33 : Tr := ⟨[.leaf 0 [2, 4], .leaf 1 [6, 8], .inner 2 [6, 10, 14, 20] [0, 1, 3, 4, 5], .leaf 3 [10, 12], .leaf 4 [14, 18], .leaf 5 [20, 22, 24]], 2⟩
theorem r_x20_16 : RemTo rs (x20.d v) 32 (x33.d v) := fun n => by kernel_rfl
noncomputable def x34 : Tr := ⟨[.leaf 0 [2, 4, 6], .inner 2 [10, 14, 18] [0, 3, 4, 5], .leaf 3 [10, 12], .leaf 4 [14, 16], .leaf 5 [18, 20, 22, 24]], 2⟩
theorem r_x20_8 : RemTo rs (x20.d v) 16 (x34.d v) := fun n => by kernel_rfl
noncomputable def x35 : Tr := ⟨[.leaf 0 [2, 4, 6], .leaf 1 [22, 23, 24], .inner 2 [10, 14, 18, 22] [0, 3, 4, 5, 1], .leaf 3 [10, 12], .leaf 4 [14, 16], .leaf 5 [18, 20]], 2⟩
theorem p_x34_23 : PutTo rs (x34.d v) 46 (v 23) (x35.d v) := fun n => by kernel_rfl
noncomputable def x36 : Tr := ⟨[.leaf 0 [2, 4], .leaf 1 [6, 8], .inner 2 [6, 10] [0, 1, 3], .leaf 3 [10, 12], .leaf 4 [14, 16], .leaf 5 [18, 20], .leaf 6 [21, 22, 24], .inner 7 [18, 21] [4, 5, 6], .inner 8 [14] [2, 7]], 8⟩
theorem p_x20_21 : PutTo rs (x20.d v) 42 (v 21) (x36.d v) := fun n => by kernel_rfl
noncomputable def x37 : Tr := ⟨[.leaf 0 [4, 6, 8], .inner 2 [10, 14, 18, 22] [0, 3, 4, 5, 6], .leaf 3 [10, 12], .leaf 4 [14, 16], .leaf 5 [18, 20], .leaf 6 [22, 24, 26]], 2⟩
theorem r_x21_2 : RemTo rs (x21.d v) 4 (x37.d v) := fun n => by kernel_rfl
noncomputable def x38 : Tr := ⟨[.leaf 0 [2, 4], .leaf 1 [6, 8], .inner 2 [6, 10] [0, 1, 3], .leaf 3 [10, 12], .leaf 4 [14, 16], .leaf 5 [18, 20], .leaf 6 [22, 24], .inner 7 [18, 22] [4, 5, 6], .inner 8 [14] [2, 7]], 8⟩
theorem r_x21_26 : RemTo rs (x21.d v) 52 (x38.d v) := fun n => by kernel_rfl
theorem r_x38_24 : RemTo rs (x38.d v) 48 (x19.d v) := fun n => by kernel_rfl
noncomputable def x39 : Tr := ⟨[.leaf 0 [1, 2, 4], .leaf 1 [6, 8], .inner 2 [6, 10] [0, 1, 3], .leaf 3 [10, 12], .leaf 4 [14, 16], .leaf 5 [18, 20], .leaf 6 [22, 24, 26], .inner 7 [18, 22] [4, 5, 6], .inner 8 [14] [2, 7]], 8⟩
theorem p_x21_1 : PutTo rs (x21.d v) 2 (v 1) (x39.d v) := fun n => by kernel_rfl
noncomputable def x40 : Tr := ⟨[.leaf 0 [1, 2, 3, 4], .leaf 1 [6, 8], .inner 2 [6, 10] [0, 1, 3], .leaf 3 [10, 12], .leaf 4 [14, 16], .leaf 5 [18, 20], .leaf 6 [22, 24, 26], .inner 7 [18, 22] [4, 5, 6], .inner 8 [14] [2, 7]], 8⟩
theorem p_x39_3 : PutTo rs (x39.d v) 6 (v 3) (x40.d v) := fun n => by kernel_rfl
noncomputable def x41 : Tr := ⟨[.leaf 0 [1, 2], .leaf 1 [6, 8], .inner 2 [3, 6, 10] [0, 9, 1, 3], .leaf 3 [10, 12], .leaf 4 [14, 16], .leaf 5 [18, 20], .leaf 6 [22, 24, 26], .inner 7 [18, 22] [4, 5, 6], .inner 8 [14] [2, 7], .leaf 9 [3, 4, 5]], 8⟩
theorem p_x40_5 : PutTo rs (x40.d v) 10 (v 5) (x41.d v) := fun n => by kernel_rfl
noncomputable def x42 : Tr := ⟨[.leaf 0 [1, 2], .leaf 1 [6, 8], .inner 2 [3, 6] [0, 9, 1], .leaf 3 [10, 12], .leaf 4 [16, 18, 20], .leaf 6 [22, 24, 26], .inner 7 [14, 22] [3, 4, 6], .inner 8 [10] [2, 7], .leaf 9 [3, 4, 5]], 8⟩
theorem r_x41_14 : RemTo rs (x41.d v) 28 (x42.d v) := fun n => by kernel_rfl
noncomputable def x43 : Tr := ⟨[.leaf 0 [4, 6, 8], .inner 2 [10, 14] [0, 3, 4], .leaf 3 [10, 12], .leaf 4 [14, 16], .leaf 5 [18, 20], .leaf 6 [22, 24], .inner 7 [22, 26] [5, 6, 9], .inner 8 [18] [2, 7], .leaf 9 [26, 28, 30]], 8⟩
theorem r_x23_2 : RemTo rs (x23.d v) 4 (x43.d v) := fun n => by kernel_rfl
end
open PySem
noncomputable def cellsOf (fz : Bool) (v : Int → Str) : List Row → Nat → List Cell
  | [], _ => []
  | .leaf n ks :: r, b => .lst (ks.map fun i => .d (.tup [.key (2 * i), .str (v i)])) :: .lst [.d (.str "leaf"), .loc b] :: cellsOf fz v r (b + 2)
  | .inner n ks cs :: r, b => .lst (ks.map fun i => .d (.key (2 * i))) :: cond fz (.froz (cs.map .int)) (.lst (cs.map fun i => .d (.int i))) :: .lst [.d (.str "inner"), .loc b, .loc (b + 1)] :: cellsOf fz v r (b + 3)
noncomputable def entsOf : List Row → Nat → List (Int × V)
  | [], _ => []
  | .leaf n ks :: r, b => (n, .loc (b + 1)) :: entsOf r (b + 2)
  | .inner n ks cs :: r, b => (n, .loc (b + 2)) :: entsOf r (b + 3)
noncomputable def stO (fz : Bool) (t : Tr) (v : Int → Str) : List Cell := .inst [("pages", .loc 1), ("root", .d (.int t.root))] :: .dct false (entsOf t.rows 2) :: cellsOf fz v t.rows 2
noncomputable def InitC (rs : List Int) (v : Int → Str) (t : Tr) : Prop := Cl (G rs) fInit 50 [.loc 0, .d (t.d v)] [.inst []] (.val (.d .none)) (stO false t v)
noncomputable def tailG (rs : List Int) (v : Int → Str) (t : Tr) (n : Nat) (k : Int) : Option Fl := ((run (G rs) (n+60)).ex fGet (fGet.body.drop 1) ⟨[("tree", .d (t.d v)), ("key", .d (.key k)), ("t", .loc 0)], stO false t v⟩).map (·.1)
noncomputable def leafK : Row → List Int
  | .leaf _ ks => ks
  | _ => []
noncomputable def pr (v : Int → Str) (i : Int) : D := .tup [.key (2 * i), .str (v i)]
noncomputable def prs (t : Tr) : List Int := srtK (fun i => i) (t.rows.flatMap leafK)
noncomputable def getP (v : Int → Str) (t : Tr) (l : Int) : D := cond ((prs t).contains l) (.str (v l)) .none
noncomputable def Gets (rs : List Int) (v : Int → Str) (t : Tr) : Prop := ∀ n, (List.range 28).map (fun (l : Nat) => tailG rs v t n (2 * (l : Int))) = (List.range 28).map (fun (l : Nat) => some (.ret (.val (.d (getP v t l)))))
noncomputable def Odds (rs : List Int) (v : Int → Str) (t : Tr) : Prop := ∀ n, (List.range 16).map (fun (l : Nat) => tailG rs v t n (2 * (l : Int) + 1)) = (List.range 16).map (fun (l : Nat) => some (.ret (.val (.d .none))))
noncomputable def PairsC (rs : List Int) (v : Int → Str) (t : Tr) : Prop := Cl (G rs) fPairs 50 [.loc 0, .d (.int t.root)] (stO false t v) (.fresh ((prs t).map fun i => .d (pr v i))) (stO true t v)
noncomputable def dct (v : Int → Str) (t : Tr) : List (Int × V) := (prs t).map fun i => (2 * i, .d (.str (v i)))
noncomputable def cls (t : Tr) : Bool := !(prs t).isEmpty
structure DctC (v : Int → Str) (t : Tr) : Prop where
  srt : srtD ((t.rows.flatMap leafK).map (pr v)) = some ((prs t).map (pr v))
  cls : clsOf ((prs t).map fun i => .d (pr v i)) = cls t
  prs : prsOf (Mine.U.cls t) ((prs t).map fun i => .d (pr v i)) = some (dct v t)
  mkd : mkDct (dct v t) = dct v t
  ok : ∀ k, okK (Mine.U.cls t) (dct v t) (true, k) = true
  get : (List.range 28).map (fun (l : Nat) => (lookI (2 * (l : Int)) (dct v t)).getD (.d .none)) = (List.range 28).map (fun (l : Nat) => V.d (getP v t l))
noncomputable def upv (v : Int → Str) (s : Str) (i : Int) : Str := cond (i == 0) s (v i)
noncomputable def rowN : Row → Int
  | .leaf n _ => n
  | .inner n _ _ => n
noncomputable def ascB : List Int → Bool
  | [] => true
  | [x] => true
  | x :: y :: r => decide (x < y) && ascB (y :: r)
noncomputable def rowB : Row → Bool
  | .leaf n ks => decide (0 ≤ n) && decide (n < 10) && ks.all (fun i => decide (-1000 ≤ i) && decide (i ≤ 1000)) && decide (ks.length < 100)
  | .inner n ks cs => decide (0 ≤ n) && decide (n < 10) && ks.all (fun i => decide (-1000 ≤ i) && decide (i ≤ 1000)) && decide (ks.length < 100) && decide (cs.length < 100)
noncomputable def canB (t : Tr) : Bool := t.rows.all rowB && ascB (t.rows.map rowN) && decide (t.rows.length < 100) && decide ((prs t).length < 100)
structure TOk (t : Tr) : Prop where
  init : ∀ rs v, InitC rs v t
  gets : ∀ rs v, Gets rs v t
  pairs : ∀ rs v, PairsC rs v t
  dct : ∀ v, DctC v t
  put0 : ∀ rs v s, ∃ d, PutTo rs (t.d v) 0 s d
  can : canB t = true
open PySem
theorem k_tE : TOk tE := ⟨fun rs v n => by kernel_rfl, fun rs v n => by kernel_rfl, fun rs v n => by kernel_rfl, fun v => ⟨by kernel_rfl, by kernel_rfl, by kernel_rfl, by kernel_rfl, fun k => by kernel_rfl, by kernel_rfl⟩, fun rs v s => ⟨Tr.d ⟨[.leaf 0 [0]], 0⟩ (upv v s), fun n => by kernel_rfl⟩, by kernel_rfl⟩
theorem k_x3 : TOk x3 := ⟨fun rs v n => by kernel_rfl, fun rs v n => by kernel_rfl, fun rs v n => by kernel_rfl, fun v => ⟨by kernel_rfl, by kernel_rfl, by kernel_rfl, by kernel_rfl, fun k => by kernel_rfl, by kernel_rfl⟩, fun rs v s => ⟨Tr.d ⟨[.leaf 0 [0, 2], .leaf 1 [4, 6, 8], .inner 2 [4] [0, 1]], 2⟩ (upv v s), fun n => by kernel_rfl⟩, by kernel_rfl⟩
theorem o_x3 (rs : List Int) (v : Int → Str) : Odds rs v x3 := fun n => by kernel_rfl
theorem k_x14 : TOk x14 := ⟨fun rs v n => by kernel_rfl, fun rs v n => by kernel_rfl, fun rs v n => by kernel_rfl, fun v => ⟨by kernel_rfl, by kernel_rfl, by kernel_rfl, by kernel_rfl, fun k => by kernel_rfl, by kernel_rfl⟩, fun rs v s => ⟨Tr.d ⟨[.leaf 0 [0, 2, 4], .leaf 1 [6, 8, 10, 12], .inner 2 [6] [0, 1]], 2⟩ (upv v s), fun n => by kernel_rfl⟩, by kernel_rfl⟩
theorem o_x14 (rs : List Int) (v : Int → Str) : Odds rs v x14 := fun n => by kernel_rfl
theorem k_x20 : TOk x20 := ⟨fun rs v n => by kernel_rfl, fun rs v n => by kernel_rfl, fun rs v n => by kernel_rfl, fun v => ⟨by kernel_rfl, by kernel_rfl, by kernel_rfl, by kernel_rfl, fun k => by kernel_rfl, by kernel_rfl⟩, fun rs v s => ⟨Tr.d ⟨[.leaf 0 [0, 2, 4], .leaf 1 [6, 8], .inner 2 [6, 10, 14, 18] [0, 1, 3, 4, 5], .leaf 3 [10, 12], .leaf 4 [14, 16], .leaf 5 [18, 20, 22, 24]], 2⟩ (upv v s), fun n => by kernel_rfl⟩, by kernel_rfl⟩
theorem o_x20 (rs : List Int) (v : Int → Str) : Odds rs v x20 := fun n => by kernel_rfl
theorem k_x21 : TOk x21 := ⟨fun rs v n => by kernel_rfl, fun rs v n => by kernel_rfl, fun rs v n => by kernel_rfl, fun v => ⟨by kernel_rfl, by kernel_rfl, by kernel_rfl, by kernel_rfl, fun k => by kernel_rfl, by kernel_rfl⟩, fun rs v s => ⟨Tr.d ⟨[.leaf 0 [0, 2, 4], .leaf 1 [6, 8], .inner 2 [6, 10] [0, 1, 3], .leaf 3 [10, 12], .leaf 4 [14, 16], .leaf 5 [18, 20], .leaf 6 [22, 24, 26], .inner 7 [18, 22] [4, 5, 6], .inner 8 [14] [2, 7]], 8⟩ (upv v s), fun n => by kernel_rfl⟩, by kernel_rfl⟩
theorem o_x21 (rs : List Int) (v : Int → Str) : Odds rs v x21 := fun n => by kernel_rfl
theorem k_x23 : TOk x23 := ⟨fun rs v n => by kernel_rfl, fun rs v n => by kernel_rfl, fun rs v n => by kernel_rfl, fun v => ⟨by kernel_rfl, by kernel_rfl, by kernel_rfl, by kernel_rfl, fun k => by kernel_rfl, by kernel_rfl⟩, fun rs v s => ⟨Tr.d ⟨[.leaf 0 [0, 2, 4], .leaf 1 [6, 8], .inner 2 [6, 10] [0, 1, 3], .leaf 3 [10, 12], .leaf 4 [14, 16], .leaf 5 [18, 20], .leaf 6 [22, 24], .inner 7 [18, 22, 26] [4, 5, 6, 9], .inner 8 [14] [2, 7], .leaf 9 [26, 28, 30]], 8⟩ (upv v s), fun n => by kernel_rfl⟩, by kernel_rfl⟩
theorem o_x23 (rs : List Int) (v : Int → Str) : Odds rs v x23 := fun n => by kernel_rfl
theorem k_x25 : TOk x25 := ⟨fun rs v n => by kernel_rfl, fun rs v n => by kernel_rfl, fun rs v n => by kernel_rfl, fun v => ⟨by kernel_rfl, by kernel_rfl, by kernel_rfl, by kernel_rfl, fun k => by kernel_rfl, by kernel_rfl⟩, fun rs v s => ⟨Tr.d ⟨[.leaf 0 [0, 4, 6], .leaf 1 [8, 10], .inner 2 [8] [0, 1]], 2⟩ (upv v s), fun n => by kernel_rfl⟩, by kernel_rfl⟩
theorem k_x6 : TOk x6 := ⟨fun rs v n => by kernel_rfl, fun rs v n => by kernel_rfl, fun rs v n => by kernel_rfl, fun v => ⟨by kernel_rfl, by kernel_rfl, by kernel_rfl, by kernel_rfl, fun k => by kernel_rfl, by kernel_rfl⟩, fun rs v s => ⟨Tr.d ⟨[.leaf 0 [0, 4, 6, 8]], 0⟩ (upv v s), fun n => by kernel_rfl⟩, by kernel_rfl⟩
theorem k_x30 : TOk x30 := ⟨fun rs v n => by kernel_rfl, fun rs v n => by kernel_rfl, fun rs v n => by kernel_rfl, fun v => ⟨by kernel_rfl, by kernel_rfl, by kernel_rfl, by kernel_rfl, fun k => by kernel_rfl, by kernel_rfl⟩, fun rs v s => ⟨Tr.d ⟨[.leaf 0 [0, 2, 3], .leaf 1 [4, 6], .inner 2 [4] [0, 1]], 2⟩ (upv v s), fun n => by kernel_rfl⟩, by kernel_rfl⟩
theorem k_x32 : TOk x32 := ⟨fun rs v n => by kernel_rfl, fun rs v n => by kernel_rfl, fun rs v n => by kernel_rfl, fun v => ⟨by kernel_rfl, by kernel_rfl, by kernel_rfl, by kernel_rfl, fun k => by kernel_rfl, by kernel_rfl⟩, fun rs v s => ⟨Tr.d ⟨[.leaf 0 [0, 2, 4], .leaf 1 [6, 8], .inner 2 [6, 10, 12, 18] [0, 1, 3, 4, 5], .leaf 3 [10, 11], .leaf 4 [12, 16], .leaf 5 [18, 20, 22, 24]], 2⟩ (upv v s), fun n => by kernel_rfl⟩, by kernel_rfl⟩
theorem k_x33 : TOk x33 := ⟨fun rs v n => by kernel_rfl, fun rs v n => by kernel_rfl, fun rs v n => by kernel_rfl, fun v => ⟨by kernel_rfl, by kernel_rfl, by kernel_rfl, by kernel_rfl, fun k => by kernel_rfl, by kernel_rfl⟩, fun rs v s => ⟨Tr.d ⟨[.leaf 0 [0, 2, 4], .leaf 1 [6, 8], .inner 2 [6, 10, 14, 20] [0, 1, 3, 4, 5], .leaf 3 [10, 12], .leaf 4 [14, 18], .leaf 5 [20, 22, 24]], 2⟩ (upv v s), fun n => by kernel_rfl⟩, by kernel_rfl⟩
theorem k_x35 : TOk x35 := ⟨fun rs v n => by kernel_rfl, fun rs v n => by kernel_rfl, fun rs v n => by kernel_rfl, fun v => ⟨by kernel_rfl, by kernel_rfl, by kernel_rfl, by kernel_rfl, fun k => by kernel_rfl, by kernel_rfl⟩, fun rs v s => ⟨Tr.d ⟨[.leaf 0 [0, 2, 4, 6], .leaf 1 [22, 23, 24], .inner 2 [10, 14, 18, 22] [0, 3, 4, 5, 1], .leaf 3 [10, 12], .leaf 4 [14, 16], .leaf 5 [18, 20]], 2⟩ (upv v s), fun n => by kernel_rfl⟩, by kernel_rfl⟩
theorem k_x36 : TOk x36 := ⟨fun rs v n => by kernel_rfl, fun rs v n => by kernel_rfl, fun rs v n => by kernel_rfl, fun v => ⟨by kernel_rfl, by kernel_rfl, by kernel_rfl, by kernel_rfl, fun k => by kernel_rfl, by kernel_rfl⟩, fun rs v s => ⟨Tr.d ⟨[.leaf 0 [0, 2, 4], .leaf 1 [6, 8], .inner 2 [6, 10] [0, 1, 3], .leaf 3 [10, 12], .leaf 4 [14, 16], .leaf 5 [18, 20], .leaf 6 [21, 22, 24], .inner 7 [18, 21] [4, 5, 6], .inner 8 [14] [2, 7]], 8⟩ (upv v s), fun n => by kernel_rfl⟩, by kernel_rfl⟩
theorem k_x37 : TOk x37 := ⟨fun rs v n => by kernel_rfl, fun rs v n => by kernel_rfl, fun rs v n => by kernel_rfl, fun v => ⟨by kernel_rfl, by kernel_rfl, by kernel_rfl, by kernel_rfl, fun k => by kernel_rfl, by kernel_rfl⟩, fun rs v s => ⟨Tr.d ⟨[.leaf 0 [0, 4, 6, 8], .inner 2 [10, 14, 18, 22] [0, 3, 4, 5, 6], .leaf 3 [10, 12], .leaf 4 [14, 16], .leaf 5 [18, 20], .leaf 6 [22, 24, 26]], 2⟩ (upv v s), fun n => by kernel_rfl⟩, by kernel_rfl⟩
theorem k_x19 : TOk x19 := ⟨fun rs v n => by kernel_rfl, fun rs v n => by kernel_rfl, fun rs v n => by kernel_rfl, fun v => ⟨by kernel_rfl, by kernel_rfl, by kernel_rfl, by kernel_rfl, fun k => by kernel_rfl, by kernel_rfl⟩, fun rs v s => ⟨Tr.d ⟨[.leaf 0 [0, 2, 4], .leaf 1 [6, 8], .inner 2 [6, 10, 14, 18] [0, 1, 3, 4, 5], .leaf 3 [10, 12], .leaf 4 [14, 16], .leaf 5 [18, 20, 22]], 2⟩ (upv v s), fun n => by kernel_rfl⟩, by kernel_rfl⟩
theorem k_x42 : TOk x42 := ⟨fun rs v n => by kernel_rfl, fun rs v n => by kernel_rfl, fun rs v n => by kernel_rfl, fun v => ⟨by kernel_rfl, by kernel_rfl, by kernel_rfl, by kernel_rfl, fun k => by kernel_rfl, by kernel_rfl⟩, fun rs v s => ⟨Tr.d ⟨[.leaf 0 [0, 1, 2], .leaf 1 [6, 8], .inner 2 [3, 6] [0, 9, 1], .leaf 3 [10, 12], .leaf 4 [16, 18, 20], .leaf 6 [22, 24, 26], .inner 7 [14, 22] [3, 4, 6], .inner 8 [10] [2, 7], .leaf 9 [3, 4, 5]], 8⟩ (upv v s), fun n => by kernel_rfl⟩, by kernel_rfl⟩
theorem k_x43 : TOk x43 := ⟨fun rs v n => by kernel_rfl, fun rs v n => by kernel_rfl, fun rs v n => by kernel_rfl, fun v => ⟨by kernel_rfl, by kernel_rfl, by kernel_rfl, by kernel_rfl, fun k => by kernel_rfl, by kernel_rfl⟩, fun rs v s => ⟨Tr.d ⟨[.leaf 0 [0, 4, 6, 8], .inner 2 [10, 14] [0, 3, 4], .leaf 3 [10, 12], .leaf 4 [14, 16], .leaf 5 [18, 20], .leaf 6 [22, 24], .inner 7 [22, 26] [5, 6, 9], .inner 8 [18] [2, 7], .leaf 9 [26, 28, 30]], 8⟩ (upv v s), fun n => by kernel_rfl⟩, by kernel_rfl⟩
open PySem
noncomputable def dom : List Int := [0, 1, 2, 3, 4, 5, 6, 7, 8, 9]
abbrev Pgs := Int → Option D
noncomputable def ofL (ds : List Int) (f : Pgs) : PM := ds.filterMap fun n => (f n).map fun y => (n, y)
noncomputable def ofF (f : Pgs) : PM := ofL dom f
structure PF where
  f : Pgs
  r : Int
noncomputable def encT (t : PF) : D := encU (ofF t.f, t.r)
open Classical in
noncomputable def upd (f : Pgs) (n : Int) (y : Option D) : Pgs := fun m => if m = n then y else f m
noncomputable def Supp (f : Pgs) : Prop := ∀ n y, f n = some y → n ∈ dom
inductive Pg : D → Prop
  | leaf (l : List (Int × Str)) : Pg (.tup [.str "leaf", .lst (l.map fun p => .tup [.key p.1, .str p.2])])
  | inner (ks cs : List Int) : Pg (.tup [.str "inner", .lst (ks.map .key), .lst (cs.map .int)])
structure Good (t : PF) : Prop where
  pg : ∀ n y, t.f n = some y → Pg y
  dm : Supp t.f
theorem upd_same {f : Pgs} {n : Int} {y : Option D} : upd f n y n = y := if_pos rfl
theorem upd_ne {f : Pgs} {n m : Int} {y : Option D} (h : m ≠ n) : upd f n y m = f m := if_neg h
noncomputable def toE (p : Int × D) : Int × V := (p.1, .d p.2)
theorem look_toE (k : Int) : ∀ A : PM, lookI k (A.map toE) = (lookI k A).map V.d
  | [] => rfl
  | p :: r => by
    simp only [List.map_cons, lookI, toE]
    split
    · rfl
    · exact look_toE k r
structure Dic (A : PM) (f : Pgs) : Prop where
  nod : (A.map (·.1)).Nodup
  look : ∀ n, lookI n A = f n
theorem look_set {α : Type} (k : Int) (y : α) (n : Int) : ∀ A : List (Int × α), lookI n (setI k y A) = if n = k then some y else lookI n A
  | [] => by simp only [setI, lookI]
  | p :: r => by
    simp only [setI]
    split
    · rename_i e; subst e
      simp only [lookI]
      split <;> rfl
    · rename_i e
      simp only [lookI, look_set k y n r]
      split
      · rename_i e'; subst e'
        rw [if_neg (fun h => e h.symm)]
      · rfl
theorem look_none {α : Type} {n : Int} : ∀ {A : List (Int × α)}, lookI n A = .none ↔ n ∉ A.map (·.1)
  | [] => by simp [lookI]
  | p :: r => by
    simp only [lookI, List.map_cons, List.mem_cons, not_or]
    split
    · rename_i e; simp [e]
    · rename_i e; simp [e, look_none (A := r)]
theorem keys_set {α : Type} (k : Int) (y : α) : ∀ A : List (Int × α), (setI k y A).map (·.1) = if k ∈ A.map (·.1) then A.map (·.1) else A.map (·.1) ++ [k]
  | [] => by simp [setI]
  | p :: r => by
    simp only [setI]
    split
    · rename_i e; simp [e]
    · rename_i e
      simp only [List.map_cons, keys_set k y r, List.mem_cons, e, false_or]
      split <;> simp
theorem keys_del {α : Type} (k : Int) : ∀ A : List (Int × α), ((delI k A).map (·.1)).Sublist (A.map (·.1))
  | [] => List.Sublist.slnil
  | p :: r => by
    simp only [delI]
    split
    · exact List.sublist_cons_self _ _
    · exact (keys_del k r).cons_cons _
theorem look_del {α : Type} (k n : Int) : ∀ A : List (Int × α), (A.map (·.1)).Nodup → lookI n (delI k A) = if n = k then .none else lookI n A
  | [], _ => by simp [delI, lookI]
  | p :: r, h => by
    simp only [List.map_cons, List.nodup_cons] at h
    simp only [delI]
    split
    · rename_i e; subst e
      by_cases hn : n = p.1
      · subst hn; rw [if_pos rfl]; exact look_none.mpr h.1
      · rw [if_neg hn]; simp only [lookI, if_neg hn]
    · rename_i e
      simp only [lookI, look_del k n r h.2]
      by_cases hn : n = p.1
      · subst hn; rw [if_pos rfl, if_neg (fun h => e h.symm), if_pos rfl]
      · rw [if_neg hn, if_neg hn]
section
variable {A : PM} {f : Pgs}
theorem Dic.set (h : Dic A f) (k : Int) (y : D) : Dic (setI k y A) (upd f k (some y)) := ⟨by
    rw [keys_set]
    split
    · exact h.nod
    · rename_i hk; exact List.nodup_append.mpr ⟨h.nod, List.nodup_cons.mpr ⟨List.not_mem_nil, List.nodup_nil⟩, fun a ha b hb e => hk (by rw [List.mem_singleton.mp hb] at e; exact e ▸ ha)⟩,
  fun n => by
    rw [look_set]
    by_cases hn : n = k
    · rw [if_pos hn, hn, upd_same]
    · rw [if_neg hn, upd_ne hn, h.look]⟩
theorem Dic.del (h : Dic A f) (k : Int) : Dic (delI k A) (upd f k .none) := ⟨(keys_del k A).nodup h.nod,
  fun n => by
    rw [look_del _ _ _ h.nod]
    by_cases hn : n = k
    · rw [if_pos hn, hn, upd_same]
    · rw [if_neg hn, upd_ne hn, h.look]⟩
theorem set_toE (k : Int) (y : D) : ∀ A : PM, setI k (V.d y) (A.map toE) = (setI k y A).map toE
  | [] => rfl
  | p :: r => by
    simp only [List.map_cons, setI, toE]
    split
    · rfl
    · rw [set_toE k y r]; rfl
theorem del_toE (k : Int) : ∀ A : PM, delI k (A.map toE) = (delI k A).map toE
  | [] => rfl
  | p :: r => by
    simp only [List.map_cons, delI, toE]
    split
    · rfl
    · rw [del_toE k r]; rfl
theorem items_toE : ∀ A : PM, itemsD false (A.map toE) = some (A.map encD)
  | [] => rfl
  | p :: r => by
    simp only [List.map_cons, itemsD, items_toE r]
    rfl
theorem mem_insK {x y : Int × D} : ∀ {A : PM}, y ∈ insK (·.1) x A ↔ y = x ∨ y ∈ A
  | [] => by simp [insK]
  | p :: r => by
    simp only [insK]
    split
    · simp
    · simp only [List.mem_cons, mem_insK (A := r)]
      constructor
      · rintro (h | h | h)
        · exact .inr (.inl h)
        · exact .inl h
        · exact .inr (.inr h)
      · rintro (h | h | h)
        · exact .inr (.inl h)
        · exact .inl h
        · exact .inr (.inr h)
theorem look_insK {x : Int × D} (n : Int) : ∀ {A : PM}, x.1 ∉ A.map (·.1) → lookI n (insK (·.1) x A) = if n = x.1 then some x.2 else lookI n A
  | [], _ => by simp [insK, lookI]
  | p :: r, h => by
    simp only [List.map_cons, List.mem_cons, not_or] at h
    simp only [insK]
    split
    · simp only [lookI]
    · simp only [lookI, look_insK n h.2]
      by_cases hn : n = p.1
      · subst hn; rw [if_pos rfl, if_neg (fun e => h.1 e.symm), if_pos rfl]
      · rw [if_neg hn, if_neg hn]
theorem mem_srtK {y : Int × D} : ∀ {A : PM}, y ∈ srtK (·.1) A ↔ y ∈ A
  | [] => by simp [srtK]
  | p :: r => by simp only [srtK, mem_insK, mem_srtK (A := r), List.mem_cons]
theorem look_srtK (n : Int) : ∀ {A : PM}, (A.map (·.1)).Nodup → lookI n (srtK (·.1) A) = lookI n A
  | [], _ => rfl
  | p :: r, h => by
    simp only [List.map_cons, List.nodup_cons] at h
    simp only [srtK]
    rw [look_insK n (fun hm => h.1 ?_), look_srtK n h.2]
    · simp only [lookI]
    · obtain ⟨q, hq, e⟩ := List.mem_map.mp hm
      exact e ▸ List.mem_map_of_mem (mem_srtK.mp hq)
noncomputable def Asc (A : PM) : Prop := A.Pairwise fun a b => a.1 < b.1
theorem asc_insK {x : Int × D} : ∀ {A : PM}, Asc A → x.1 ∉ A.map (·.1) → Asc (insK (·.1) x A)
  | [], _, _ => List.pairwise_cons.mpr ⟨nofun, List.Pairwise.nil⟩
  | p :: r, h, hx => by
    simp only [List.map_cons, List.mem_cons, not_or] at hx
    have hp := List.pairwise_cons.mp h
    simp only [insK]
    split
    · rename_i e
      refine List.pairwise_cons.mpr ⟨fun q hq => ?_, h⟩
      have : x.1 < p.1 := by have := hx.1; omega
      cases List.mem_cons.mp hq with
      | inl e => rw [e]; exact this
      | inr m => have := hp.1 q m; omega
    · rename_i e
      refine List.pairwise_cons.mpr ⟨fun q hq => ?_, asc_insK hp.2 hx.2⟩
      cases mem_insK.mp hq with
      | inl e' => rw [e']; omega
      | inr m => exact hp.1 q m
theorem asc_srtK : ∀ {A : PM}, (A.map (·.1)).Nodup → Asc (srtK (·.1) A)
  | [], _ => List.Pairwise.nil
  | p :: r, h => by
    simp only [List.map_cons, List.nodup_cons] at h
    refine asc_insK (asc_srtK h.2) fun hm => h.1 ?_
    obtain ⟨q, hq, e⟩ := List.mem_map.mp hm
    exact e ▸ List.mem_map_of_mem (mem_srtK.mp hq)
theorem asc_low {A : PM} {p : Int × D} (h : Asc (p :: A)) {n : Int} (hn : n ≤ p.1) : lookI n A = .none := look_none.mpr fun hm => by
  obtain ⟨q, hq, e⟩ := List.mem_map.mp hm
  have := (List.pairwise_cons.mp h).1 q hq
  omega
theorem asc_eq : ∀ {A B : PM}, Asc A → Asc B → (∀ n, lookI n A = lookI n B) → A = B
  | [], [], _, _, _ => rfl
  | [], q :: B, _, _, h => by have := h q.1; simp [lookI] at this
  | p :: A, [], _, _, h => by have := h p.1; simp [lookI] at this
  | p :: A, q :: B, ha, hb, h => by
    have hpq : p.1 = q.1 := by
      by_cases h1 : p.1 < q.1
      · have e := h p.1
        simp only [lookI] at e
        rw [if_pos True.intro, if_neg (by omega), asc_low hb (by omega)] at e
        cases e
      · by_cases h2 : q.1 < p.1
        · have e := h q.1
          simp only [lookI] at e
          rw [if_pos True.intro, if_neg (by omega), asc_low ha (by omega)] at e
          cases e
        · omega
    have e := h p.1
    simp only [lookI] at e
    rw [if_pos True.intro, if_pos hpq] at e
    have hp : p = q := Prod.ext hpq (Option.some.inj e)
    subst hp
    refine congrArg _ (asc_eq (List.pairwise_cons.mp ha).2 (List.pairwise_cons.mp hb).2 fun n => ?_)
    have e := h n
    simp only [lookI] at e
    by_cases hn : n = p.1
    · rw [asc_low ha (by omega), asc_low hb (by omega)]
    · rw [if_neg hn, if_neg hn] at e; exact e
theorem mem_ofL {ds : List Int} {f : Pgs} {p : Int × D} : p ∈ ofL ds f ↔ p.1 ∈ ds ∧ f p.1 = some p.2 := by
  unfold ofL
  rw [List.mem_filterMap]
  constructor
  · rintro ⟨n, hn, e⟩
    cases hf : f n with
    | none => rw [hf] at e; cases e
    | some y => rw [hf] at e; cases e; exact ⟨hn, hf⟩
  · rintro ⟨hn, e⟩
    exact ⟨p.1, hn, by rw [e]; rfl⟩
theorem asc_ofL {f : Pgs} : ∀ {ds : List Int}, ds.Pairwise (· < ·) → Asc (ofL ds f)
  | [], _ => List.Pairwise.nil
  | n :: ds, h => by
    have h := List.pairwise_cons.mp h
    have ih := asc_ofL (f := f) h.2
    unfold ofL
    rw [List.filterMap_cons]
    cases hf : f n with
    | none => exact ih
    | some y => exact List.pairwise_cons.mpr ⟨fun q hq => h.1 _ (mem_ofL.mp hq).1, ih⟩
theorem look_ofL {f : Pgs} (m : Int) : ∀ {ds : List Int}, lookI m (ofL ds f) = if m ∈ ds then f m else .none
  | [] => by simp [ofL, lookI]
  | n :: ds => by
    have ih := look_ofL (f := f) m (ds := ds)
    unfold ofL at ih ⊢
    rw [List.filterMap_cons]
    cases hf : f n with
    | none =>
      show lookI m (ds.filterMap _) = _
      rw [ih]
      by_cases hm : m = n
      · subst hm; rw [hf]; simp
      · simp [hm]
    | some y =>
      show lookI m ((n, y) :: ds.filterMap _) = _
      simp only [lookI, ih, List.mem_cons]
      by_cases hm : m = n
      · subst hm; simp [hf]
      · simp [hm]
theorem dom_asc : dom.Pairwise (· < ·) := by decide
theorem asc_ofF : Asc (ofF f) := asc_ofL dom_asc
theorem look_ofF (h : Supp f) (n : Int) : lookI n (ofF f) = f n := by
  unfold ofF
  rw [look_ofL]
  split
  · rfl
  · rename_i hn
    cases hf : f n with
    | none => rfl
    | some y => exact absurd (h n y hf) hn
theorem asc_nodup {A : PM} (h : Asc A) : (A.map (·.1)).Nodup := List.pairwise_map.mpr (h.imp fun h => by omega)
theorem Dic.of (h : Supp f) : Dic (ofF f) f := ⟨asc_nodup asc_ofF, look_ofF h⟩
theorem ofF_can {A : PM} (h : Asc A) (hd : ∀ p ∈ A, p.1 ∈ dom) : ofF (fun n => lookI n A) = A := asc_eq asc_ofF h fun n => look_ofF (fun n y e => by
    by_cases hm : n ∈ A.map (·.1)
    · obtain ⟨q, hq, e⟩ := List.mem_map.mp hm; exact e ▸ hd q hq
    · rw [look_none.mpr hm] at e; cases e) n
theorem Dic.srt (h : Dic A f) (s : Supp f) : srtK (·.1) A = ofF f := asc_eq (asc_srtK h.nod) asc_ofF fun n => by rw [look_srtK n h.nod, h.look, look_ofF s]
theorem len_insK (x : Int × D) : ∀ A : PM, (insK (·.1) x A).length = A.length + 1
  | [] => rfl
  | p :: r => by
    simp only [insK]
    split
    · rfl
    · simp [len_insK x r]
theorem len_srtK : ∀ A : PM, (srtK (·.1) A).length = A.length
  | [] => rfl
  | p :: r => by simp [srtK, len_insK, len_srtK r]
theorem len_ofF : (ofF f).length ≤ 10 := List.length_filterMap_le _ _
theorem Dic.len (h : Dic A f) (s : Supp f) : A.length ≤ 10 := by rw [← len_srtK A, h.srt s]; exact len_ofF
theorem ins_enc (x : Int × D) : ∀ A : PM, insK (fun d => (keyD d).2) (encD x) (A.map encD) = (insK (·.1) x A).map encD
  | [] => rfl
  | p :: r => by
    simp only [List.map_cons, insK]
    rw [show (keyD (encD x)).2 = x.1 from rfl, show (keyD (encD p)).2 = p.1 from rfl]
    split
    · rfl
    · rw [ins_enc x r]; rfl
theorem srt_enc : ∀ A : PM, srtK (fun d => (keyD d).2) (A.map encD) = (srtK (·.1) A).map encD
  | [] => rfl
  | p :: r => by simp only [List.map_cons, srtK, srt_enc r, ins_enc]
theorem nodI_of : ∀ {l : List Int}, l.Nodup → nodupI l = true
  | [], _ => rfl
  | x :: r, h => by
    have h := List.nodup_cons.mp h
    simp only [nodupI, nodI_of h.2, Bool.and_true]
    simp [h.1]
theorem srtD_enc {A : PM} (h : (A.map (·.1)).Nodup) (hl : A.length < 64) : srtD (A.map encD) = some ((srtK (·.1) A).map encD) := by
  have hk : (A.map encD).map (fun d => (keyD d).2) = A.map (·.1) := by rw [List.map_map]; rfl
  have ha : (A.map encD).all (isP false) = true := by rw [List.all_map]; exact List.all_eq_true.mpr fun p _ => rfl
  have h3 : srtP (A.map encD) false = true := by unfold srtP; rw [ha, hk, nodI_of h]; rfl
  unfold srtD
  refine (if_pos ?_).trans (congrArg some (srt_enc A))
  unfold srtOk
  rw [h3, List.length_map, decide_eq_true hl, Bool.or_true, Bool.true_or, Bool.and_true]
theorem Dic.sorted (h : Dic A f) (s : Supp f) : srtD (A.map encD) = some ((ofF f).map encD) := by
  rw [srtD_enc h.nod (Nat.lt_of_le_of_lt (h.len s) (by decide)), h.srt s]
theorem prs_enc : ∀ A : PM, prsOf false (A.map fun p => V.d (encD p)) = some (A.map toE)
  | [] => rfl
  | p :: r => by
    simp only [List.map_cons, prsOf]
    exact bnd (a := encD p) rfl (bnd (a := ((false, p.1), p.2)) rfl (ift rfl (mpd (prs_enc r) rfl)))
theorem cls_enc : ∀ A : PM, clsOf (A.map fun p => V.d (encD p)) = false
  | [] => rfl
  | p :: r => rfl
theorem mk_fold : ∀ (B A : PM), ((B.map toE).foldl (fun es p => setI p.1 p.2 es) (A.map toE)) = (B.foldl (fun es p => setI p.1 p.2 es) A).map toE
  | [], A => rfl
  | p :: r, A => by
    simp only [List.map_cons, List.foldl_cons]
    rw [show (toE p).2 = V.d p.2 from rfl, show (toE p).1 = p.1 from rfl, set_toE, mk_fold r]
theorem set_new {k : Int} {y : D} : ∀ {A : PM}, k ∉ A.map (·.1) → setI k y A = A ++ [(k, y)]
  | [], _ => rfl
  | p :: r, h => by
    simp only [List.map_cons, List.mem_cons, not_or] at h
    simp only [setI, if_neg h.1, set_new h.2, List.cons_append]
theorem mk_nod : ∀ {B A : PM}, ((A ++ B).map (·.1)).Nodup → B.foldl (fun es p => setI p.1 p.2 es) A = A ++ B
  | [], A, _ => (List.append_nil A).symm
  | p :: r, A, h => by
    have h' : p.1 ∉ A.map (·.1) := by
      rw [List.map_append] at h
      intro hm
      exact (List.nodup_append.mp h).2.2 _ hm _ (List.mem_cons_self) rfl
    simp only [List.foldl_cons]
    rw [set_new h', mk_nod (by rwa [List.append_assoc]), List.append_assoc]
    rfl
theorem mkDct_enc {A : PM} (h : (A.map (·.1)).Nodup) : mkDct (A.map toE) = A.map toE := (mk_fold A []).trans (congrArg (List.map toE) (mk_nod (A := []) h))
end
open PySem
noncomputable def encP (p : Int × Str) : D := .tup [.key p.1, .str p.2]
theorem cnd {p q r : Prop} [Decidable p] [Decidable q] [Decidable r] (h : r ↔ p ∧ q) : cond (decide p) (some (decide q)) (some false) = some (decide r) := by
  by_cases hp : p
  · rw [decide_eq_true hp]
    exact congrArg some (decide_eq_decide.mpr ⟨fun hq => h.mpr ⟨hp, hq⟩, fun hr => (h.mp hr).2⟩)
  · rw [decide_eq_false hp, decide_eq_false fun hr => hp (h.mp hr).1]
    rfl
theorem eqs_cons {a b : D} {as bs : List D} {p q r : Prop} [Decidable p] [Decidable q] [Decidable r] (h1 : eqO a b = some (decide p)) (h2 : eqOs as bs = some (decide q)) (h : r ↔ p ∧ q) : eqOs (a :: as) (b :: bs) = some (decide r) := bnd h1 (h2 ▸ cnd h)
theorem eqs_one {a b : D} {p r : Prop} [Decidable p] [Decidable r] (h1 : eqO a b = some (decide p)) (h : r ↔ p) : eqOs [a] [b] = some (decide r) := eqs_cons (q := True) h1 rfl (h.trans (and_true _ ▸ Iff.rfl))
theorem eq_map {α : Type} [DecidableEq α] (g : α → D) (hg : ∀ a b, eqO (g a) (g b) = some (decide (a = b))) (l : List α) : ∀ m : List α, eqOs (l.map g) (m.map g) = some (decide (l = m)) := by
  induction l with
  | nil =>
    intro m
    cases m with
    | nil => rfl
    | cons _ _ => rfl
  | cons p l ih =>
    intro m
    cases m with
    | nil => rfl
    | cons q m => exact eqs_cons (hg p q) (ih m) List.cons_eq_cons
theorem eq_lst {l m : List D} {r : Option Bool} (h : eqOs l m = r) : eqO (.lst l) (.lst m) = r := h
theorem eq_tup {l m : List D} {r : Option Bool} (h : eqOs l m = r) : eqO (.tup l) (.tup m) = r := h
theorem eqs_ne {a b : D} {l m : List D} (h : eqO a b = some false) : eqOs (a :: l) (b :: m) = some false := bnd h rfl
theorem enc_eq (p q : Int × Str) : eqO (encP p) (encP q) = some (decide (p = q)) := eqs_cons (a := .key p.1) (b := .key q.1) (as := [.str p.2]) (bs := [.str q.2]) (p := p.1 = q.1) (q := p.2 = q.2) rfl (eqs_one (p := p.2 = q.2) rfl Iff.rfl) Prod.ext_iff
theorem str_eq (a : Str) : eqO (.str a) (.str a) = some (decide True) := congrArg some (decide_eq_true rfl)
theorem leaf_ne : ¬ Str.ofString "leaf" = Str.ofString "inner" := by decide +kernel
open Classical in
theorem tag_ne {a b : Str} {l m : List D} (h : ¬ a = b) : eqO (.tup (.str a :: l)) (.tup (.str b :: m)) = some (decide (D.tup (.str a :: l) = .tup (.str b :: m))) :=
  (eq_tup (eqs_ne (a := .str a) (b := .str b) (congrArg some (decide_eq_false h)))).trans (congrArg some (decide_eq_false fun e => h (D.str.inj (List.cons.inj (D.tup.inj e)).1)).symm)
theorem tag_iff {a : Str} {l m : List D} {p : Prop} (h : l = m ↔ p) : D.tup (.str a :: l) = .tup (.str a :: m) ↔ True ∧ p := ⟨fun e => ⟨trivial, h.mp (List.cons.inj (D.tup.inj e)).2⟩, fun e => congrArg (fun l => D.tup (.str a :: l)) (h.mpr e.2)⟩
theorem lst_iff {α : Type} {g : α → D} (hg : ∀ a b, g a = g b → a = b) {l m : List α} : D.lst (l.map g) = .lst (m.map g) ↔ l = m := ⟨fun e => (List.map_inj_right hg).mp (D.lst.inj e), fun e => congrArg (fun l => D.lst (l.map g)) e⟩
theorem one_iff {a b : D} {p : Prop} (h : a = b ↔ p) : [a] = [b] ↔ p := ⟨fun e => h.mp (List.cons.inj e).1, fun e => congrArg (fun a => [a]) (h.mpr e)⟩
theorem two_iff {a b : D} {l m : List D} {p q : Prop} (h : a = b ↔ p) (h' : l = m ↔ q) : a :: l = b :: m ↔ p ∧ q := ⟨fun e => ⟨h.mp (List.cons.inj e).1, h'.mp (List.cons.inj e).2⟩, fun e => congr (congrArg List.cons (h.mpr e.1)) (h'.mpr e.2)⟩
open Classical in
theorem pg_eq {x y : D} (hx : Pg x) (hy : Pg y) : eqO x y = some (decide (x = y)) := by
  cases hx with
  | leaf l =>
    cases hy with
    | leaf m => exact eq_tup (eqs_cons (str_eq _) (eqs_one (eq_lst (eq_map encP enc_eq l m)) Iff.rfl) (tag_iff (one_iff (lst_iff fun a b h => Prod.ext (D.key.inj (List.cons.inj (D.tup.inj h)).1) (D.str.inj (List.cons.inj (List.cons.inj (D.tup.inj h)).2).1)))))
    | inner ks cs => exact tag_ne leaf_ne
  | inner ks cs =>
    cases hy with
    | leaf m => exact tag_ne fun e => leaf_ne e.symm
    | inner ks' cs' => exact eq_tup (eqs_cons (str_eq _) (eqs_cons (r := ks = ks' ∧ cs = cs') (eq_lst (eq_map .key (fun a b => rfl) ks ks')) (eqs_one (eq_lst (eq_map .int (fun a b => rfl) cs cs')) Iff.rfl) Iff.rfl) (tag_iff (two_iff (lst_iff fun a b h => D.key.inj h) (one_iff (lst_iff fun a b h => D.int.inj h)))))
theorem eqOs_refl {P : D → Prop} {l : List D} (hP : ∀ d, P d → eqO d d = some true) : (∀ d ∈ l, P d) → eqOs l l = some true := by
  induction l with
  | nil => exact fun _ => rfl
  | cons d l ih => exact fun h => bnd (hP d (h d List.mem_cons_self)) (ih fun e he => h e (List.mem_cons_of_mem _ he))
theorem okDs_mem {n : Nat} {l : List D} : okDs l n = true → ∀ d ∈ l, okD d n = true := by
  induction l with
  | nil => exact fun _ _ h => absurd h List.not_mem_nil
  | cons a l ih => exact fun h d hd => (List.mem_cons.mp hd).elim (fun e => e ▸ (Bool.and_eq_true_iff.mp h).1) (ih (Bool.and_eq_true_iff.mp h).2 d)
theorem eqO_refl (x : D) (n : Nat) : okD x n = true → eqO x x = some true := by
  induction n generalizing x with
  | zero =>
    intro h
    cases x with
    | none => rfl
    | bool _ => exact Bool.noConfusion h
    | raw _ _ => exact Bool.noConfusion h
    | int _ => exact congrArg some (decide_eq_true rfl)
    | key _ => exact congrArg some (decide_eq_true rfl)
    | str _ => exact congrArg some (decide_eq_true rfl)
    | tup _ => exact Bool.noConfusion h
    | lst _ => exact Bool.noConfusion h
  | succ n ih =>
    intro h
    cases x with
    | none => rfl
    | bool _ => exact Bool.noConfusion h
    | raw _ _ => exact Bool.noConfusion h
    | int _ => exact congrArg some (decide_eq_true rfl)
    | key _ => exact congrArg some (decide_eq_true rfl)
    | str _ => exact congrArg some (decide_eq_true rfl)
    | tup l => exact eqOs_refl ih (okDs_mem (l := l) h)
    | lst l => exact eqOs_refl ih (okDs_mem (l := l) h)
theorem okDs_map {α : Type} {g : α → D} {n : Nat} {l : List α} : (∀ a ∈ l, okD (g a) n = true) → okDs (l.map g) n = true := by
  induction l with
  | nil => exact fun _ => rfl
  | cons a l ih => exact fun h => Bool.and_eq_true_iff.mpr ⟨h a List.mem_cons_self, ih fun b hb => h b (List.mem_cons_of_mem _ hb)⟩
theorem ok_lst {α : Type} {g : α → D} {n : Nat} {l : List α} (h : ∀ a ∈ l, okD (g a) n = true) : okD (.lst (l.map g)) (n + 1) = true := okDs_map h
theorem pg_ok {x : D} (h : Pg x) (n : Nat) : okD x (n + 3) = true := by
  cases h with
  | leaf l =>
    show (true && (okDs _ (n + 1) && true)) = true
    rw [okDs_map fun a _ => rfl]; rfl
  | inner ks cs =>
    show (true && (okDs _ (n + 1) && (okDs _ (n + 1) && true))) = true
    rw [okDs_map fun a _ => rfl, okDs_map fun a _ => rfl]; rfl
theorem encT_ok {t : PF} (g : Good t) (n : Nat) : okD (encT t) (n + 6) = true := by
  show (okDs ((ofF t.f).map encD) (n + 4) && (true && true)) = true
  rw [okDs_map fun p hp => ?_]
  · rfl
  · show (true && (okD p.2 (n + 3) && true)) = true
    rw [pg_ok (g.pg p.1 p.2 (mem_ofL.mp hp).2)]; rfl
inductive Rec where
  | wr (n : Int) (p : D) | fr (n : Int) | cm (r : Int)
noncomputable def encR : Rec → D
  | .wr n p => .tup [.str "write", .int n, p]
  | .fr n => .tup [.str "free", .int n]
  | .cm r => .tup [.str "commit", .int r]
noncomputable def RecOk : Rec → Prop
  | .wr n p => Pg p ∧ n ∈ dom
  | _ => True
theorem rec_ok {x : Rec} (h : RecOk x) (n : Nat) : okD (encR x) (n + 4) = true := by
  cases x with
  | wr k p =>
    show (true && (true && (okD p (n + 3) && true))) = true
    rw [pg_ok h.1]; rfl
  | _ => rfl
noncomputable def encL (l : List Rec) : D := .lst (l.map encR)
theorem encL_ok {l : List Rec} (h : ∀ x ∈ l, RecOk x) (n : Nat) : okD (encL l) (n + 5) = true := ok_lst fun x hx => rec_ok (h x hx) n
open Classical in
noncomputable def d1 (f g : Pgs) (n : Int) : List Rec := match f n, g n with
  | .none, .none => []
  | some _, .none => [.fr n]
  | .none, some y => [.wr n y]
  | some x, some y => if x = y then [] else [.wr n y]
noncomputable def dif (f g : Pgs) : List Rec := dom.flatMap (d1 f g)
theorem d1_len (f g : Pgs) (n : Int) : (d1 f g n).length ≤ 1 := by
  unfold d1
  split
  · exact Nat.zero_le _
  · exact Nat.le_refl _
  · exact Nat.le_refl _
  · split
    · exact Nat.zero_le _
    · exact Nat.le_refl _
theorem flat_len {f g : Pgs} : ∀ ds : List Int, (ds.flatMap (d1 f g)).length ≤ ds.length
  | [] => Nat.le_refl _
  | n :: ds => by
    have := d1_len f g n
    have := flat_len (f := f) (g := g) ds
    rw [List.flatMap_cons, List.length_append, List.length_cons]; omega
theorem dif_len (f g : Pgs) : (dif f g).length ≤ 10 := flat_len dom
theorem dif_ok {a b : PF} (g : Good b) : ∀ x ∈ dif a.f b.f, RecOk x := by
  intro x hx
  obtain ⟨n, hn, h⟩ := List.mem_flatMap.mp hx
  unfold d1 at h
  split at h
  · cases h
  · rw [List.mem_singleton.mp h]; trivial
  · rename_i y _ hy; rw [List.mem_singleton.mp h]; exact ⟨g.pg n y hy, hn⟩
  · rename_i x' y _ hy
    split at h
    · cases h
    · rw [List.mem_singleton.mp h]; exact ⟨g.pg n y hy, hn⟩
open PySem
theorem ins_map {α β : Type} {k : α → Int} {k' : β → Int} {h : α → β} (e : ∀ a, k' (h a) = k a) (x : α) : ∀ l : List α, insK k' (h x) (l.map h) = (insK k x l).map h
  | [] => rfl
  | y :: r => by
    simp only [List.map_cons, insK, e]
    split
    · rfl
    · rw [ins_map e x r]; rfl
theorem srt_map {α β : Type} {k : α → Int} {k' : β → Int} {h : α → β} (e : ∀ a, k' (h a) = k a) : ∀ l : List α, srtK k' (l.map h) = (srtK k l).map h
  | [] => rfl
  | y :: r => by simp only [List.map_cons, srtK, srt_map e r, ins_map e]
theorem union_fold : ∀ (l acc : List Int), acc.Nodup → (l.foldl (fun l x => if l.contains x then l else l ++ [x]) acc).Nodup ∧ ∀ x, x ∈ l.foldl (fun l x => if l.contains x then l else l ++ [x]) acc ↔ x ∈ acc ∨ x ∈ l
  | [], acc, h => ⟨h, fun x => by simp⟩
  | y :: r, acc, h => by
    simp only [List.foldl_cons]
    by_cases hy : acc.contains y = true
    · rw [if_pos hy]
      obtain ⟨h1, h2⟩ := union_fold r acc h
      refine ⟨h1, fun x => ?_⟩
      rw [h2 x, List.mem_cons]
      have := List.contains_iff_mem.mp hy
      exact ⟨fun q => q.imp_right .inr, fun q => q.elim .inl fun q => q.elim (fun e => .inl (e ▸ this)) .inr⟩
    · rw [if_neg hy]
      have hn : y ∉ acc := fun q => hy (List.contains_iff_mem.mpr q)
      obtain ⟨h1, h2⟩ := union_fold r (acc ++ [y]) (List.nodup_append.mpr ⟨h, List.nodup_cons.mpr ⟨List.not_mem_nil, List.nodup_nil⟩, fun a ha b hb e => hn (by rw [List.mem_singleton.mp hb] at e; exact e ▸ ha)⟩)
      refine ⟨h1, fun x => ?_⟩
      rw [h2 x, List.mem_append, List.mem_singleton, List.mem_cons, or_assoc]
theorem ofL_keys {p : Int → Bool} : ∀ ds : List Int, (ofL ds fun n => cond (p n) (some D.none) .none).map (·.1) = ds.filter p
  | [] => rfl
  | n :: ds => by
    have ih := ofL_keys (p := p) ds
    unfold ofL at ih ⊢
    rw [List.filterMap_cons, List.filter_cons]
    cases hp : p n with
    | true => simp only [hp]; exact congrArg (n :: ·) ih
    | false => simp only [hp]; exact ih
theorem srt_ints {l : List Int} (h : l.Nodup) (hd : ∀ n ∈ l, n ∈ dom) : srtD (l.map .int) = some ((dom.filter fun n => l.contains n).map .int) := by
  let f : Pgs := fun n => cond (l.contains n) (some D.none) .none
  have hl : ∀ (m : List Int) (n : Int), lookI n (m.map fun n => (n, D.none)) = cond (m.contains n) (some D.none) .none := by
    intro m n
    induction m with
    | nil => rfl
    | cons y r ih =>
      simp only [List.map_cons, lookI, ih, List.contains_cons]
      by_cases e : n = y
      · subst e; simp
      · rw [if_neg e, beq_eq_false_iff_ne.mpr e, Bool.false_or]
  have hD : Dic (l.map fun n => (n, D.none)) f := ⟨by rw [List.map_map]; exact (List.map_id l).symm ▸ h, fun n => hl l n⟩
  have hS : Supp f := fun n y e => by
    have e : cond (l.contains n) (some D.none) .none = some y := e
    cases hc : l.contains n with
    | true => exact hd n (List.contains_iff_mem.mp hc)
    | false => rw [hc] at e; cases e
  have hlen := hD.len hS
  rw [List.length_map] at hlen
  unfold srtD
  refine (if_pos ?_).trans (congrArg some ?_)
  · unfold srtOk
    rw [List.length_map, decide_eq_true (Nat.lt_of_le_of_lt hlen (by decide)), show (l.map D.int).all isI = true from by rw [List.all_map]; exact List.all_eq_true.mpr fun _ _ => rfl]
    rfl
  · rw [srt_map (k := fun i : Int => i) (fun a => rfl)]
    refine congrArg _ ?_
    have e1 := hD.srt hS
    rw [srt_map (k := fun i : Int => i) (fun a => rfl)] at e1
    have e2 := congrArg (List.map (·.1)) e1
    rw [List.map_map, show (ofF f).map (·.1) = dom.filter fun n => l.contains n from ofL_keys dom] at e2
    exact (List.map_id _).symm.trans e2
section
variable {f g : Pgs}
theorem key_dom (s : Supp f) {n : Int} : n ∈ ((ofF f).map toE).map (·.1) ↔ (f n).isSome = true := by
  rw [List.map_map]
  constructor
  · intro h
    obtain ⟨p, hp, e⟩ := List.mem_map.mp h
    subst e
    show (f p.1).isSome = true
    rw [(mem_ofL.mp hp).2]; rfl
  · intro h
    obtain ⟨y, hy⟩ := Option.isSome_iff_exists.mp h
    exact List.mem_map.mpr ⟨(n, y), mem_ofL.mpr ⟨s n y hy, hy⟩, rfl⟩
theorem union_ok (hf : Supp f) (hg : Supp g) {st : St} : unionR (false, (ofF f).map toE) (false, (ofF g).map toE) st = some (.fresh (((dom.filter fun n => (f n).isSome || (g n).isSome).map .int).map .d), st) := by
  have ok : ∀ {h : Pgs}, Supp h → setOk (false, (ofF h).map toE) = true := fun {h} s => by
    have hd : ∀ n ∈ dom, (decide (0 ≤ n) && decide (n < 64)) = true := by decide
    unfold setOk
    rw [List.length_map, decide_eq_true (Nat.le_trans len_ofF (by decide)), List.all_map]
    simp only [Bool.not_false, Bool.true_and]
    exact List.all_eq_true.mpr fun p hp => hd _ (mem_ofL.mp hp).1
  obtain ⟨h1, h2⟩ := union_fold (((ofF f).map toE).map (·.1) ++ ((ofF g).map toE).map (·.1)) [] List.nodup_nil
  have hd : ∀ n ∈ unionK (((ofF f).map toE).map (·.1)) (((ofF g).map toE).map (·.1)), n ∈ dom := fun n hn => by
    cases List.mem_append.mp (((h2 n).mp hn).resolve_left List.not_mem_nil) with
    | inl h => obtain ⟨y, hy⟩ := Option.isSome_iff_exists.mp ((key_dom hf).mp h); exact hf n y hy
    | inr h => obtain ⟨y, hy⟩ := Option.isSome_iff_exists.mp ((key_dom hg).mp h); exact hg n y hy
  unfold unionR
  rw [ok hf, ok hg]
  refine (if_pos rfl).trans (mpd (srt_ints h1 hd) ?_)
  have : (dom.filter fun n => (unionK (((ofF f).map toE).map (·.1)) (((ofF g).map toE).map (·.1))).contains n) = dom.filter fun n => (f n).isSome || (g n).isSome := List.filter_congr fun n _ => by
    rw [Bool.eq_iff_iff, List.contains_iff_mem, Bool.or_eq_true, ← key_dom hf, ← key_dom hg, ← List.mem_append]
    exact (h2 n).trans ⟨fun q => q.resolve_left List.not_mem_nil, .inr⟩
  rw [this]
theorem flat_filter {p : Int → Bool} {h : Int → List Rec} (e : ∀ n, p n = false → h n = []) : ∀ ds : List Int, (ds.filter p).flatMap h = ds.flatMap h
  | [] => rfl
  | n :: ds => by
    rw [List.filter_cons, List.flatMap_cons]
    cases hp : p n with
    | true => rw [if_pos rfl, List.flatMap_cons, flat_filter e ds]
    | false => rw [if_neg Bool.false_ne_true, e n hp, flat_filter e ds]; rfl
theorem dif_eq : (dom.filter fun n => (f n).isSome || (g n).isSome).flatMap (d1 f g) = dif f g := flat_filter (fun n h => by
  unfold d1
  cases hf : f n <;> cases hg : g n <;> simp [hf, hg] at h ⊢) dom
end
section
variable {G : Gl} {fn : Fn} {K : Nat} {st st₁ st₂ : St} {xs : List (Str × V)} {σ σ' : List Cell} {e : PySem.Expr} {p q p1 p2 q1 q2 q3 q4 : Pos} {r r₁ r₂ : R} {A : PM} {f g : Pgs}
theorem ev_dictT (hE : ∀ n, evCallN G (run G (n+K)) fn "dict" [e] st = evDct (run G (n+K)) fn e st) (h : Ev G fn K e st (.val (.d (.lst (A.map encD)))) ⟨xs, σ⟩) (hn : (A.map (·.1)).Nodup) : Ev G fn (K+1) (.Call (.Name "dict" q) [e] [] p) st (.val (.loc σ.length)) ⟨xs, σ ++ [.dct false (A.map toE)]⟩ := by
  have hm : (A.map encD).map V.d = A.map fun p => V.d (encD p) := List.map_map
  have h2 := ev_dict hE h (l := A.map fun p => V.d (encD p)) (prs := A.map toE) (congrArg some hm) (by rw [cls_enc]; exact prs_enc A) (p := p) (q := q)
  rw [cls_enc, mkDct_enc hn] at h2
  exact h2
theorem ev_union {x y : PySem.Expr} {d d' : Bool × List (Int × V)} (hE : ∀ n, evCallN G (run G (n+K)) fn "sorted" [.BinOp (.Call (.Name "set" p1) [x] [] q1) .BitOr (.Call (.Name "set" p2) [y] [] q2) q3] st = evUnion (run G (n+K)) fn x y st)
    (h1 : Ev G fn K x st r₁ st₁) (d1 : dctOf st₁.store r₁ = some d) (h2 : Ev G fn K y st₁ r₂ st₂) (d2 : dctOf st₂.store r₂ = some d') (hu : unionR d d' st₂ = some (r, st₂)) : Ev G fn (K+1) (.Call (.Name "sorted" p) [.BinOp (.Call (.Name "set" p1) [x] [] q1) .BitOr (.Call (.Name "set" p2) [y] [] q2) q3] [] q4) st r st₂ := fun n => (hE n).trans (bnd (h1 n) (bnd d1 (bnd (h2 n) (bnd d2 hu))))
theorem m_app {l : List V} {m : Nat} {x : V} (hl : l.length < lim) : lmeth σ m l "append" [x] = some (.val (.d .none), σ.set m (.lst (l ++ [x]))) := ifp (c := _ = _) rfl (ifp hl rfl)
theorem x_app {i : Nat} {l₀ l : List V} {v : V} {xs' : List (Str × V)} {ap pos : Pos} {σ₀ : List Cell} (hok : mOk e ap pos 1 = true) {e' : PySem.Expr} (hb : Ev G fn K e st (.val (.loc i)) ⟨xs, σ₀⟩) (hs : σ₀[i]? = some (.lst l₀)) (ha : Kp G fn K fn.hm e' ⟨xs, σ₀⟩ v ⟨xs', σ⟩) (hs' : σ[i]? = some (.lst l)) (hl : l.length < lim) (hσ : σ.set i (.lst (l ++ [v])) = σ') : X1 G fn (K+1) (.Expr (.Call (.Attribute e "append" ap) [e'] [] pos) p) st .next ⟨xs', σ'⟩ :=
  x_expr rfl (ev_lm hok hb hs (sl_cons ha sl_nil) hs' (hσ ▸ m_app hl))
end
open PySem
theorem ok_write : PyData.strOk "write" = true := by decide +kernel
theorem ok_free : PyData.strOk "free" = true := by decide +kernel
theorem ok_commit : PyData.strOk "commit" = true := by decide +kernel
section
variable {σ : List Cell} {m : Nat} {es : List (Int × V)} {k : Int} {w : V} {b : Bool}
theorem okK_same {i : Int} : okK b es (b, i) = true := by cases b <;> simp [okK]
theorem in_dct {c : Bool} (h : σ[m]? = some (.dct false es)) (hc : (lookI k es).isSome = c) : isIn σ (.val (.d (.int k))) (.val (.loc m)) = some c := bnd (a := (false, es)) (bnd (a := m) rfl (by rw [h]; rfl)) (bnd (a := (false, k)) rfl (ift okK_same (congrArg some hc)))
theorem g_dct (h : σ[m]? = some (.dct false es)) (hl : lookI k es = some w) : getR σ (.val (.loc m)) (.val (.d (.int k))) = some w := ops (a := (false, es)) (bnd (a := m) rfl (by rw [h]; rfl)) (bnd (a := (false, k)) rfl (ift okK_same hl))
theorem c_ne {x y : D} {c b : Bool} (h : eqG x y = some c) (hb : (!c) = b) : cmpR .NotEq σ (.val (.d x)) (.val (.d y)) = some b := bnd (a := x) rfl (bnd (a := y) rfl (mpd h hb))
theorem c_eq {x y : D} {c : Bool} (h : eqG x y = some c) : cmpR .Eq σ (.val (.d x)) (.val (.d y)) = some c := bnd (a := x) rfl (bnd (a := y) rfl h)
theorem eqG_of {x y : D} {c : Bool} (hx : okD x 30 = true) (hy : okD y 30 = true) (h : eqO x y = some c) : eqG x y = some c := ift (by rw [hx, hy]; rfl) h
theorem eqG_refl {x : D} (hx : okD x 30 = true) : eqG x x = some true := eqG_of hx hx (eqO_refl x 30 hx)
theorem eqG_str {a b : Str} {c : Bool} (h : decide (a = b) = c) : eqG (.str a) (.str b) = some c := eqG_of rfl rfl (by rw [← h]; rfl)
end
section
variable {rs : List Int} {a b : PF} {o : List Rec} {k : Int} {xs : List (Str × V)}
noncomputable def chs (A B : PM) (o : List Rec) : List Cell := [.dct false (A.map toE), .dct false (B.map toE), .lst (o.map fun r => V.d (encR r))]
noncomputable def chy : List (Str × V) := [("a", .loc 0), ("b", .loc 1), ("out", .loc 2)]
noncomputable def chk (k : Int) : List (Str × V) := [("a", .loc 0), ("b", .loc 1), ("out", .loc 2), ("n", .d (.int k))]
theorem lk_ofF (g : Good a) : lookI k ((ofF a.f).map toE) = (a.f k).map V.d := by rw [look_toE, look_ofF g.dm]
theorem app_len (h : o.length < 900) : (o.map fun r => V.d (encR r)).length < lim := by rw [List.length_map]; unfold lim; omega
theorem chs_set (A B : PM) (x : Rec) : (chs A B o).set 2 (.lst ((o.map fun r => V.d (encR r)) ++ [.d (encR x)])) = chs A B (o ++ [x]) := by
  unfold chs; rw [List.map_append]; rfl
open Classical in
theorem chg_body (ga : Good a) (gb : Good b) (h : Sees xs (chk k)) (hl : o.length < 900) (hk : ((a.f k).isSome || (b.f k).isSome) = true) :
    Ex (G rs) fChanges 20 (bOf (stAt fChanges 2)) ⟨xs, chs (ofF a.f) (ofF b.f) o⟩ .next ⟨xs, chs (ofF a.f) (ofF b.f) (o ++ d1 a.f b.f k)⟩ := by
  have hn : ∀ {K : Nat} {p : Pos}, Ev (G rs) fChanges (K+1) (.Name "n" p) ⟨xs, chs (ofF a.f) (ofF b.f) o⟩ (.val (.d (.int k))) ⟨xs, chs (ofF a.f) (ofF b.f) o⟩ := pn h rfl rfl
  have ha : ∀ {K : Nat} {p : Pos}, Ev (G rs) fChanges (K+1) (.Name "a" p) ⟨xs, chs (ofF a.f) (ofF b.f) o⟩ (.val (.loc 0)) ⟨xs, chs (ofF a.f) (ofF b.f) o⟩ := pn h rfl rfl
  have hb : ∀ {K : Nat} {p : Pos}, Ev (G rs) fChanges (K+1) (.Name "b" p) ⟨xs, chs (ofF a.f) (ofF b.f) o⟩ (.val (.loc 1)) ⟨xs, chs (ofF a.f) (ofF b.f) o⟩ := pn h rfl rfl
  have ho : ∀ {K : Nat} {p : Pos}, Ev (G rs) fChanges (K+1) (.Name "out" p) ⟨xs, chs (ofF a.f) (ofF b.f) o⟩ (.val (.loc 2)) ⟨xs, chs (ofF a.f) (ofF b.f) o⟩ := pn h rfl rfl
  have wr : ∀ {y : D}, b.f k = some y → Ex (G rs) fChanges 18 (bOf (at' (elOf (at' (bOf (stAt fChanges 2)) 0)) 0)) ⟨xs, chs (ofF a.f) (ofF b.f) o⟩ .next ⟨xs, chs (ofF a.f) (ofF b.f) (o ++ [.wr k y])⟩ := fun {y} hy =>
    x_cons (x_app rfl ho rfl (kp_val (ev_tup (vs := [.d (.str "write"), .d (.int k), .d y]) (sl_cons (kp_val (ev_str ok_write)) (sl_cons (kp_val hn) (sl_cons (kp_val (ev_idx rfl hb hn (g_dct rfl (by rw [lk_ofF gb, hy]; rfl)))) sl_nil))) rfl (by decide))) rfl (app_len hl) (chs_set _ _ (.wr k y))) x_nil
  have ib : ∀ {y : Option D}, b.f k = y → (lookI k ((ofF b.f).map toE)).isSome = (y.map V.d).isSome := fun {y} e => by rw [lk_ofF gb, e]
  have ia : ∀ {y : Option D}, a.f k = y → (lookI k ((ofF a.f).map toE)).isSome = (y.map V.d).isSome := fun {y} e => by rw [lk_ofF ga, e]
  cases hy : b.f k with
  | none =>
    rw [hy] at hk
    cases hx : a.f k with
    | none => rw [hx] at hk; exact nomatch hk
    | some x =>
      rw [show d1 a.f b.f k = [.fr k] from by unfold d1; rw [hx, hy]]
      exact x_cons (x_ift (tt_nin hn hb (in_dct rfl (ib hy)) rfl) (x_cons (x_app rfl ho rfl (kp_val (ev_tup (vs := [.d (.str "free"), .d (.int k)]) (sl_cons (kp_val (ev_str ok_free)) (sl_cons (kp_val hn) sl_nil)) rfl (by decide))) rfl (app_len hl) (chs_set _ _ (.fr k))) x_nil)) x_nil
  | some y =>
    refine x_cons (x_iff (tt_nin hn hb (in_dct rfl (ib hy)) rfl) ?_) x_nil
    cases hx : a.f k with
    | none =>
      rw [show d1 a.f b.f k = [.wr k y] from by unfold d1; rw [hx, hy]]
      exact x_cons (x_ift (tt_or (o_t (tt_nin hn ha (in_dct rfl (ia hx)) rfl))) (wr hy)) x_nil
    | some x =>
      have pe := eqG_of (pg_ok (ga.pg k x hx) 27) (pg_ok (gb.pg k y hy) 27) (pg_eq (ga.pg k x hx) (gb.pg k y hy))
      have gx : getR (chs (ofF a.f) (ofF b.f) o) (.val (.loc 0)) (.val (.d (.int k))) = some (.d x) := g_dct rfl (by rw [lk_ofF ga, hx]; rfl)
      have gy : getR (chs (ofF a.f) (ofF b.f) o) (.val (.loc 1)) (.val (.d (.int k))) = some (.d y) := g_dct rfl (by rw [lk_ofF gb, hy]; rfl)
      by_cases e : x = y
      · rw [show d1 a.f b.f k = [] from by unfold d1; rw [hx, hy]; exact if_pos e, List.append_nil]
        rw [decide_eq_true e] at pe
        exact x_cons (x_iff (tt_or (o_f (tt_nin hn ha (in_dct rfl (ia hx)) rfl) (o_l (tt_cmp (fun n => rfl) (ev_idx rfl ha hn gx) (ev_idx rfl hb hn gy) (c_ne pe rfl))))) x_nil) x_nil
      · rw [show d1 a.f b.f k = [.wr k y] from by unfold d1; rw [hx, hy]; exact if_neg e]
        rw [decide_eq_false e] at pe
        exact x_cons (x_ift (tt_or (o_f (tt_nin hn ha (in_dct rfl (ia hx)) rfl) (o_l (tt_cmp (fun n => rfl) (ev_idx rfl ha hn gx) (ev_idx rfl hb hn gy) (c_ne pe rfl))))) (wr hy)) x_nil
theorem bd_name {x : Str} {v : V} {xs : List (Str × V)} {σ : List Cell} : bindT (.one x) v ⟨xs, σ⟩ = some ⟨setS x v xs, σ⟩ := rfl
theorem chg_loop (ga : Good a) (gb : Good b) : ∀ (ks : List Int) (o : List Rec) (xs : List (Str × V)), (∀ k ∈ ks, ((a.f k).isSome || (b.f k).isSome) = true) → Sees xs chy → o.length + ks.length < 900 →
    ∃ ys, Lp (G rs) fChanges 20 (.one "n") (bOf (stAt fChanges 2)) (ks.map fun i => .d (.int i)) ⟨xs, chs (ofF a.f) (ofF b.f) o⟩ ⟨ys, chs (ofF a.f) (ofF b.f) (o ++ ks.flatMap (d1 a.f b.f))⟩ ∧ Sees ys chy
  | [], o, xs, _, h, _ => ⟨xs, by rw [List.flatMap_nil, List.append_nil]; exact lp_nil, h⟩
  | k :: r, o, xs, hk, h, hl => by
    have h1 := d1_len a.f b.f k
    simp only [List.length_cons] at hl
    have h2 : Sees (setS "n" (V.d (.int k)) xs) (chk k) := h.put rfl
    obtain ⟨ys, e, hy⟩ := chg_loop ga gb r (o ++ d1 a.f b.f k) _ (fun k hk' => hk k (List.mem_cons_of_mem _ hk')) (h.other rfl : Sees (setS "n" (V.d (.int k)) xs) chy) (by rw [List.length_append]; omega)
    rw [List.flatMap_cons, ← List.append_assoc]
    exact ⟨ys, lp_cons bd_name (chg_body ga gb h2 (by omega) (hk k List.mem_cons_self)) e, hy⟩
theorem frz_list {σ : List Cell} {m : Nat} {l : List D} (h : σ[m]? = some (.lst (l.map .d))) : freezeR σ (.val (.loc m)) = some (.val (.d (.lst l))) := by
  have : ∀ (k : Nat) (l : List D), (l.map V.d).mapM (freezeN k σ) = some l := by
    intro k l
    induction l with
    | nil => rfl
    | cons x r ih =>
      rw [List.map_cons, List.mapM_cons, ih]
      cases k <;> rfl
  exact mpd (a := .lst l) (bnd (a := l.map .d) (by rw [h]; rfl) (mpd (this 7 l) rfl)) rfl
theorem changes_ok (ga : Good a) (gb : Good b) : Cl (G rs) fChanges 30 [.d (encT a), .d (encT b)] [] (.val (.d (encL (dif a.f b.f)))) [] := by
  have hs0 : Sees [("old", V.d (encT a)), ("new", V.d (encT b))] [("old", V.d (encT a)), ("new", V.d (encT b))] := .refl
  obtain ⟨ys, e, hy⟩ := chg_loop (rs := rs) ga gb (dom.filter fun n => (a.f n).isSome || (b.f n).isSome) [] [("old", V.d (encT a)), ("new", V.d (encT b)), ("a", .loc 0), ("b", .loc 1), ("out", .loc 2)] (fun k hk => (List.mem_filter.mp hk).2) (.cons rfl (.cons rfl (.cons rfl .nil))) (Nat.lt_of_le_of_lt (Nat.add_le_add_left (List.length_filter_le _ _) _) (by decide))
  rw [List.nil_append, dif_eq] at e
  refine c_own rfl rfl (r_step rfl (x_asgT rfl rfl (ws_cons (kp_val (ev_dictT (σ := []) (fun n => rfl) (ev_idx rfl (pn hs0 rfl rfl) ev_int rfl) (asc_nodup asc_ofF))) (ws_cons (kp_val (ev_dictT (fun n => rfl) (ev_idx rfl (pn hs0 rfl rfl) ev_int rfl) (asc_nodup asc_ofF))) ws_nil)) (tos_cons (to_name rfl) (tos_cons (to_name rfl) tos_nil))) ?_)
  refine r_step rfl (x_asgN (kp_new (l := []) (ev_list sl_nil (by decide)) rfl) rfl) ?_
  refine r_step (xs' := ys) (σ' := chs (ofF a.f) (ofF b.f) (dif a.f b.f)) rfl (x_for (l := ⟨(dom.filter fun n => (a.f n).isSome || (b.f n).isSome).map fun i => .d (.int i), false⟩) (it_ev (fun n => rfl) (ev_union (fun n => rfl) (pn .refl rfl rfl) rfl (pn .refl rfl rfl) rfl (union_ok ga.dm gb.dm)) ?_) rfl rfl (Mine.U.up (by decide) (P := fun n => forLoop' (run (G rs) n) fChanges _ _ _ _ = some _) e)) ?_
  · exact congrArg (fun l => some (l, _)) List.map_map
  · refine r_ret rfl (x_retE (pn hy rfl rfl)) (frz_list ?_)
    exact congrArg (fun l => some (Cell.lst l)) (List.map_map).symm
end
open PySem
noncomputable def isCm : Rec → Bool
  | .cm _ => true
  | _ => false
noncomputable def lastI : Nat → Nat → List Rec → Nat
  | _, a, [] => a
  | i, a, r :: l => lastI (i + 1) (cond (isCm r) (i + 1) a) l
noncomputable def rep1 (t : PF) : Rec → PF
  | .wr n p => ⟨upd t.f n (some p), t.r⟩
  | .fr n => ⟨upd t.f n .none, t.r⟩
  | .cm k => ⟨t.f, k⟩
noncomputable def trim (l : List Rec) : List Rec := l.take (lastI 0 0 l)
noncomputable def rply (t : PF) (log : List Rec) : PF := (trim log).foldl rep1 t
theorem good1 {t : PF} (g : Good t) {x : Rec} (h : RecOk x) : Good (rep1 t x) := by
  cases x with
  | wr n p => exact ⟨fun m y e => by
      by_cases hm : m = n
      · subst hm; rw [show (rep1 t (.wr m p)).f = upd t.f m (some p) from rfl, upd_same] at e; cases e; exact h.1
      · rw [show (rep1 t (.wr n p)).f = upd t.f n (some p) from rfl, upd_ne hm] at e; exact g.pg m y e, fun m y e => by
      by_cases hm : m = n
      · subst hm; exact h.2
      · rw [show (rep1 t (.wr n p)).f = upd t.f n (some p) from rfl, upd_ne hm] at e; exact g.dm m y e⟩
  | fr n => exact ⟨fun m y e => by
      by_cases hm : m = n
      · subst hm; rw [show (rep1 t (.fr m)).f = upd t.f m .none from rfl, upd_same] at e; cases e
      · rw [show (rep1 t (.fr n)).f = upd t.f n .none from rfl, upd_ne hm] at e; exact g.pg m y e, fun m y e => by
      by_cases hm : m = n
      · subst hm; rw [show (rep1 t (.fr m)).f = upd t.f m .none from rfl, upd_same] at e; cases e
      · rw [show (rep1 t (.fr n)).f = upd t.f n .none from rfl, upd_ne hm] at e; exact g.dm m y e⟩
  | cm k => exact ⟨g.pg, g.dm⟩
theorem goodF : ∀ {l : List Rec} {t : PF}, Good t → (∀ x ∈ l, RecOk x) → Good (l.foldl rep1 t)
  | [], t, g, _ => g
  | x :: l, t, g, h => goodF (l := l) (t := rep1 t x) (good1 g (h x List.mem_cons_self)) fun y hy => h y (List.mem_cons_of_mem _ hy)
theorem good_rply {t : PF} {log : List Rec} (g : Good t) (h : ∀ x ∈ log, RecOk x) : Good (rply t log) := goodF g fun x hx => h x (List.mem_of_mem_take hx)
theorem slc_to {α : Type} (l : List α) (k : Nat) : slc l .none (some (k : Int)) = l.take k := by
  simp only [slc, hiN, loN, clamp, Int.natCast_nonneg, if_true, Int.toNat_natCast, List.drop_zero]
  rcases Nat.le_total k l.length with h | h
  · rw [Nat.min_eq_left h]
  · rw [Nat.min_eq_right h, List.take_length, List.take_of_length_le h]
noncomputable def tagR : Rec → Str
  | .wr _ _ => "write"
  | .fr _ => "free"
  | .cm _ => "commit"
section
variable {rs : List Int} {t : PF} {Lg : List Rec} {xs : List (Str × V)} {σ : List Cell} {x : Rec} {fn : Fn} {K : Nat}
theorem tt_tag {p1 p2 p3 p4 p5 : Pos} {k k' : Nat} {s r : Str} {c : Bool} (hr : isLoc (fn.names.lookup r) = true) (h : lookS r xs = some (.d (encR x))) (hs : PyData.strOk s = true) (hc : decide (tagR x = s) = c) : Tt (G rs) fn (K+3) (.Compare (.Subscript (.Name r p1) (.Constant (.int 0) k p2) p3) [.Eq] [.Constant (.str s) k' p4] p5) ⟨xs, σ⟩ c ⟨xs, σ⟩ :=
  tt_cmp (fun n => rfl) (ev_idx rfl (pn (ys := [(r, .d (encR x))]) (.cons h .nil) hr (by simp [lookS])) ev_int (show getR σ (.val (.d (encR x))) _ = some (.d (.str (tagR x))) from by cases x <;> rfl)) (ev_str hs) (c_eq (eqG_str hc))
noncomputable def rpy (Lg : List Rec) (r : Int) (a : Nat) : List (Str × V) := [("log", .d (encL Lg)), ("pages", .loc 0), ("root", .d (.int r)), ("last", .d (.int a))]
theorem rp_body1 {i a : Nat} {r : Int} (h : Sees xs (("i", .d (.int i)) :: ("r", .d (encR x)) :: rpy Lg r a)) : ∃ ys, Ex (G rs) fReplay 10 (bOf (stAt fReplay 1)) ⟨xs, σ⟩ .next ⟨ys, σ⟩ ∧ Sees ys (rpy Lg r (cond (isCm x) (i + 1) a)) := by
  have hr : lookS "r" xs = some (.d (encR x)) := h _ _ rfl
  have h' : Sees xs (rpy Lg r a) := h.trans (.cons rfl (.cons rfl (.cons rfl (.cons rfl .nil))))
  cases x with
  | cm k => exact ⟨_, x_cons (x_ift (tt_tag (x := .cm k) rfl hr ok_commit rfl) (x_cons (x_asgN (kp_val (ev_bin (pn h rfl rfl) ev_int rfl)) rfl) x_nil)) x_nil, h'.put rfl⟩
  | wr k p => exact ⟨_, x_cons (x_iff (tt_tag (x := .wr k p) rfl hr ok_commit rfl) x_nil) x_nil, h'⟩
  | fr k => exact ⟨_, x_cons (x_iff (tt_tag (x := .fr k) rfl hr ok_commit rfl) x_nil) x_nil, h'⟩
theorem bd_two {x y : Str} {a b : V} : bindT (.two x y) (.tup [a, b]) ⟨xs, σ⟩ = some ⟨setS y b (setS x a xs), σ⟩ := rfl
theorem rp_loop1 {r : Int} : ∀ (l : List Rec) (i a : Nat) (xs : List (Str × V)), Sees xs (rpy Lg r a) →
    ∃ ys, Lp (G rs) fReplay 10 (.two "i" "r") (bOf (stAt fReplay 1)) (enumL i (l.map fun r => V.d (encR r))) ⟨xs, σ⟩ ⟨ys, σ⟩ ∧ Sees ys (rpy Lg r (lastI i a l))
  | [], i, a, xs, hx => ⟨xs, lp_nil, hx⟩
  | x :: l, i, a, xs, hx => by
    have h2 : Sees (setS "r" (.d (encR x)) (setS "i" (.d (.int i)) xs)) (("i", .d (.int i)) :: ("r", .d (encR x)) :: rpy Lg r a) := .cons (by rw [lk_ne (by decide), lk_same]) (.cons lk_same ((hx.other rfl).other rfl))
    obtain ⟨ys, e, hy⟩ := rp_body1 (rs := rs) (σ := σ) h2
    obtain ⟨zs, e2, hz⟩ := rp_loop1 l (i + 1) _ ys hy
    exact ⟨zs, lp_cons bd_two e e2, hz⟩
theorem rp_body2 {A : PM} {a : Nat} (h : Sees xs (("r", .d (encR x)) :: rpy Lg t.r a)) (hl : A.length < 900) (hA : Dic A t.f) :
    ∃ ys B, Ex (G rs) fReplay 14 (bOf (stAt fReplay 2)) ⟨xs, [.dct false (A.map toE)]⟩ .next ⟨ys, [.dct false (B.map toE)]⟩ ∧ Sees ys (rpy Lg (rep1 t x).r a) ∧ Dic B (rep1 t x).f ∧ B.length ≤ A.length + 1 := by
  have hr : lookS "r" xs = some (.d (encR x)) := h _ _ rfl
  have h' : Sees xs (rpy Lg t.r a) := h.trans (.cons rfl (.cons rfl (.cons rfl (.cons rfl .nil))))
  cases x with
  | wr k p =>
    refine ⟨xs, setI k p A, x_cons (x_ift (tt_tag (x := .wr k p) rfl hr ok_write rfl) (x_cons (x_asgI (kp_val (ev_idx rfl (pn h rfl rfl) ev_int rfl)) (to_item (m := 0) (k := (false, k)) (pn h rfl rfl) (ev_idx rfl (pn h rfl rfl) ev_int rfl) rfl (ift (by rw [okK_same, List.length_map, decide_eq_true (show A.length < lim from by unfold lim; omega)]; rfl) ?_))) x_nil)) x_nil, h', hA.set k p, ?_⟩
    · exact congrArg (fun l => some [Cell.dct false l]) (set_toE k p A)
    · have := congrArg List.length (keys_set k p A)
      rw [List.length_map] at this
      rw [this]
      split
      · rw [List.length_map]; omega
      · rw [List.length_append, List.length_map]; exact Nat.le_refl _
  | fr k =>
    refine ⟨xs, delI k A, x_cons (x_iff (tt_tag (x := .fr k) rfl hr ok_write rfl) (x_cons (x_ift (tt_tag (x := .fr k) rfl hr ok_free rfl) (x_cons (x_expr (r := .val ((lookI k (A.map toE)).getD (.d .none))) rfl (ev_dm (i := 0) (vs := [.d (.int k), .d .none]) rfl (pn h rfl rfl) rfl (sl_cons (kp_val (ev_idx rfl (pn h rfl rfl) ev_int rfl)) (sl_cons (kp_val ev_no) sl_nil)) rfl ?_)) x_nil)) x_nil)) x_nil, h', hA.del k, ?_⟩
    · rw [← del_toE]
      exact ifn (c := _ = _) (by decide) (ifp (c := _ = _) rfl (bnd (a := (V.d (.int k), V.d .none)) rfl (bnd (a := (false, k)) rfl (ift (by rw [okK_same]; rfl) rfl))))
    · have := (keys_del k A).length_le
      rw [List.length_map, List.length_map] at this
      omega
  | cm k => exact ⟨_, A, x_cons (x_iff (tt_tag (x := .cm k) rfl hr ok_write rfl) (x_cons (x_iff (tt_tag (x := .cm k) rfl hr ok_free rfl) (x_cons (x_asgN (kp_val (ev_idx rfl (pn h rfl rfl) ev_int rfl)) rfl) x_nil)) x_nil)) x_nil, h'.put rfl, hA, Nat.le_succ _⟩
theorem rp_loop2 {a : Nat} : ∀ (l : List Rec) (t : PF) (A : PM) (xs : List (Str × V)), Sees xs (rpy Lg t.r a) → A.length + l.length < 900 → Dic A t.f →
    ∃ ys B, Lp (G rs) fReplay 14 (.one "r") (bOf (stAt fReplay 2)) (l.map fun r => V.d (encR r)) ⟨xs, [.dct false (A.map toE)]⟩ ⟨ys, [.dct false (B.map toE)]⟩ ∧ Sees ys (rpy Lg (l.foldl rep1 t).r a) ∧ Dic B (l.foldl rep1 t).f
  | [], t, A, xs, h, _, hA => ⟨xs, A, lp_nil, h, hA⟩
  | x :: l, t, A, xs, h, hl, hA => by
    simp only [List.length_cons] at hl
    have h2 : Sees (setS "r" (.d (encR x)) xs) (("r", .d (encR x)) :: rpy Lg t.r a) := .cons lk_same (h.other rfl)
    obtain ⟨ys, B, e, hy, hB, hb⟩ := rp_body2 (rs := rs) h2 (by omega) hA
    obtain ⟨zs, C, e2, hz, hC⟩ := rp_loop2 l (rep1 t x) B ys hy (by omega) hB
    exact ⟨zs, C, lp_cons bd_name e e2, hz, hC⟩
theorem replay_ok {log : List Rec} (g : Good t) (hr : ∀ x ∈ log, RecOk x) (hl : log.length < 800) : Cl (G rs) fReplay 30 [.d (encT t), .d (encL log)] [] (.val (.d (encT (rply t log)))) [] := by
  have hs0 : Sees [("tree", V.d (encT t)), ("log", V.d (encL log))] [("tree", V.d (encT t)), ("log", V.d (encL log))] := .refl
  have hl0 := len_ofF (f := t.f)
  obtain ⟨ys, e1, hy⟩ := rp_loop1 (rs := rs) (Lg := log) (r := t.r) (σ := [.dct false ((ofF t.f).map toE)]) log 0 0 [("tree", V.d (encT t)), ("log", V.d (encL log)), ("pages", .loc 0), ("root", .d (.int t.r)), ("last", .d (.int 0))] (.cons rfl (.cons rfl (.cons rfl (.cons rfl .nil))))
  obtain ⟨zs, B, e2, hz, hB⟩ := rp_loop2 (rs := rs) (Lg := log) (a := lastI 0 0 log) (trim log) t (ofF t.f) ys hy (by unfold trim; rw [List.length_take]; omega) (.of g.dm)
  have hm : (log.map encR).map V.d = log.map fun r => V.d (encR r) := List.map_map
  refine c_own rfl rfl (r_step rfl (x_asgT rfl rfl (ws_cons (kp_val (ev_dictT (σ := []) (fun n => rfl) (ev_idx rfl (pn hs0 rfl rfl) ev_int rfl) (asc_nodup asc_ofF))) (ws_cons (kp_val (ev_idx rfl (pn hs0 rfl rfl) ev_int rfl)) (ws_cons (kp_val ev_int) ws_nil))) (tos_cons (to_name rfl) (tos_cons (to_name rfl) (tos_cons (to_name rfl) tos_nil)))) ?_)
  refine r_step (xs' := ys) (σ' := [.dct false ((ofF t.f).map toE)]) rfl (x_for (it_enum (fun n => rfl) (pn .refl rfl rfl) (l := log.map fun r => V.d (encR r)) (congrArg (fun l => some (l, _)) hm)) rfl rfl (Mine.U.up (by decide) (P := fun n => forLoop' (run (G rs) n) fReplay _ _ _ _ = some _) e1)) ?_
  refine r_step (xs' := zs) (σ' := [.dct false (B.map toE)]) rfl (x_for (it_ev (fun n => rfl) (ev_slc (pn hy rfl rfl) (fun n => op_none) (op_some (pn hy rfl rfl)) rfl) (l := (trim log).map fun r => V.d (encR r)) ?_) rfl rfl (Mine.U.up (by decide) (P := fun n => forLoop' (run (G rs) n) fReplay _ _ _ _ = some _) e2)) ?_
  · refine congrArg (fun l => some (l, _)) ?_
    rw [hm]
    exact (slc_to _ _).trans List.map_take.symm
  · have gr := good_rply g hr
    exact r_ret rfl (x_retE (ev_tup (vs := [.d (.lst ((ofF (rply t log).f).map encD)), .d (.int (rply t log).r)]) (sl_cons (kp_fz (ev_items (fun n => rfl) (pn hz rfl rfl) (dd := (false, B.map toE)) rfl (items_toE B) (hB.sorted gr.dm)) rfl (allD_d _)) (sl_cons (kp_val (pn hz rfl rfl)) sl_nil)) rfl (by decide))) rfl
end
open PySem
section
variable {G : Gl} {fn : Fn} {K : Nat} {st st₁ st₂ : St} {xs ys : List (Str × V)} {σ : List Cell} {elt t : PySem.Expr} {sc : Scope} {p : Pos} {x : Str}
noncomputable def Tn (G : Gl) (fn : Fn) (K : Nat) (tg : Tg) (ifs : List PySem.Expr) (elt : PySem.Expr) (gs : List Comprehension) (items : List V) (st : St) (l : List V) (st' : St) : Prop := ∀ n, turns (compTurn' (run G (n+K)) fn tg ifs (gens G (run G (n+K)) fn elt gs)) items st = some (l, st')
theorem ev_lc {g : Comprehension} {gs : List Comprehension} {it : It} {tg : Tg} {l : List V} (hok : (scOk fn sc && (g :: gs).all gOk) = true) (hi : ItE G fn K g.iter st it st₁) (ht : asTg g.target = some tg) (hk : tgOk (fn.sc sc.names) it.pr tg = true) (hn : Tn G (fn.sc sc.names) K tg g.ifs elt gs it.items ⟨seen sc.names st.vars, st₁.store⟩ l st₂) (hl : l.length ≤ lim) : Ev G fn (K+1) (.ListComp elt (g :: gs) sc p) st (.fresh l) ⟨st.vars, st₂.store⟩ := fun n =>
  ift hok (bnd (a := (tg, it, st₁)) (bnd (hi n) (bnd ht (ift hk rfl))) (bnd (hn n) (ifp hl rfl)))
theorem lk_seen {names : List (Str × NameKind)} (h : (names.lookup x == some .free) = true) : ∀ xs : List (Str × V), lookS x (seen names xs) = lookS x xs
  | [] => rfl
  | (y, w) :: r => by
    unfold seen
    rw [List.filter_cons]
    by_cases e : x = y
    · subst e
      rw [if_pos h]
      simp only [lookS]
      rw [if_pos trivial, if_pos trivial]
    · split
      · simp only [lookS, if_neg e]; exact lk_seen h r
      · simp only [lookS, if_neg e]; exact lk_seen h r
theorem Sees.seen {names : List (Str × NameKind)} {v : V} (h : Sees xs ys) (hn : (names.lookup x == some .free) = true) (hl : lookS x ys = some v) : lookS x (seen names xs) = some v := (lk_seen hn xs).trans (h _ _ hl)
theorem tn_nil {tg : Tg} {ifs : List PySem.Expr} {gs : List Comprehension} : Tn G fn K tg ifs elt gs [] st [] st := fun n => rfl
theorem tn_filter {α : Type} {g : α → V} {b : α → Bool} (hk : isLoc (fn.names.lookup x) = true) (hx : lookS x ys = .none) : ∀ (l : List α) (xs : List (Str × V)), (∀ a ∈ l, ∀ zs, Sees zs ((x, g a) :: ys) → Tt G fn (K+1) t ⟨zs, σ⟩ (b a) ⟨zs, σ⟩) → Sees xs ys → ∃ xs', Tn G fn (K+1) (.one x) [t] (.Name x p) [] (l.map g) ⟨xs, σ⟩ ((l.filter b).map g) ⟨xs', σ⟩
  | [], xs, _, h => ⟨xs, tn_nil⟩
  | a :: r, xs, htt, h => by
    have h2 : Sees (setS x (g a) xs) ((x, g a) :: ys) := .cons lk_same (h.other hx)
    obtain ⟨xs', e⟩ := tn_filter hk hx r (setS x (g a) xs) (fun a ha => htt a (List.mem_cons_of_mem _ ha)) (h.other hx)
    refine ⟨xs', fun n => ?_⟩
    rw [List.filter_cons]
    have ht := htt a List.mem_cons_self _ h2 n
    cases hb : b a with
    | true =>
      rw [hb] at ht
      exact bnd (a := ([g a], ⟨setS x (g a) xs, σ⟩)) (bnd (a := ⟨setS x (g a) xs, σ⟩) rfl (bnd (a := (true, ⟨setS x (g a) xs, σ⟩)) (show tests (run G (n + (K+1))) fn ⟨setS x (g a) xs, σ⟩ [t] = _ from ht) (mpd (a := (g a, ⟨setS x (g a) xs, σ⟩)) (bnd (pn (K := K) (v := g a) h2 hk (by simp [lookS]) n) rfl) rfl))) (mpd (e n) rfl)
    | false =>
      rw [hb] at ht
      exact bnd (a := ([], ⟨setS x (g a) xs, σ⟩)) (bnd (a := ⟨setS x (g a) xs, σ⟩) rfl (bnd (a := (false, ⟨setS x (g a) xs, σ⟩)) (show tests (run G (n + (K+1))) fn ⟨setS x (g a) xs, σ⟩ [t] = _ from ht) rfl)) (mpd (e n) rfl)
theorem ev_filter {α : Type} {g : α → V} {b : α → Bool} {cg : Comprehension} {l : List α} {σ' : List Cell} {q : Pos} (hi : ItE G fn (K+1) cg.iter ⟨xs, σ⟩ ⟨l.map g, false⟩ ⟨xs, σ'⟩) (hok : (scOk fn sc && [cg].all gOk) = true) (ht : asTg cg.target = some (.one x)) (hk : tgOk (fn.sc sc.names) false (.one x) = true) (hf : cg.ifs = [t]) (hn : isLoc (sc.names.lookup x) = true) (hs : Sees (seen sc.names xs) ys) (hx : lookS x ys = .none)
    (htt : ∀ a ∈ l, ∀ zs, Sees zs ((x, g a) :: ys) → Tt G (fn.sc sc.names) (K+1) t ⟨zs, σ'⟩ (b a) ⟨zs, σ'⟩) (hl : l.length ≤ lim) : Ev G fn (K+2) (.ListComp (.Name x p) [cg] sc q) ⟨xs, σ⟩ (.fresh ((l.filter b).map g)) ⟨xs, σ'⟩ := by
  obtain ⟨xs', e⟩ := tn_filter (fn := fn.sc sc.names) (p := p) hn hx l _ htt hs
  exact ev_lc (st₂ := ⟨xs', σ'⟩) hok hi ht hk (hf ▸ e) (by rw [List.length_map]; exact Nat.le_trans (List.length_filter_le _ _) hl)
end
inductive Act where
  | put (k : Int) (s : Str) | rem (k : Int) | back | com | syn | chk | fls (n : Int) | crs (n : Nat)
noncomputable def encA : Act → D
  | .put k s => .tup [.str "put", .key k, .str s]
  | .rem k => .tup [.str "remove", .key k]
  | .back => .tup [.str "rollback"]
  | .com => .tup [.str "commit"]
  | .syn => .tup [.str "sync"]
  | .chk => .tup [.str "checkpoint"]
  | .fls n => .tup [.str "flush", .int n]
  | .crs n => .tup [.str "crash", .int n]
noncomputable def tagA : Act → Str
  | .put _ _ => "put" | .rem _ => "remove" | .back => "rollback" | .com => "commit" | .syn => "sync" | .chk => "checkpoint" | .fls _ => "flush" | .crs _ => "crash"
structure PS where
  hand : D
  kept : PF
  disk : PF
  safe : List Rec
  pend : List Rec
theorem ok_put : PyData.strOk "put" = true := by decide +kernel
theorem ok_remove : PyData.strOk "remove" = true := by decide +kernel
theorem ok_rollback : PyData.strOk "rollback" = true := by decide +kernel
theorem ok_sync : PyData.strOk "sync" = true := by decide +kernel
theorem ok_checkpoint : PyData.strOk "checkpoint" = true := by decide +kernel
theorem ok_flush : PyData.strOk "flush" = true := by decide +kernel
noncomputable def pv (s : PS) : List (Str × V) := [("hand", .d s.hand), ("kept", .d (encT s.kept)), ("disk", .d (encT s.disk)), ("safe", .d (encL s.safe)), ("pending", .d (encL s.pend))]
noncomputable def isBusy (n : Int) : Rec → Bool
  | .wr m _ => decide (m = n)
  | .fr m => decide (m = n)
  | .cm _ => false
noncomputable def fls (n : Int) (pend : List Rec) (disk kept : PF) : PF := match kept.f n with
  | some y => cond (pend.any (isBusy n)) disk ⟨upd disk.f n (some y), disk.r⟩
  | .none => disk
structure PSok (s : PS) : Prop where
  kept : Good s.kept
  disk : Good s.disk
  safe : ∀ x ∈ s.safe, RecOk x
  pend : ∀ x ∈ s.pend, RecOk x
  len : s.safe.length + s.pend.length < 400
noncomputable def Step (rs : List Int) (s : PS) (a : Act) (s' : PS) : Prop := match a with
  | .put k v => ∃ d, PutTo rs s.hand k v d ∧ s' = { s with hand := d }
  | .rem k => ∃ d, RemTo rs s.hand k d ∧ s' = { s with hand := d }
  | .back => s' = { s with hand := encT s.kept }
  | .com => ∃ h, s.hand = encT h ∧ Good h ∧ s' = { s with kept := h, pend := s.pend ++ dif s.kept.f h.f ++ [.cm h.r] }
  | .syn => s' = { s with safe := s.safe ++ s.pend, pend := [] }
  | .chk => s' = { s with disk := s.kept, safe := [], pend := [] }
  | .fls n => s' = { s with disk := fls n s.pend s.disk s.kept }
  | .crs n => s' = ⟨encT (rply s.disk (trim (s.safe ++ s.pend.take n))), rply s.disk (trim (s.safe ++ s.pend.take n)), s.disk, trim (s.safe ++ s.pend.take n), []⟩
section
variable {rs : List Int} {K : Nat} {xs : List (Str × V)} {s s' : PS} {σ : List Cell} {a : Act}
theorem pt {p1 p2 p3 p4 p5 : Pos} {k k' : Nat} {x : Str} {c : Bool} (h : Sees xs (("a", .d (encA a)) :: pv s)) (hx : PyData.strOk x = true) (hc : decide (tagA a = x) = c) : Tt (G rs) fPlay (K+3) (.Compare (.Subscript (.Name "a" p1) (.Constant (.int 0) k p2) p3) [.Eq] [.Constant (.str x) k' p4] p5) ⟨xs, σ⟩ c ⟨xs, σ⟩ :=
  tt_cmp (fun n => rfl) (ev_idx rfl (pn h rfl rfl) ev_int (show getR σ (.val (.d (encA a))) _ = some (.d (.str (tagA a))) from by cases a <;> rfl)) (ev_str hx) (c_eq (eqG_str hc))
noncomputable def loopB : List Stmt := bOf (stAt fPlay 2)
theorem x_el {K : Nat} {G : Gl} {fn : Fn} {t : PySem.Expr} {b : List Stmt} {e : Stmt} {p : Pos} {st st₁ st₂ : St} (h : Tt G fn (K+2) t st false st₁) (k : X1 G fn (K+1) e st₁ .next st₂) : X1 G fn (K+2) (.If t b [e] p) st .next st₂ := x_iff h (x_cons k x_nil)
noncomputable def Turn (rs : List Int) (xs : List (Str × V)) (σ : List Cell) (s' : PS) : Prop := ∃ ys σ', Ex (G rs) fPlay 120 loopB ⟨xs, σ⟩ .next ⟨ys, σ'⟩ ∧ Sees ys (pv s')
theorem ne_cls {x : Str} (h : x ≠ "_Tree") : x ≠ (G rs).cls := h
theorem play_put {k : Int} {v : Str} {d : D} (h : Sees xs (("a", .d (encA (.put k v))) :: pv s)) (hp : PutTo rs s.hand k v d) : Turn rs xs σ { s with hand := d } :=
  have h' : Sees xs (pv s) := h.trans (.cons rfl (.cons rfl (.cons rfl (.cons rfl (.cons rfl .nil)))))
  ⟨_, σ, x_cons (x_ift (pt (a := .put k v) h ok_put rfl) (x_cons (x_asgN (kp_val (ev_fn (f := fPut) (us := [.d s.hand, .d (.key k), .d (.str v)]) rfl (ne_cls (by decide)) rfl rfl (sl_cons (kp_val (pn h rfl rfl)) (sl_cons (kp_val (ev_idx rfl (pn h rfl rfl) ev_int rfl)) (sl_cons (kp_val (ev_idx rfl (pn h rfl rfl) ev_int rfl)) sl_nil))) rfl (hp.up (by decide)))) rfl) x_nil)) x_nil, h'.put rfl⟩
theorem play_rem {k : Int} {d : D} (h : Sees xs (("a", .d (encA (.rem k))) :: pv s)) (hp : RemTo rs s.hand k d) : Turn rs xs σ { s with hand := d } :=
  have h' : Sees xs (pv s) := h.trans (.cons rfl (.cons rfl (.cons rfl (.cons rfl (.cons rfl .nil)))))
  ⟨_, σ, x_cons (x_el (pt (a := .rem k) h ok_put rfl) (x_ift (pt (a := .rem k) h ok_remove rfl) (x_cons (x_asgN (kp_val (ev_fn (f := fRemove) (us := [.d s.hand, .d (.key k)]) rfl (ne_cls (by decide)) rfl rfl (sl_cons (kp_val (pn h rfl rfl)) (sl_cons (kp_val (ev_idx rfl (pn h rfl rfl) ev_int rfl)) sl_nil)) rfl (hp.up (by decide)))) rfl) x_nil))) x_nil, h'.put rfl⟩
theorem play_back (h : Sees xs (("a", .d (encA .back)) :: pv s)) : Turn rs xs σ { s with hand := encT s.kept } :=
  have h' : Sees xs (pv s) := h.trans (.cons rfl (.cons rfl (.cons rfl (.cons rfl (.cons rfl .nil)))))
  ⟨_, σ, x_cons (x_el (pt (a := .back) h ok_put rfl) (x_el (pt (a := .back) h ok_remove rfl) (x_ift (pt (a := .back) h ok_rollback rfl) (x_cons (x_asgN (kp_val (pn h rfl rfl)) rfl) x_nil)))) x_nil, h'.put rfl⟩
theorem b_cat {G : Gl} {σ : List Cell} {r₁ r₂ : R} {l m : List V} (hi : intOf r₂ = .none) (h1 : lstOf σ r₁ = some l) (h2 : lstOf σ r₂ = some m) (h : l.length + m.length ≤ lim) : binR G σ .Add r₁ r₂ = some (.fresh (l ++ m)) := opn hi (ops h1 (bnd h2 (ifp h rfl)))
theorem lenL {l : List Rec} : ((l.map encR).map V.d).length = l.length := by rw [List.length_map, List.length_map]
theorem b_catL {G : Gl} {σ : List Cell} {l m : List Rec} (h : l.length + m.length ≤ lim) : binR G σ .Add (.val (.d (encL l))) (.val (.d (encL m))) = some (.fresh (((l ++ m).map encR).map V.d)) := by
  rw [List.map_append, List.map_append]
  exact b_cat rfl rfl rfl (by rw [lenL, lenL]; exact h)
theorem b_catF {G : Gl} {σ : List Cell} {l m : List Rec} (h : l.length + m.length ≤ lim) : binR G σ .Add (.fresh ((l.map encR).map V.d)) (.fresh ((m.map encR).map V.d)) = some (.fresh (((l ++ m).map encR).map V.d)) := by
  rw [List.map_append, List.map_append]
  exact b_cat rfl rfl rfl (by rw [lenL, lenL]; exact h)
theorem b_catD {G : Gl} {σ : List Cell} {l m : List Rec} (h : l.length + m.length ≤ lim) : binR G σ .Add (.val (.d (encL l))) (.fresh ((m.map encR).map V.d)) = some (.fresh (((l ++ m).map encR).map V.d)) := by
  rw [List.map_append, List.map_append]
  exact b_cat rfl rfl rfl (by rw [lenL, lenL]; exact h)
theorem play_syn (h : Sees xs (("a", .d (encA .syn)) :: pv s)) (ok : PSok s) : Turn rs xs σ { s with safe := s.safe ++ s.pend, pend := [] } :=
  have h' : Sees xs (pv s) := h.trans (.cons rfl (.cons rfl (.cons rfl (.cons rfl (.cons rfl .nil)))))
  ⟨_, σ, x_cons (x_el (pt (a := .syn) h ok_put rfl) (x_el (pt (a := .syn) h ok_remove rfl) (x_el (pt (a := .syn) h ok_rollback rfl) (x_el (pt (a := .syn) h ok_commit rfl) (x_ift (pt (a := .syn) h ok_sync rfl) (x_cons (x_asgT rfl rfl (ws_cons (kp_fz (ev_bin (pn h rfl rfl) (pn h rfl rfl) (b_catL (by have := ok.len; unfold lim; omega))) rfl (allD_d _)) (ws_cons (kp_fz (l := []) (ds := []) (ev_list sl_nil (by decide)) rfl rfl) ws_nil)) (tos_cons (to_name rfl) (tos_cons (to_name rfl) tos_nil))) x_nil)))))) x_nil, (h'.put rfl).put rfl⟩
theorem play_chk (h : Sees xs (("a", .d (encA .chk)) :: pv s)) : Turn rs xs σ { s with disk := s.kept, safe := [], pend := [] } :=
  have h' : Sees xs (pv s) := h.trans (.cons rfl (.cons rfl (.cons rfl (.cons rfl (.cons rfl .nil)))))
  ⟨_, σ, x_cons (x_el (pt (a := .chk) h ok_put rfl) (x_el (pt (a := .chk) h ok_remove rfl) (x_el (pt (a := .chk) h ok_rollback rfl) (x_el (pt (a := .chk) h ok_commit rfl) (x_el (pt (a := .chk) h ok_sync rfl) (x_ift (pt (a := .chk) h ok_checkpoint rfl) (x_cons (x_asgT rfl rfl (ws_cons (kp_val (pn h rfl rfl)) (ws_cons (kp_fz (l := []) (ds := []) (ev_list sl_nil (by decide)) rfl rfl) (ws_cons (kp_fz (l := []) (ds := []) (ev_list sl_nil (by decide)) rfl rfl) ws_nil))) (tos_cons (to_name rfl) (tos_cons (to_name rfl) (tos_cons (to_name rfl) tos_nil)))) x_nil))))))) x_nil, ((h'.put rfl).put rfl).put rfl⟩
theorem play_com {t : PF} (h : Sees xs (("a", .d (encA .com)) :: pv s)) (ok : PSok s) (ht : s.hand = encT t) (g : Good t) : Turn rs xs σ { s with kept := t, pend := s.pend ++ dif s.kept.f t.f ++ [.cm t.r] } := by
  have h' : Sees xs (pv s) := h.trans (.cons rfl (.cons rfl (.cons rfl (.cons rfl (.cons rfl .nil)))))
  have hl := ok.len
  have hd := dif_len s.kept.f t.f
  obtain ⟨hand, kept, disk, safe, pend⟩ := s
  cases ht
  refine ⟨_, σ, x_cons (x_el (pt (a := .com) h ok_put rfl) (x_el (pt (a := .com) h ok_remove rfl) (x_el (pt (a := .com) h ok_rollback rfl) (x_ift (pt (a := .com) h ok_commit rfl) (x_cons (x_asgN (kp_fz (ev_bin (ev_bin (pn h rfl rfl) (ev_fn (f := fChanges) rfl (ne_cls (by decide)) rfl rfl (sl_cons (kp_val (pn h rfl rfl)) (sl_cons (kp_val (pn h rfl rfl)) sl_nil)) rfl ((changes_ok ok.kept g).up (by decide))) (b_catL ?_)) (ev_list (sl_cons (kp_val (ev_tup (vs := [.d (.str "commit"), .d (.int t.r)]) (sl_cons (kp_val (ev_str ok_commit)) (sl_cons (kp_val (ev_idx rfl (pn h rfl rfl) ev_int rfl)) sl_nil)) rfl (by decide))) sl_nil) (by decide)) (b_catF (m := [.cm t.r]) ?_)) rfl (allD_d _)) rfl) (x_cons (x_asgN (kp_val (pn (h'.put rfl) rfl rfl)) rfl) x_nil)))))) x_nil, (h'.put rfl).put rfl⟩
  · unfold lim; simp only at hl hd ⊢; omega
  · unfold lim; simp only [List.length_append, List.length_cons, List.length_nil] at hl hd ⊢; omega
end
open PySem
section
variable {rs : List Int} {K : Nat} {xs : List (Str × V)} {s s' : PS} {σ : List Cell} {a : Act}
theorem tt_busy {fn : Fn} {x : Rec} {n : Int} {e : PySem.Expr} {p1 p2 p3 p4 p5 p6 p7 p8 p9 p10 : Pos} {k1 k2 k3 : Nat} (hr : isLoc (fn.names.lookup ("r" : Str)) = true) (h : lookS "r" xs = some (.d (encR x))) (he : ∀ K, Ev (G rs) fn (K+2) e ⟨xs, σ⟩ (.val (.d (.int n))) ⟨xs, σ⟩) :
    Tt (G rs) fn (K+4) (.BoolOp .And [.Compare (.Subscript (.Name "r" p1) (.Constant (.int 0) k1 p2) p3) [.NotEq] [.Constant (.str "commit") k2 p4] p5, .Compare (.Subscript (.Name "r" p6) (.Constant (.int 1) k3 p7) p8) [.Eq] [e] p9] p10) ⟨xs, σ⟩ (isBusy n x) ⟨xs, σ⟩ := by
  have hs : Sees xs [("r", .d (encR x))] := .cons h .nil
  have t1 : ∀ {c : Bool}, (!decide (tagR x = "commit")) = c → Tt (G rs) fn (K+3) (.Compare (.Subscript (.Name "r" p1) (.Constant (.int 0) k1 p2) p3) [.NotEq] [.Constant (.str "commit") k2 p4] p5) ⟨xs, σ⟩ c ⟨xs, σ⟩ := fun {c} hc =>
    tt_cmp (fun n => rfl) (ev_idx rfl (pn hs hr rfl) ev_int (show getR σ (.val (.d (encR x))) _ = some (.d (.str (tagR x))) from by cases x <;> rfl)) (ev_str ok_commit) (c_ne (eqG_str rfl) hc)
  have t2 : ∀ {m : Int}, getR σ (.val (.d (encR x))) (.val (.d (.int 1))) = some (.d (.int m)) → Tt (G rs) fn (K+3) (.Compare (.Subscript (.Name "r" p6) (.Constant (.int 1) k3 p7) p8) [.Eq] [e] p9) ⟨xs, σ⟩ (decide (m = n)) ⟨xs, σ⟩ := fun {m} hg =>
    tt_cmp (fun n => rfl) (ev_idx rfl (pn hs hr rfl) ev_int hg) (he K) (c_eq (eqG_of rfl rfl rfl))
  cases x with
  | cm k => exact tt_and (a_f (t1 rfl))
  | wr m p => exact tt_and (a_t (t1 rfl) (a_l (t2 rfl)))
  | fr m => exact tt_and (a_t (t1 rfl) (a_l (t2 rfl)))
theorem c_emp {l : List Rec} (h : ∀ x ∈ l, RecOk x) {c : Bool} (hc : l.isEmpty = c) : cmpR .Eq σ (.fresh (l.map fun r => V.d (encR r))) (.fresh []) = some c := by
  refine bnd (a := .lst (l.map encR)) ?_ (bnd (a := .lst []) rfl (eqG_of (encL_ok h 25) rfl ?_))
  · exact bnd (a := .d (.lst (l.map encR))) (mpd (a := l.map encR) ((congrArg allD (List.map_map).symm).trans (allD_d _)) rfl) rfl
  · subst hc; cases l <;> rfl
theorem any_filter {l : List Rec} {b : Rec → Bool} : (l.filter b).isEmpty = !l.any b := by
  induction l with
  | nil => rfl
  | cons x r ih =>
    rw [List.filter_cons, List.any_cons]
    cases b x with
    | true => rfl
    | false => exact ih
theorem good_fls {n : Int} {pend : List Rec} {disk kept : PF} (gd : Good disk) (gk : Good kept) : Good (fls n pend disk kept) := by
  unfold fls
  cases h : kept.f n with
  | none => exact gd
  | some y =>
    cases pend.any (isBusy n) with
    | true => exact gd
    | false => exact good1 (x := .wr n y) gd ⟨gk.pg n y h, gk.dm n y h⟩
theorem play_fls {n : Int} (h : Sees xs (("a", .d (encA (.fls n))) :: pv s)) (ok : PSok s) : Turn rs xs σ { s with disk := fls n s.pend s.disk s.kept } := by
  have h' : Sees xs (pv s) := h.trans (.cons rfl (.cons rfl (.cons rfl (.cons rfl (.cons rfl .nil)))))
  have hl := ok.len
  have hA : (σ ++ [Cell.dct false ((ofF s.kept.f).map toE)])[σ.length]? = some (.dct false ((ofF s.kept.f).map toE)) := List.getElem?_concat_length
  have h1 : Sees (setS "pages" (.loc σ.length) xs) (("pages", .loc σ.length) :: ("a", .d (encA (.fls n))) :: pv s) := .cons lk_same (h.other rfl)
  have h1' : Sees (setS "pages" (.loc σ.length) xs) (pv s) := h'.other rfl
  have s0 : ∀ {K : Nat} {p1 p2 p3 p4 p5 p6 p7 : Pos} {k : Nat}, X1 (G rs) fPlay (K+4) (.Assign [.Name "pages" p1] (.Call (.Name "dict" p2) [.Subscript (.Name "kept" p3) (.Constant (.int 0) k p4) p5] [] p6) p7) ⟨xs, σ⟩ .next ⟨setS "pages" (.loc σ.length) xs, σ ++ [.dct false ((ofF s.kept.f).map toE)]⟩ :=
    fun {K p1 p2 p3 p4 p5 p6 p7 k} => x_asgN (kp_val (ev_dictT (fun n => rfl) (ev_idx rfl (pn h rfl rfl) ev_int rfl) (asc_nodup asc_ofF))) rfl
  have ea : ∀ {K : Nat} {p1 p2 p3 : Pos} {k : Nat} {zs : List (Str × V)} {τ : List Cell}, Sees zs (("pages", .loc σ.length) :: ("a", .d (encA (.fls n))) :: pv s) → Ev (G rs) fPlay (K+2) (.Subscript (.Name "a" p1) (.Constant (.int 1) k p2) p3) ⟨zs, τ⟩ (.val (.d (.int n))) ⟨zs, τ⟩ := fun hz => ev_idx rfl (pn hz rfl rfl) ev_int rfl
  cases hy : s.kept.f n with
  | none =>
    rw [show fls n s.pend s.disk s.kept = s.disk from by unfold fls; rw [hy]]
    exact ⟨_, _, x_cons (x_el (pt (a := .fls n) h ok_put rfl) (x_el (pt (a := .fls n) h ok_remove rfl) (x_el (pt (a := .fls n) h ok_rollback rfl) (x_el (pt (a := .fls n) h ok_commit rfl) (x_el (pt (a := .fls n) h ok_sync rfl) (x_el (pt (a := .fls n) h ok_checkpoint rfl) (x_ift (pt (a := .fls n) h ok_flush rfl) (x_cons s0 (x_cons (x_iff (tt_and (a_f (tt_in (ea h1) (pn h1 rfl rfl) (in_dct hA (by rw [lk_ofF ok.kept, hy]; rfl))))) x_nil) x_nil))))))))) x_nil, h1'⟩
  | some y =>
    have tin : ∀ {K : Nat} {p1 p2 p3 p4 p5 : Pos} {k : Nat}, Tt (G rs) fPlay (K+3) (.Compare (.Subscript (.Name "a" p1) (.Constant (.int 1) k p2) p3) [.In] [.Name "pages" p4] p5) ⟨setS "pages" (.loc σ.length) xs, σ ++ [.dct false ((ofF s.kept.f).map toE)]⟩ true ⟨setS "pages" (.loc σ.length) xs, σ ++ [.dct false ((ofF s.kept.f).map toE)]⟩ := fun {K p1 p2 p3 p4 p5 k} => tt_in (ea h1) (pn h1 rfl rfl) (in_dct hA (by rw [lk_ofF ok.kept, hy]; rfl))
    have hem : (s.pend.map encR).map V.d = s.pend.map fun r => V.d (encR r) := List.map_map
    have hpl : s.pend.length ≤ lim := by unfold lim; omega
    cases hb : s.pend.any (isBusy n) with
    | true =>
      rw [show fls n s.pend s.disk s.kept = s.disk from by unfold fls; rw [hy, hb]; rfl]
      refine ⟨_, _, x_cons (x_el (pt (a := .fls n) h ok_put rfl) (x_el (pt (a := .fls n) h ok_remove rfl) (x_el (pt (a := .fls n) h ok_rollback rfl) (x_el (pt (a := .fls n) h ok_commit rfl) (x_el (pt (a := .fls n) h ok_sync rfl) (x_el (pt (a := .fls n) h ok_checkpoint rfl) (x_ift (pt (a := .fls n) h ok_flush rfl) (x_cons s0 (x_cons (x_iff (tt_and (a_t tin (a_l (tt_cmp (fun n => rfl) (ev_filter (b := isBusy n) (ys := [("a", .d (encA (.fls n)))]) (it_ev (fun n => rfl) (pn h1 rfl rfl) (congrArg (fun l => some (l, _)) hem)) rfl rfl rfl rfl rfl (.cons (h1.seen rfl rfl) .nil) rfl (fun x _ zs hz => tt_busy (K := _) rfl (hz _ _ rfl) fun K => ev_idx rfl (pn hz rfl rfl) ev_int rfl) hpl) (ev_list sl_nil (by decide)) (c_emp (fun x hx => ok.pend x (List.mem_filter.mp hx).1) (by rw [any_filter, hb]; rfl)))))) x_nil) x_nil))))))))) x_nil, h1'⟩
    | false =>
      rw [show fls n s.pend s.disk s.kept = ⟨upd s.disk.f n (some y), s.disk.r⟩ from by unfold fls; rw [hy, hb]; rfl]
      generalize hσ1 : σ ++ [Cell.dct false ((ofF s.kept.f).map toE)] = σ1 at *
      have hA2 : (σ1 ++ [Cell.dct false ((ofF s.disk.f).map toE)])[σ.length]? = some (.dct false ((ofF s.kept.f).map toE)) := by rw [List.getElem?_append_left (List.getElem?_eq_some_iff.mp hA).1]; exact hA
      have hB : (σ1 ++ [Cell.dct false ((ofF s.disk.f).map toE)])[σ1.length]? = some (.dct false ((ofF s.disk.f).map toE)) := List.getElem?_concat_length
      have hC : ((σ1 ++ [Cell.dct false ((ofF s.disk.f).map toE)]).set σ1.length (.dct false ((setI n y (ofF s.disk.f)).map toE)))[σ1.length]? = some (.dct false ((setI n y (ofF s.disk.f)).map toE)) := List.getElem?_set_self (by rw [List.length_append]; exact Nat.lt_succ_self _)
      have h2 : Sees (setS "d" (.loc σ1.length) (setS "pages" (.loc σ.length) xs)) (("d", .loc σ1.length) :: ("pages", .loc σ.length) :: ("a", .d (encA (.fls n))) :: pv s) := .cons lk_same (h1.other rfl)
      have h2' : Sees (setS "d" (.loc σ1.length) (setS "pages" (.loc σ.length) xs)) (pv s) := h1'.other rfl
      have hDic := (Dic.of ok.disk.dm).set n y
      have hg := good1 (x := .wr n y) ok.disk ⟨ok.kept.pg n y hy, ok.kept.dm n y hy⟩
      have hsrt := hDic.sorted hg.dm
      refine ⟨_, _, x_cons (x_el (pt (a := .fls n) h ok_put rfl) (x_el (pt (a := .fls n) h ok_remove rfl) (x_el (pt (a := .fls n) h ok_rollback rfl) (x_el (pt (a := .fls n) h ok_commit rfl) (x_el (pt (a := .fls n) h ok_sync rfl) (x_el (pt (a := .fls n) h ok_checkpoint rfl) (x_ift (pt (a := .fls n) h ok_flush rfl) (x_cons s0 (x_cons (x_ift (tt_and (a_t tin (a_l (tt_cmp (fun n => rfl) (ev_filter (b := isBusy n) (ys := [("a", .d (encA (.fls n)))]) (it_ev (fun n => rfl) (pn h1 rfl rfl) (congrArg (fun l => some (l, _)) hem)) rfl rfl rfl rfl rfl (.cons (h1.seen rfl rfl) .nil) rfl (fun x _ zs hz => tt_busy (K := _) rfl (hz _ _ rfl) fun K => ev_idx rfl (pn hz rfl rfl) ev_int rfl) hpl) (ev_list sl_nil (by decide)) (c_emp (fun x hx => ok.pend x (List.mem_filter.mp hx).1) (by rw [any_filter, hb]; rfl))))))
        (x_cons (x_asgN (kp_val (ev_dictT (fun n => rfl) (ev_idx rfl (pn h1 rfl rfl) ev_int rfl) (asc_nodup asc_ofF))) rfl) (x_cons (x_asgI (kp_val (ev_idx rfl (pn h2 rfl rfl) (ev_idx rfl (pn h2 rfl rfl) ev_int rfl) (g_dct hA2 (by rw [lk_ofF ok.kept, hy]; rfl)))) (to_item (k := (false, n)) (σ' := (σ1 ++ [Cell.dct false ((ofF s.disk.f).map toE)]).set σ1.length (.dct false ((setI n y (ofF s.disk.f)).map toE))) (pn h2 rfl rfl) (ev_idx rfl (pn h2 rfl rfl) ev_int rfl) rfl ?_))
        (x_cons (x_asgN (kp_val (ev_tup (vs := [.d (.lst ((ofF (upd s.disk.f n (some y))).map encD)), .d (.int s.disk.r)]) (sl_cons (kp_fz (ev_items (fun n => rfl) (pn h2 rfl rfl) (dd := (false, (setI n y (ofF s.disk.f)).map toE)) (bnd (a := σ1.length) rfl (by rw [hC]; rfl)) (items_toE _) hsrt) rfl (allD_d _)) (sl_cons (kp_val (ev_idx rfl (pn h2 rfl rfl) ev_int rfl)) sl_nil)) rfl (by decide))) rfl) x_nil)))) x_nil))))))))) x_nil, h2'.put rfl⟩
      rw [hB, ← set_toE]
      exact ift (by rw [okK_same, List.length_map, decide_eq_true (show (ofF s.disk.f).length < lim from Nat.lt_of_le_of_lt len_ofF (by decide))]; rfl) rfl
theorem lastI_app (x : Rec) : ∀ (l : List Rec) (i a : Nat), lastI i a (l ++ [x]) = cond (isCm x) (i + l.length + 1) (lastI i a l)
  | [], i, a => rfl
  | y :: l, i, a => by
    rw [List.cons_append, lastI, lastI_app x l, lastI]
    cases isCm x with
    | true => simp only [cond_true, List.length_cons]; omega
    | false => rfl
theorem lastI_le : ∀ (l : List Rec) (i a : Nat), a ≤ i → lastI i a l ≤ i + l.length
  | [], i, a, h => h
  | y :: l, i, a, h => by
    rw [lastI]
    refine Nat.le_trans (lastI_le l (i+1) _ (by cases isCm y <;> simp only [cond_true, cond_false] <;> omega)) ?_
    rw [List.length_cons]; omega
theorem trim_no (l : List Rec) (x : Rec) (h : isCm x = false) : trim (l ++ [x]) = trim l := by
  have := lastI_le l 0 0 (Nat.le_refl _)
  unfold trim
  rw [lastI_app, h, cond_false, List.take_append_of_le_length (by omega)]
theorem trim_yes (l : List Rec) (x : Rec) (h : isCm x = true) : trim (l ++ [x]) = l ++ [x] := by
  unfold trim
  rw [lastI_app, h, cond_true]
  exact List.take_of_length_le (by rw [List.length_append, List.length_cons, List.length_nil]; omega)
theorem trim_len (l : List Rec) : (trim l).length ≤ l.length := by unfold trim; rw [List.length_take]; omega
theorem trim_mem {l : List Rec} {x : Rec} (h : x ∈ trim l) : x ∈ l := List.mem_of_mem_take h
theorem idx_last {α : Type} (l : List α) (x : α) : idx (l ++ [x]) (-1) = some x := by
  unfold idx
  rw [show seqIndex? (-1) (l ++ [x]).length = some l.length from by
    unfold seqIndex?
    rw [List.length_append, List.length_cons, List.length_nil]
    simp only [show ((-1 : Int) < 0) from by decide, if_true]
    rw [show (-1 : Int) + ((l.length + (0 + 1) : Nat) : Int) = (l.length : Int) from by omega, if_pos (by simp; omega), Int.toNat_natCast]]
  exact List.getElem?_concat_length
theorem slc_last {α : Type} (l : List α) (x : α) : slc (l ++ [x]) .none (some (-1)) = l := by
  unfold slc hiN loN clamp
  simp only [List.length_append, List.length_cons, List.length_nil, List.drop_zero]
  rw [if_neg (by omega), show ((-1 : Int) + ((l.length + (0 + 1) : Nat) : Int)).toNat = l.length from by omega, List.take_left']
  rfl
end
open PySem
section
variable {rs : List Int} {K : Nat} {xs : List (Str × V)} {s s' : PS} {σ : List Cell} {a : Act}
noncomputable def crW : Stmt := at' (elOf (at' (elOf (at' (elOf (at' (elOf (at' (elOf (at' (elOf (at' loopB 0)) 0)) 0)) 0)) 0)) 0)) 0
noncomputable def crB : List Stmt := elOf crW
noncomputable def Wh (G : Gl) (fn : Fn) (K : Nat) (t : PySem.Expr) (body : List Stmt) (k : Nat) (st st' : St) : Prop := ∀ n, whileLoop' (run G (n+K)) fn t body k st = some st'
theorem wh_f {G : Gl} {fn : Fn} {t : PySem.Expr} {body : List Stmt} {k : Nat} {st st₁ : St} (h : Tt G fn K t st false st₁) : Wh G fn K t body (k+1) st st₁ := fun n => bnd (h n) rfl
theorem wh_t {G : Gl} {fn : Fn} {t : PySem.Expr} {body : List Stmt} {k : Nat} {st st₁ st₂ st₃ : St} (h : Tt G fn K t st true st₁) (hb : Ex G fn K body st₁ .next st₂) (r : Wh G fn K t body k st₂ st₃) : Wh G fn K t body (k+1) st st₃ := fun n => bnd (h n) (bnd (hb n) (r n))
theorem x_while {G : Gl} {fn : Fn} {t : PySem.Expr} {body : List Stmt} {p : Pos} {st st₁ : St} (h : Wh G fn K t body 1000 st st₁) : X1 G fn K (.While t body [] p) st .next st₁ := fun n => mpd (h n) rfl
theorem x_asgM {G : Gl} {fn : Fn} {x y : Str} {p q pos : Pos} {e : PySem.Expr} {v : V} {st : St} (ht : (tgtOk [.Name x p, .Name y q] && (namesT [.Name x p, .Name y q]).isSome) = true) (h : Kp G fn K false e st v ⟨xs, σ⟩) (hx : canSet fn x = true) (hy : canSet fn y = true) :
    X1 G fn K (.Assign [.Name x p, .Name y q] e pos) st .next ⟨setS y v (setS x v xs), σ⟩ := fun n => mpd (a := ⟨setS y v (setS x v xs), σ⟩) (ift ht (bnd (h n) (bnd (to_name hx n) (bnd (to_name hy n) rfl)))) rfl
theorem crash_loop : ∀ (k : Nat) (l : List Rec) (xs : List (Str × V)), l.length < k → (∀ x ∈ l, RecOk x) → Sees xs (("log", .d (encL l)) :: pv s) →
    ∃ ys, Wh (G rs) fPlay 12 (tOf (at' crB 1)) (bOf (at' crB 1)) k ⟨xs, σ⟩ ⟨ys, σ⟩ ∧ Sees ys (("log", .d (encL (trim l))) :: pv s)
  | 0, l, xs, hk, _, _ => absurd hk (Nat.not_lt_zero _)
  | k + 1, l, xs, hk, hr, h => by
    rcases List.eq_nil_or_concat l with rfl | ⟨l', x, rfl⟩
    · exact ⟨xs, wh_f (tt_and (a_f (tt_val (fun n => rfl) (pn h rfl rfl) rfl))), h⟩
    · rw [List.concat_eq_append] at *
      have htr : truth σ (.val (.d (encL (l' ++ [x])))) = some true := by
        unfold encL
        rw [List.map_append]
        cases l' <;> rfl
      have hlast : getR σ (.val (.d (encL (l' ++ [x])))) (.val (.d (.int (-1)))) = some (.d (encR x)) := by
        refine opn rfl (bnd (a := -1) rfl (bnd (a := ((l' ++ [x]).map encR).map V.d) rfl ?_))
        rw [List.map_append, List.map_append]
        exact idx_last _ _
      have htg : getR σ (.val (.d (encR x))) (.val (.d (.int 0))) = some (.d (.str (tagR x))) := by cases x <;> rfl
      have ht : ∀ {c : Bool}, (!decide (tagR x = "commit")) = c → Tt (G rs) fPlay 12 (tOf (at' crB 1)) ⟨xs, σ⟩ c ⟨xs, σ⟩ := fun {c} hc => tt_and (a_t (tt_val (fun n => rfl) (pn h rfl rfl) htr) (a_l (tt_cmp (fun n => rfl) (ev_idx rfl (ev_idx rfl (pn h rfl rfl) (fun n => rfl) hlast) ev_int htg) (ev_str ok_commit) (c_ne (eqG_str rfl) hc))))
      by_cases hx : isCm x = true
      · refine ⟨xs, wh_f (ht ?_), by rw [trim_yes _ _ hx]; exact h⟩
        cases x with
        | cm q => rfl
        | wr m p => cases hx
        | fr m => cases hx
      · have hx' : isCm x = false := by simpa using hx
        have h1 : Sees (setS "log" (.d (encL l')) xs) (("log", .d (encL l')) :: pv s) := .cons lk_same ((h.trans (.cons rfl (.cons rfl (.cons rfl (.cons rfl (.cons rfl .nil))))) : Sees xs (pv s)).other rfl)
        obtain ⟨ys, e, hy⟩ := crash_loop k l' _ (by rw [List.length_append, List.length_cons, List.length_nil] at hk; omega) (fun y hy => hr y (List.mem_append_left _ hy)) h1
        rw [trim_no _ _ hx']
        refine ⟨ys, wh_t (ht ?_) (x_cons (x_asgN (kp_fz (l := (l'.map encR).map V.d) (ev_slc (pn h rfl rfl) (fun n => op_none) (op_some (i := -1) (fun n => rfl)) ?_) rfl (allD_d _)) rfl) x_nil) e, hy⟩
        · cases x with
          | cm q => cases hx'
          | wr m p => rfl
          | fr m => rfl
        · refine congrArg (fun l => some (R.fresh l)) ?_
          rw [List.map_append, List.map_append]
          exact slc_last _ _
theorem play_crs {m : Nat} (h : Sees xs (("a", .d (encA (.crs m))) :: pv s)) (ok : PSok s) : Turn rs xs σ ⟨encT (rply s.disk (trim (s.safe ++ s.pend.take m))), rply s.disk (trim (s.safe ++ s.pend.take m)), s.disk, trim (s.safe ++ s.pend.take m), []⟩ := by
  have h' : Sees xs (pv s) := h.trans (.cons rfl (.cons rfl (.cons rfl (.cons rfl (.cons rfl .nil)))))
  have hl := ok.len
  have hlen : (s.safe ++ s.pend.take m).length < 400 := by rw [List.length_append, List.length_take]; omega
  have hr : ∀ x ∈ s.safe ++ s.pend.take m, RecOk x := fun x hx => (List.mem_append.mp hx).elim (ok.safe x) fun hx => ok.pend x (List.mem_of_mem_take hx)
  obtain ⟨ys, e1, hy⟩ := crash_loop (rs := rs) (σ := σ) 1000 (s.safe ++ s.pend.take m) (setS "log" (.d (encL (s.safe ++ s.pend.take m))) xs) (by omega) hr (.cons lk_same (h'.other rfl))
  generalize hL : trim (s.safe ++ s.pend.take m) = lg at *
  have hlg : lg.length < 400 := by rw [← hL]; exact Nat.lt_of_le_of_lt (trim_len _) hlen
  have hrg : ∀ x ∈ lg, RecOk x := fun x hx => hr x (trim_mem (hL ▸ hx))
  have hy' : Sees ys (pv s) := hy.trans (.cons rfl (.cons rfl (.cons rfl (.cons rfl (.cons rfl .nil)))))
  have hz : Sees (setS "pending" (V.d (encL [])) (setS "safe" (V.d (encL lg)) ys)) [("log", .d (encL lg)), ("hand", .d s.hand), ("kept", .d (encT s.kept)), ("disk", .d (encT s.disk)), ("safe", .d (encL lg)), ("pending", .d (encL []))] := (hy.put rfl).put rfl
  have hz' : Sees (setS "pending" (V.d (encL [])) (setS "safe" (V.d (encL lg)) ys)) (pv ⟨s.hand, s.kept, s.disk, lg, []⟩) := (hy'.put rfl).put rfl
  have e3 := replay_ok (rs := rs) (log := lg) ok.disk hrg (by omega)
  refine ⟨_, σ, x_cons (x_el (pt (a := .crs m) h ok_put rfl) (x_el (pt (a := .crs m) h ok_remove rfl) (x_el (pt (a := .crs m) h ok_rollback rfl) (x_el (pt (a := .crs m) h ok_commit rfl) (x_el (pt (a := .crs m) h ok_sync rfl) (x_el (pt (a := .crs m) h ok_checkpoint rfl) (x_iff (pt (a := .crs m) h ok_flush rfl)
    (x_cons (x_asgN (kp_fz (ev_bin (pn h rfl rfl) (ev_slc (r₁ := .fresh (((s.pend.take m).map encR).map V.d)) (pn h rfl rfl) (fun n => op_none) (op_some (i := m) (ev_idx rfl (pn h rfl rfl) ev_int rfl)) ?_) (b_catD ?_)) rfl (allD_d _)) rfl)
    (x_cons (x_while (Mine.U.up (by decide) (P := fun n => whileLoop' (run (G rs) n) fPlay _ _ _ _ = some _) e1))
    (x_cons (x_asgT rfl rfl (ws_cons (kp_val (pn hy rfl rfl)) (ws_cons (kp_fz (l := []) (ds := []) (ev_list sl_nil (by decide)) rfl rfl) ws_nil)) (tos_cons (to_name rfl) (tos_cons (to_name rfl) tos_nil)))
    (x_cons (x_asgM rfl (kp_val (ev_fn (f := fReplay) rfl (ne_cls (by decide)) rfl rfl (sl_cons (kp_val (pn hz rfl rfl)) (sl_cons (kp_val (pn hz rfl rfl)) sl_nil)) rfl (e3.up (by decide)))) rfl rfl) x_nil))))))))))) x_nil, (hz'.put rfl).put rfl⟩
  · refine congrArg (fun l => some (R.fresh l)) ?_
    rw [List.map_take, List.map_take]
    exact slc_to _ _
  · rw [List.length_take]; unfold lim; omega
theorem play_step (h : Sees xs (("a", .d (encA a)) :: pv s)) (ok : PSok s) (hs : Step rs s a s') : Turn rs xs σ s' := by
  cases a with
  | put k v => obtain ⟨d, h1, rfl⟩ := hs; exact play_put h h1
  | rem k => obtain ⟨d, h1, rfl⟩ := hs; exact play_rem h h1
  | back => cases hs; exact play_back h
  | com => obtain ⟨t, h1, h2, rfl⟩ := hs; exact play_com h ok h1 h2
  | syn => cases hs; exact play_syn h ok
  | chk => cases hs; exact play_chk h
  | fls n => cases hs; exact play_fls h ok
  | crs n => cases hs; exact play_crs h ok
theorem step_ok (ok : PSok s) (hs : Step rs s a s') (hl : s.safe.length + s.pend.length < 300) : PSok s' := by
  cases a with
  | put k v => obtain ⟨d, h1, rfl⟩ := hs; exact ⟨ok.kept, ok.disk, ok.safe, ok.pend, ok.len⟩
  | rem k => obtain ⟨d, h1, rfl⟩ := hs; exact ⟨ok.kept, ok.disk, ok.safe, ok.pend, ok.len⟩
  | back => cases hs; exact ⟨ok.kept, ok.disk, ok.safe, ok.pend, ok.len⟩
  | com =>
    obtain ⟨t, h1, h2, rfl⟩ := hs
    have := dif_len s.kept.f t.f
    exact ⟨h2, ok.disk, ok.safe, fun x hx => (List.mem_append.mp hx).elim (fun hx => (List.mem_append.mp hx).elim (ok.pend x) (dif_ok h2 x)) fun hx => by rw [List.mem_singleton.mp hx]; trivial, by simp only [List.length_append, List.length_cons, List.length_nil]; omega⟩
  | syn => cases hs; exact ⟨ok.kept, ok.disk, fun x hx => (List.mem_append.mp hx).elim (ok.safe x) (ok.pend x), (fun _ h => absurd h List.not_mem_nil), by have := ok.len; simp only [List.length_append, List.length_nil]; omega⟩
  | chk => cases hs; exact ⟨ok.kept, ok.kept, (fun _ h => absurd h List.not_mem_nil), (fun _ h => absurd h List.not_mem_nil), (by decide : (0 : Nat) + 0 < 400)⟩
  | fls n => cases hs; exact ⟨ok.kept, good_fls ok.disk ok.kept, ok.safe, ok.pend, ok.len⟩
  | crs n =>
    cases hs
    have hr : ∀ x ∈ trim (s.safe ++ s.pend.take n), RecOk x := fun x hx => (List.mem_append.mp (trim_mem hx)).elim (ok.safe x) fun hx => ok.pend x (List.mem_of_mem_take hx)
    refine ⟨good_rply ok.disk hr, ok.disk, hr, (fun _ h => absurd h List.not_mem_nil), ?_⟩
    have h1 := trim_len (s.safe ++ s.pend.take n)
    rw [List.length_append, List.length_take] at h1
    have := ok.len
    simp only [List.length_nil]
    omega
inductive Steps (rs : List Int) : PS → List Act → PS → Prop
  | nil (s : PS) : Steps rs s [] s
  | cons {s t u : PS} {a : Act} {l : List Act} : PSok s → Step rs s a t → Steps rs t l u → Steps rs s (a :: l) u
theorem play_loop {l : List Act} (hs : Steps rs s l s') : ∀ {xs : List (Str × V)} {σ : List Cell}, Sees xs (pv s) → ∃ ys σ', Lp (G rs) fPlay 120 (.one "a") loopB (l.map fun a => V.d (encA a)) ⟨xs, σ⟩ ⟨ys, σ'⟩ ∧ Sees ys (pv s') := by
  induction hs with
  | nil s => exact fun {xs σ} h => ⟨xs, σ, lp_nil, h⟩
  | cons ok h1 _ ih =>
    rename_i a l _
    intro xs σ h
    obtain ⟨ys, σ1, e1, hy⟩ := play_step (rs := rs) (σ := σ) (xs := setS "a" (.d (encA a)) xs) (.cons lk_same (h.other rfl)) ok h1
    obtain ⟨zs, σ2, e2, hz⟩ := ih hy (σ := σ1)
    exact ⟨zs, σ2, lp_cons bd_name e1 e2, hz⟩
noncomputable def eT : PF := ⟨fun n => lookI n [(0, .tup [.str "leaf", .lst []])], 0⟩
noncomputable def ps0 : PS := ⟨encT eT, eT, eT, [], []⟩
noncomputable def outP (s : PS) : D := .tup [s.hand, encL s.safe, encL s.pend, encT s.disk]
theorem play_ok {l : List Act} (hs : Steps rs ps0 l s') : Cl (G rs) fPlay 130 [.d (.lst (l.map encA))] [] (.val (.d (outP s'))) [] := by
  obtain ⟨ys, σ, e, h⟩ := play_loop hs (xs := [("actions", .d (.lst (l.map encA))), ("hand", .d (encT eT)), ("kept", .d (encT eT)), ("disk", .d (encT eT)), ("safe", .d (encL [])), ("pending", .d (encL []))]) (σ := []) (.cons rfl (.cons rfl (.cons rfl (.cons rfl (.cons rfl .nil)))))
  refine c_own rfl rfl (r_step (xs' := [("actions", .d (.lst (l.map encA))), ("hand", .d (encT eT)), ("kept", .d (encT eT)), ("disk", .d (encT eT))]) (σ' := []) rfl (fun n => by kernel_rfl) (r_step (xs' := [("actions", .d (.lst (l.map encA))), ("hand", .d (encT eT)), ("kept", .d (encT eT)), ("disk", .d (encT eT)), ("safe", .d (encL [])), ("pending", .d (encL []))]) (σ' := []) rfl (fun n => by kernel_rfl) (r_step rfl (x_for (l := ⟨l.map fun a => V.d (encA a), false⟩) (it_ev (fun n => rfl) (pn .refl rfl rfl) (congrArg (fun l => some (l, _)) List.map_map)) rfl rfl (Mine.U.up (by decide) (P := fun n => forLoop' (run (G rs) n) fPlay _ _ _ _ = some _) e)) ?_)))
  exact r_ret rfl (x_retE (ev_tup (vs := [.d s'.hand, .d (encL s'.safe), .d (encL s'.pend), .d (encT s'.disk)]) (sl_cons (kp_val (pn h rfl rfl)) (sl_cons (kp_val (pn h rfl rfl)) (sl_cons (kp_val (pn h rfl rfl)) (sl_cons (kp_val (pn h rfl rfl)) sl_nil)))) rfl (by decide))) rfl
end
open PySem
section
variable {rs : List Int} {a b : PF} {o : List Rec} {k : Int} {xs : List (Str × V)} {σ : List Cell}
noncomputable def ldk (k : Int) : List (Str × V) := [("x", .loc 0), ("y", .loc 1), ("out", .loc 2), ("n", .d (.int k))]
noncomputable def ldy : List (Str × V) := [("x", .loc 0), ("y", .loc 1), ("out", .loc 2)]
noncomputable def od : Option D → D
  | some y => y
  | .none => .none
theorem m_get {es : List (Int × V)} {m : Nat} {v : V} (h : (lookI k es).getD (.d .none) = v) : dmeth σ m false es "get" [.d (.int k)] = some (.val v, σ) := by
  subst h
  exact ifp (c := _ = _) rfl (bnd (a := V.d (.int k)) rfl (bnd (a := (false, k)) rfl (ift okK_same rfl)))
open Classical in
theorem eq_od (ga : Good a) (gb : Good b) : eqG (od (a.f k)) (od (b.f k)) = some (decide (a.f k = b.f k)) := by
  cases hx : a.f k with
  | none =>
    cases hy : b.f k with
    | none => exact eqG_of rfl rfl (by rw [decide_eq_true rfl]; rfl)
    | some y =>
      refine eqG_of rfl (pg_ok (gb.pg k y hy) 27) ?_
      rw [decide_eq_false (by simp)]
      cases gb.pg k y hy <;> rfl
  | some x =>
    cases hy : b.f k with
    | none =>
      refine eqG_of (pg_ok (ga.pg k x hx) 27) rfl ?_
      rw [decide_eq_false (by simp)]
      cases ga.pg k x hx <;> rfl
    | some y =>
      refine eqG_of (pg_ok (ga.pg k x hx) 27) (pg_ok (gb.pg k y hy) 27) ((pg_eq (ga.pg k x hx) (gb.pg k y hy)).trans ?_)
      by_cases e : x = y
      · rw [decide_eq_true e, decide_eq_true (congrArg some e)]
      · rw [decide_eq_false e, decide_eq_false (fun h => e (Option.some.inj h))]
open Classical in
theorem ld_body (ga : Good a) (gb : Good b) (h : Sees xs (ldk k)) (hl : o.length < 900) :
    Ex (G rs) fLDiff 20 (bOf (stAt fLDiff 1)) ⟨xs, chs (ofF a.f) (ofF b.f) o⟩ .next ⟨xs, chs (ofF a.f) (ofF b.f) (o ++ d1 a.f b.f k)⟩ := by
  have hn : ∀ {K : Nat} {p : Pos}, Ev (G rs) fLDiff (K+1) (.Name "n" p) ⟨xs, chs (ofF a.f) (ofF b.f) o⟩ (.val (.d (.int k))) ⟨xs, chs (ofF a.f) (ofF b.f) o⟩ := pn h rfl rfl
  have ht : ∀ {c : Bool}, (!decide (a.f k = b.f k)) = c → Tt (G rs) fLDiff 19 (tOf (at' (bOf (stAt fLDiff 1)) 0)) ⟨xs, chs (ofF a.f) (ofF b.f) o⟩ c ⟨xs, chs (ofF a.f) (ofF b.f) o⟩ := fun {c} hc =>
    tt_cmp (fun n => rfl) (ev_dm (i := 0) rfl (pn h rfl rfl) rfl (sl_cons (kp_val hn) sl_nil) rfl (m_get (v := .d (od (a.f k))) (by rw [lk_ofF ga]; cases a.f k <;> rfl))) (ev_dm (i := 1) rfl (pn h rfl rfl) rfl (sl_cons (kp_val hn) sl_nil) rfl (m_get (v := .d (od (b.f k))) (by rw [lk_ofF gb]; cases b.f k <;> rfl))) (c_ne (eq_od ga gb) hc)
  by_cases e : a.f k = b.f k
  · rw [show d1 a.f b.f k = [] from by
      unfold d1; rw [e]
      cases b.f k with
      | none => rfl
      | some y => exact if_pos rfl, List.append_nil]
    exact x_cons (x_iff (ht (by rw [decide_eq_true e]; rfl)) x_nil) x_nil
  · cases hy : b.f k with
    | none =>
      cases hx : a.f k with
      | none => exact absurd (hx.trans hy.symm) e
      | some x =>
        rw [show d1 a.f b.f k = [.fr k] from by unfold d1; rw [hx, hy]]
        exact x_cons (x_ift (ht (by rw [decide_eq_false e]; rfl)) (x_cons (x_iff (tt_in hn (pn h rfl rfl) (in_dct rfl (by rw [lk_ofF gb, hy]; rfl))) (x_cons (x_app rfl (pn h rfl rfl) rfl (kp_val (ev_tup (vs := [.d (.str "free"), .d (.int k)]) (sl_cons (kp_val (ev_str ok_free)) (sl_cons (kp_val hn) sl_nil)) rfl (by decide))) rfl (app_len hl) (chs_set _ _ (.fr k))) x_nil)) x_nil)) x_nil
    | some y =>
      rw [show d1 a.f b.f k = [.wr k y] from by
        unfold d1; rw [hy]
        cases hx : a.f k with
        | none => rfl
        | some x => exact if_neg fun q => e (by rw [hx, hy, q])]
      exact x_cons (x_ift (ht (by rw [decide_eq_false e]; rfl)) (x_cons (x_ift (tt_in hn (pn h rfl rfl) (in_dct rfl (by rw [lk_ofF gb, hy]; rfl))) (x_cons (x_app rfl (pn h rfl rfl) rfl (kp_val (ev_tup (vs := [.d (.str "write"), .d (.int k), .d y]) (sl_cons (kp_val (ev_str ok_write)) (sl_cons (kp_val hn) (sl_cons (kp_val (ev_idx rfl (pn h rfl rfl) hn (g_dct rfl (by rw [lk_ofF gb, hy]; rfl)))) sl_nil))) rfl (by decide))) rfl (app_len hl) (chs_set _ _ (.wr k y))) x_nil)) x_nil)) x_nil
theorem ld_loop (ga : Good a) (gb : Good b) : ∀ (ks : List Int) (o : List Rec) (xs : List (Str × V)), Sees xs ldy → o.length + ks.length < 900 →
    ∃ ys, Lp (G rs) fLDiff 20 (.one "n") (bOf (stAt fLDiff 1)) (ks.map fun i => .d (.int i)) ⟨xs, chs (ofF a.f) (ofF b.f) o⟩ ⟨ys, chs (ofF a.f) (ofF b.f) (o ++ ks.flatMap (d1 a.f b.f))⟩ ∧ Sees ys ldy
  | [], o, xs, h, _ => ⟨xs, by rw [List.flatMap_nil, List.append_nil]; exact lp_nil, h⟩
  | k :: r, o, xs, h, hl => by
    have h1 := d1_len a.f b.f k
    simp only [List.length_cons] at hl
    have h2 : Sees (setS "n" (V.d (.int k)) xs) (ldk k) := h.put rfl
    obtain ⟨ys, e, hy⟩ := ld_loop ga gb r (o ++ d1 a.f b.f k) _ (h.other rfl : Sees (setS "n" (V.d (.int k)) xs) ldy) (by rw [List.length_append]; omega)
    rw [List.flatMap_cons, ← List.append_assoc]
    exact ⟨ys, lp_cons bd_name (ld_body ga gb h2 (by omega)) e, hy⟩
theorem ldiff_ok (ga : Good a) (gb : Good b) : Cl (G rs) fLDiff 30 [.d (encT a), .d (encT b)] [] (.val (.d (encL (dif a.f b.f)))) [] := by
  have hs0 : Sees [("a", V.d (encT a)), ("b", V.d (encT b))] [("a", V.d (encT a)), ("b", V.d (encT b))] := .refl
  obtain ⟨ys, e, hy⟩ := ld_loop (rs := rs) ga gb dom [] [("a", V.d (encT a)), ("b", V.d (encT b)), ("x", .loc 0), ("y", .loc 1), ("out", .loc 2)] (.cons rfl (.cons rfl (.cons rfl .nil))) (by decide)
  rw [List.nil_append] at e
  refine c_own rfl rfl (r_step rfl (x_asgT rfl rfl (ws_cons (kp_val (ev_dictT (σ := []) (fun n => rfl) (ev_idx rfl (pn hs0 rfl rfl) ev_int rfl) (asc_nodup asc_ofF))) (ws_cons (kp_val (ev_dictT (fun n => rfl) (ev_idx rfl (pn hs0 rfl rfl) ev_int rfl) (asc_nodup asc_ofF))) (ws_cons (kp_new (l := []) (ev_list sl_nil (by decide)) rfl) ws_nil))) (tos_cons (to_name rfl) (tos_cons (to_name rfl) (tos_cons (to_name rfl) tos_nil)))) ?_)
  refine r_step (xs' := ys) (σ' := chs (ofF a.f) (ofF b.f) (dif a.f b.f)) rfl (x_for (l := ⟨dom.map fun i => .d (.int i), false⟩) (fun n => by kernel_rfl) rfl rfl (Mine.U.up (by decide) (P := fun n => forLoop' (run (G rs) n) fLDiff _ _ _ _ = some _) e)) ?_
  exact r_ret rfl (x_retE (pn hy rfl rfl)) (frz_list (congrArg (fun l => some (Cell.lst l)) (List.map_map).symm))
noncomputable def holdP (k : Int) (safe pend : List Rec) (disk kept : PF) : List Rec × List Rec × PF := if k = 1 then (safe ++ pend, [], disk) else if k = 2 then ([], [], kept) else (safe, pend, disk)
noncomputable def encH (p : List Rec × List Rec × PF) : D := .tup [encL p.1, encL p.2.1, encT p.2.2]
theorem lhold_ok {safe pend : List Rec} {disk kept : PF} (hl : safe.length + pend.length ≤ lim) : Cl (G rs) fLHold 30 [.d (.int k), .d (encL safe), .d (encL pend), .d (encT disk), .d (encT kept)] [] (.val (.d (encH (holdP k safe pend disk kept)))) [] := by
  have hs : Sees (fLHold.params.zip [V.d (.int k), .d (encL safe), .d (encL pend), .d (encT disk), .d (encT kept)]) [("kind", .d (.int k)), ("safe", .d (encL safe)), ("pend", .d (encL pend)), ("disk", .d (encT disk)), ("kept", .d (encT kept))] := .refl
  have t : ∀ {K : Nat} {j : Int} {p1 p2 p3 : Pos} {c : Bool} {i : Nat}, decide (k = j) = c → Tt (G rs) fLHold (K+2) (.Compare (.Name "kind" p1) [.Eq] [.Constant (.int j) i p2] p3) ⟨fLHold.params.zip [V.d (.int k), .d (encL safe), .d (encL pend), .d (encT disk), .d (encT kept)], []⟩ c ⟨fLHold.params.zip [V.d (.int k), .d (encL safe), .d (encL pend), .d (encT disk), .d (encT kept)], []⟩ := fun {K j p1 p2 p3 c i} hc => tt_cmp (fun n => rfl) (pn hs rfl rfl) ev_int (c_eq (eqG_of rfl rfl (by rw [← hc]; rfl)))
  have emp : ∀ {K : Nat} {p : Pos} {st : St}, Kp (G rs) fLHold (K+1) fLHold.hm (.List [] p) st (.d (encL [])) st := fun {K p st} => kp_fz (l := []) (ds := []) (ev_list sl_nil (by decide)) rfl rfl
  unfold holdP
  by_cases h1 : k = 1
  · rw [if_pos h1]
    exact c_own rfl rfl (r_ret (r₁ := .val (.d (encH (safe ++ pend, [], disk)))) rfl (x_ift (t (decide_eq_true h1)) (x_ret (x_retE (ev_tup (vs := [.d (encL (safe ++ pend)), .d (encL []), .d (encT disk)]) (sl_cons (kp_fz (ev_bin (pn hs rfl rfl) (pn hs rfl rfl) (b_catL hl)) rfl (allD_d _)) (sl_cons emp (sl_cons (kp_val (pn hs rfl rfl)) sl_nil))) rfl (by decide))))) rfl)
  · rw [if_neg h1]
    refine c_own rfl rfl (r_step rfl (x_iff (t (decide_eq_false h1)) x_nil) ?_)
    by_cases h2 : k = 2
    · rw [if_pos h2]
      exact r_ret (r₁ := .val (.d (encH ([], [], kept)))) rfl (x_ift (t (decide_eq_true h2)) (x_ret (x_retE (ev_tup (vs := [.d (encL []), .d (encL []), .d (encT kept)]) (sl_cons emp (sl_cons emp (sl_cons (kp_val (pn hs rfl rfl)) sl_nil))) rfl (by decide))))) rfl
    · rw [if_neg h2]
      exact r_step rfl (x_iff (t (decide_eq_false h2)) x_nil) (r_ret (r₁ := .val (.d (encH (safe, pend, disk)))) rfl (x_retE (ev_tup (vs := [.d (encL safe), .d (encL pend), .d (encT disk)]) (sl_cons (kp_val (pn hs rfl rfl)) (sl_cons (kp_val (pn hs rfl rfl)) (sl_cons (kp_val (pn hs rfl rfl)) sl_nil))) rfl (by decide))) rfl)
end
open PySem
theorem filt_key {n : Int} : ∀ {A : PM}, (A.map (·.1)).Nodup → A.filter (fun p => decide (p.1 = n)) = match lookI n A with | some y => [(n, y)] | .none => []
  | [], _ => rfl
  | p :: r, h => by
    simp only [List.map_cons, List.nodup_cons] at h
    rw [List.filter_cons]
    simp only [lookI]
    by_cases e : p.1 = n
    · rw [if_pos (decide_eq_true e), if_pos e.symm, filt_key h.2, look_none.mpr (e ▸ h.1)]
      exact congrArg (· :: []) (Prod.ext e rfl)
    · rw [if_neg (by rw [decide_eq_false e]; exact Bool.false_ne_true), if_neg (fun q => e q.symm), filt_key h.2]
theorem look_filt {n m : Int} (y : D) : ∀ A : PM, lookI m (A.filter (fun p => !decide (p.1 = n)) ++ [(n, y)]) = if m = n then some y else lookI m A
  | [] => by simp [lookI]
  | p :: r => by
    have ih := look_filt (n := n) (m := m) y r
    rw [List.filter_cons]
    by_cases e : p.1 = n
    · rw [decide_eq_true e, if_neg (by decide), ih]
      by_cases hm : m = n
      · rw [if_pos hm, if_pos hm]
      · rw [if_neg hm, if_neg hm]; simp only [lookI]; rw [if_neg (fun q => hm (q.trans e))]
    · rw [decide_eq_false e, if_pos (by rfl : (!false) = true), List.cons_append]
      simp only [lookI, ih]
      by_cases hm : m = p.1
      · rw [if_pos hm, if_pos hm, if_neg (fun q => e (hm.symm.trans q))]
      · rw [if_neg hm, if_neg hm]
theorem Dic.filt {A : PM} {f : Pgs} (h : Dic A f) (n : Int) (y : D) : Dic (A.filter (fun p => !decide (p.1 = n)) ++ [(n, y)]) (upd f n (some y)) := by
  constructor
  · rw [List.map_append]
    refine List.nodup_append.mpr ⟨((List.filter_sublist).map _).nodup h.nod, List.nodup_cons.mpr ⟨List.not_mem_nil, List.nodup_nil⟩, fun a ha b hb e => ?_⟩
    rw [List.mem_singleton.mp hb] at e
    obtain ⟨p, hp, q⟩ := List.mem_map.mp ha
    have := (List.mem_filter.mp hp).2
    rw [decide_eq_true (q.trans e)] at this
    exact absurd this (by decide)
  · intro m
    rw [look_filt]
    by_cases hm : m = n
    · rw [if_pos hm, hm, upd_same]
    · rw [if_neg hm, upd_ne hm, h.look]
theorem b_sorted {σ : List Cell} {r : R} {l : List V} {ds l' : List D} (hd : dctOf σ r = .none) (h1 : lstOf σ r = some l) (h2 : allD l = some ds) (h3 : srtD ds = some l') : bltn σ "sorted" r = some (.fresh (l'.map .d)) :=
  ifn (c := _ = _) (by decide) (ifn (c := _ = _) (by decide) (ifn (c := _ = _) (by decide) (ifp (c := _ = _) rfl (opn hd (bnd h1 (bnd h2 (mpd h3 rfl)))))))
section
variable {rs : List Int} {n : Int} {pend : List Rec} {disk kept : PF} {xs : List (Str × V)} {σ : List Cell}
theorem getq {p : Int × D} : getR σ (.val (.d (encD p))) (.val (.d (.int 0))) = some (.d (.int p.1)) := rfl
theorem page_ok {A : PM} (h : ∀ p ∈ A, Pg p.2) {B : PM} {c : Bool} (hB : ∀ p ∈ B, p ∈ A) (hc : B.isEmpty = c) : cmpR .Eq σ (.val (.d (.lst (B.map encD)))) (.fresh []) = some c := by
  refine bnd (a := .lst (B.map encD)) rfl (bnd (a := .lst []) rfl (eqG_of (ok_lst (n := 29) fun p hp => ?_) rfl ?_))
  · show (true && (okD p.2 28 && true)) = true
    rw [pg_ok (h p (hB p hp)) 25]; rfl
  · subst hc; cases B <;> rfl
theorem held_ne {l : List Rec} (h : ∀ x ∈ l, RecOk x) {c : Bool} (hc : (!l.isEmpty) = c) : cmpR .NotEq σ (.val (.d (encL l))) (.fresh []) = some c := by
  refine bnd (a := encL l) rfl (bnd (a := .lst []) rfl (mpd (a := l.isEmpty) (eqG_of (encL_ok h 25) rfl ?_) hc))
  cases l <;> rfl
theorem lflush_ok (gd : Good disk) (gk : Good kept) (hp : ∀ x ∈ pend, RecOk x) (hl : pend.length < 400) : Cl (G rs) fLFlush 30 [.d (.int n), .d (encL pend), .d (encT disk), .d (encT kept)] [] (.val (.d (encT (fls n pend disk kept)))) [] := by
  have hs : Sees (fLFlush.params.zip [V.d (.int n), .d (encL pend), .d (encT disk), .d (encT kept)]) [("number", .d (.int n)), ("pend", .d (encL pend)), ("disk", .d (encT disk)), ("kept", .d (encT kept))] := .refl
  have mm : ∀ {A : PM}, (A.map encD).map V.d = A.map fun p => V.d (encD p) := List.map_map
  have ml : (pend.map encR).map V.d = pend.map fun r => V.d (encR r) := List.map_map
  have hpl : pend.length ≤ lim := by unfold lim; omega
  have hAl : ∀ {t : PF}, (ofF t.f).length ≤ lim := fun {t} => Nat.le_trans len_ofF (by decide)
  have fz : ∀ {A : PM}, allD (A.map fun p => V.d (encD p)) = some (A.map encD) := fun {A} => mm ▸ allD_d _
  have fzr : ∀ {l : List Rec}, allD (l.map fun r => V.d (encR r)) = some (l.map encR) := fun {l} => (List.map_map (f := encR) (g := V.d) (l := l)) ▸ allD_d _
  have hpg : ∀ p ∈ ofF kept.f, Pg p.2 := fun p hp => gk.pg _ _ (mem_ofL.mp hp).2
  have e1 : (ofF kept.f).filter (fun p => decide (p.1 = n)) = match kept.f n with | some y => [(n, y)] | .none => [] := by rw [filt_key (asc_nodup asc_ofF), look_ofF gk.dm]
  refine c_own rfl rfl (r_step rfl (x_asgN (kp_fz (ev_filter (b := fun p => decide (p.1 = n)) (ys := [("number", .d (.int n))]) (it_ev (fun n => rfl) (ev_idx rfl (pn hs rfl rfl) ev_int rfl) (congrArg (fun l => some (l, _)) mm)) rfl rfl rfl rfl rfl (.cons (hs.seen rfl rfl) .nil) rfl (fun p _ zs hz => tt_cmp (fun n => rfl) (ev_idx rfl (pn hz rfl rfl) ev_int getq) (pn hz rfl rfl) (c_eq (eqG_of rfl rfl rfl))) hAl) rfl fz) rfl) ?_)
  have h1 := hs.put (x := "page") (v := .d (.lst (((ofF kept.f).filter (fun p => decide (p.1 = n))).map encD))) rfl
  refine r_step rfl (x_asgN (kp_fz (ev_filter (b := isBusy n) (ys := [("number", .d (.int n))]) (it_ev (fun n => rfl) (pn h1 rfl rfl) (congrArg (fun l => some (l, _)) ml)) rfl rfl rfl rfl rfl (.cons (h1.seen rfl rfl) .nil) rfl (fun x _ zs hz => tt_busy (K := _) rfl (hz _ _ rfl) fun K => pn hz rfl rfl) hpl) rfl fzr) rfl) ?_
  have h2 := h1.put (x := "held") (v := .d (encL (pend.filter (isBusy n)))) rfl
  have hb : (!(pend.filter (isBusy n)).isEmpty) = pend.any (isBusy n) := by rw [any_filter, Bool.not_not]
  have th : ∀ {c : Bool}, pend.any (isBusy n) = c → cmpR .NotEq [] (.val (.d (encL (pend.filter (isBusy n))))) (.fresh []) = some c := fun {c} hc => held_ne (fun x hx => hp x (List.mem_filter.mp hx).1) (hb.trans hc)
  have tp := fun {c : Bool} => page_ok (σ := []) (c := c) hpg (fun p hp => (List.mem_filter.mp hp).1) (B := (ofF kept.f).filter (fun p => decide (p.1 = n)))
  unfold fls
  cases hy : kept.f n with
  | none =>
    rw [hy] at e1
    exact r_ret (r₁ := .val (.d (encT disk))) rfl (x_ift (tt_or (o_t (tt_cmp (fun n => rfl) (pn h2 rfl rfl) (ev_list sl_nil (by decide)) (tp (by rw [e1]; rfl))))) (x_ret (x_retE (pn h2 rfl rfl)))) rfl
  | some y =>
    rw [hy] at e1
    have tf : cmpR .Eq [] (.val (.d (.lst (((ofF kept.f).filter (fun p => decide (p.1 = n))).map encD)))) (.fresh []) = some false := tp (by rw [e1]; rfl)
    cases hb : pend.any (isBusy n) with
    | true => exact r_ret (r₁ := .val (.d (encT disk))) rfl (x_ift (tt_or (o_f (tt_cmp (fun n => rfl) (pn h2 rfl rfl) (ev_list sl_nil (by decide)) tf) (o_l (tt_cmp (fun n => rfl) (pn h2 rfl rfl) (ev_list sl_nil (by decide)) (th hb))))) (x_ret (x_retE (pn h2 rfl rfl)))) rfl
    | false =>
      refine r_step rfl (x_iff (tt_or (o_f (tt_cmp (fun n => rfl) (pn h2 rfl rfl) (ev_list sl_nil (by decide)) tf) (o_l (tt_cmp (fun n => rfl) (pn h2 rfl rfl) (ev_list sl_nil (by decide)) (th hb))))) x_nil) ?_
      have hg := good1 (x := .wr n y) gd ⟨gk.pg n y hy, gk.dm n y hy⟩
      have hsrt := ((Dic.of gd.dm).filt n y).sorted hg.dm
      refine r_ret (r₁ := .val (.d (encT ⟨upd disk.f n (some y), disk.r⟩))) rfl (x_retE (ev_tup (vs := [.d (.lst ((ofF (upd disk.f n (some y))).map encD)), .d (.int disk.r)]) (sl_cons (kp_fz (ev_b1 (fun n => rfl) (ev_bin (ev_filter (b := fun p => !decide (p.1 = n)) (ys := [("number", .d (.int n))]) (it_ev (fun n => rfl) (ev_idx rfl (pn h2 rfl rfl) ev_int rfl) (congrArg (fun l => some (l, _)) mm)) rfl rfl rfl rfl rfl (.cons (h2.seen rfl rfl) .nil) rfl (fun p _ zs hz => tt_cmp (fun n => rfl) (ev_idx rfl (pn hz rfl rfl) ev_int getq) (pn hz rfl rfl) (c_ne (eqG_of rfl rfl rfl) rfl)) hAl) (pn h2 rfl rfl) (b_cat rfl rfl rfl ?_)) (?_ : _ = some (R.fresh (((ofF (upd disk.f n (some y))).map encD).map V.d)))) rfl (allD_d _)) (sl_cons (kp_val (ev_idx rfl (pn h2 rfl rfl) ev_int rfl)) sl_nil)) rfl (by decide))) rfl
      · rw [List.length_map, List.length_map, List.length_map, e1]
        have := List.length_filter_le (fun p : Int × D => !decide (p.1 = n)) (ofF disk.f)
        have := len_ofF (f := disk.f)
        unfold lim
        simp only [List.length_cons, List.length_nil]
        omega
      · rw [e1]
        refine b_sorted (l := ((ofF disk.f).filter (fun p => !decide (p.1 = n)) ++ [(n, y)]).map fun p => V.d (encD p)) rfl ?_ fz hsrt
        rw [List.map_append]; rfl
end
open PySem
theorem key_at {g : Int} (hg : 2 ≤ g) (i : Int) : keyAdd g 0 (g * i) = some (.key (2 * i)) := by
  unfold keyAdd
  rw [show (0 : Int) % 2 + g * i = g * i from by omega, Int.mul_emod_right, Int.mul_ediv_cancel_left i (by omega), if_pos (by decide)]
  congr 2; omega
theorem key_one {g : Int} (hg : 2 ≤ g) (i : Int) : keyAdd g (2 * i) 1 = some (.key (2 * i + 1)) := by
  unfold keyAdd
  rw [show 2 * i % 2 + 1 = 1 from by omega, Int.emod_eq_of_lt (a := 1) (b := g) (by omega) (by omega), Int.ediv_eq_zero_of_lt (a := 1) (b := g) (by omega) (by omega), if_pos (by decide)]
  congr 2; omega
noncomputable def vals (j : Int) : Str := if j = 0 then "" else if j = 1 then "p" else "qq"
noncomputable def vAt (rs : List Int) (i : Int) : Str := vals ((rs.getD 2 0 + i) % 3)
structure ROk (rs : List Int) : Prop where
  g2 : 2 ≤ (G rs).gap
  g4 : (G rs).gap ≤ 4
noncomputable def smallI (i : Int) : Prop := -1000 ≤ i ∧ i ≤ 1000
theorem small_of {i : Int} (h : smallI i) : small i = true := decide_eq_true (by unfold smallI at h; omega)
section
variable {rs : List Int} {fn : Fn} {K : Nat} {xs ys : List (Str × V)} {σ : List Cell} {e : PySem.Expr} {i : Int} {p1 p2 p3 p4 p5 p6 p7 : Pos} {k : Nat}
noncomputable def bgs (rs : List Int) : List (Str × V) := [("base", .d (.key 0)), ("gap", .d (.int (G rs).gap)), ("s", .d (.raw 2 0))]
theorem b_int {G : Gl} {op : Operator} {x y : D} {j : Int} (h : binD G op j x = some y) : binR G σ op (.val (.d x)) (.val (.d (.int j))) = some (.val (.d y)) := ops (a := j) rfl (bnd (a := x) rfl (mpd h rfl))
theorem ev_mul (ok : ROk rs) (hs : Sees xs ys) (hg : lookS "gap" ys = some (.d (.int (G rs).gap))) (kg : isLoc (fn.names.lookup ("gap" : Str)) = true) (he : Ev (G rs) fn (K+1) e ⟨xs, σ⟩ (.val (.d (.int i))) ⟨xs, σ⟩) (hi : smallI i) : Ev (G rs) fn (K+2) (.BinOp (.Name "gap" p1) .Mult e p2) ⟨xs, σ⟩ (.val (.d (.int ((G rs).gap * i)))) ⟨xs, σ⟩ :=
  ev_bin (pn hs kg hg) he (b_int (show (if (small (G rs).gap && small i) = true then some (D.int ((G rs).gap * i)) else .none) = _ from ift (by rw [small_of hi, small_of (by have := ok.g2; have := ok.g4; unfold smallI; omega)]; rfl) rfl))
theorem ev_key (ok : ROk rs) (hs : Sees xs ys) (hb : lookS "base" ys = some (.d (.key 0))) (hg : lookS "gap" ys = some (.d (.int (G rs).gap))) (kb : isLoc (fn.names.lookup ("base" : Str)) = true) (kg : isLoc (fn.names.lookup ("gap" : Str)) = true) (he : Ev (G rs) fn (K+1) e ⟨xs, σ⟩ (.val (.d (.int i))) ⟨xs, σ⟩) (hi : smallI i) : Ev (G rs) fn (K+3) (.BinOp (.Name "base" p1) .Add (.BinOp (.Name "gap" p2) .Mult e p3) p4) ⟨xs, σ⟩ (.val (.d (.key (2 * i)))) ⟨xs, σ⟩ :=
  ev_bin (pn hs kb hb) (ev_mul ok hs hg kg he hi) (b_int (show keyAdd (G rs).gap 0 ((G rs).gap * i) = _ from key_at ok.g2 i))
theorem ev_keyS (ok : ROk rs) (hs : Sees xs ys) (hb : lookS "base" ys = some (.d (.key 0))) (hg : lookS "gap" ys = some (.d (.int (G rs).gap))) (kb : isLoc (fn.names.lookup ("base" : Str)) = true) (kg : isLoc (fn.names.lookup ("gap" : Str)) = true) (he : Ev (G rs) fn (K+1) e ⟨xs, σ⟩ (.val (.d (.int i))) ⟨xs, σ⟩) (hi : smallI i) : Ev (G rs) fn (K+3) (.BinOp (.Name "base" p1) .Sub (.BinOp (.Name "gap" p2) .Mult e p3) p4) ⟨xs, σ⟩ (.val (.d (.key (2 * (-i))))) ⟨xs, σ⟩ :=
  ev_bin (pn hs kb hb) (ev_mul ok hs hg kg he hi) (b_int (show keyAdd (G rs).gap 0 (-((G rs).gap * i)) = some (.key (2 * (-i))) from by rw [← Int.mul_neg]; exact key_at ok.g2 (-i)))
theorem ev_val (hs : Sees xs ys) (hv : lookS "s" ys = some (.d (.raw 2 0))) (kv : isLoc (fn.names.lookup ("s" : Str)) = true) (kt : (fn.names.lookup ("_law_values" : Str)) = some .globalImplicit) (he : Ev (G rs) fn (K+1) e ⟨xs, σ⟩ (.val (.d (.int i))) ⟨xs, σ⟩) {k : Nat} : Ev (G rs) fn (K+4) (.Subscript (.Name "_law_values" p1) (.BinOp (.BinOp (.Name "s" p2) .Add e p3) .Mod (.Constant (.int 3) k p4) p5) p6) ⟨xs, σ⟩ (.val (.d (.str (vAt rs i)))) ⟨xs, σ⟩ := by
  have ht : Ev (G rs) fn (K+3) (.Name "_law_values" p1) ⟨xs, σ⟩ (.val (.d (.tup [.str "", .str "p", .str "qq"]))) ⟨xs, σ⟩ := fun n => by
    show evName (G rs) fn "_law_values" ⟨xs, σ⟩ = _
    unfold evName
    rw [kt]
    exact mpd (a := .tup [.str "", .str "p", .str "qq"]) (by kernel_rfl) rfl
  refine ev_idx rfl ht (ev_bin (ev_bin (pn hs kv hv) he (b_int (y := .raw 2 (0 + i)) rfl)) ev_int (b_int (y := .int ((rs.getD 2 0 + (0 + i)) % 3)) (by kernel_rfl))) ?_
  rw [Int.zero_add]
  unfold vAt vals
  have h1 := Int.emod_nonneg (rs.getD 2 0 + i) (by decide : (3 : Int) ≠ 0)
  have h2 := Int.emod_lt_of_pos (rs.getD 2 0 + i) (by decide : (0 : Int) < 3)
  generalize (rs.getD 2 0 + i) % 3 = j at *
  have hj : j = 0 ∨ j = 1 ∨ j = 2 := by omega
  rcases hj with rfl | rfl | rfl <;> rfl
end
section
variable {G : Gl} {fn : Fn} {K : Nat} {st st₁ st₂ : St} {xs ys : List (Str × V)} {σ : List Cell} {elt t : PySem.Expr} {sc : Scope} {p : Pos} {x : Str}
theorem tn_map {α : Type} {g h : α → V} (hx : lookS x ys = .none) : ∀ (l : List α) (xs : List (Str × V)), (∀ a ∈ l, ∀ zs, Sees zs ((x, g a) :: ys) → Kp G fn K fn.hm elt ⟨zs, σ⟩ (h a) ⟨zs, σ⟩) → Sees xs ys → ∃ xs', Tn G fn K (.one x) [] elt [] (l.map g) ⟨xs, σ⟩ (l.map h) ⟨xs', σ⟩
  | [], xs, _, _ => ⟨xs, tn_nil⟩
  | a :: r, xs, he, hs => by
    have h2 : Sees (setS x (g a) xs) ((x, g a) :: ys) := .cons lk_same (hs.other hx)
    obtain ⟨xs', e⟩ := tn_map (h := h) hx r (setS x (g a) xs) (fun a ha => he a (List.mem_cons_of_mem _ ha)) (hs.other hx)
    exact ⟨xs', fun n => bnd (a := ([h a], ⟨setS x (g a) xs, σ⟩)) (bnd (a := ⟨setS x (g a) xs, σ⟩) rfl (bnd (a := (true, ⟨setS x (g a) xs, σ⟩)) rfl (mpd (he a List.mem_cons_self _ h2 n) rfl))) (mpd (e n) rfl)⟩
theorem ev_mapc {α : Type} {g h : α → V} {cg : Comprehension} {l : List α} {σ' : List Cell} {q : Pos} (hi : ItE G fn K cg.iter ⟨xs, σ⟩ ⟨l.map g, false⟩ ⟨xs, σ'⟩) (hok : (scOk fn sc && [cg].all gOk) = true) (ht : asTg cg.target = some (.one x)) (hk : tgOk (fn.sc sc.names) false (.one x) = true) (hf : cg.ifs = []) (hs : Sees (seen sc.names xs) ys) (hx : lookS x ys = .none)
    (he : ∀ a ∈ l, ∀ zs, Sees zs ((x, g a) :: ys) → Kp G (fn.sc sc.names) K fn.hm elt ⟨zs, σ'⟩ (h a) ⟨zs, σ'⟩) (hl : l.length ≤ lim) : Ev G fn (K+1) (.ListComp elt [cg] sc q) ⟨xs, σ⟩ (.fresh (l.map h)) ⟨xs, σ'⟩ := by
  obtain ⟨xs', e⟩ := tn_map (fn := fn.sc sc.names) (h := h) hx l _ he hs
  exact ev_lc (st₂ := ⟨xs', σ'⟩) hok hi ht hk (hf ▸ e) (by rw [List.length_map]; exact hl)
end
noncomputable def encRow : Row → D
  | .leaf n ks => .tup [.int n, .tup (ks.map .int)]
  | .inner n ks cs => .tup [.int n, .tup (ks.map .int), .tup (cs.map .int)]
noncomputable def rowOk : Row → Prop
  | .leaf _ ks => (∀ i ∈ ks, smallI i) ∧ ks.length < 100
  | .inner _ ks cs => (∀ i ∈ ks, smallI i) ∧ ks.length < 100 ∧ cs.length < 100
section
variable {rs : List Int} {xs : List (Str × V)} {done : PM} {row : Row} {rt : Int}
noncomputable def lty (rs : List Int) (rt : Int) : List (Str × V) := [("pages", .loc 0), ("root", .d (.int rt)), ("base", .d (.key 0)), ("gap", .d (.int (G rs).gap)), ("s", .d (.raw 2 0))]
noncomputable def lts (done : PM) : List Cell := [.lst (done.map fun p => V.d (encD p))]
theorem lts_set (p : Int × D) : (lts done).set 0 (.lst ((done.map fun p => V.d (encD p)) ++ [V.d (encD p)])) = lts (done ++ [p]) := by
  unfold lts; rw [List.map_append]; rfl
theorem ok_leaf : PyData.strOk "leaf" = true := by decide +kernel
theorem ok_inner : PyData.strOk "inner" = true := by decide +kernel
theorem allD_m {α : Type} {g : α → D} {l : List α} : allD (l.map fun a => V.d (g a)) = some (l.map g) := (List.map_map (f := g) (g := V.d) (l := l)) ▸ allD_d _
theorem lt_body (ok : ROk rs) (hr : rowOk row) (h : Sees xs (("row", .d (encRow row)) :: lty rs rt)) (hl : done.length < 900) :
    ∃ ys, Ex (G rs) fLTree 40 (bOf (stAt fLTree 1)) ⟨xs, lts done⟩ .next ⟨ys, lts (done ++ [pgOf (vAt rs) row])⟩ ∧ Sees ys (lty rs rt) := by
  have h' : Sees xs (lty rs rt) := h.trans (.cons rfl (.cons rfl (.cons rfl (.cons rfl (.cons rfl .nil)))))
  have hlen : (done.map fun p => V.d (encD p)).length < lim := by rw [List.length_map]; unfold lim; omega
  have mi : ∀ {l : List Int}, (l.map D.int).map V.d = l.map fun i => V.d (.int i) := List.map_map
  cases row with
  | leaf n ks =>
    have h1 : Sees (setS "page" (.d (pgOf (vAt rs) (.leaf n ks)).2) xs) (("page", .d (pgOf (vAt rs) (.leaf n ks)).2) :: ("row", .d (encRow (.leaf n ks))) :: lty rs rt) := .cons lk_same (h.other rfl)
    refine ⟨_, x_cons (x_iff (tt_cmp (fun n => rfl) (ev_b1 (fun n => rfl) (pn h rfl rfl) rfl) ev_int (c_eq (eqG_of rfl rfl rfl))) (x_cons (x_asgN (kp_val (ev_tup (v := .d (pgOf (vAt rs) (.leaf n ks)).2) (vs := [.d (.str "leaf"), .d (.lst (ks.map fun i => .tup [.key (2 * i), .str (vAt rs i)]))]) (sl_cons (kp_val (ev_str ok_leaf)) (sl_cons (kp_fz (l := ks.map fun i => V.d (.tup [.key (2 * i), .str (vAt rs i)])) (ev_mapc (g := fun i => V.d (.int i)) (ys := bgs rs) (it_ev (fun n => rfl) (ev_idx rfl (pn h rfl rfl) ev_int rfl) (congrArg (fun l => some (l, _)) mi)) rfl rfl rfl rfl (.cons (h.seen rfl rfl) (.cons (h.seen rfl rfl) (.cons (h.seen rfl rfl) .nil))) rfl
        (fun i hi zs hz => kp_val (ev_tup (vs := [.d (.key (2 * i)), .d (.str (vAt rs i))]) (sl_cons (kp_val (ev_key ok hz rfl rfl rfl rfl (pn hz rfl rfl) (hr.1 i hi))) (sl_cons (kp_val (ev_val hz rfl rfl rfl (pn hz rfl rfl))) sl_nil)) rfl (by decide))) (Nat.le_of_lt (Nat.lt_of_lt_of_le hr.2 (by decide)))) rfl allD_m) sl_nil)) rfl (by decide))) rfl) x_nil))
      (x_cons (x_app rfl (pn h1 rfl rfl) rfl (kp_val (ev_tup (v := .d (encD (pgOf (vAt rs) (.leaf n ks)))) (vs := [.d (.int n), .d (pgOf (vAt rs) (.leaf n ks)).2]) (sl_cons (kp_val (ev_idx rfl (pn h1 rfl rfl) ev_int rfl)) (sl_cons (kp_val (pn h1 rfl rfl)) sl_nil)) rfl (by decide))) rfl hlen (lts_set _)) x_nil), h'.other rfl⟩
  | inner n ks cs =>
    have h1 : Sees (setS "page" (.d (pgOf (vAt rs) (.inner n ks cs)).2) xs) (("page", .d (pgOf (vAt rs) (.inner n ks cs)).2) :: ("row", .d (encRow (.inner n ks cs))) :: lty rs rt) := .cons lk_same (h.other rfl)
    refine ⟨_, x_cons (x_ift (tt_cmp (fun n => rfl) (ev_b1 (fun n => rfl) (pn h rfl rfl) rfl) ev_int (c_eq (eqG_of rfl rfl rfl))) (x_cons (x_asgN (kp_val (ev_tup (v := .d (pgOf (vAt rs) (.inner n ks cs)).2) (vs := [.d (.str "inner"), .d (.lst (ks.map fun i => .key (2 * i))), .d (.lst (cs.map .int))]) (sl_cons (kp_val (ev_str ok_inner)) (sl_cons (kp_fz (l := ks.map fun i => V.d (.key (2 * i))) (ev_mapc (g := fun i => V.d (.int i)) (ys := [("base", .d (.key 0)), ("gap", .d (.int (G rs).gap))]) (it_ev (fun n => rfl) (ev_idx rfl (pn h rfl rfl) ev_int rfl) (congrArg (fun l => some (l, _)) mi)) rfl rfl rfl rfl (.cons (h.seen rfl rfl) (.cons (h.seen rfl rfl) .nil)) rfl
        (fun i hi zs hz => kp_val (ev_key ok hz rfl rfl rfl rfl (pn hz rfl rfl) (hr.1 i hi))) (Nat.le_of_lt (Nat.lt_of_lt_of_le hr.2.1 (by decide)))) rfl allD_m) (sl_cons (kp_fz (ev_b1 (fun n => rfl) (ev_idx rfl (pn h rfl rfl) ev_int rfl) rfl) rfl (allD_d _)) sl_nil))) rfl (by decide))) rfl) x_nil))
      (x_cons (x_app rfl (pn h1 rfl rfl) rfl (kp_val (ev_tup (v := .d (encD (pgOf (vAt rs) (.inner n ks cs)))) (vs := [.d (.int n), .d (pgOf (vAt rs) (.inner n ks cs)).2]) (sl_cons (kp_val (ev_idx rfl (pn h1 rfl rfl) ev_int rfl)) (sl_cons (kp_val (pn h1 rfl rfl)) sl_nil)) rfl (by decide))) rfl hlen (lts_set _)) x_nil), h'.other rfl⟩
end
open PySem
section
variable {rs : List Int} {rt : Int}
theorem lt_loop (ok : ROk rs) : ∀ (rows : List Row) (done : PM) (xs : List (Str × V)), (∀ r ∈ rows, rowOk r) → Sees xs (lty rs rt) → done.length + rows.length < 900 →
    ∃ ys, Lp (G rs) fLTree 40 (.one "row") (bOf (stAt fLTree 1)) (rows.map fun r => V.d (encRow r)) ⟨xs, lts done⟩ ⟨ys, lts (done ++ rows.map (pgOf (vAt rs)))⟩ ∧ Sees ys (lty rs rt)
  | [], done, xs, _, h, _ => ⟨xs, by simp only [List.map_nil, List.append_nil]; exact lp_nil, h⟩
  | r :: rows, done, xs, hr, h, hl => by
    simp only [List.length_cons] at hl
    have h2 : Sees (setS "row" (.d (encRow r)) xs) (("row", .d (encRow r)) :: lty rs rt) := .cons lk_same (h.other rfl)
    obtain ⟨ys, e, hy⟩ := lt_body ok (hr r List.mem_cons_self) h2 (show done.length < 900 from by omega)
    obtain ⟨zs, e2, hz⟩ := lt_loop ok rows (done ++ [pgOf (vAt rs) r]) ys (fun r hr' => hr r (List.mem_cons_of_mem _ hr')) hy (by rw [List.length_append, List.length_cons, List.length_nil]; omega)
    rw [List.append_assoc] at e2
    exact ⟨zs, lp_cons bd_name e e2, hz⟩
theorem mapM_d {σ : List Cell} {k : Nat} (l : List D) : (l.map V.d).mapM (freezeN k σ) = some l := by
  induction l with
  | nil => rfl
  | cons x r ih =>
    rw [List.map_cons, List.mapM_cons, ih]
    cases k <;> rfl
noncomputable def Tr.ok (t : Tr) : Prop := (∀ r ∈ t.rows, rowOk r) ∧ t.rows.length < 100
theorem ltree_ok (ok : ROk rs) {t : Tr} (ht : t.ok) : Cl (G rs) fLTree 50 [.d (.tup (t.rows.map encRow)), .d (.int t.root), .d (.key 0), .d (.int (G rs).gap), .d (.raw 2 0)] [] (.val (.d (t.d (vAt rs)))) [] := by
  have hl := ht.2
  obtain ⟨ys, e, hy⟩ := lt_loop ok t.rows [] [("rows", .d (.tup (t.rows.map encRow))), ("root", .d (.int t.root)), ("base", .d (.key 0)), ("gap", .d (.int (G rs).gap)), ("s", .d (.raw 2 0)), ("pages", .loc 0)] ht.1 (.cons rfl (.cons rfl (.cons rfl (.cons rfl (.cons rfl .nil))))) (by rw [List.length_nil]; omega)
  rw [List.nil_append] at e
  refine c_own rfl rfl (r_step rfl (x_asgN (kp_new (l := []) (ev_list sl_nil (by decide)) rfl) rfl) ?_)
  refine r_step (xs' := ys) (σ' := lts (t.rows.map (pgOf (vAt rs)))) rfl (x_for (it_ev (fun n => rfl) (pn .refl rfl rfl) (congrArg (fun l => some (l, _)) List.map_map)) rfl rfl (Mine.U.up (by decide) (P := fun n => forLoop' (run (G rs) n) fLTree _ _ _ _ = some _) e)) ?_
  refine r_ret rfl (x_retE (ev_tup (vs := [.loc 0, .d (.int t.root)]) (sl_cons (kp_val (pn hy rfl rfl)) (sl_cons (kp_val (pn hy rfl rfl)) sl_nil)) rfl (by decide))) ?_
  refine mpd (a := t.d (vAt rs)) ?_ rfl
  show (List.mapM (freezeN 7 (lts (t.rows.map (pgOf (vAt rs))))) [V.loc 0, V.d (.int t.root)]).map D.tup = _
  rw [List.mapM_cons, show freezeN 7 (lts (t.rows.map (pgOf (vAt rs)))) (V.loc 0) = some (.lst ((t.rows.map (pgOf (vAt rs))).map encD)) from mpd (a := (t.rows.map (pgOf (vAt rs))).map encD) ((congrArg (List.mapM _) (List.map_map).symm).trans (mapM_d _)) rfl]
  rfl
noncomputable def frontL : List Int := [2, 4, 6, 8]
noncomputable def orderL (size : Int) (turn : Nat) : List Int := frontL.drop turn ++ frontL.take turn ++ rangeL 10 (2 * size + 2) 2
noncomputable def putA (rs : List Int) (i : Int) : Act := .put (2 * i) (vAt rs i)
noncomputable def stepA (rs : List Int) (i : Int) : Act := if 0 < i then putA rs i else .rem (2 * -i)
noncomputable def holdsA (h : Int) : List Act := if h = 1 then [.syn] else if h = 2 then [.chk] else []
noncomputable def acts0 (rs : List Int) (size : Int) (turn : Nat) : List Act := .put (2 * (orderL size turn).headD 0) "stale" :: (orderL size turn).map (putA rs)
noncomputable def actsP (rs : List Int) (size : Int) (turn : Nat) (steps : List Int) (hold gone : Int) : List Act := acts0 rs size turn ++ [.com] ++ holdsA hold ++ [.rem (2 * gone + 1)] ++ steps.map (stepA rs)
noncomputable def encAV (l : List Act) : List V := l.map fun a => V.d (encA a)
theorem ok_stale : PyData.strOk "stale" = true := by decide +kernel
noncomputable def lay (rs : List Int) (m : Nat) (hold gone : Int) (steps : List Int) : List (Str × V) := [("acts", .loc m), ("steps", .d (.tup (steps.map .int))), ("hold", .d (.int hold)), ("gone", .d (.int gone)), ("base", .d (.key 0)), ("gap", .d (.int (G rs).gap)), ("s", .d (.raw 2 0))]
section
variable {fn : Fn} {K : Nat} {xs ys : List (Str × V)} {σ : List Cell} {i hold gone : Int} {m : Nat} {steps : List Int} {l : List Act}
theorem lenA : (encAV l).length = l.length := List.length_map ..
theorem encAV_app {m : List Act} : encAV (l ++ m) = encAV l ++ encAV m := List.map_append
theorem app_lenA (h : l.length < 900) : (encAV l).length < lim := by rw [lenA]; unfold lim; omega
theorem x_putA (ok : ROk rs) (h : Sees xs (("i", .d (.int i)) :: lay rs m hold gone steps)) (hi : smallI i) (hm : σ[m]? = some (.lst (encAV l))) (hl : l.length < 900) {p1 p2 p3 p4 p5 p6 p7 p8 p9 p10 p11 p12 p13 p14 p15 p16 p17 p18 : Pos} {k1 k2 k3 : Nat} (hok : mOk (.Name "acts" p1) p2 p17 1 = true) :
    X1 (G rs) fLActs (K+10) (.Expr (.Call (.Attribute (.Name "acts" p1) "append" p2) [.Tuple [.Constant (.str "put") k1 p3, .BinOp (.Name "base" p4) .Add (.BinOp (.Name "gap" p5) .Mult (.Name "i" p6) p7) p8, .Subscript (.Name "_law_values" p9) (.BinOp (.BinOp (.Name "s" p10) .Add (.Name "i" p11) p12) .Mod (.Constant (.int 3) k2 p13) p14) p15] k3 p16] [] p17) p18) ⟨xs, σ⟩ .next ⟨xs, σ.set m (.lst (encAV (l ++ [putA rs i])))⟩ :=
  x_app hok (pn h rfl rfl) hm (kp_val (ev_tup (v := .d (encA (putA rs i))) (vs := [.d (.str "put"), .d (.key (2 * i)), .d (.str (vAt rs i))]) (sl_cons (kp_val (ev_str ok_put)) (sl_cons (kp_val (ev_key ok h rfl rfl rfl rfl (pn h rfl rfl) hi)) (sl_cons (kp_val (ev_val h rfl rfl rfl (pn h rfl rfl))) sl_nil))) rfl (show 3 ≤ lim from by decide))) hm (app_lenA hl) (congrArg (fun l => σ.set m (Cell.lst l)) (encAV_app (m := [putA rs i])).symm)
theorem set_at {σ : List Cell} {c : Cell} {m : Nat} (h : m < σ.length) : (σ.set m c)[m]? = some c := List.getElem?_set_self h
theorem la_loop1 (ok : ROk rs) : ∀ (is : List Int) (l : List Act) (xs : List (Str × V)) (σ : List Cell), (∀ i ∈ is, smallI i) → Sees xs (lay rs m hold gone steps) → σ[m]? = some (.lst (encAV l)) → l.length + is.length < 900 →
    ∃ ys, Lp (G rs) fLActs 40 (.one "i") (bOf (stAt fLActs 3)) (is.map fun i => .d (.int i)) ⟨xs, σ⟩ ⟨ys, σ.set m (.lst (encAV (l ++ is.map (putA rs))))⟩ ∧ Sees ys (lay rs m hold gone steps)
  | [], l, xs, σ, _, h, hm, _ => ⟨xs, by
      simp only [List.map_nil, List.append_nil]
      have : σ.set m (.lst (encAV l)) = σ := by
        obtain ⟨h1, h2⟩ := List.getElem?_eq_some_iff.mp hm
        rw [← h2]; exact List.set_getElem_self h1
      rw [this]; exact lp_nil, h⟩
  | i :: is, l, xs, σ, hi, h, hm, hl => by
    simp only [List.length_cons] at hl
    have h2 : Sees (setS "i" (.d (.int i)) xs) (("i", .d (.int i)) :: lay rs m hold gone steps) := .cons lk_same (h.other rfl)
    obtain ⟨ys, e, hy⟩ := la_loop1 ok is (l ++ [putA rs i]) (setS "i" (.d (.int i)) xs) (σ.set m (.lst (encAV (l ++ [putA rs i])))) (fun i hi' => hi i (List.mem_cons_of_mem _ hi')) (h.other rfl) (set_at (List.getElem?_eq_some_iff.mp hm).1) (by rw [List.length_append, List.length_cons, List.length_nil]; omega)
    rw [List.append_assoc, List.set_set] at e
    exact ⟨ys, lp_cons bd_name (x_cons (x_putA ok h2 (hi i List.mem_cons_self) hm (by omega) rfl) x_nil) e, hy⟩
theorem la_loop2 (ok : ROk rs) : ∀ (is : List Int) (l : List Act) (xs : List (Str × V)) (σ : List Cell), (∀ i ∈ is, smallI i) → Sees xs (lay rs m hold gone steps) → σ[m]? = some (.lst (encAV l)) → l.length + is.length < 900 →
    ∃ ys, Lp (G rs) fLActs 40 (.one "i") (bOf (stAt fLActs 5)) (is.map fun i => .d (.int i)) ⟨xs, σ⟩ ⟨ys, σ.set m (.lst (encAV (l ++ is.map (stepA rs))))⟩ ∧ Sees ys (lay rs m hold gone steps)
  | [], l, xs, σ, _, h, hm, _ => ⟨xs, by
      simp only [List.map_nil, List.append_nil]
      have : σ.set m (.lst (encAV l)) = σ := by
        obtain ⟨h1, h2⟩ := List.getElem?_eq_some_iff.mp hm
        rw [← h2]; exact List.set_getElem_self h1
      rw [this]; exact lp_nil, h⟩
  | i :: is, l, xs, σ, hi, h, hm, hl => by
    simp only [List.length_cons] at hl
    have h2 : Sees (setS "i" (.d (.int i)) xs) (("i", .d (.int i)) :: lay rs m hold gone steps) := .cons lk_same (h.other rfl)
    obtain ⟨ys, e, hy⟩ := la_loop2 ok is (l ++ [stepA rs i]) (setS "i" (.d (.int i)) xs) (σ.set m (.lst (encAV (l ++ [stepA rs i])))) (fun i hi' => hi i (List.mem_cons_of_mem _ hi')) (h.other rfl) (set_at (List.getElem?_eq_some_iff.mp hm).1) (by rw [List.length_append, List.length_cons, List.length_nil]; omega)
    rw [List.append_assoc, List.set_set] at e
    refine ⟨ys, lp_cons bd_name (?_ : Ex (G rs) fLActs 40 (bOf (stAt fLActs 5)) ⟨setS "i" (.d (.int i)) xs, σ⟩ .next ⟨setS "i" (.d (.int i)) xs, σ.set m (.lst (encAV (l ++ [stepA rs i])))⟩) e, hy⟩
    unfold stepA
    by_cases hp : 0 < i
    · rw [if_pos hp]
      exact x_cons (x_ift (tt_cmp (fun n => rfl) (pn h2 rfl rfl) ev_int (congrArg some (decide_eq_true hp))) (x_cons (x_putA ok h2 (hi i List.mem_cons_self) hm (by omega) rfl) x_nil)) x_nil
    · rw [if_neg hp]
      exact x_cons (x_iff (tt_cmp (fun n => rfl) (pn h2 rfl rfl) ev_int (congrArg some (decide_eq_false hp))) (x_cons (x_app rfl (pn h2 rfl rfl) hm (kp_val (ev_tup (v := .d (encA (.rem (2 * -i)))) (vs := [.d (.str "remove"), .d (.key (2 * -i))]) (sl_cons (kp_val (ev_str ok_remove)) (sl_cons (kp_val (ev_keyS ok h2 rfl rfl rfl rfl (pn h2 rfl rfl) (hi i List.mem_cons_self))) sl_nil)) rfl (by decide))) hm (app_lenA (by omega)) (congrArg (fun l => σ.set m (Cell.lst l)) (encAV_app (m := [.rem (2 * -i)])).symm)) x_nil)) x_nil
end
end
open PySem
noncomputable def RetS (G : Gl) (fn : Fn) (K : Nat) (k : Nat) (xs : List (Str × V)) (σ : List Cell) (r : R) (σ' : List Cell) : Prop := ∃ xs', ∀ n, (run G (n + K)).ex fn (fn.body.drop k) ⟨xs, σ⟩ = some (.ret r, ⟨xs', σ'⟩)
section
variable {G : Gl} {fn f : Fn} {K : Nat} {st st' : St} {r : R} {σ σ' σ₁ : List Cell} {xs xs' : List (Str × V)} {vs : List V}
theorem c_sh (hl : vs.length = f.params.length) (hs : f.sh = true) (h : RetS G f K 0 (f.params.zip vs) σ r σ') : Cl G f (K+1) vs σ r σ' := fun n => by
  obtain ⟨xs', h⟩ := h
  refine ifp hl ?_
  rw [hs]
  exact mpd (h n) rfl
theorem rs_step {k : Nat} (hk : decide (k < fn.body.length) = true) (h : X1 G fn K (stAt fn k) ⟨xs, σ⟩ .next ⟨xs', σ₁⟩) (r' : RetS G fn K (k+1) xs' σ₁ r σ') : RetS G fn (K+1) k xs σ r σ' := by
  obtain ⟨zs, r'⟩ := r'
  refine ⟨zs, fun n => ?_⟩
  rw [r_at hk]
  exact bnd (h n) (r' n)
theorem rs_ret {k : Nat} (hk : decide (k < fn.body.length) = true) (h : X1 G fn K (stAt fn k) ⟨xs, σ⟩ (.ret r) ⟨xs', σ'⟩) : RetS G fn (K+1) k xs σ r σ' := by
  refine ⟨xs', fun n => ?_⟩
  rw [r_at hk]
  exact bnd (h n) rfl
theorem mkTup_d (l : List D) : mkTup (l.map V.d) = .d (.tup l) := ops (allD_d l) rfl
theorem b_catT {l m : List D} (h : l.length + m.length ≤ lim) : binR G σ .Add (.val (.d (.tup l))) (.val (.d (.tup m))) = some (.val (.d (.tup (l ++ m)))) :=
  opn rfl (opn rfl (bnd (a := l.map V.d) rfl (bnd (a := m.map V.d) rfl (ifp (by rw [List.length_map, List.length_map]; exact h) (by rw [← List.map_append, mkTup_d])))))
theorem ei {e : PySem.Expr} {i : Int} {st₁ : St} (h : Ev G fn K e st (.val (.d (.int i))) st₁) : ∀ n, evInt (run G (n+K)) fn e st = some (i, st₁) := fun n => bnd (bnd (h n) rfl) rfl
theorem ev_rng {ea eb ec : PySem.Expr} {x y z : Int} {p p2 q q2 : Pos} {st₁ st₂ st₃ : St} (hE : ∀ n, evCallN G (run G (n+K)) fn "tuple" [.Call (.Name "range" q) [ea, eb, ec] [] q2] st = evRng3 (run G (n+K)) fn (ea, eb, ec) st) (ha : Ev G fn K ea st (.val (.d (.int x))) st₁) (hb : Ev G fn K eb st₁ (.val (.d (.int y))) st₂) (hc : Ev G fn K ec st₂ (.val (.d (.int z))) st₃) (hok : (rngOk x y z && decide (z < 1000000)) = true) :
    Ev G fn (K+1) (.Call (.Name "tuple" p) [.Call (.Name "range" q) [ea, eb, ec] [] q2] [] p2) st (.val (.d (.tup ((rangeL x y z).map .int)))) st₃ := fun n => (hE n).trans (bnd (ei ha n) (bnd (ei hb n) (bnd (ei hc n) (ift hok rfl))))
theorem idx_zero {α : Type} (x : α) (l : List α) : idx (x :: l) 0 = some x := by
  unfold idx
  rw [show seqIndex? 0 (x :: l).length = some 0 from by unfold seqIndex?; simp]
  rfl
end
section
variable {rs : List Int} {size : Int} {turn : Nat} {xs ys : List (Str × V)} {σ : List Cell} {hold gone : Int} {steps : List Int} {K : Nat}
noncomputable def rngB (s : Int) : Bool := (rangeL 10 (2 * s + 2) 2).all (fun x => decide (-1000 ≤ x) && decide (x ≤ 1000)) && decide ((rangeL 10 (2 * s + 2) 2).length ≤ 50) && (rngOk 10 (2 * s + 2) 2 && decide ((2 : Int) < 1000000))
theorem rng_all : ∀ n : Fin 21, rngB ((n : Nat) : Int) = true := by decide +kernel
theorem rng_fin (hs : 0 ≤ size ∧ size ≤ 20) : rngB size = true := Int.toNat_of_nonneg hs.1 ▸ rng_all ⟨size.toNat, (Int.toNat_lt hs.1).mpr (Int.lt_add_one_iff.mpr hs.2)⟩
theorem rng_mem {x : Int} (hs : 0 ≤ size ∧ size ≤ 20) (h : x ∈ rangeL 10 (2 * size + 2) 2) : smallI x := by
  have q := Bool.and_eq_true_iff.mp (List.all_eq_true.mp (Bool.and_eq_true_iff.mp (Bool.and_eq_true_iff.mp (rng_fin hs)).1).1 x h)
  exact ⟨of_decide_eq_true q.1, of_decide_eq_true q.2⟩
theorem rng_len (hs : 0 ≤ size ∧ size ≤ 20) : (rangeL 10 (2 * size + 2) 2).length ≤ 50 := of_decide_eq_true (Bool.and_eq_true_iff.mp (Bool.and_eq_true_iff.mp (rng_fin hs)).1).2
theorem rng_ok (hs : 0 ≤ size ∧ size ≤ 20) : (rngOk 10 (2 * size + 2) 2 && decide ((2 : Int) < 1000000)) = true := (Bool.and_eq_true_iff.mp (rng_fin hs)).2
theorem order_cons (ht : turn < 4) : ∃ a r, orderL size turn = a :: r := by
  unfold orderL frontL
  have : turn = 0 ∨ turn = 1 ∨ turn = 2 ∨ turn = 3 := by omega
  rcases this with rfl | rfl | rfl | rfl <;> exact ⟨_, _, rfl⟩
theorem order_small (hs : 0 ≤ size ∧ size ≤ 20) : ∀ i ∈ orderL size turn, smallI i := fun i hi => by
  have hf : ∀ i ∈ frontL, smallI i := by unfold frontL smallI; decide
  rcases List.mem_append.mp hi with h | h
  · rcases List.mem_append.mp h with h | h
    · exact hf i (List.mem_of_mem_drop h)
    · exact hf i (List.mem_of_mem_take h)
  · exact rng_mem hs h
theorem order_len (hs : 0 ≤ size ∧ size ≤ 20) : (orderL size turn).length ≤ 60 := by
  have := rng_len hs
  unfold orderL frontL
  rw [List.length_append, List.length_append, List.length_drop, List.length_take]
  simp only [List.length_cons, List.length_nil]
  omega
theorem ev_order (ht : turn < 4) (hs : 0 ≤ size ∧ size ≤ 20) (h : Sees xs [("front", .d (.tup [.int 2, .int 4, .int 6, .int 8])), ("turn", .d (.int turn)), ("size", .d (.int size))]) : X1 (G rs) fLActs 30 (stAt fLActs 1) ⟨xs, σ⟩ .next ⟨setS "order" (.d (.tup ((orderL size turn).map .int))) xs, σ⟩ := by
  have hl := rng_len hs
  have e1 : ∀ {K : Nat} {p1 p2 p3 p4 p5 p6 p7 p8 p9 : Pos}, Ev (G rs) fLActs (K+4) (.BinOp (.Subscript (.Name "front" p1) (.Slice (some (.Name "turn" p2)) .none .none p3) p4) .Add (.Subscript (.Name "front" p5) (.Slice .none (some (.Name "turn" p6)) .none p7) p8) p9) ⟨xs, σ⟩ (.val (.d (.tup ((frontL.drop turn ++ frontL.take turn).map .int)))) ⟨xs, σ⟩ := by
    intro K p1 p2 p3 p4 p5 p6 p7 p8 p9
    have : turn = 0 ∨ turn = 1 ∨ turn = 2 ∨ turn = 3 := by omega
    rcases this with rfl | rfl | rfl | rfl <;> exact ev_bin (ev_slc (pn h rfl rfl) (op_some (pn h rfl rfl)) (fun n => op_none) rfl) (ev_slc (pn h rfl rfl) (fun n => op_none) (op_some (pn h rfl rfl)) rfl) rfl
  refine x_asgN (kp_val (ev_bin e1 (ev_rng (fun n => rfl) ev_int (ev_bin (ev_bin ev_int (pn h rfl rfl) (b_int (y := .int (2 * size)) (show (if (small 2 && small size) = true then some (D.int (2 * size)) else .none) = _ from ift (by rw [small_of (by unfold smallI; omega), small_of (by unfold smallI; omega)]; rfl) rfl))) ev_int (b_int (y := .int (2 * size + 2)) rfl)) ev_int (rng_ok hs)) ((b_catT ?_).trans ?_))) rfl
  · rw [List.length_map, List.length_map, List.length_append, List.length_drop, List.length_take]
    unfold frontL lim
    simp only [List.length_cons, List.length_nil]
    omega
  · rw [← List.map_append]; rfl
theorem ev_holds {fn : Fn} {e : PySem.Expr} {p1 p2 : Pos} {hd : Int} (kt : (fn.names.lookup ("_law_holds" : Str)) = some .globalImplicit) (hs : asSlc e = .none) (he : Ev (G rs) fn (K+1) e ⟨xs, σ⟩ (.val (.d (.int hd))) ⟨xs, σ⟩) (h : 0 ≤ hd ∧ hd < 3) : Ev (G rs) fn (K+2) (.Subscript (.Name "_law_holds" p1) e p2) ⟨xs, σ⟩ (.val (.d (.lst ((holdsA hd).map encA)))) ⟨xs, σ⟩ := by
  have ht : Ev (G rs) fn (K+1) (.Name "_law_holds" p1) ⟨xs, σ⟩ (.val (.d (.tup [.lst [], .lst [.tup [.str "sync"]], .lst [.tup [.str "checkpoint"]]]))) ⟨xs, σ⟩ := fun n => by
    show evName (G rs) fn "_law_holds" ⟨xs, σ⟩ = _
    unfold evName
    rw [kt]
    exact mpd (a := .tup [.lst [], .lst [.tup [.str "sync"]], .lst [.tup [.str "checkpoint"]]]) (by kernel_rfl) rfl
  refine ev_idx hs ht he ?_
  have hj : hd = 0 ∨ hd = 1 ∨ hd = 2 := by omega
  rcases hj with rfl | rfl | rfl <;> rfl
theorem holds_len (hd : Int) : (holdsA hd).length ≤ 1 := by
  unfold holdsA
  split
  · exact Nat.le_refl _
  · split
    · exact Nat.le_refl _
    · exact Nat.zero_le _
theorem lacts_ok (ok : ROk rs) (ht : turn < 4) (hs : 0 ≤ size ∧ size ≤ 20) (hh : 0 ≤ hold ∧ hold < 3) (hg : smallI gone) (hst : ∀ i ∈ steps, smallI i) (hsl : steps.length < 100) :
    Cl (G rs) fLActs 60 [.d (.int size), .d (.tup (steps.map .int)), .d (.int turn), .d (.int hold), .d (.int gone), .d (.key 0), .d (.int (G rs).gap), .d (.raw 2 0)] [] (.val (.loc 1)) [.lst (encAV (acts0 rs size turn)), .lst (encAV (actsP rs size turn steps hold gone))] := by
  obtain ⟨a, r, ho⟩ := order_cons (size := size) ht
  have hol := order_len (turn := turn) hs
  have hhl := holds_len hold
  have hos := order_small (turn := turn) hs
  have h0 : Sees (setS "front" (.d (.tup [.int 2, .int 4, .int 6, .int 8])) (fLActs.params.zip [V.d (.int size), .d (.tup (steps.map .int)), .d (.int turn), .d (.int hold), .d (.int gone), .d (.key 0), .d (.int (G rs).gap), .d (.raw 2 0)])) [("size", .d (.int size)), ("steps", .d (.tup (steps.map .int))), ("turn", .d (.int turn)), ("hold", .d (.int hold)), ("gone", .d (.int gone)), ("base", .d (.key 0)), ("gap", .d (.int (G rs).gap)), ("s", .d (.raw 2 0)), ("front", .d (.tup [.int 2, .int 4, .int 6, .int 8]))] := .refl
  have h1 := h0.put (x := "order") (v := .d (.tup ((orderL size turn).map .int))) rfl
  have h2 := h1.put (x := "acts") (v := .loc 0) rfl
  have h2' : Sees _ (lay rs 0 hold gone steps) := h2.trans (.cons rfl (.cons rfl (.cons rfl (.cons rfl (.cons rfl (.cons rfl (.cons rfl .nil)))))))
  obtain ⟨ys, e1, hy⟩ := la_loop1 ok (orderL size turn) [.put (2 * (orderL size turn).headD 0) "stale"] _ [.lst (encAV [.put (2 * (orderL size turn).headD 0) "stale"])] hos h2' rfl (by simp only [List.length_cons, List.length_nil]; omega)
  have hl0 : (acts0 rs size turn).length ≤ 61 := by unfold acts0; rw [List.length_cons, List.length_map]; omega
  have h3 := hy.put (x := "acts") (v := .loc 1) rfl
  have h3' : Sees _ (lay rs 1 hold gone steps) := h3.trans (.cons rfl (.cons rfl (.cons rfl (.cons rfl (.cons rfl (.cons rfl (.cons rfl .nil)))))))
  obtain ⟨zs, e2, hz⟩ := la_loop2 ok steps (acts0 rs size turn ++ [.com] ++ holdsA hold ++ [.rem (2 * gone + 1)]) _ [.lst (encAV (acts0 rs size turn)), .lst (encAV (acts0 rs size turn ++ [.com] ++ holdsA hold ++ [.rem (2 * gone + 1)]))] hst h3' rfl (by simp only [List.length_append, List.length_cons, List.length_nil]; omega)
  have hgt : getR [] (.val (.d (.tup ((orderL size turn).map .int)))) (.val (.d (.int 0))) = some (.d (.int ((orderL size turn).headD 0))) := by rw [ho]; exact opn rfl (bnd (a := 0) rfl (bnd (a := ((a :: r).map D.int).map V.d) rfl (idx_zero _ _)))
  have hhd : smallI ((orderL size turn).headD 0) := by rw [ho] at hos ⊢; exact hos a List.mem_cons_self
  refine c_sh rfl rfl (rs_step rfl (x_asgN (kp_val (fun n => by kernel_rfl)) rfl) (rs_step rfl ((ev_order ht hs (h0.trans (.cons rfl (.cons rfl (.cons rfl .nil))))).up (by decide)) (rs_step rfl (x_asgN (kp_new (ev_list (sl_cons (kp_val (ev_tup (v := .d (encA (.put (2 * (orderL size turn).headD 0) "stale"))) (vs := [.d (.str "put"), .d (.key (2 * (orderL size turn).headD 0)), .d (.str "stale")]) (sl_cons (kp_val (ev_str ok_put)) (sl_cons (kp_val (ev_key ok h1 rfl rfl rfl rfl (ev_idx rfl (pn h1 rfl rfl) ev_int hgt) hhd)) (sl_cons (kp_val (ev_str ok_stale)) sl_nil))) rfl (by decide))) sl_nil) (by decide)) rfl) rfl) ?_)))
  refine rs_step (xs' := ys) (σ₁ := [.lst (encAV (acts0 rs size turn))]) rfl (x_for (it_ev (fun n => rfl) (pn h2 rfl rfl) (congrArg (fun l => some (l, _)) List.map_map)) rfl rfl (Mine.U.up (by decide) (P := fun n => forLoop' (run (G rs) n) fLActs _ _ _ _ = some _) e1)) ?_
  have hA : (encAV (acts0 rs size turn)).length ≤ 61 := by rw [lenA]; exact hl0
  have hH : (((holdsA hold).map encA).map V.d).length ≤ 1 := by rw [List.length_map, List.length_map]; exact hhl
  refine rs_step (σ₁ := [.lst (encAV (acts0 rs size turn)), .lst (encAV (acts0 rs size turn ++ [.com] ++ holdsA hold ++ [.rem (2 * gone + 1)]))]) rfl (x_asgN (kp_new (σ := [.lst (encAV (acts0 rs size turn))]) (ev_bin (ev_bin (ev_bin (pn hy rfl rfl) (ev_list (sl_cons (kp_val (ev_tup (v := .d (encA .com)) (vs := [.d (.str "commit")]) (sl_cons (kp_val (ev_str ok_commit)) sl_nil) rfl (by decide))) sl_nil) (by decide)) (b_cat rfl rfl rfl ?_)) (ev_holds rfl rfl (pn hy rfl rfl) hh) (b_cat rfl rfl rfl ?_)) (ev_list (sl_cons (kp_val (ev_tup (v := .d (encA (.rem (2 * gone + 1)))) (vs := [.d (.str "remove"), .d (.key (2 * gone + 1))]) (sl_cons (kp_val (ev_str ok_remove)) (sl_cons (kp_val (ev_bin (ev_key ok hy rfl rfl rfl rfl (pn hy rfl rfl) hg) ev_int (b_int (key_one ok.g2 gone)))) sl_nil)) rfl (by decide))) sl_nil) (by decide)) ((b_cat rfl rfl rfl ?_).trans ?_)) rfl) rfl) ?_
  · unfold lim; simp only [List.length_cons, List.length_nil]; omega
  · unfold lim; simp only [List.length_append, List.length_cons, List.length_nil]; omega
  · unfold lim; simp only [List.length_append, List.length_cons, List.length_nil]; omega
  · rw [encAV_app, encAV_app, encAV_app, List.map_map]; rfl
  refine rs_step (xs' := zs) (σ₁ := [.lst (encAV (acts0 rs size turn)), .lst (encAV (actsP rs size turn steps hold gone))]) rfl (x_for (it_ev (fun n => rfl) (pn h3 rfl rfl) (congrArg (fun l => some (l, _)) List.map_map)) rfl rfl (Mine.U.up (by decide) (P := fun n => forLoop' (run (G rs) n) fLActs _ _ _ _ = some _) e2)) ?_
  exact rs_ret rfl (x_retE (pn hz rfl rfl))
end
open PySem
section
variable {rs : List Int} {v : Int → Str} {t : Tr} {K : Nat} {xs ys : List (Str × V)} {σ σ' : List Cell} {fn : Fn}
theorem map_at {α β : Type} {f g : α → β} {l : List α} (h : l.map f = l.map g) {a : α} (ha : a ∈ l) : f a = g a := List.map_inj_left.mp h a ha
theorem c_own1 {G : Gl} {f : Fn} {vs : List V} {fl : Fl} {st' : St} {r : R} {n : Nat} (hl : vs.length = f.params.length) (hs : f.sh = false) (h : (run G (n+K)).ex f f.body ⟨f.params.zip vs, []⟩ = some (fl, st')) (hf : freezeR st'.store (retR fl) = some r) : (run G (n+(K+1))).call f vs [] = some (r, []) := by
  refine ifp hl ?_
  rw [hs]
  exact bnd h (mpd hf rfl)
theorem ev_attr {G : Gl} {e : PySem.Expr} {a : Str} {p : Pos} {st st₁ : St} {i : Nat} {fs : List (Str × V)} {w : V} (hf : (G.flds.contains a && !asBare e) = true) (h : Ev G fn K e st (.val (.loc i)) st₁) (hi : instC st₁.store[i]? = some fs) (hw : lookS a fs = some w) : Ev G fn (K+1) (.Attribute e a p) st (.val w) st₁ := fun n => ift hf (bnd (bnd (h n) rfl) (bnd hi (mpd hw rfl)))
theorem ev_new {p q : Pos} {es : List PySem.Expr} {vs : List V} {st : St} (hx : isFun fn "_Tree" = true) (ha : Sl (G rs) fn K es st vs ⟨xs, σ⟩) (hc : Cl (G rs) fInit K (.loc σ.length :: vs) (σ ++ [.inst []]) (.val (.d .none)) σ') : Ev (G rs) fn (K+1) (.Call (.Name "_Tree" q) es [] p) st (.val (.loc σ.length)) ⟨xs, σ'⟩ := fun n =>
  ift hx (ifp (c := _ = _) rfl (bnd (ha n) (bnd (hc n) rfl)))
theorem get_of {k : Int} {x : D} (hi : InitC rs v t) (hg : ∀ n, tailG rs v t n k = some (.ret (.val (.d x)))) : GetTo rs (t.d v) k x := fun n => by
  have hs : Sees (fGet.params.zip [V.d (t.d v), .d (.key k)]) [("tree", .d (t.d v)), ("key", .d (.key k))] := .refl
  have e0 : X1 (G rs) fGet 78 (stAt fGet 0) ⟨fGet.params.zip [V.d (t.d v), .d (.key k)], []⟩ .next ⟨[("tree", .d (t.d v)), ("key", .d (.key k)), ("t", .loc 0)], stO false t v⟩ :=
    x_asgN (kp_val (ev_new (σ := []) rfl (sl_cons (kp_val (pn hs rfl rfl)) sl_nil) (hi.up (by decide)))) rfl
  have h2 := hg (n + 18)
  unfold tailG at h2
  cases h3 : (run (G rs) (n + 78)).ex fGet (fGet.body.drop 1) ⟨[("tree", .d (t.d v)), ("key", .d (.key k)), ("t", .loc 0)], stO false t v⟩ with
  | none => rw [h3] at h2; cases h2
  | some p =>
    rw [h3] at h2
    obtain ⟨fl, st⟩ := p
    have h2 : some fl = some (Fl.ret (.val (.d x))) := h2
    cases h2
    have hb : fGet.body = stAt fGet 0 :: fGet.body.drop 1 := r_at (k := 0) rfl
    refine c_own1 (fl := .ret (.val (.d x))) (st' := st) rfl rfl ?_ rfl
    rw [hb]
    exact bnd (e0 n) h3
theorem TOk.get (h : TOk t) {l : Nat} (hl : l < 28) : GetTo rs (t.d v) (2 * (l : Int)) (getP v t l) := get_of (h.init rs v) fun n => map_at (h.gets rs v n) (List.mem_range.mpr hl)
theorem tt_is {G : Gl} {l e : PySem.Expr} {p : Pos} {st st₁ : St} {r : R} {b : Bool} (hn : isNo e = true) (h : Ev G fn K l st r st₁) (hb : isNone r = b) : Tt G fn (K+1) (.Compare l [.Is] [e] p) st b st₁ := fun n => ift hn (mpd (h n) (by rw [hb]))
theorem rem_of {k : Int} (h : GetTo rs (t.d v) k .none) : RemTo rs (t.d v) k (t.d v) := by
  have hs : Sees (fRemove.params.zip [V.d (t.d v), .d (.key k)]) [("tree", .d (t.d v)), ("key", .d (.key k))] := .refl
  exact c_own rfl rfl (r_ret (r₁ := .val (.d (t.d v))) rfl (x_ift (tt_is rfl (ev_fn (f := fGet) (us := [.d (t.d v), .d (.key k)]) rfl (ne_cls (by decide)) rfl rfl (sl_cons (kp_val (pn hs rfl rfl)) (sl_cons (kp_val (pn hs rfl rfl)) sl_nil)) rfl (h.up (by decide))) rfl) (x_ret (x_retE (pn hs rfl rfl)))) rfl)
theorem rem_odd (h : TOk t) (ho : Odds rs v t) {l : Nat} (hl : l < 16) : RemTo rs (t.d v) (2 * (l : Int) + 1) (t.d v) := rem_of (get_of (h.init rs v) fun n => map_at (ho n) (List.mem_range.mpr hl))
theorem tt_chain {G : Gl} {l m e : PySem.Expr} {p : Pos} {st : St} {a b c : Int} (h1 : Ev G fn K l st (.val (.d (.key a))) st) (h2 : Ev G fn K m st (.val (.d (.key b))) st) (h3 : Ev G fn K e st (.val (.d (.key c))) st) : Tt G fn (K+1) (.Compare l [.LtE, .Lt] [m, e] p) st (decide (a ≤ b) && decide (b < c)) st := fun n => by
  have en : ∀ {e : PySem.Expr} {a : Int}, Ev G fn K e st (.val (.d (.key a))) st → evNum (run G (n+K)) fn e st = some ((true, a), st) := fun h => bnd (h n) rfl
  show chA (run G (n+K)) fn l (.LtE, m) (.Lt, e) st = _
  refine (ift rfl (bnd (en h1) (bnd (en h2) (bnd (a := decide (a ≤ b)) rfl ?_))) : chA (run G (n+K)) fn l (.LtE, m) (.Lt, e) st = _)
  cases decide (a ≤ b) with
  | true => exact bnd (en h3) rfl
  | false => rfl
noncomputable def within (lo hi i : Int) : Bool := decide (lo ≤ 2 * i) && decide (2 * i < hi)
theorem frz_fresh {ds : List D} : freezeR σ (.fresh (ds.map .d)) = some (.fresh (ds.map .d)) := mpd (mapM_d ds) rfl
theorem scan_ok (h : TOk t) (lo hi : Int) : Cl (G rs) fScan 80 [.d (t.d v), .d (.key lo), .d (.key hi)] [] (.fresh (((prs t).filter (within lo hi)).map fun i => .d (pr v i))) [] := by
  have hs : Sees (fScan.params.zip [V.d (t.d v), .d (.key lo), .d (.key hi)]) [("tree", .d (t.d v)), ("low", .d (.key lo)), ("high", .d (.key hi))] := .refl
  have h1 := hs.put (x := "t") (v := .loc 0) rfl
  have hl : (prs t).length ≤ lim := by
    have := h.can
    unfold canB at this
    simp only [Bool.and_eq_true, decide_eq_true_eq] at this
    unfold lim; omega
  refine c_own rfl rfl (r_step rfl (x_asgN (kp_val (ev_new (σ := []) rfl (sl_cons (kp_val (pn hs rfl rfl)) sl_nil) ((h.init rs v).up (by decide)))) rfl) ?_)
  refine r_ret rfl (x_retE (ev_filter (b := within lo hi) (g := fun i => V.d (pr v i)) (ys := [("low", .d (.key lo)), ("high", .d (.key hi))]) (it_ev (fun n => rfl) (ev_fnS (f := fPairs) rfl (ne_cls (by decide)) rfl rfl (sl_cons (kp_val (pn h1 rfl rfl)) (sl_cons (kp_val (ev_attr rfl (pn h1 rfl rfl) rfl rfl)) sl_nil)) ((h.pairs rs v).up (by decide))) rfl) rfl rfl rfl rfl rfl (.cons (h1.seen rfl rfl) (.cons (h1.seen rfl rfl) .nil)) rfl (fun i _ zs hz => tt_chain (pn hz rfl rfl) (ev_idx rfl (pn hz rfl rfl) ev_int rfl) (pn hz rfl rfl)) hl)) ?_
  exact (congrArg (freezeR _) (congrArg R.fresh (List.map_map (f := pr v) (g := V.d)).symm)).trans (frz_fresh.trans (congrArg (fun l => some (R.fresh l)) List.map_map))
end
open PySem
noncomputable def pf (t : Tr) (v : Int → Str) : PF := ⟨fun n => lookI n (t.rows.map (pgOf v)), t.root⟩
theorem pg_row (v : Int → Str) (r : Row) : Pg (pgOf v r).2 := by
  cases r with
  | leaf n ks =>
    have : (pgOf v (.leaf n ks)).2 = .tup [.str "leaf", .lst ((ks.map fun i => (2 * i, v i)).map fun p => .tup [.key p.1, .str p.2])] := by rw [List.map_map]; rfl
    rw [this]; exact .leaf _
  | inner n ks cs =>
    have : (pgOf v (.inner n ks cs)).2 = .tup [.str "inner", .lst ((ks.map fun i => 2 * i).map .key), .lst (cs.map .int)] := by rw [List.map_map]; rfl
    rw [this]; exact .inner _ _
theorem look_mem {n : Int} {y : D} : ∀ {A : PM}, lookI n A = some y → (n, y) ∈ A
  | p :: A, h => by
    simp only [lookI] at h
    split at h
    · rename_i e; cases h; rw [e]; exact List.mem_cons_self
    · exact List.mem_cons_of_mem _ (look_mem h)
theorem rowN_pg (v : Int → Str) (r : Row) : (pgOf v r).1 = rowN r := by cases r <;> rfl
theorem asc_of : ∀ {l : List Int}, ascB l = true → l.Pairwise (· < ·)
  | [], _ => List.Pairwise.nil
  | [x], _ => List.pairwise_cons.mpr ⟨nofun, List.Pairwise.nil⟩
  | x :: y :: r, h => by
    simp only [ascB, Bool.and_eq_true, decide_eq_true_eq] at h
    have ih := asc_of h.2
    refine List.pairwise_cons.mpr ⟨fun z hz => ?_, ih⟩
    cases List.mem_cons.mp hz with
    | inl e => rw [e]; exact h.1
    | inr m => exact Int.lt_trans h.1 ((List.pairwise_cons.mp ih).1 z m)
section
variable {t : Tr} {v : Int → Str}
structure Can (t : Tr) : Prop where
  row : ∀ r ∈ t.rows, rowOk r ∧ rowN r ∈ dom
  asc : (t.rows.map rowN).Pairwise (· < ·)
  len : t.rows.length < 100
  prs : (prs t).length < 100
theorem can_of (h : canB t = true) : Can t := by
  unfold canB at h
  simp only [Bool.and_eq_true, decide_eq_true_eq, List.all_eq_true] at h
  obtain ⟨⟨⟨h1, h2⟩, h3⟩, h4⟩ := h
  have hd : ∀ n : Int, 0 ≤ n → n < 10 → n ∈ dom := fun n h1 h2 => Int.toNat_of_nonneg h1 ▸ (by decide : ∀ m : Fin 10, ((m : Nat) : Int) ∈ dom) ⟨n.toNat, (Int.toNat_lt h1).mpr h2⟩
  refine ⟨fun r hr => ?_, asc_of h2, h3, h4⟩
  have := h1 r hr
  cases r with
  | leaf n ks =>
    simp only [rowB, Bool.and_eq_true, decide_eq_true_eq, List.all_eq_true] at this
    exact ⟨⟨fun i hi => this.1.2 i hi, this.2⟩, hd n this.1.1.1 this.1.1.2⟩
  | inner n ks cs =>
    simp only [rowB, Bool.and_eq_true, decide_eq_true_eq, List.all_eq_true] at this
    exact ⟨⟨fun i hi => this.1.1.2 i hi, this.1.2, this.2⟩, hd n this.1.1.1.1 this.1.1.1.2⟩
theorem Can.ok (h : Can t) : t.ok := ⟨fun r hr => (h.row r hr).1, h.len⟩
theorem Can.ascP (h : Can t) : Asc (t.rows.map (pgOf v)) := by
  have := List.pairwise_map.mp h.asc
  exact List.pairwise_map.mpr (this.imp fun {a b} h => by rw [rowN_pg, rowN_pg]; exact h)
theorem Can.dm (h : Can t) : ∀ p ∈ t.rows.map (pgOf v), p.1 ∈ dom := fun p hp => by
  obtain ⟨r, hr, rfl⟩ := List.mem_map.mp hp
  rw [rowN_pg]; exact (h.row r hr).2
theorem Can.enc (h : Can t) : encT (pf t v) = t.d v := by
  show encU (ofF (fun n => lookI n (t.rows.map (pgOf v))), t.root) = _
  rw [ofF_can h.ascP h.dm]; rfl
theorem Can.good (h : Can t) : Good (pf t v) := ⟨fun n y e => by
    obtain ⟨r, hr, e2⟩ := List.mem_map.mp (look_mem e)
    have := pg_row v r
    rw [e2] at this
    exact this, fun n y e => h.dm (v := v) (n, y) (look_mem e)⟩
variable {rs : List Int} {K : Nat} {xs ys : List (Str × V)} {σ : List Cell} {fn : Fn}
noncomputable def isLeaf : Row → Bool
  | .leaf _ _ => true
  | _ => false
theorem tn_pairs {tt elt : PySem.Expr} {g2 : Comprehension} (hk : isLoc (fn.names.lookup ("page" : Str)) = true) (hq : isLoc (fn.names.lookup ("q" : Str)) = true) (hg : asTg g2.target = some (.one "q")) (hgo : tgOk fn false (.one "q") = true) (hgi : g2.ifs = [])
    (ht : ∀ zs r, Sees zs [("page", .d (pgOf v r).2)] → Tt (G rs) fn (K+1) tt ⟨zs, σ⟩ (isLeaf r) ⟨zs, σ⟩)
    (hi : ∀ zs n ks, Sees zs [("page", .d (pgOf v (.leaf n ks)).2)] → ItE (G rs) fn (K+1) g2.iter ⟨zs, σ⟩ ⟨ks.map fun i => V.d (pr v i), false⟩ ⟨zs, σ⟩)
    (he : ∀ zs x, Sees zs [("q", x)] → Kp (G rs) fn (K+1) fn.hm elt ⟨zs, σ⟩ x ⟨zs, σ⟩) : ∀ (rows : List Row) (xs : List (Str × V)), ∃ xs', Tn (G rs) fn (K+1) (.two "number" "page") [tt] elt [g2] (rows.map fun r => V.d (encD (pgOf v r))) ⟨xs, σ⟩ ((rows.flatMap leafK).map fun i => V.d (pr v i)) ⟨xs', σ⟩
  | [], xs => ⟨xs, tn_nil⟩
  | r :: rows, xs => by
    have hb : bindT (.two "number" "page") (.d (encD (pgOf v r))) ⟨xs, σ⟩ = some ⟨setS "page" (.d (pgOf v r).2) (setS "number" (.d (.int (pgOf v r).1)) xs), σ⟩ := rfl
    have hs : Sees (setS "page" (.d (pgOf v r).2) (setS "number" (.d (.int (pgOf v r).1)) xs)) [("page", .d (pgOf v r).2)] := .cons lk_same .nil
    have h1 := ht _ r hs
    generalize hzs : setS ("page" : Str) (V.d (pgOf v r).2) (setS "number" (.d (.int (pgOf v r).1)) xs) = zs at *
    cases r with
    | leaf n ks =>
      obtain ⟨us, e2⟩ := tn_map (G := G rs) (fn := fn) (K := K+1) (x := "q") (ys := []) (elt := elt) (σ := σ) (g := fun i => V.d (pr v i)) (h := fun i => V.d (pr v i)) rfl ks zs (fun i _ ws hw => he ws _ hw) .nil
      obtain ⟨xs', e⟩ := tn_pairs hk hq hg hgo hgi ht hi he rows us
      refine ⟨xs', fun m => ?_⟩
      rw [List.flatMap_cons, List.map_append]
      refine bnd (a := ((leafK (.leaf n ks)).map fun i => V.d (pr v i), ⟨us, σ⟩)) (bnd hb (bnd (a := (true, (⟨zs, σ⟩ : St))) (show tests (run (G rs) (m + (K+1))) fn ⟨zs, σ⟩ [tt] = some (true, ⟨zs, σ⟩) from h1 m) (bnd (a := (.one "q", ⟨ks.map fun i => V.d (pr v i), false⟩, ⟨zs, σ⟩)) (bnd (hi zs n ks hs m) (bnd hg (ift hgo rfl))) ?_))) (mpd (e m) rfl)
      rw [hgi]
      exact e2 m
    | inner n ks cs =>
      obtain ⟨xs', e⟩ := tn_pairs hk hq hg hgo hgi ht hi he rows zs
      refine ⟨xs', fun m => ?_⟩
      rw [List.flatMap_cons, List.map_append]
      exact bnd (a := ([], ⟨zs, σ⟩)) (bnd hb (bnd (a := (false, (⟨zs, σ⟩ : St))) (show tests (run (G rs) (m + (K+1))) fn ⟨zs, σ⟩ [tt] = some (false, ⟨zs, σ⟩) from h1 m) rfl)) (mpd (e m) rfl)
theorem flat_len2 (h : DctC v t) (hp : (prs t).length < 100) : (t.rows.flatMap leafK).length ≤ lim := by
  have := h.srt
  unfold srtD at this
  split at this
  · rename_i h2
    unfold srtOk at h2
    simp only [Bool.and_eq_true, decide_eq_true_eq, List.length_map] at h2
    unfold lim; omega
  · cases this
theorem ev_pairs {tt elt : PySem.Expr} {g1 g2 : Comprehension} {sc : Scope} {q : Pos} {rows : List Row} (hit : ItE (G rs) fn (K+1) g1.iter ⟨xs, σ⟩ ⟨rows.map fun r => V.d (encD (pgOf v r)), false⟩ ⟨xs, σ⟩) (hok : (scOk fn sc && [g1, g2].all gOk) = true) (ht1 : asTg g1.target = some (.two "number" "page")) (htk : tgOk (fn.sc sc.names) false (.two "number" "page") = true) (hf : g1.ifs = [tt])
    (hk : isLoc (sc.names.lookup ("page" : Str)) = true) (hq : isLoc (sc.names.lookup ("q" : Str)) = true) (hg : asTg g2.target = some (.one "q")) (hgo : tgOk (fn.sc sc.names) false (.one "q") = true) (hgi : g2.ifs = [])
    (ht : ∀ zs r, Sees zs [("page", .d (pgOf v r).2)] → Tt (G rs) (fn.sc sc.names) (K+1) tt ⟨zs, σ⟩ (isLeaf r) ⟨zs, σ⟩)
    (hi : ∀ zs n ks, Sees zs [("page", .d (pgOf v (.leaf n ks)).2)] → ItE (G rs) (fn.sc sc.names) (K+1) g2.iter ⟨zs, σ⟩ ⟨ks.map fun i => V.d (pr v i), false⟩ ⟨zs, σ⟩)
    (he : ∀ zs x, Sees zs [("q", x)] → Kp (G rs) (fn.sc sc.names) (K+1) fn.hm elt ⟨zs, σ⟩ x ⟨zs, σ⟩) (hl : (rows.flatMap leafK).length ≤ lim) : Ev (G rs) fn (K+2) (.ListComp elt [g1, g2] sc q) ⟨xs, σ⟩ (.fresh ((rows.flatMap leafK).map fun i => V.d (pr v i))) ⟨xs, σ⟩ := by
  obtain ⟨xs', e⟩ := tn_pairs (fn := fn.sc sc.names) (v := v) hk hq hg hgo hgi ht hi he rows (seen sc.names xs)
  exact ev_lc (st₂ := ⟨xs', σ⟩) hok hit ht1 htk (hf ▸ e) (by rw [List.length_map]; exact hl)
theorem x_pairs (h : TOk t) (hs : Sees xs ys) (hh : lookS "hand" ys = some (.d (t.d v))) : X1 (G rs) fLaw 30 (stAt fLaw 21) ⟨xs, σ⟩ .next ⟨setS "pairs" (.d (.lst ((prs t).map (pr v)))) xs, σ⟩ := by
  have hc := can_of h.can
  refine x_asgN (kp_fz (ev_b1 (fun n => rfl) (ev_pairs (v := v) (rows := t.rows) (it_ev (fun n => rfl) (ev_idx rfl (pn hs rfl hh) ev_int rfl) (congrArg (fun l => some (l, _)) ((congrArg (List.map V.d) List.map_map).trans List.map_map))) rfl rfl rfl rfl rfl rfl rfl rfl rfl (fun zs r hz => ?_) (fun zs n ks hz => it_ev (fun n => rfl) (ev_idx rfl (pn hz rfl rfl) ev_int rfl) (congrArg (fun l => some (l, _)) List.map_map)) (fun zs x hz => kp_val (pn hz rfl rfl)) (flat_len2 (h.dct v) hc.prs)) (b_sorted rfl rfl allD_m (h.dct v).srt)) rfl (allD_d _)) rfl
  cases r with
  | leaf n ks => exact tt_cmp (fun n => rfl) (ev_idx rfl (pn hz rfl rfl) ev_int rfl) (ev_str ok_leaf) (c_eq (eqG_str rfl))
  | inner n ks cs => exact tt_cmp (fun n => rfl) (ev_idx rfl (pn hz rfl rfl) ev_int rfl) (ev_str ok_leaf) (c_eq (eqG_str rfl))
theorem ev_pget (h : TOk t) {l : Nat} (hl : l < 28) (hs : Sees xs ys) (hp : lookS "pairs" ys = some (.d (.lst ((prs t).map (pr v))))) (hlow : lookS "low" ys = some (.d (.key (2 * (l : Int))))) {p1 p2 p3 p4 p5 p6 : Pos} (hok : mOk (.Call (.Name "dict" p1) [.Name "pairs" p2] [] p3) p4 p6 1 = true) : Ev (G rs) fLaw (K+4) (.Call (.Attribute (.Call (.Name "dict" p1) [.Name "pairs" p2] [] p3) "get" p4) [.Name "low" p5] [] p6) ⟨xs, σ⟩ (.val (.d (getP v t l))) ⟨xs, σ ++ [.dct (cls t) (dct v t)]⟩ := by
  have hd := h.dct v
  have e := ev_dict (G := G rs) (fn := fLaw) (K := K+2) (fun n => rfl) (pn (σ := σ) (p := p2) hs rfl hp) (l := (prs t).map fun i => V.d (pr v i)) (prs := dct v t) (congrArg some List.map_map) (by rw [hd.cls]; exact hd.prs) (p := p3) (q := p1)
  rw [hd.cls, hd.mkd] at e
  have hm : (σ ++ [Cell.dct (cls t) (dct v t)])[σ.length]? = some (.dct (cls t) (dct v t)) := List.getElem?_concat_length
  refine ev_dm hok e hm (sl_cons (kp_val (pn hs rfl hlow)) sl_nil) hm ?_
  exact ifp (c := _ = _) rfl (bnd (a := V.d (.key (2 * (l : Int)))) rfl (bnd (a := (true, 2 * (l : Int))) rfl (ift (hd.ok _) (by rw [show (lookI (2 * (l : Int)) (dct v t)).getD (.d .none) = V.d (getP v t l) from map_at hd.get (List.mem_range.mpr hl)]))))
end
open PySem
noncomputable def NoC (l : List Rec) : Prop := ∀ x ∈ l, isCm x = false
theorem trim_nil : trim [] = [] := rfl
theorem trim_noc : ∀ (Y X : List Rec), NoC Y → trim (X ++ Y) = trim X := by
  intro Y
  induction Y with
  | nil => intro X _; rw [List.append_nil]
  | cons y Y ih =>
    intro X h
    rw [show X ++ y :: Y = (X ++ [y]) ++ Y from by rw [List.append_assoc]; rfl, ih (X ++ [y]) fun x hx => h x (List.mem_cons_of_mem _ hx), trim_no _ _ (h y List.mem_cons_self)]
theorem trim_cm (X Y : List Rec) (r : Int) (h : NoC Y) : trim (X ++ [.cm r] ++ Y) = X ++ [.cm r] := by rw [trim_noc Y _ h, trim_yes _ _ rfl]
theorem noc_dif (f g : Pgs) : NoC (dif f g) := fun x hx => by
  obtain ⟨n, _, h⟩ := List.mem_flatMap.mp hx
  unfold d1 at h
  split at h
  · cases h
  · rw [List.mem_singleton.mp h]; rfl
  · rw [List.mem_singleton.mp h]; rfl
  · split at h
    · cases h
    · rw [List.mem_singleton.mp h]; rfl
theorem noc_take {l : List Rec} (h : NoC l) (n : Nat) : NoC (l.take n) := fun x hx => h x (List.mem_of_mem_take hx)
noncomputable def seg (a b : PF) : List Rec := dif a.f b.f ++ [.cm b.r]
noncomputable def segs : PF → List PF → List Rec
  | _, [] => []
  | a, t :: ts => seg a t ++ segs t ts
noncomputable def lastT : PF → List PF → PF
  | a, [] => a
  | _, t :: ts => lastT t ts
theorem segs_app : ∀ (a : PF) (ts us : List PF), segs a (ts ++ us) = segs a ts ++ segs (lastT a ts) us
  | a, [], us => rfl
  | a, t :: ts, us => by rw [List.cons_append, segs, segs_app t ts us, segs, lastT, List.append_assoc]
theorem lastT_app : ∀ (a : PF) (ts us : List PF), lastT a (ts ++ us) = lastT (lastT a ts) us
  | a, [], us => rfl
  | a, t :: ts, us => lastT_app t ts us
theorem filt_noc {l : List Rec} (h : NoC l) : l.filter isCm = [] := List.filter_eq_nil_iff.mpr fun x hx => by rw [h x hx]; exact Bool.false_ne_true
theorem count_segs : ∀ (a : PF) (ts : List PF), ((segs a ts).filter isCm).length = ts.length
  | a, [] => rfl
  | a, t :: ts => by
    rw [segs, seg, List.filter_append, List.filter_append, filt_noc (noc_dif _ _), List.nil_append, List.length_append, count_segs t ts]
    show 1 + _ = _
    rw [List.length_cons]; omega
theorem cut_ok : ∀ (ts : List PF) (a : PF) (X : List Rec) (m : Nat), trim X = X → ∃ j, j ≤ ts.length ∧ trim (X ++ (segs a ts).take m) = X ++ segs a (ts.take j) ∧ (((segs a ts).drop m).filter isCm).length = ts.length - j
  | [], a, X, m, h => ⟨0, Nat.le_refl _, by simp only [segs, List.take_nil, List.append_nil]; exact h, by simp [segs]⟩
  | t :: ts, a, X, m, h => by
    by_cases hm : m ≤ (dif a.f t.f).length
    · refine ⟨0, Nat.zero_le _, ?_, ?_⟩
      · rw [segs, seg, List.append_assoc, List.take_append_of_le_length hm, trim_noc _ _ (noc_take (noc_dif _ _) m), h, List.take_zero]
        exact (List.append_nil X).symm
      · rw [segs, seg, List.append_assoc, List.drop_append_of_le_length hm, List.filter_append, filt_noc fun x hx => noc_dif _ _ x (List.mem_of_mem_drop hx), List.nil_append]
        show (([Rec.cm t.r] ++ segs t ts).filter isCm).length = _
        rw [List.filter_append, List.length_append, count_segs]
        show 1 + _ = _
        rw [List.length_cons]; omega
    · have hs : (seg a t).length = (dif a.f t.f).length + 1 := by rw [seg, List.length_append]; rfl
      obtain ⟨j, h1, h2, h3⟩ := cut_ok ts t (X ++ seg a t) (m - (seg a t).length) (by rw [seg, ← List.append_assoc]; exact trim_yes _ _ rfl)
      refine ⟨j + 1, by rw [List.length_cons]; omega, ?_, ?_⟩
      · rw [segs, List.take_append, List.take_of_length_le (by omega), ← List.append_assoc, h2, List.take_succ_cons, segs, List.append_assoc]
      · rw [segs, List.drop_append, List.drop_of_length_le (by omega), List.nil_append, h3, List.length_cons]; omega
noncomputable def touch (n : Int) (l : List Rec) : Bool := l.any (isBusy n)
theorem rep_r : ∀ (l : List Rec) (t t' : PF), t.r = t'.r → (l.foldl rep1 t).r = (l.foldl rep1 t').r
  | [], t, t', h => h
  | x :: l, t, t', h => rep_r l _ _ (by cases x <;> first | exact h | rfl)
theorem rep_f (n : Int) : ∀ (l : List Rec) (t t' : PF), (touch n l = true ∨ t.f n = t'.f n) → (l.foldl rep1 t).f n = (l.foldl rep1 t').f n
  | [], t, t', h => h.resolve_left Bool.false_ne_true
  | x :: l, t, t', h => rep_f n l _ _ (by
      unfold touch at h ⊢
      rw [List.any_cons] at h
      cases x with
      | wr m p =>
        by_cases hm : n = m
        · exact .inr (by show upd t.f m _ n = upd t'.f m _ n; rw [hm, upd_same, upd_same])
        · have hb : isBusy n (.wr m p) = false := decide_eq_false fun e => hm e.symm
          rw [hb, Bool.false_or] at h
          exact h.imp_right fun h => by show upd t.f m _ n = upd t'.f m _ n; rw [upd_ne hm, upd_ne hm, h]
      | fr m =>
        by_cases hm : n = m
        · exact .inr (by show upd t.f m _ n = upd t'.f m _ n; rw [hm, upd_same, upd_same])
        · have hb : isBusy n (.fr m) = false := decide_eq_false fun e => hm e.symm
          rw [hb, Bool.false_or] at h
          exact h.imp_right fun h => by show upd t.f m _ n = upd t'.f m _ n; rw [upd_ne hm, upd_ne hm, h]
      | cm k => exact h)
theorem rep_un (n : Int) : ∀ (l : List Rec) (t : PF), touch n l = false → (l.foldl rep1 t).f n = t.f n
  | [], t, _ => rfl
  | x :: l, t, h => by
    unfold touch at h
    rw [List.any_cons, Bool.or_eq_false_iff] at h
    refine (rep_un n l _ h.2).trans ?_
    cases x with
    | wr m p => exact upd_ne fun e => Bool.noConfusion (h.1.symm.trans (decide_eq_true e.symm : isBusy n (.wr m p) = true))
    | fr m => exact upd_ne fun e => Bool.noConfusion (h.1.symm.trans (decide_eq_true e.symm : isBusy n (.fr m) = true))
    | cm k => rfl
theorem d1_busy {f g : Pgs} {n m : Int} (h : n ≠ m) : touch n (d1 f g m) = false := by
  unfold touch
  rw [List.any_eq_false]
  intro x hx
  unfold d1 at hx
  have : decide (m = n) = false := decide_eq_false fun e => h e.symm
  split at hx
  · cases hx
  · rw [List.mem_singleton.mp hx]; show ¬ decide (m = n) = true; rw [this]; exact Bool.false_ne_true
  · rw [List.mem_singleton.mp hx]; show ¬ decide (m = n) = true; rw [this]; exact Bool.false_ne_true
  · split at hx
    · cases hx
    · rw [List.mem_singleton.mp hx]; show ¬ decide (m = n) = true; rw [this]; exact Bool.false_ne_true
open Classical in
theorem d1_rep {f g : Pgs} {n : Int} {t : PF} (h : t.f n = f n) : ((d1 f g n).foldl rep1 t).f n = g n := by
  unfold d1
  cases hf : f n with
  | none =>
    cases hg : g n with
    | none => exact h.trans hf
    | some y => exact upd_same
  | some x =>
    cases hg : g n with
    | none => exact upd_same
    | some y =>
      show ((if x = y then [] else [Rec.wr n y]).foldl rep1 t).f n = _
      split
      · rename_i e; exact h.trans (hf.trans (congrArg some e))
      · exact upd_same
theorem ds_rep {f g : Pgs} : ∀ (ds : List Int) (t : PF), ds.Nodup → (∀ n ∈ ds, t.f n = f n) → ∀ n, ((ds.flatMap (d1 f g)).foldl rep1 t).f n = if n ∈ ds then g n else t.f n
  | [], t, _, _, n => by simp
  | m :: ds, t, hn, h, n => by
    have hn := List.nodup_cons.mp hn
    have hne : ∀ k ∈ ds, k ≠ m := fun k hk e => hn.1 (e ▸ hk)
    rw [List.flatMap_cons, List.foldl_append, ds_rep ds _ hn.2 (fun k hk => by rw [rep_un k _ _ (d1_busy (hne k hk))]; exact h k (List.mem_cons_of_mem _ hk))]
    by_cases hm : n = m
    · subst hm
      rw [if_neg hn.1, if_pos List.mem_cons_self]
      exact d1_rep (h n List.mem_cons_self)
    · rw [rep_un n _ _ (d1_busy hm)]
      simp only [List.mem_cons, hm, false_or]
theorem dom_nodup : dom.Nodup := by decide
theorem dif_rep {f g : Pgs} (hf : Supp f) (hg : Supp g) (r : Int) : (dif f g).foldl rep1 ⟨f, r⟩ = ⟨g, r⟩ := by
  have h1 : ((dif f g).foldl rep1 ⟨f, r⟩).f = g := funext fun n => by
    unfold dif
    rw [ds_rep dom _ dom_nodup fun _ _ => rfl]
    split
    · rfl
    · rename_i hn
      have a : f n = .none := by cases e : f n with | none => rfl | some y => exact absurd (hf n y e) hn
      have b : g n = .none := by cases e : g n with | none => rfl | some y => exact absurd (hg n y e) hn
      rw [b]; exact a
  have h2 : ((dif f g).foldl rep1 ⟨f, r⟩).r = r := by
    have : ∀ (l : List Rec) (t : PF), NoC l → (l.foldl rep1 t).r = t.r := by
      intro l
      induction l with
      | nil => intro t _; rfl
      | cons x l ih =>
        intro t h
        refine (ih _ fun y hy => h y (List.mem_cons_of_mem _ hy)).trans ?_
        cases x with
        | cm k => exact absurd (h _ List.mem_cons_self) (by intro e; cases e)
        | wr m p => rfl
        | fr m => rfl
    exact this _ _ (noc_dif _ _)
  generalize (dif f g).foldl rep1 ⟨f, r⟩ = q at *
  cases q
  cases h1; cases h2; rfl
theorem seg_rep {a b : PF} (ha : Supp a.f) (hb : Supp b.f) : (seg a b).foldl rep1 a = b := by
  rw [seg, List.foldl_append, show a = ⟨a.f, a.r⟩ from rfl, dif_rep ha hb]; rfl
theorem segs_rep : ∀ (ts : List PF) (a : PF), Supp a.f → (∀ t ∈ ts, Supp t.f) → (segs a ts).foldl rep1 a = lastT a ts
  | [], a, _, _ => rfl
  | t :: ts, a, ha, h => by
    rw [segs, List.foldl_append, seg_rep ha (h t List.mem_cons_self)]
    exact segs_rep ts t (h t List.mem_cons_self) fun u hu => h u (List.mem_cons_of_mem _ hu)
theorem trim_segs : ∀ (ts : List PF) (a : PF), trim (segs a ts) = segs a ts := fun ts a => by
  rcases List.eq_nil_or_concat ts with rfl | ⟨us, u, rfl⟩
  · rfl
  · rw [List.concat_eq_append, segs_app]
    show trim (segs a us ++ (seg (lastT a us) u ++ [])) = _
    rw [List.append_nil, seg, ← List.append_assoc, trim_yes _ _ rfl]
    show _ = segs a us ++ (seg (lastT a us) u ++ [])
    rw [List.append_nil, seg, List.append_assoc]
open PySem
structure LogAt (past : List PF) (d : PF) (safe pend : List Rec) (kept : PF) (pre ts1 ts2 : List PF) : Prop where
  past : past = pre ++ d :: (ts1 ++ ts2)
  safe : safe = segs d ts1
  pend : pend = segs (lastT d ts1) ts2
  kept : kept = lastT d (ts1 ++ ts2)
noncomputable def LogSt (past : List PF) (d : PF) (safe pend : List Rec) (kept : PF) : Prop := (∀ t ∈ past, Good t) ∧ ∃ pre ts1 ts2, LogAt past d safe pend kept pre ts1 ts2
section
variable {past : List PF} {d d' kept t : PF} {safe pend : List Rec}
theorem log_com (h : LogSt past d safe pend kept) (g : Good t) : LogSt (past ++ [t]) d safe (pend ++ dif kept.f t.f ++ [.cm t.r]) t := by
  obtain ⟨hg, pre, ts1, ts2, h⟩ := h
  refine ⟨fun u hu => (List.mem_append.mp hu).elim (hg u) fun hu => by rw [List.mem_singleton.mp hu]; exact g, pre, ts1, ts2 ++ [t], ?_, h.safe, ?_, ?_⟩
  · rw [h.past, List.append_assoc, List.cons_append, List.append_assoc]
  · rw [segs_app, ← h.pend, ← lastT_app, ← h.kept, List.append_assoc]
    show _ = pend ++ (seg kept t ++ [])
    rw [List.append_nil]; rfl
  · rw [← List.append_assoc, lastT_app]; rfl
theorem log_hold (h : LogSt past d safe pend kept) (k : Int) : LogSt past (holdP k safe pend d kept).2.2 (holdP k safe pend d kept).1 (holdP k safe pend d kept).2.1 kept := by
  obtain ⟨hg, pre, ts1, ts2, h⟩ := h
  unfold holdP
  split
  · exact ⟨hg, pre, ts1 ++ ts2, [], by rw [List.append_nil]; exact h.past, by rw [segs_app, ← h.pend, ← h.safe], rfl, by rw [List.append_nil]; exact h.kept⟩
  · split
    · refine ⟨hg, ?_⟩
      rcases List.eq_nil_or_concat (ts1 ++ ts2) with e | ⟨us, u, e⟩
      · have hk := h.kept
        rw [e] at hk
        exact ⟨pre, [], [], by rw [h.past, e, hk]; rfl, rfl, rfl, rfl⟩
      · have hk := h.kept
        rw [e, List.concat_eq_append, lastT_app] at hk
        exact ⟨pre ++ d :: us, [], [], by rw [h.past, e, List.concat_eq_append, hk, List.append_assoc]; rfl, rfl, rfl, rfl⟩
    · exact ⟨hg, pre, ts1, ts2, h⟩
theorem log_start : LogSt [eT] eT [] [] eT := ⟨fun t ht => by
    rw [List.mem_singleton.mp ht]
    exact (can_of (t := tE) (by kernel_rfl)).good (v := fun _ => ""), [], [], [], rfl, rfl, rfl, rfl⟩
noncomputable def Eqv (d' d : PF) (pend : List Rec) (kept : PF) : Prop := d'.r = d.r ∧ ∀ n, d'.f n = d.f n ∨ (touch n pend = false ∧ d'.f n = kept.f n)
theorem eqv_fls (h : Eqv d' d pend kept) (n : Int) : Eqv (fls n pend d' kept) d pend kept := by
  unfold fls
  cases hy : kept.f n with
  | none => exact h
  | some y =>
    cases hb : pend.any (isBusy n) with
    | true => exact h
    | false =>
      refine ⟨h.1, fun m => ?_⟩
      by_cases hm : m = n
      · subst hm; exact .inr ⟨hb, by show upd d'.f m (some y) m = _; rw [upd_same, hy]⟩
      · show upd d'.f n (some y) m = d.f m ∨ (touch m pend = false ∧ upd d'.f n (some y) m = kept.f m)
        rw [upd_ne hm]; exact h.2 m
theorem at_last : ∀ (l : List PF) (a : PF) (k : Nat), k ≤ l.length → (a :: l)[k]? = some (lastT a (l.take k))
  | l, a, 0, _ => by rw [List.take_zero]; rfl
  | [], a, k + 1, h => absurd h (Nat.not_succ_le_zero _)
  | b :: l, a, k + 1, h => by
    rw [List.take_succ_cons]
    exact at_last l b k (Nat.le_of_succ_le_succ h)
theorem touch_app {n : Int} {l m : List Rec} : touch n (l ++ m) = (touch n l || touch n m) := List.any_append
theorem last_un {n : Int} {a : PF} {ts : List PF} (ha : Supp a.f) (h : ∀ t ∈ ts, Supp t.f) (hn : touch n (segs a ts) = false) : (lastT a ts).f n = a.f n := by
  rw [← segs_rep ts a ha h, rep_un n _ _ hn]
theorem PF.ext' {a b : PF} (h1 : a.f = b.f) (h2 : a.r = b.r) : a = b := by cases a; cases b; cases h1; cases h2; rfl
theorem crash_fin (h : LogSt past d safe pend kept) (e : Eqv d' d pend kept) (m : Nat) : ((pend.drop m).filter isCm).length + 1 ≤ past.length ∧ past[past.length - 1 - ((pend.drop m).filter isCm).length]? = some (rply d' (trim (safe ++ pend.take m))) := by
  obtain ⟨hg, pre, ts1, ts2, h⟩ := h
  have sp : ∀ t ∈ d :: (ts1 ++ ts2), Supp t.f := fun t ht => (hg t (by rw [h.past]; exact List.mem_append_right _ ht)).dm
  have sd : Supp d.f := sp d List.mem_cons_self
  have s1 : ∀ t ∈ ts1 ++ ts2, Supp t.f := fun t ht => sp t (List.mem_cons_of_mem _ ht)
  obtain ⟨j, hj, h2, h3⟩ := cut_ok ts2 (lastT d ts1) (segs d ts1) m (trim_segs _ _)
  have hpl : past.length = pre.length + (ts1.length + ts2.length + 1) := by rw [h.past, List.length_append, List.length_cons, List.length_append]
  have su : ∀ t ∈ ts1 ++ ts2.take j, Supp t.f := fun t ht => s1 t ((List.mem_append.mp ht).elim (List.mem_append_left _) fun ht => List.mem_append_right _ (List.mem_of_mem_take ht))
  have key : rply d' (trim (safe ++ pend.take m)) = lastT d (ts1 ++ ts2.take j) := by
    rw [h.safe, h.pend, h2, ← segs_app]
    unfold rply
    rw [trim_segs, ← segs_rep _ d sd su]
    refine PF.ext' (funext fun n => ?_) (rep_r _ _ _ e.1)
    cases ht : touch n (segs d (ts1 ++ ts2.take j)) with
    | true => exact rep_f n _ _ _ (.inl ht)
    | false =>
      rcases e.2 n with e | ⟨e1, e2⟩
      · exact rep_f n _ _ _ (.inr e)
      · rw [rep_un n _ _ ht, rep_un n _ _ ht, e2, h.kept]
        have hs := segs_app d ts1 (ts2.take j)
        rw [hs, touch_app, Bool.or_eq_false_iff] at ht
        rw [h.pend] at e1
        have h4 : (lastT d (ts1 ++ ts2)).f n = (lastT d ts1).f n := by
          rw [lastT_app]
          have sl : Supp (lastT d ts1).f := by
            have := at_last ts1 d ts1.length (Nat.le_refl _)
            rw [List.take_length] at this
            refine sp _ ?_
            have hm := List.mem_of_getElem? this
            exact (List.mem_cons.mp hm).elim (fun e => List.mem_cons.mpr (.inl e)) fun hm => List.mem_cons_of_mem _ (List.mem_append_left _ hm)
          exact last_un sl (fun t ht => s1 t (List.mem_append_right _ ht)) e1
        rw [h4]
        exact last_un sd (fun t ht => s1 t (List.mem_append_left _ ht)) ht.1
  have h3' : ((pend.drop m).filter isCm).length = ts2.length - j := by rw [h.pend]; exact h3
  refine ⟨by omega, ?_⟩
  rw [key, h3', h.past, List.getElem?_append_right (by rw [← h.past]; omega), show (pre ++ d :: (ts1 ++ ts2)).length - 1 - (ts2.length - j) - pre.length = ts1.length + j from by rw [← h.past]; omega, at_last _ _ _ (by rw [List.length_append]; omega), List.take_append, List.take_of_length_le (by omega), show ts1.length + j - ts1.length = j from by omega]
theorem rply_noc {l : List Rec} (h : NoC l) : rply t l = t := by
  unfold rply
  rw [show trim l = [] from trim_noc l [] h]; rfl
theorem rply_cm {X Y : List Rec} {r : Int} (h : NoC Y) : rply t (X ++ [Rec.cm r] ++ Y) = (X ++ [Rec.cm r]).foldl rep1 t := by
  unfold rply
  rw [trim_cm X Y r h]
variable {old new : PF}
noncomputable def both (old new : PF) : List Rec := [.fr 40] ++ dif old.f new.f ++ [.cm new.r] ++ dif new.f old.f ++ [.cm old.r]
theorem fr40 (s : Supp old.f) : rep1 old (.fr 40) = old := PF.ext' (funext fun n => by
    by_cases hn : n = 40
    · subst hn
      show upd old.f 40 .none 40 = _
      rw [upd_same]
      cases e : old.f 40 with
      | none => rfl
      | some y => exact absurd (s 40 y e) (by decide)
    · exact upd_ne hn) rfl
theorem both_len : (both old new).length = (dif old.f new.f).length + (dif new.f old.f).length + 3 := by
  unfold both
  simp only [List.length_append, List.length_cons, List.length_nil]; omega
theorem replay_both (go : Good old) (gn : Good new) (u : Nat) : rply old ((both old new).take u) = if (dif old.f new.f).length + 1 < u ∧ u < (both old new).length then new else old := by
  have hl := both_len (old := old) (new := new)
  have na : NoC ([.fr 40] ++ dif old.f new.f) := fun x hx => (List.mem_append.mp hx).elim (fun hx => by rw [List.mem_singleton.mp hx]; rfl) (noc_dif _ _ x)
  have la : ([Rec.fr 40] ++ dif old.f new.f).length = (dif old.f new.f).length + 1 := by rw [List.length_append]; simp only [List.length_cons, List.length_nil]; omega
  have ea : ([Rec.fr 40] ++ dif old.f new.f ++ [Rec.cm new.r]).foldl rep1 old = new := by
    rw [List.append_assoc, List.foldl_append]
    show (seg old new).foldl rep1 (rep1 old (.fr 40)) = _
    rw [fr40 go.dm, seg_rep go.dm gn.dm]
  by_cases h1 : u ≤ (dif old.f new.f).length + 1
  · rw [if_neg (by omega)]
    unfold both
    rw [List.append_assoc, List.append_assoc, List.take_append_of_le_length (by omega)]
    exact rply_noc (noc_take na u)
  · by_cases h2 : u < (both old new).length
    · rw [if_pos ⟨by omega, h2⟩]
      unfold both
      rw [List.take_append_of_le_length (by simp only [List.length_append, List.length_cons, List.length_nil]; omega), List.take_append, List.take_of_length_le (by simp only [List.length_append, List.length_cons, List.length_nil]; omega), rply_cm (noc_take (noc_dif _ _) _), ea]
    · rw [if_neg (by omega), List.take_of_length_le (by omega)]
      unfold both
      rw [show ([Rec.fr 40] ++ dif old.f new.f ++ [.cm new.r] ++ dif new.f old.f ++ [.cm old.r] : List Rec) = ([Rec.fr 40] ++ dif old.f new.f ++ [.cm new.r] ++ dif new.f old.f) ++ [.cm old.r] ++ [] from (List.append_nil _).symm, rply_cm (fun _ h => absurd h List.not_mem_nil), List.append_assoc, List.foldl_append, ea]
      exact seg_rep gn.dm go.dm
theorem replay_back (go : Good old) (gn : Good new) : rply new (dif new.f old.f ++ [.cm old.r] ++ dif old.f new.f) = old := by
  rw [rply_cm (noc_dif _ _)]
  exact seg_rep gn.dm go.dm
end
open PySem
structure RB (rs : List Int) : Prop where
  lo : ∀ j, 0 ≤ rs.getD j 0
  hi : ∀ j, 1 ≤ j → j < 16 → rs.getD j 0 < mods.getD j 0
structure Scr (items : List D) : Prop where
  key : items[0]? = some (.key 0)
  raw : ∀ j, 1 ≤ j → j < 16 → items[j]? = some (.raw j 0)
  len : 16 ≤ items.length
theorem RB.rok {rs : List Int} (h : RB rs) : ROk rs := by
  have h1 := h.lo 1
  have h2 := h.hi 1 (by decide) (by decide)
  have e : (G rs).gap = rs.getD 1 0 + 2 := rfl
  have m : mods.getD 1 0 = 3 := rfl
  rw [m] at h2
  exact ⟨by omega, by omega⟩
section
variable {rs : List Int} {items : List D} {K : Nat} {xs ys : List (Str × V)} {σ : List Cell}
theorem idx_nat {α : Type} {l : List α} {j : Nat} {x : α} (h : l[j]? = some x) : idx l (j : Int) = some x := by
  have hj := (List.getElem?_eq_some_iff.mp h).1
  unfold idx
  rw [show seqIndex? (j : Int) l.length = some j from by
    unfold seqIndex?
    simp only [show ¬ ((j : Int) < 0) from by omega, if_false]
    rw [if_pos (by simp; omega), Int.toNat_natCast]]
  exact h
theorem ev_scr (sc : Scr items) (hs : Sees xs ys) (hl : lookS "script" ys = some (.d (.lst items))) {j : Nat} {x : D} (hx : items[j]? = some x) {p1 p2 p3 : Pos} {k : Nat} : Ev (G rs) fLaw (K+2) (.Subscript (.Name "script" p1) (.Constant (.int (j : Int)) k p2) p3) ⟨xs, σ⟩ (.val (.d x)) ⟨xs, σ⟩ :=
  ev_idx rfl (pn hs rfl hl) ev_int (opn rfl (bnd (a := (j : Int)) rfl (bnd (a := items.map V.d) rfl (idx_nat (by rw [List.getElem?_map, hx]; rfl)))))
theorem ev_mod (rb : RB rs) (sc : Scr items) (hs : Sees xs ys) (hl : lookS "script" ys = some (.d (.lst items))) (j : Nat) (h1 : 1 ≤ j) (h2 : j < 16) {m : Int} (hm : mods.getD j 0 = m) {p1 p2 p3 p4 p5 : Pos} {k1 k2 : Nat} : Ev (G rs) fLaw (K+3) (.BinOp (.Subscript (.Name "script" p1) (.Constant (.int (j : Int)) k1 p2) p3) .Mod (.Constant (.int m) k2 p4) p5) ⟨xs, σ⟩ (.val (.d (.int (rs.getD j 0)))) ⟨xs, σ⟩ := by
  have a := rb.lo j
  have b := rb.hi j h1 h2
  rw [hm] at b
  refine ev_bin (ev_scr sc hs hl (sc.raw j h1 h2)) ev_int (b_int (y := .int (rs.getD j 0)) ?_)
  show (if (decide (m = mods.getD j 0) && decide (0 < m)) = true then some (D.int ((rs.getD j 0 + 0) % m)) else .none) = _
  refine ift (by rw [decide_eq_true hm.symm, decide_eq_true (show 0 < m from by omega)]; rfl) ?_
  rw [Int.add_zero, Int.emod_eq_of_lt a b]
theorem key_add {g : Int} (hg : 2 ≤ g) (i j : Int) : keyAdd g (2 * i) (g * j) = some (.key (2 * (i + j))) := by
  unfold keyAdd
  rw [show 2 * i % 2 + g * j = g * j from by omega, Int.mul_emod_right, Int.mul_ediv_cancel_left j (by omega), if_pos (by decide)]
  congr 2; omega
theorem c_neR {a b : R} {x : D} (ha : datR (thaw σ a) = some x) (hb : datR (thaw σ b) = some x) (h : okD x 30 = true) : cmpR .NotEq σ a b = some false := bnd ha (bnd hb (mpd (eqG_refl h) rfl))
theorem x_same {l e : PySem.Expr} {b : List Stmt} {p q : Pos} {r₁ r₂ : R} {x : D} {st₁ st₂ : St} {st : St} (h1 : Ev (G rs) fLaw K l st r₁ st₁) (h2 : Ev (G rs) fLaw K e st₁ r₂ st₂) (ha : datR (thaw st₂.store r₁) = some x) (hb : datR (thaw st₂.store r₂) = some x) (h : okD x 30 = true) : X1 (G rs) fLaw (K+1) (.If (.Compare l [.NotEq] [e] p) b [] q) st .next st₂ :=
  x_iff (tt_cmp (fun n => rfl) h1 h2 (c_neR ha hb h)) x_nil
theorem tt_chainI {G : Gl} {fn : Fn} {l m e : PySem.Expr} {p : Pos} {st : St} {a b c : Int} (h1 : Ev G fn K l st (.val (.d (.int a))) st) (h2 : Ev G fn K m st (.val (.d (.int b))) st) (h3 : Ev G fn K e st (.val (.d (.int c))) st) : Tt G fn (K+1) (.Compare l [.Lt, .Lt] [m, e] p) st (decide (a < b) && decide (b < c)) st := fun n => by
  have en : ∀ {e : PySem.Expr} {a : Int}, Ev G fn K e st (.val (.d (.int a))) st → evNum (run G (n+K)) fn e st = some ((false, a), st) := fun h => bnd (h n) rfl
  refine (ift rfl (bnd (en h1) (bnd (en h2) (bnd (a := decide (a < b)) rfl ?_))) : chA (run G (n+K)) fn l (.Lt, m) (.Lt, e) st = _)
  cases decide (a < b) with
  | true => exact bnd (en h3) rfl
  | false => rfl
theorem ev_len {e : PySem.Expr} {p q : Pos} {l : List Rec} {st : St} (hE : ∀ n, evCallN (G rs) (run (G rs) (n+K)) fLaw "len" [e] st = evBlt1 (run (G rs) (n+K)) fLaw "len" e st) (h : Ev (G rs) fLaw K e st (.val (.d (encL l))) st) : Ev (G rs) fLaw (K+1) (.Call (.Name "len" q) [e] [] p) st (.val (.d (.int l.length))) st :=
  ev_b1 hE h (ifp (c := _ = _) rfl (mpd (a := (l.map encR).map V.d) rfl (by rw [lenL])))
theorem dat_fresh {ds : List D} : datR (thaw σ (.fresh (ds.map .d))) = some (.lst ds) := bnd (a := .d (.lst ds)) (mpd (allD_d ds) rfl) rfl
theorem encA_ok (a : Act) (n : Nat) : okD (encA a) (n + 2) = true := by cases a <;> rfl
theorem acts_okD (l : List Act) (n : Nat) : okD (.lst (l.map encA)) (n + 3) = true := ok_lst fun a _ => encA_ok a n
theorem outP_ok {s : PS} (ok : PSok s) {t : PF} (ht : s.hand = encT t) (g : Good t) : okD (outP s) 30 = true := by
  show (okD s.hand 29 && (okD (encL s.safe) 29 && (okD (encL s.pend) 29 && (okD (encT s.disk) 29 && true)))) = true
  rw [ht, encT_ok g 23, encL_ok ok.safe 24, encL_ok ok.pend 24, encT_ok ok.disk 23]; rfl
end
structure LV where
  items : List D
  old : Tr
  new : Tr
  hand : Tr
  kept : Tr
  safe : List Rec
  pend : List Rec
  disk : PF
  ma : Nat
noncomputable def lv (rs : List Int) (p : LV) : List (Str × V) := [("script", .d (.lst p.items)), ("base", .d (.key 0)), ("gap", .d (.int (G rs).gap)), ("s", .d (.raw 2 0)), ("old", .d (p.old.d (vAt rs))), ("old_twin", .d (p.old.d (vAt rs))), ("new", .d (p.new.d (vAt rs))), ("new_twin", .d (p.new.d (vAt rs))), ("acts", .loc p.ma), ("safe", .d (encL p.safe)), ("pend", .d (encL p.pend)), ("disk", .d (encT p.disk)), ("hand", .d (p.hand.d (vAt rs))), ("kept", .d (p.kept.d (vAt rs)))]
section
variable {rs : List Int} {p : LV} {xs : List (Str × V)} {σ : List Cell}
noncomputable def tru : R := .val (.d (.bool true))
theorem law_end (rb : RB rs) (sc : Scr p.items) (h : Sees xs (lv rs p)) (ko : TOk p.old) (kn : TOk p.new) : Ret (G rs) fLaw 145 27 xs σ tru := by
  have co := can_of ko.can
  have cn := can_of kn.can
  have go : Good (pf p.old (vAt rs)) := co.good
  have gn : Good (pf p.new (vAt rs)) := cn.good
  have eo : encT (pf p.old (vAt rs)) = p.old.d (vAt rs) := co.enc
  have en : encT (pf p.new (vAt rs)) = p.new.d (vAt rs) := cn.enc
  generalize ho : pf p.old (vAt rs) = old at *
  generalize hn : pf p.new (vAt rs) = new at *
  have h : Sees xs [("script", .d (.lst p.items)), ("old", .d (encT old)), ("old_twin", .d (encT old)), ("new", .d (encT new)), ("new_twin", .d (encT new))] := by
    rw [eo, en]; exact h.trans (.cons rfl (.cons rfl (.cons rfl (.cons rfl (.cons rfl .nil)))))
  have okL : ∀ {a b : PF}, Good b → okD (encL (dif a.f b.f)) 30 = true := fun g => encL_ok (dif_ok g) 25
  refine r_step rfl (x_asgN (kp_val (ev_fn (f := fChanges) rfl (ne_cls (by decide)) rfl rfl (sl_cons (kp_val (pn h rfl rfl)) (sl_cons (kp_val (pn h rfl rfl)) sl_nil)) rfl ((changes_ok go gn).up (by decide)))) rfl) ?_
  have h1 := h.put (x := "there") (v := .d (encL (dif old.f new.f))) rfl
  refine r_step rfl (x_asgN (kp_val (ev_fn (f := fChanges) rfl (ne_cls (by decide)) rfl rfl (sl_cons (kp_val (pn h1 rfl rfl)) (sl_cons (kp_val (pn h1 rfl rfl)) sl_nil)) rfl ((changes_ok gn go).up (by decide)))) rfl) ?_
  have h2 := h1.put (x := "back") (v := .d (encL (dif new.f old.f))) rfl
  refine r_step rfl (x_same (pn h2 rfl rfl) (ev_fn (f := fLDiff) rfl (ne_cls (by decide)) rfl rfl (sl_cons (kp_val (pn h2 rfl rfl)) (sl_cons (kp_val (pn h2 rfl rfl)) sl_nil)) rfl ((ldiff_ok go gn).up (by decide))) rfl rfl (okL gn)) ?_
  refine r_step rfl (x_same (pn h2 rfl rfl) (ev_fn (f := fLDiff) rfl (ne_cls (by decide)) rfl rfl (sl_cons (kp_val (pn h2 rfl rfl)) (sl_cons (kp_val (pn h2 rfl rfl)) sl_nil)) rfl ((ldiff_ok gn go).up (by decide))) rfl rfl (okL go)) ?_
  have hd1 := dif_len old.f new.f
  have hd2 := dif_len new.f old.f
  refine r_step rfl (x_asgN (v := .d (encL (both old new))) (kp_fz (l := ((both old new).map encR).map V.d) (ev_bin (ev_bin (ev_bin (ev_bin (ev_list (sl_cons (kp_val (ev_tup (v := .d (encR (.fr 40))) (vs := [.d (.str "free"), .d (.int 40)]) (sl_cons (kp_val (ev_str ok_free)) (sl_cons (kp_val ev_int) sl_nil)) rfl (by decide))) sl_nil) (by decide)) (pn h2 rfl rfl) (b_cat rfl rfl rfl ?_)) (ev_list (sl_cons (kp_val (ev_tup (v := .d (encR (.cm new.r))) (vs := [.d (.str "commit"), .d (.int new.r)]) (sl_cons (kp_val (ev_str ok_commit)) (sl_cons (kp_val (ev_idx rfl (pn h2 rfl rfl) ev_int rfl)) sl_nil)) rfl (by decide))) sl_nil) (by decide)) (b_cat rfl rfl rfl ?_)) (pn h2 rfl rfl) (b_cat rfl rfl rfl ?_)) (ev_list (sl_cons (kp_val (ev_tup (v := .d (encR (.cm old.r))) (vs := [.d (.str "commit"), .d (.int old.r)]) (sl_cons (kp_val (ev_str ok_commit)) (sl_cons (kp_val (ev_idx rfl (pn h2 rfl rfl) ev_int rfl)) sl_nil)) rfl (by decide))) sl_nil) (by decide)) ((b_cat rfl rfl rfl ?_).trans ?_)) rfl (allD_d _)) rfl) ?_
  · unfold lim; simp only [List.length_append, List.length_map, List.length_cons, List.length_nil]; omega
  · unfold lim; simp only [List.length_append, List.length_map, List.length_cons, List.length_nil]; omega
  · unfold lim; simp only [List.length_append, List.length_map, List.length_cons, List.length_nil]; omega
  · unfold lim; simp only [List.length_append, List.length_map, List.length_cons, List.length_nil]; omega
  · unfold both; simp only [List.map_append]; rfl
  have h3 := h2.put (x := "both") (v := .d (encL (both old new))) rfl
  obtain ⟨u, hu⟩ : ∃ u : Nat, rs.getD 15 0 = (u : Int) := ⟨(rs.getD 15 0).toNat, (Int.toNat_of_nonneg (rb.lo 15)).symm⟩
  refine r_step rfl (x_asgN (v := .d (.int u)) (kp_val (hu ▸ ev_mod rb sc h3 rfl 15 (by decide) (by decide) rfl)) rfl) ?_
  have h4 := h3.put (x := "upto") (v := .d (.int (u : Int))) rfl
  refine r_step rfl (x_asgN (kp_val (pn h4 rfl rfl)) rfl) ?_
  have h5 := h4.put (x := "want") (v := .d (encT old)) rfl
  have hrb := replay_both go gn u
  have rok : ∀ x ∈ both old new, RecOk x := fun x hx => by
    unfold both at hx
    rcases List.mem_append.mp hx with hx | hx
    · rcases List.mem_append.mp hx with hx | hx
      · rcases List.mem_append.mp hx with hx | hx
        · rcases List.mem_append.mp hx with hx | hx
          · rw [List.mem_singleton.mp hx]; trivial
          · exact dif_ok gn x hx
        · rw [List.mem_singleton.mp hx]; trivial
      · exact dif_ok go x hx
    · rw [List.mem_singleton.mp hx]; trivial
  have rl := replay_ok (rs := rs) (t := old) (log := (both old new).take u) go (fun x hx => rok x (List.mem_of_mem_take hx)) (by rw [List.length_take, both_len]; omega)
  have rl2 := replay_ok (rs := rs) (t := new) (log := dif new.f old.f ++ [.cm old.r] ++ dif old.f new.f) gn (fun x hx => (List.mem_append.mp hx).elim (fun hx => (List.mem_append.mp hx).elim (dif_ok go x) fun hx => by rw [List.mem_singleton.mp hx]; trivial) (dif_ok gn x)) (by simp only [List.length_append, List.length_cons, List.length_nil]; omega)
  rw [replay_back go gn] at rl2
  have hwant : Good (if (dif old.f new.f).length + 1 < u ∧ u < (both old new).length then new else old) := by split; exact gn; exact go
  have tc : ∀ {c : Bool} {p1 p2 p3 p4 p5 p6 p7 p8 p9 p10 : Pos} {k : Nat}, (decide (((dif old.f new.f).length : Int) + 1 < (u : Int)) && decide ((u : Int) < ((both old new).length : Int))) = c → Tt (G rs) fLaw 137 (.Compare (.BinOp (.Call (.Name "len" p1) [.Name "there" p2] [] p3) .Add (.Constant (.int 1) k p4) p5) [.Lt, .Lt] [.Name "upto" p6, .Call (.Name "len" p7) [.Name "both" p8] [] p9] p10) ⟨_, σ⟩ c ⟨_, σ⟩ := fun {c p1 p2 p3 p4 p5 p6 p7 p8 p9 p10 k} hc => hc ▸ tt_chainI (ev_bin (ev_len (fun n => rfl) (pn h5 rfl rfl)) ev_int (b_int rfl)) (pn h5 rfl rfl) (ev_len (fun n => rfl) (pn h5 rfl rfl))
  have fin : ∀ {zs : List (Str × V)}, Sees zs [("script", .d (.lst p.items)), ("old", .d (encT old)), ("old_twin", .d (encT old)), ("new", .d (encT new)), ("new_twin", .d (encT new)), ("there", .d (encL (dif old.f new.f))), ("back", .d (encL (dif new.f old.f))), ("both", .d (encL (both old new))), ("upto", .d (.int (u : Int))), ("want", .d (encT (if (dif old.f new.f).length + 1 < u ∧ u < (both old new).length then new else old)))] → Ret (G rs) fLaw 137 35 zs σ tru := by
    intro zs hz
    rw [hrb] at rl
    refine r_step rfl (x_same (ev_fn (f := fReplay) rfl (ne_cls (by decide)) rfl rfl (sl_cons (kp_val (pn hz rfl rfl)) (sl_cons (v := .d (encL ((both old new).take u))) (kp_fz (l := (((both old new).take u).map encR).map V.d) (ev_slc (pn hz rfl rfl) (fun n => op_none) (op_some (pn hz rfl rfl)) ?_) rfl (allD_d _)) sl_nil)) rfl (rl.up (by decide))) (pn hz rfl rfl) rfl rfl (encT_ok hwant 24)) ?_
    · refine congrArg (fun l => some (R.fresh l)) ?_
      rw [List.map_take, List.map_take]
      exact slc_to _ _
    refine r_step rfl (x_same (ev_fn (f := fReplay) rfl (ne_cls (by decide)) rfl rfl (sl_cons (kp_val (pn hz rfl rfl)) (sl_cons (v := .d (encL (dif new.f old.f ++ [.cm old.r] ++ dif old.f new.f))) (kp_fz (l := ((dif new.f old.f ++ [Rec.cm old.r] ++ dif old.f new.f).map encR).map V.d) (ev_bin (ev_bin (pn hz rfl rfl) (ev_list (sl_cons (kp_val (ev_tup (v := .d (encR (.cm old.r))) (vs := [.d (.str "commit"), .d (.int old.r)]) (sl_cons (kp_val (ev_str ok_commit)) (sl_cons (kp_val (ev_idx rfl (pn hz rfl rfl) ev_int rfl)) sl_nil)) rfl (by decide))) sl_nil) (by decide)) (b_cat rfl rfl rfl ?_)) (pn hz rfl rfl) ((b_cat rfl rfl rfl ?_).trans ?_)) rfl (allD_d _)) sl_nil)) rfl (rl2.up (by decide))) (pn hz rfl rfl) rfl rfl (encT_ok go 24)) ?_
    · unfold lim; simp only [List.length_map, List.length_cons, List.length_nil]; omega
    · unfold lim; simp only [List.length_append, List.length_map, List.length_cons, List.length_nil]; omega
    · simp only [List.map_append]; rfl
    refine r_step rfl (x_same (pn hz rfl rfl) (pn hz rfl rfl) rfl rfl (encT_ok go 24)) ?_
    refine r_step rfl (x_same (pn hz rfl rfl) (pn hz rfl rfl) rfl rfl (encT_ok gn 24)) ?_
    exact r_ret rfl (x_retE fun n => rfl) rfl
  by_cases hc : (dif old.f new.f).length + 1 < u ∧ u < (both old new).length
  · rw [if_pos hc] at fin
    exact r_step rfl (x_ift (tc (by rw [decide_eq_true (by omega), decide_eq_true (by omega)]; rfl)) (x_cons (x_asgN (kp_val (pn h5 rfl rfl)) rfl) x_nil)) (fin (h5.put rfl))
  · rw [if_neg hc] at fin
    refine r_step rfl (x_iff (tc (c := false) ?_) x_nil) (fin h5)
    rw [Bool.and_eq_false_iff, decide_eq_false_iff_not, decide_eq_false_iff_not]
    omega
end
open PySem
section
variable {rs : List Int} {p : LV} {kp : PF} {xs : List (Str × V)} {σ : List Cell}
noncomputable def lvx (rs : List Int) (p : LV) (extra : List (Str × V)) : List (Str × V) := lv rs p ++ extra
theorem law_mid (rb : RB rs) (sc : Scr p.items) (h : Sees xs (lv rs p)) (ko : TOk p.old) (kn : TOk p.new) (kh : TOk p.hand) {acts : List Act} (hm : σ[p.ma]? = some (.lst (encAV acts))) (hst : Steps rs ps0 acts ⟨p.hand.d (vAt rs), kp, p.disk, p.safe, p.pend⟩)
    (ok : PSok ⟨p.hand.d (vAt rs), kp, p.disk, p.safe, p.pend⟩) : Ret (G rs) fLaw 155 17 xs σ tru := by
  have ch := can_of kh.can
  have gh : Good (pf p.hand (vAt rs)) := ch.good
  have eh : encT (pf p.hand (vAt rs)) = p.hand.d (vAt rs) := ch.enc
  have okh : okD (p.hand.d (vAt rs)) 30 = true := eh ▸ encT_ok gh 24
  have rok := rb.rok
  have hml := (List.getElem?_eq_some_iff.mp hm).1
  refine r_step rfl (x_asgN (v := .d (.lst (acts.map encA))) (kp_fz (ev_b1 (fun n => rfl) (pn h rfl rfl) (ifn (c := _ = _) (by decide) (ifp (c := _ = _) rfl (mpd (a := encAV acts) (ops (a := encAV acts) (by show lstC σ[p.ma]? = _; rw [hm]; rfl) rfl) rfl)))) rfl allD_m) rfl) ?_
  have h1 : Sees (setS "acts_twin" (.d (.lst (acts.map encA))) xs) (lvx rs p [("acts_twin", .d (.lst (acts.map encA)))]) := h.put rfl
  have hp := play_ok hst
  refine r_step rfl (x_asgN (kp_val (ev_fn (f := fPlay) (us := [.d (.lst (acts.map encA))]) (σ' := σ.set p.ma (.froz (acts.map encA))) rfl (ne_cls (by decide)) rfl rfl (sl_cons (kp_val (pn h1 rfl rfl)) sl_nil) ?_ (hp.up (by decide)))) rfl) ?_
  · refine bnd (a := (.lst (acts.map encA), σ.set p.ma (.froz (acts.map encA)))) (ops (a := p.ma) rfl ?_) rfl
    rw [hm]
    exact bnd (a := (encAV acts, σ.set p.ma (.froz (acts.map encA)))) (mpd (a := acts.map encA) allD_m rfl) (mpd (a := acts.map encA) allD_m rfl)
  have hfz : (σ.set p.ma (.froz (acts.map encA)))[p.ma]? = some (.froz (acts.map encA)) := set_at hml
  have h2 := h1.put (x := "got") (v := .d (outP ⟨p.hand.d (vAt rs), kp, p.disk, p.safe, p.pend⟩)) rfl
  refine r_step rfl (x_same (pn h2 rfl rfl) (ev_tup (v := .d (outP ⟨p.hand.d (vAt rs), kp, p.disk, p.safe, p.pend⟩)) (vs := [.d (p.hand.d (vAt rs)), .d (encL p.safe), .d (encL p.pend), .d (encT p.disk)]) (sl_cons (kp_val (pn h2 rfl rfl)) (sl_cons (kp_val (pn h2 rfl rfl)) (sl_cons (kp_val (pn h2 rfl rfl)) (sl_cons (kp_val (pn h2 rfl rfl)) sl_nil)))) rfl (by decide)) rfl rfl (outP_ok ok eh.symm gh)) ?_
  refine r_step rfl (x_same (x := .lst (acts.map encA)) (pn h2 rfl rfl) (pn h2 rfl rfl) (by show datR (thawC p.ma (σ.set p.ma (.froz (acts.map encA)))[p.ma]?) = _; rw [hfz]; rfl) rfl (acts_okD acts 27)) ?_
  refine r_step rfl ((x_pairs kh h2 rfl).up (by decide)) ?_
  have h3 := h2.put (x := "pairs") (v := .d (.lst ((prs p.hand).map (pr (vAt rs))))) rfl
  obtain ⟨l, hl⟩ : ∃ l : Nat, rs.getD 13 0 = (l : Int) := ⟨(rs.getD 13 0).toNat, (Int.toNat_of_nonneg (rb.lo 13)).symm⟩
  have hl28 : l < 28 := by
    have := rb.hi 13 (by decide) (by decide)
    rw [show mods.getD 13 0 = 28 from rfl, hl] at this
    omega
  have hj : smallI (rs.getD 14 0) := by
    have a := rb.lo 14
    have := rb.hi 14 (by decide) (by decide)
    rw [show mods.getD 14 0 = 12 from rfl] at this
    unfold smallI; omega
  refine r_step rfl (x_asgN (v := .d (.key (2 * (l : Int)))) (kp_val (ev_key rok h3 rfl rfl rfl rfl (hl ▸ ev_mod rb sc h3 rfl 13 (by decide) (by decide) rfl) (by unfold smallI; omega))) rfl) ?_
  have h4 := h3.put (x := "low") (v := .d (.key (2 * (l : Int)))) rfl
  refine r_step rfl (x_asgN (kp_val (ev_bin (pn h4 rfl rfl) (ev_mul rok h4 rfl rfl (ev_mod rb sc h4 rfl 14 (by decide) (by decide) rfl) hj) (b_int (show keyAdd (G rs).gap (2 * (l : Int)) ((G rs).gap * rs.getD 14 0) = _ from key_add rok.g2 _ _)))) rfl) ?_
  have h5 := h4.put (x := "high") (v := .d (.key (2 * ((l : Int) + rs.getD 14 0)))) rfl
  have okg : okD (getP (vAt rs) p.hand l) 30 = true := by unfold getP; cases (prs p.hand).contains (l : Int) <;> rfl
  refine r_step rfl (x_same (ev_fn (f := fGet) (us := [.d (p.hand.d (vAt rs)), .d (.key (2 * (l : Int)))]) rfl (ne_cls (by decide)) rfl rfl (sl_cons (kp_val (ev_idx rfl (pn h5 rfl rfl) ev_int rfl)) (sl_cons (kp_val (pn h5 rfl rfl)) sl_nil)) rfl ((kh.get hl28).up (by decide))) (ev_pget kh hl28 h5 rfl rfl rfl) rfl rfl okg) ?_
  have hpl : (prs p.hand).length ≤ lim := Nat.le_trans (Nat.le_of_lt ch.prs) (by decide)
  have okp : okD (.lst (((prs p.hand).filter (within (2 * (l : Int)) (2 * ((l : Int) + rs.getD 14 0)))).map (pr (vAt rs)))) 30 = true := ok_lst fun i _ => rfl
  refine r_step rfl (x_same (ev_fn (f := fScan) (us := [.d (p.hand.d (vAt rs)), .d (.key (2 * (l : Int))), .d (.key (2 * ((l : Int) + rs.getD 14 0)))]) rfl (ne_cls (by decide)) rfl rfl (sl_cons (kp_val (ev_idx rfl (pn h5 rfl rfl) ev_int rfl)) (sl_cons (kp_val (pn h5 rfl rfl)) (sl_cons (kp_val (pn h5 rfl rfl)) sl_nil))) rfl ((scan_ok kh _ _).up (by decide))) (ev_filter (b := within (2 * (l : Int)) (2 * ((l : Int) + rs.getD 14 0))) (g := fun i => V.d (pr (vAt rs) i)) (ys := [("low", .d (.key (2 * (l : Int)))), ("high", .d (.key (2 * ((l : Int) + rs.getD 14 0))))]) (it_ev (fun n => rfl) (pn h5 rfl rfl) (congrArg (fun l => some (l, _)) List.map_map)) rfl rfl rfl rfl rfl (.cons (h5.seen rfl rfl) (.cons (h5.seen rfl rfl) .nil)) rfl (fun i _ zs hz => tt_chain (pn hz rfl rfl) (ev_idx rfl (pn hz rfl rfl) ev_int rfl) (pn hz rfl rfl)) hpl) ?_ ?_ okp) ?_
  · exact (congrArg (fun l => datR (thaw _ (R.fresh l))) (List.map_map (f := pr (vAt rs)) (g := V.d)).symm).trans dat_fresh
  · exact (congrArg (fun l => datR (thaw _ (R.fresh l))) (List.map_map (f := pr (vAt rs)) (g := V.d)).symm).trans dat_fresh
  refine r_step rfl (x_same (ev_idx rfl (pn h5 rfl rfl) ev_int rfl) (pn h5 rfl rfl) rfl rfl okh) ?_
  have h6 : Sees _ (lv rs p) := h5.trans (.cons rfl (.cons rfl (.cons rfl (.cons rfl (.cons rfl (.cons rfl (.cons rfl (.cons rfl (.cons rfl (.cons rfl (.cons rfl (.cons rfl (.cons rfl (.cons rfl .nil))))))))))))))
  exact law_end rb sc h6 ko kn
end
open PySem
theorem Steps.snoc {rs : List Int} {s t u : PS} {l : List Act} {a : Act} (h : Steps rs s l t) (ok : PSok t) (k : Step rs t a u) : Steps rs s (l ++ [a]) u := by
  induction h with
  | nil s => exact .cons ok k (.nil u)
  | cons o e _ ih => exact .cons o e (ih ok k)
structure Run (rs : List Int) (acts : List Act) (s : PS) (b : Nat) : Prop where
  st : Steps rs ps0 acts s
  ok : PSok s
  len : s.safe.length + s.pend.length ≤ b
noncomputable def isCom : Act → Bool
  | .com => true
  | _ => false
section
variable {rs : List Int} {acts : List Act} {s s' : PS} {a : Act} {b : Nat}
theorem Run.com (h : Run rs acts s b) (hb : b < 100) (k : Step rs s .com s') : Run rs (acts ++ [.com]) s' (b + 11) := ⟨h.st.snoc h.ok k, step_ok h.ok k (Nat.lt_of_le_of_lt h.len (by omega)), by
  have hl := h.len
  obtain ⟨t, _, _, rfl⟩ := k
  have := dif_len s.kept.f t.f
  simp only [List.length_append, List.length_cons, List.length_nil]; omega⟩
theorem Run.quiet (h : Run rs acts s b) (hb : b < 100) (k : Step rs s a s') (ha : isCom a = false) : Run rs (acts ++ [a]) s' b := ⟨h.st.snoc h.ok k, step_ok h.ok k (Nat.lt_of_le_of_lt h.len (by omega)), by
  have hl := h.len
  cases a with
  | put k v => obtain ⟨d, h1, rfl⟩ := k; exact hl
  | rem k => obtain ⟨d, h1, rfl⟩ := k; exact hl
  | back => cases k; exact hl
  | com => cases ha
  | syn => cases k; simp only [List.length_append, List.length_nil]; omega
  | chk => cases k; exact Nat.zero_le _
  | fls n => cases k; exact hl
  | crs n =>
    cases k
    have h1 := trim_len (s.safe ++ s.pend.take n)
    rw [List.length_append, List.length_take] at h1
    simp only [List.length_nil]; omega⟩
end
theorem dif_self (f : Pgs) : dif f f = [] := by
  unfold dif
  rw [List.flatMap_eq_nil_iff]
  intro n _
  unfold d1
  cases f n with
  | none => rfl
  | some y => exact if_pos rfl
noncomputable def cmI : Nat → List Rec → List Int
  | _, [] => []
  | i, r :: l => cond (isCm r) (((i : Int) + 1) :: cmI (i + 1) l) (cmI (i + 1) l)
theorem cmI_max : ∀ (l : List Rec) (i a : Nat), a ≤ i → (cmI i l).foldl max (a : Int) = (lastI i a l : Nat)
  | [], i, a, h => rfl
  | r :: l, i, a, h => by
    rw [cmI, lastI]
    cases isCm r with
    | true =>
      show (cmI (i + 1) l).foldl max (max (a : Int) ((i : Int) + 1)) = _
      rw [show max (a : Int) ((i : Int) + 1) = ((i + 1 : Nat) : Int) from by omega]
      exact cmI_max l (i + 1) (i + 1) (Nat.le_refl _)
    | false => exact cmI_max l (i + 1) a (Nat.le_succ_of_le h)
theorem cmI_len : ∀ (l : List Rec) (i : Nat), (cmI i l).length ≤ l.length
  | [], i => Nat.le_refl _
  | r :: l, i => by
    have := cmI_len l (i + 1)
    rw [cmI]
    cases isCm r with
    | true => exact Nat.succ_le_succ this
    | false => exact Nat.le_succ_of_le this
theorem intsD_map : ∀ l : List Int, intsD (l.map .int) = some l
  | [] => rfl
  | x :: r => bnd (a := (false, x)) rfl (bnd (a := x) rfl (mpd (intsD_map r) rfl))
theorem slc_from {α : Type} (l : List α) (k : Nat) : slc l (some (k : Int)) .none = l.drop k := by
  simp only [slc, hiN, loN, clamp, Int.natCast_nonneg, if_true, Int.toNat_natCast, List.take_length]
  rcases Nat.le_total k l.length with h | h
  · rw [Nat.min_eq_left h]
  · rw [Nat.min_eq_right h, List.drop_length, List.drop_of_length_le h]
section
variable {rs : List Int} {fn : Fn} {K : Nat} {xs : List (Str × V)} {σ : List Cell} {tt elt : PySem.Expr}
theorem tn_enum (ht : ∀ zs x, lookS "r" zs = some (.d (encR x)) → Tt (G rs) fn (K+1) tt ⟨zs, σ⟩ (isCm x) ⟨zs, σ⟩) (he : ∀ zs (i : Nat), lookS "i" zs = some (.d (.int i)) → Kp (G rs) fn (K+1) fn.hm elt ⟨zs, σ⟩ (.d (.int ((i : Int) + 1))) ⟨zs, σ⟩) : ∀ (l : List Rec) (i : Nat) (xs : List (Str × V)), ∃ xs', Tn (G rs) fn (K+1) (.two "i" "r") [tt] elt [] (enumL i (l.map fun r => V.d (encR r))) ⟨xs, σ⟩ ((cmI i l).map fun i => V.d (.int i)) ⟨xs', σ⟩
  | [], i, xs => ⟨xs, tn_nil⟩
  | x :: l, i, xs => by
    have h1 := ht (setS "r" (.d (encR x)) (setS "i" (.d (.int i)) xs)) x lk_same
    have h2 := he (setS "r" (.d (encR x)) (setS "i" (.d (.int i)) xs)) i (by rw [lk_ne (by decide), lk_same])
    obtain ⟨xs', e⟩ := tn_enum ht he l (i + 1) (setS "r" (.d (encR x)) (setS "i" (.d (.int i)) xs))
    refine ⟨xs', fun n => ?_⟩
    rw [cmI]
    have h1 := h1 n
    cases hx : isCm x with
    | true =>
      rw [hx] at h1
      exact bnd (a := ([V.d (.int ((i : Int) + 1))], (⟨_, σ⟩ : St))) (bnd (a := (⟨setS "r" (.d (encR x)) (setS "i" (.d (.int i)) xs), σ⟩ : St)) rfl (bnd (a := (true, (⟨setS "r" (.d (encR x)) (setS "i" (.d (.int i)) xs), σ⟩ : St))) (show tests (run (G rs) (n + (K+1))) fn ⟨setS "r" (.d (encR x)) (setS "i" (.d (.int i)) xs), σ⟩ [tt] = some (true, ⟨_, σ⟩) from h1) (mpd (h2 n) rfl))) (mpd (e n) rfl)
    | false =>
      rw [hx] at h1
      exact bnd (a := ([], (⟨_, σ⟩ : St))) (bnd (a := (⟨setS "r" (.d (encR x)) (setS "i" (.d (.int i)) xs), σ⟩ : St)) rfl (bnd (a := (false, (⟨setS "r" (.d (encR x)) (setS "i" (.d (.int i)) xs), σ⟩ : St))) (show tests (run (G rs) (n + (K+1))) fn ⟨setS "r" (.d (encR x)) (setS "i" (.d (.int i)) xs), σ⟩ [tt] = some (false, ⟨_, σ⟩) from h1) rfl)) (mpd (e n) rfl)
theorem ev_enumc {cg : Comprehension} {l : List Rec} {sc : Scope} {q : Pos} (hi : ItE (G rs) fn (K+1) cg.iter ⟨xs, σ⟩ ⟨enumL 0 (l.map fun r => V.d (encR r)), true⟩ ⟨xs, σ⟩) (hok : (scOk fn sc && [cg].all gOk) = true) (ht1 : asTg cg.target = some (.two "i" "r")) (hk : tgOk (fn.sc sc.names) true (.two "i" "r") = true) (hf : cg.ifs = [tt])
    (ht : ∀ zs x, lookS "r" zs = some (.d (encR x)) → Tt (G rs) (fn.sc sc.names) (K+1) tt ⟨zs, σ⟩ (isCm x) ⟨zs, σ⟩) (he : ∀ zs (i : Nat), lookS "i" zs = some (.d (.int i)) → Kp (G rs) (fn.sc sc.names) (K+1) fn.hm elt ⟨zs, σ⟩ (.d (.int ((i : Int) + 1))) ⟨zs, σ⟩) (hl : l.length ≤ lim) : Ev (G rs) fn (K+2) (.ListComp elt [cg] sc q) ⟨xs, σ⟩ (.fresh ((cmI 0 l).map fun i => V.d (.int i))) ⟨xs, σ⟩ := by
  obtain ⟨xs', e⟩ := tn_enum (fn := fn.sc sc.names) ht he l 0 (seen sc.names xs)
  exact ev_lc (st₂ := ⟨xs', σ⟩) hok hi ht1 hk (hf ▸ e) (by rw [List.length_map]; exact Nat.le_trans (cmI_len l 0) hl)
end
open PySem
theorem ok_late : PyData.strOk "late" = true := by decide +kernel
theorem ok_later : PyData.strOk "later" = true := by decide +kernel
theorem ok_crash : PyData.strOk "crash" = true := by decide +kernel
theorem tag_cm (x : Rec) : decide (tagR x = "commit") = isCm x := by cases x <;> rfl
noncomputable def lvp (rs : List Int) (p : LV) (mp : Nat) : List (Str × V) := ("past", .loc mp) :: lv rs p
noncomputable def pastV (rs : List Int) (l : List Tr) : List V := l.map fun t => V.d (t.d (vAt rs))
structure PL (rs : List Int) (p : LV) (acts : List Act) (past : List Tr) (d : PF) (b : Nat) : Prop where
  log : LogSt (past.map fun t => pf t (vAt rs)) d p.safe p.pend (pf p.kept (vAt rs))
  eqv : Eqv p.disk d p.pend (pf p.kept (vAt rs))
  run : Run rs acts ⟨p.hand.d (vAt rs), pf p.kept (vAt rs), p.disk, p.safe, p.pend⟩ b
  trs : ∀ t ∈ past, TOk t
  ko : TOk p.old
  kn : TOk p.new
  kh : TOk p.hand
  kk : TOk p.kept
structure LS (rs : List Int) (p : LV) (mp : Nat) (xs : List (Str × V)) (σ : List Cell) (acts : List Act) (past : List Tr) : Prop where
  sees : Sees xs (lvp rs p mp)
  acts : σ[p.ma]? = some (.lst (encAV acts))
  past : σ[mp]? = some (.lst (pastV rs past))
  ne : p.ma ≠ mp
noncomputable def five (c : Nat) : List Act := [.put 0 "late", .crs c, .put 0 "later", .back, .com]
section
variable {rs : List Int} {p : LV} {xs : List (Str × V)} {σ : List Cell} {acts : List Act} {past : List Tr} {d : PF} {b mp : Nat}
theorem five_run (h : PL rs p acts past d b) (hb : b < 100) (c : Nat) : ∃ t, TOk t ∧ ((p.pend.drop c).filter isCm).length + 1 ≤ past.length ∧ past[past.length - 1 - ((p.pend.drop c).filter isCm).length]? = some t ∧ Run rs (acts ++ five c) ⟨t.d (vAt rs), pf t (vAt rs), p.disk, trim (p.safe ++ p.pend.take c), [.cm t.root]⟩ (b + 11) := by
  obtain ⟨h1, h2⟩ := crash_fin h.log h.eqv c
  rw [List.length_map] at h1 h2
  rw [List.getElem?_map] at h2
  cases ht : past[past.length - 1 - ((p.pend.drop c).filter isCm).length]? with
  | none => rw [ht] at h2; cases h2
  | some t =>
    rw [ht] at h2
    have hr : pf t (vAt rs) = rply p.disk (trim (p.safe ++ p.pend.take c)) := Option.some.inj h2
    have kt := h.trs t (List.mem_of_getElem? ht)
    have ct := can_of kt.can
    have et : encT (pf t (vAt rs)) = t.d (vAt rs) := ct.enc
    obtain ⟨d1, q1⟩ := h.kh.put0 rs (vAt rs) "late"
    obtain ⟨d2, q2⟩ := kt.put0 rs (vAt rs) "later"
    have r1 := h.run.quiet hb (a := .put 0 "late") ⟨d1, q1, rfl⟩ rfl
    have r2 := r1.quiet hb (a := .crs c) rfl rfl
    rw [← hr, et] at r2
    have r3 := r2.quiet hb (a := .put 0 "later") ⟨d2, q2, rfl⟩ rfl
    have r4 := r3.quiet hb (a := .back) rfl rfl
    have r5 := r4.com hb ⟨pf t (vAt rs), rfl, ct.good, rfl⟩
    rw [dif_self] at r5
    refine ⟨t, kt, h1, rfl, ?_⟩
    have e : acts ++ five c = acts ++ [.put 0 "late"] ++ [.crs c] ++ [.put 0 "later"] ++ [.back] ++ [.com] := by unfold five; simp only [List.append_assoc, List.cons_append, List.nil_append]
    rw [e, ← et]
    exact r5
theorem law_16 (rb : RB rs) (sc : Scr p.items) (l : LS rs p mp xs σ acts past) (h : PL rs p acts past d b) (hb : b < 80) (hal : acts.length < 500) (hpl : past.length < 100) : Ret (G rs) fLaw 156 16 xs σ tru := by
  have hs := l.sees
  have hs' : Sees xs (lv rs p) := hs.trans (.cons rfl (.cons rfl (.cons rfl (.cons rfl (.cons rfl (.cons rfl (.cons rfl (.cons rfl (.cons rfl (.cons rfl (.cons rfl (.cons rfl (.cons rfl (.cons rfl .nil))))))))))))))
  have hlen := h.run.len
  have hok := h.run.ok
  by_cases hc : 0 < rs.getD 11 0
  · obtain ⟨c, hcut⟩ : ∃ c : Nat, rs.getD 12 0 = (c : Int) := ⟨(rs.getD 12 0).toNat, (Int.toNat_of_nonneg (rb.lo 12)).symm⟩
    obtain ⟨t, kt, hn, ht, hrun⟩ := five_run h (by omega) c
    simp only at hlen
    have h1 := hs.put (x := "cut") (v := .d (.int (c : Int))) rfl
    have h2 := h1.put (x := "acts") (v := .loc σ.length) rfl
    have h3 := h2.put (x := "lost") (v := .d (encL ((p.pend.drop c).filter isCm))) rfl
    have h4 := h3.put (x := "hand") (v := .d (t.d (vAt rs))) rfl
    have h5 := h4.put (x := "stays") (v := .d (encL (p.safe ++ p.pend.take c))) rfl
    have h6 := h5.put (x := "safe") (v := .d (encL (trim (p.safe ++ p.pend.take c)))) rfl
    have h7 := h6.put (x := "pend") (v := .d (encL [.cm t.root])) rfl
    have hp1 : (σ ++ [Cell.lst (encAV (acts ++ five c))])[mp]? = some (.lst (pastV rs past)) := by rw [List.getElem?_append_left (List.getElem?_eq_some_iff.mp l.past).1]; exact l.past
    have hA : lstOf σ (.val (.loc p.ma)) = some (encAV acts) := show lstC σ[p.ma]? = some (encAV acts) from by rw [l.acts]; rfl
    have hst : (p.safe ++ p.pend.take c).length ≤ 200 := by rw [List.length_append, List.length_take]; omega
    refine r_step (σ' := σ ++ [.lst (encAV (acts ++ five c))]) rfl (x_ift (tt_cmp (fun n => rfl) (ev_mod rb sc hs rfl 11 (by decide) (by decide) rfl) ev_int (congrArg some (decide_eq_true hc)))
      (x_cons (x_asgN (kp_val (hcut ▸ ev_mod rb sc hs rfl 12 (by decide) (by decide) rfl)) rfl)
      (x_cons (x_asgN (kp_new (l := encAV (acts ++ five c)) (ev_bin (pn h1 rfl rfl) (ev_list (vs := encAV (five c)) (sl_cons (kp_val (ev_tup (vs := [.d (.str "put"), .d (.key 0), .d (.str "late")]) (sl_cons (kp_val (ev_str ok_put)) (sl_cons (kp_val (pn h1 rfl rfl)) (sl_cons (kp_val (ev_str ok_late)) sl_nil))) rfl (by decide))) (sl_cons (kp_val (ev_tup (vs := [.d (.str "crash"), .d (.int (c : Int))]) (sl_cons (kp_val (ev_str ok_crash)) (sl_cons (kp_val (pn h1 rfl rfl)) sl_nil)) rfl (by decide))) (sl_cons (kp_val (ev_tup (vs := [.d (.str "put"), .d (.key 0), .d (.str "later")]) (sl_cons (kp_val (ev_str ok_put)) (sl_cons (kp_val (pn h1 rfl rfl)) (sl_cons (kp_val (ev_str ok_later)) sl_nil))) rfl (by decide))) (sl_cons (kp_val (ev_tup (vs := [.d (.str "rollback")]) (sl_cons (kp_val (ev_str ok_rollback)) sl_nil) rfl (by decide))) (sl_cons (kp_val (ev_tup (vs := [.d (.str "commit")]) (sl_cons (kp_val (ev_str ok_commit)) sl_nil) rfl (by decide))) sl_nil))))) (by decide)) ((b_cat rfl hA rfl ?_).trans ?_)) rfl) rfl)
      (x_cons (x_asgN (kp_fz (ev_filter (b := isCm) (l := p.pend.drop c) (g := fun r => V.d (encR r)) (ys := []) (it_ev (fun n => rfl) (ev_slc (pn h2 rfl rfl) (op_some (pn h2 rfl rfl)) (fun n => op_none) rfl) ?_) rfl rfl rfl rfl rfl .nil rfl (fun x _ zs hz => tt_tag rfl (hz _ _ rfl) ok_commit (tag_cm x)) ?_) rfl allD_m) rfl)
      (x_cons (x_asgN (kp_val (ev_idx rfl (pn h3 rfl rfl) (ev_bin (ev_bin (ev_b1 (r₁ := .val (.d (.int (past.length : Int)))) (fun n => rfl) (pn h3 rfl rfl) ?_) ev_int (b_int (y := .int ((past.length : Int) - 1)) rfl)) (ev_len (fun n => rfl) (pn h3 rfl rfl)) (b_int (y := .int ((past.length : Int) - 1 - (((p.pend.drop c).filter isCm).length : Int))) rfl)) ?_)) rfl)
      (x_cons (x_asgN (kp_fz (ev_bin (pn h4 rfl rfl) (ev_slc (r₁ := .fresh (((p.pend.take c).map encR).map V.d)) (pn h4 rfl rfl) (fun n => op_none) (op_some (pn h4 rfl rfl)) ?_) (b_catD ?_)) rfl (allD_d _)) rfl)
      (x_cons (x_asgN (kp_fz (l := ((trim (p.safe ++ p.pend.take c)).map encR).map V.d) (ev_slc (pn h5 rfl rfl) (fun n => op_none) (op_some (i := ((lastI 0 0 (p.safe ++ p.pend.take c) : Nat) : Int)) (ev_b1 (fun n => rfl) (ev_bin (ev_list (sl_cons (kp_val ev_int) sl_nil) (by decide)) (ev_enumc (l := p.safe ++ p.pend.take c) (it_enum (fun n => rfl) (pn h5 rfl rfl) (congrArg (fun l => some (l, _)) List.map_map)) rfl rfl rfl rfl (fun zs x hz => tt_tag rfl hz ok_commit (tag_cm x)) (fun zs i hz => kp_val (ev_bin (pn (ys := [("i", .d (.int (i : Int)))]) (.cons hz .nil) rfl rfl) ev_int (b_int rfl))) ?_) (b_cat rfl rfl rfl ?_)) ?_)) ?_) rfl (allD_d _)) rfl)
      (x_cons (x_asgN (kp_fz (ds := [encR (.cm t.root)]) (ev_list (sl_cons (kp_val (ev_tup (v := .d (encR (.cm t.root))) (vs := [.d (.str "commit"), .d (.int t.root)]) (sl_cons (kp_val (ev_str ok_commit)) (sl_cons (kp_val (ev_idx rfl (pn h6 rfl rfl) ev_int rfl)) sl_nil)) rfl (by decide))) sl_nil) (by decide)) rfl rfl) rfl) x_nil)))))))) ?_
    · rw [lenA, lenA]; unfold lim five; simp only [List.length_cons, List.length_nil]; omega
    · rw [← encAV_app]
    · refine congrArg (fun l => some (l, _)) ?_
      refine (slc_from _ _).trans ?_
      rw [← List.map_drop, ← List.map_drop, List.map_map]; rfl
    · rw [List.length_drop]; unfold lim; omega
    · exact ifp (c := _ = _) rfl (mpd (a := pastV rs past) (ops (a := pastV rs past) (show lstC (σ ++ [Cell.lst (encAV (acts ++ five c))])[mp]? = _ from by rw [hp1]; rfl) rfl) (by unfold pastV; rw [List.length_map]))
    · refine opn (show (locOf (R.val (.loc mp))).bind (fun n => dctC (σ ++ [Cell.lst (encAV (acts ++ five c))])[n]?) = _ from by show dctC (σ ++ [Cell.lst (encAV (acts ++ five c))])[mp]? = _; rw [hp1]; rfl) (bnd (a := (past.length : Int) - 1 - (((p.pend.drop c).filter isCm).length : Int)) rfl (bnd (a := pastV rs past) (ops (a := pastV rs past) (show lstC (σ ++ [Cell.lst (encAV (acts ++ five c))])[mp]? = _ from by rw [hp1]; rfl) rfl) ?_))
      rw [show (past.length : Int) - 1 - (((p.pend.drop c).filter isCm).length : Int) = ((past.length - 1 - ((p.pend.drop c).filter isCm).length : Nat) : Int) from by omega]
      exact idx_nat (by unfold pastV; rw [List.getElem?_map, ht]; rfl)
    · refine congrArg (fun l => some (R.fresh l)) ?_
      rw [List.map_take, List.map_take]
      exact slc_to _ _
    · rw [List.length_take]; unfold lim; omega
    · unfold lim; omega
    · have := cmI_len (p.safe ++ p.pend.take c) 0
      rw [List.length_map]; unfold lim; simp only [List.length_cons, List.length_nil]; omega
    · refine ifn (c := _ = _) (by decide) (ifn (c := _ = _) (by decide) (ifn (c := _ = _) (by decide) (ifn (c := _ = _) (by decide) (ifp (c := _ = _) rfl (bnd (a := (0 :: cmI 0 (p.safe ++ p.pend.take c)).map fun i => V.d (.int i)) rfl (bnd allD_m (bnd (intsD_map _) (mpd (a := ((lastI 0 0 (p.safe ++ p.pend.take c) : Nat) : Int)) ?_ rfl))))))))
      exact congrArg some (cmI_max (p.safe ++ p.pend.take c) 0 0 (Nat.le_refl _))
    · refine congrArg (fun l => some (R.fresh l)) ?_
      refine (slc_to _ _).trans ?_
      rw [← List.map_take, ← List.map_take]; rfl
    · exact law_mid (p := { p with hand := t, safe := trim (p.safe ++ p.pend.take c), pend := [.cm t.root], ma := σ.length }) rb sc (h7.trans (.cons rfl (.cons rfl (.cons rfl (.cons rfl (.cons rfl (.cons rfl (.cons rfl (.cons rfl (.cons rfl (.cons rfl (.cons rfl (.cons rfl (.cons rfl (.cons rfl .nil))))))))))))))) h.ko h.kn kt List.getElem?_concat_length hrun.st hrun.ok
  · exact r_step rfl (x_iff (tt_cmp (fun n => rfl) (ev_mod rb sc hs rfl 11 (by decide) (by decide) rfl) ev_int (congrArg some (decide_eq_false hc))) x_nil) (law_mid rb sc hs' h.ko h.kn h.kh l.acts h.run.st h.run.ok)
end
open PySem
section
variable {rs : List Int} {p : LV} {xs : List (Str × V)} {σ : List Cell} {acts : List Act} {past : List Tr} {d : PF} {b mp : Nat}
theorem eqv_refl {kept : PF} {pend : List Rec} : Eqv d d pend kept := ⟨rfl, fun _ => .inl rfl⟩
theorem app_lenA' (h : acts.length < 500) : (encAV acts).length < lim := by rw [lenA]; unfold lim; omega
theorem set_ne {c : Cell} {m n : Nat} (h : m ≠ n) : (σ.set m c)[n]? = σ[n]? := List.getElem?_set_ne h
theorem flush_step (n : Int) (l : LS rs p mp xs σ acts past) (h : PL rs p acts past d b) (hb : b < 80) (hal : acts.length < 500) :
    ∃ ys τ, Ex (G rs) fLaw 150 (bOf (stAt fLaw 15)) ⟨setS "number" (.d (.int n)) xs, σ⟩ .next ⟨ys, τ⟩ ∧ LS rs { p with disk := fls n p.pend p.disk (pf p.kept (vAt rs)) } mp ys τ (acts ++ [.fls n]) past ∧ PL rs { p with disk := fls n p.pend p.disk (pf p.kept (vAt rs)) } (acts ++ [.fls n]) past d b := by
  have hlen := h.run.len
  have hok := h.run.ok
  simp only at hlen
  have ck := can_of h.kk.can
  have ek : encT (pf p.kept (vAt rs)) = p.kept.d (vAt rs) := ck.enc
  have hs : Sees (setS "number" (.d (.int n)) xs) (("number", .d (.int n)) :: lvp rs p mp) := .cons lk_same (l.sees.other rfl)
  have hs' : Sees (setS "number" (.d (.int n)) xs) (lvp rs p mp) := l.sees.other rfl
  have hml := (List.getElem?_eq_some_iff.mp l.acts).1
  have hf := lflush_ok (rs := rs) (n := n) (pend := p.pend) (disk := p.disk) (kept := pf p.kept (vAt rs)) hok.disk hok.kept hok.pend (by omega)
  rw [ek] at hf
  refine ⟨_, σ.set p.ma (.lst (encAV (acts ++ [.fls n]))), x_cons (x_app rfl (pn hs rfl rfl) l.acts (kp_val (ev_tup (v := .d (encA (.fls n))) (vs := [.d (.str "flush"), .d (.int n)]) (sl_cons (kp_val (ev_str ok_flush)) (sl_cons (kp_val (pn hs rfl rfl)) sl_nil)) rfl (by decide))) l.acts (app_lenA' hal) (congrArg (fun l => σ.set p.ma (Cell.lst l)) (encAV_app (m := [.fls n])).symm)) (x_cons (x_asgN (kp_val (ev_fn (f := fLFlush) rfl (ne_cls (by decide)) rfl rfl (sl_cons (kp_val (pn hs rfl rfl)) (sl_cons (kp_val (pn hs rfl rfl)) (sl_cons (kp_val (pn hs rfl rfl)) (sl_cons (kp_val (pn hs rfl rfl)) sl_nil)))) rfl (hf.up (by decide)))) rfl) x_nil), ⟨hs'.put rfl, set_at hml, by rw [set_ne l.ne]; exact l.past, l.ne⟩, ⟨h.log, eqv_fls h.eqv n, h.run.quiet (by omega) rfl rfl, h.trs, h.ko, h.kn, h.kh, h.kk⟩⟩
theorem law_15 (rb : RB rs) (sc : Scr p.items) (l : LS rs p mp xs σ acts past) (h : PL rs p acts past d b) (hb : b < 80) (hal : acts.length < 400) (hpl : past.length < 100) : Ret (G rs) fLaw 157 15 xs σ tru := by
  obtain ⟨ys, τ, e1, l1, h1⟩ := flush_step (rs.getD 9 0) l h hb (by omega)
  obtain ⟨zs, υ, e2, l2, h2⟩ := flush_step (rs.getD 10 0) l1 h1 hb (by rw [List.length_append, List.length_cons, List.length_nil]; omega)
  refine r_step rfl (x_for (l := ⟨[.d (.int (rs.getD 9 0)), .d (.int (rs.getD 10 0))], false⟩) (it_ev (fun n => rfl) (ev_tup (vs := [.d (.int (rs.getD 9 0)), .d (.int (rs.getD 10 0))]) (sl_cons (kp_val (ev_mod rb sc l.sees rfl 9 (by decide) (by decide) rfl)) (sl_cons (kp_val (ev_mod rb sc l.sees rfl 10 (by decide) (by decide) rfl)) sl_nil)) rfl (by decide)) rfl) rfl rfl (lp_cons bd_name (e1.up (by decide)) (lp_cons bd_name (e2.up (by decide)) lp_nil))) ?_
  refine law_16 rb ?_ l2 h2 hb ?_ hpl
  · exact sc
  · simp only [List.length_append, List.length_cons, List.length_nil]; omega
theorem hold_run {hand : D} {kept disk : PF} {safe pend : List Rec} (h : Run rs acts ⟨hand, kept, disk, safe, pend⟩ b) (hb : b < 100) {k : Int} (hk : 0 ≤ k ∧ k < 3) : Run rs (acts ++ holdsA k) ⟨hand, kept, (holdP k safe pend disk kept).2.2, (holdP k safe pend disk kept).1, (holdP k safe pend disk kept).2.1⟩ b := by
  have hj : k = 0 ∨ k = 1 ∨ k = 2 := by omega
  rcases hj with rfl | rfl | rfl
  · show Run rs (acts ++ []) _ b
    rw [List.append_nil]; exact h
  · exact h.quiet hb (a := .syn) rfl rfl
  · exact h.quiet hb (a := .chk) rfl rfl
theorem law_13 (rb : RB rs) (sc : Scr p.items) (l : LS rs p mp xs σ acts past) (h : PL rs p acts past p.disk b) (hb : b < 80) (hal : acts.length < 300) (hpl : past.length < 100) : Ret (G rs) fLaw 159 13 xs σ tru := by
  have hlen := h.run.len
  simp only at hlen
  have ck := can_of h.kk.can
  have ek : encT (pf p.kept (vAt rs)) = p.kept.d (vAt rs) := ck.enc
  have hk : 0 ≤ rs.getD 8 0 ∧ rs.getD 8 0 < 3 := ⟨rb.lo 8, rb.hi 8 (by decide) (by decide)⟩
  have hhl := holds_len (rs.getD 8 0)
  have hs := l.sees
  have hA : lstOf σ (.val (.loc p.ma)) = some (encAV acts) := show lstC σ[p.ma]? = some (encAV acts) from by rw [l.acts]; rfl
  refine r_step (σ' := σ ++ [.lst (encAV (acts ++ holdsA (rs.getD 8 0)))]) rfl (x_asgN (kp_new (l := encAV (acts ++ holdsA (rs.getD 8 0))) (ev_bin (pn hs rfl rfl) (ev_holds rfl rfl (ev_mod rb sc hs rfl 8 (by decide) (by decide) rfl) hk) ((b_cat rfl hA rfl ?_).trans ?_)) rfl) rfl) ?_
  · rw [lenA, List.length_map, List.length_map]; unfold lim; omega
  · rw [List.map_map, encAV_app]; rfl
  have h1 := hs.put (x := "acts") (v := .loc σ.length) rfl
  have hold := lhold_ok (rs := rs) (k := rs.getD 8 0) (safe := p.safe) (pend := p.pend) (disk := p.disk) (kept := pf p.kept (vAt rs)) (by unfold lim; omega)
  rw [ek] at hold
  refine r_step rfl (x_asgU (l := [.d (encL (holdP (rs.getD 8 0) p.safe p.pend p.disk (pf p.kept (vAt rs))).1), .d (encL (holdP (rs.getD 8 0) p.safe p.pend p.disk (pf p.kept (vAt rs))).2.1), .d (encT (holdP (rs.getD 8 0) p.safe p.pend p.disk (pf p.kept (vAt rs))).2.2)]) rfl rfl (kp_val (ev_fn (f := fLHold) rfl (ne_cls (by decide)) rfl rfl (sl_cons (kp_val (ev_mod rb sc h1 rfl 8 (by decide) (by decide) rfl)) (sl_cons (kp_val (pn h1 rfl rfl)) (sl_cons (kp_val (pn h1 rfl rfl)) (sl_cons (kp_val (pn h1 rfl rfl)) (sl_cons (kp_val (pn h1 rfl rfl)) sl_nil))))) rfl (hold.up (by decide)))) rfl (tos_cons (to_name rfl) (tos_cons (to_name rfl) (tos_cons (to_name rfl) tos_nil)))) ?_
  have h2 := ((h1.put (x := "safe") (v := .d (encL (holdP (rs.getD 8 0) p.safe p.pend p.disk (pf p.kept (vAt rs))).1)) rfl).put (x := "pend") (v := .d (encL (holdP (rs.getD 8 0) p.safe p.pend p.disk (pf p.kept (vAt rs))).2.1)) rfl).put (x := "disk") (v := .d (encT (holdP (rs.getD 8 0) p.safe p.pend p.disk (pf p.kept (vAt rs))).2.2)) rfl
  refine law_15 (p := { p with safe := (holdP (rs.getD 8 0) p.safe p.pend p.disk (pf p.kept (vAt rs))).1, pend := (holdP (rs.getD 8 0) p.safe p.pend p.disk (pf p.kept (vAt rs))).2.1, disk := (holdP (rs.getD 8 0) p.safe p.pend p.disk (pf p.kept (vAt rs))).2.2, ma := σ.length }) rb sc ⟨h2, List.getElem?_concat_length, ?_, ?_⟩ ⟨log_hold h.log _, eqv_refl, hold_run h.run (by omega) hk, h.trs, h.ko, h.kn, h.kh, h.kk⟩ hb (by rw [List.length_append]; omega) hpl
  · rw [List.getElem?_append_left (List.getElem?_eq_some_iff.mp l.past).1]; exact l.past
  · exact fun e => Nat.lt_irrefl _ (e ▸ (List.getElem?_eq_some_iff.mp l.past).1 : mp < mp)
theorem law_12 (rb : RB rs) (sc : Scr p.items) (l : LS rs p mp xs σ acts past) (h : PL rs p acts past p.disk b) (hk : p.kept = p.old) (hb : b < 60) (hal : acts.length < 200) (hpl : past.length < 50) : Ret (G rs) fLaw 160 12 xs σ tru := by
  have hlen := h.run.len
  have hok := h.run.ok
  simp only at hlen
  have co := can_of h.ko.can
  have ch := can_of h.kh.can
  have eo : encT (pf p.old (vAt rs)) = p.old.d (vAt rs) := co.enc
  have eh : encT (pf p.hand (vAt rs)) = p.hand.d (vAt rs) := ch.enc
  have hs := l.sees
  have hml := (List.getElem?_eq_some_iff.mp l.acts).1
  have hmp := (List.getElem?_eq_some_iff.mp l.past).1
  by_cases hc : rs.getD 7 0 = 2
  · exact r_step rfl (x_iff (tt_cmp (fun n => rfl) (ev_mod rb sc hs rfl 7 (by decide) (by decide) rfl) ev_int (c_ne (eqG_of rfl rfl (congrArg some (decide_eq_true hc))) rfl)) x_nil) (law_13 rb sc l h (by omega) (by omega) (by omega))
  · have hd := ldiff_ok (rs := rs) (a := pf p.old (vAt rs)) (b := pf p.hand (vAt rs)) co.good ch.good
    have hdl := dif_len (pf p.old (vAt rs)).f (pf p.hand (vAt rs)).f
    rw [eo, eh] at hd
    have h1 := hs.put (x := "pend") (v := .d (encL (p.pend ++ dif (pf p.old (vAt rs)).f (pf p.hand (vAt rs)).f ++ [.cm p.hand.root]))) rfl
    have h2 := h1.put (x := "kept") (v := .d (p.hand.d (vAt rs))) rfl
    have hp1 : (σ.set p.ma (.lst (encAV (acts ++ [.com]))))[mp]? = some (.lst (pastV rs past)) := by rw [set_ne l.ne]; exact l.past
    have hkept : pf p.kept (vAt rs) = pf p.old (vAt rs) := by rw [hk]
    refine r_step (σ' := (σ.set p.ma (.lst (encAV (acts ++ [.com])))).set mp (.lst (pastV rs (past ++ [p.hand])))) rfl (x_ift (tt_cmp (fun n => rfl) (ev_mod rb sc hs rfl 7 (by decide) (by decide) rfl) ev_int (c_ne (eqG_of rfl rfl (congrArg some (decide_eq_false hc))) rfl))
      (x_cons (x_app rfl (pn hs rfl rfl) l.acts (kp_val (ev_tup (v := .d (encA .com)) (vs := [.d (.str "commit")]) (sl_cons (kp_val (ev_str ok_commit)) sl_nil) rfl (by decide))) l.acts (app_lenA' (by omega)) (congrArg (fun l => σ.set p.ma (Cell.lst l)) (encAV_app (m := [.com])).symm))
      (x_cons (x_asgN (kp_fz (ev_bin (ev_bin (pn hs rfl rfl) (ev_fn (f := fLDiff) rfl (ne_cls (by decide)) rfl rfl (sl_cons (kp_val (pn hs rfl rfl)) (sl_cons (kp_val (pn hs rfl rfl)) sl_nil)) rfl (hd.up (by decide))) (b_catL ?_)) (ev_list (sl_cons (kp_val (ev_tup (vs := [.d (.str "commit"), .d (.int p.hand.root)]) (sl_cons (kp_val (ev_str ok_commit)) (sl_cons (kp_val (ev_idx rfl (pn hs rfl rfl) ev_int rfl)) sl_nil)) rfl (by decide))) sl_nil) (by decide)) (b_catF (m := [.cm p.hand.root]) ?_)) rfl (allD_d _)) rfl)
      (x_cons (x_asgN (kp_val (pn h1 rfl rfl)) rfl)
      (x_cons (x_app rfl (pn h2 rfl rfl) hp1 (kp_val (pn h2 rfl rfl)) hp1 ?_ (congrArg (fun l => (σ.set p.ma (.lst (encAV (acts ++ [.com])))).set mp (Cell.lst l)) ?_)) x_nil))))) ?_
    · unfold lim; omega
    · unfold lim; simp only [List.length_append, List.length_cons, List.length_nil]; omega
    · unfold pastV lim; rw [List.length_map]; omega
    · unfold pastV; rw [List.map_append]; rfl
    · have hlog := log_com h.log (t := pf p.hand (vAt rs)) ch.good
      have hrun := h.run.com (by omega) ⟨pf p.hand (vAt rs), eh.symm, ch.good, rfl⟩
      simp only at hrun
      rw [hkept] at hlog hrun
      refine law_13 (p := { p with kept := p.hand, pend := p.pend ++ dif (pf p.old (vAt rs)).f (pf p.hand (vAt rs)).f ++ [.cm p.hand.root] }) (b := b + 11) (past := past ++ [p.hand]) (acts := acts ++ [.com]) rb sc ⟨h2, ?_, ?_, l.ne⟩ ⟨?_, eqv_refl, hrun, fun t ht => (List.mem_append.mp ht).elim (h.trs t) fun ht => by rw [List.mem_singleton.mp ht]; exact h.kh, h.ko, h.kn, h.kh, h.kh⟩ (by omega) (by rw [List.length_append, List.length_cons, List.length_nil]; omega) (by rw [List.length_append, List.length_cons, List.length_nil]; omega)
      · rw [set_ne l.ne.symm]; exact set_at hml
      · exact set_at (by rw [List.length_set]; exact hmp)
      · rw [List.map_append]; exact hlog
theorem law_11 (rb : RB rs) (sc : Scr p.items) (l : LS rs p mp xs σ acts past) (h : PL rs p acts past p.disk b) (hk : p.kept = p.old) (hb : b < 60) (hal : acts.length < 190) (hpl : past.length < 50) : Ret (G rs) fLaw 161 11 xs σ tru := by
  have co := can_of h.ko.can
  have eo : encT (pf p.old (vAt rs)) = p.old.d (vAt rs) := co.enc
  have hs := l.sees
  have hml := (List.getElem?_eq_some_iff.mp l.acts).1
  by_cases hc : rs.getD 7 0 = 1
  · refine r_step (σ' := σ.set p.ma (.lst (encAV (acts ++ [.back])))) rfl (x_ift (tt_cmp (fun n => rfl) (ev_mod rb sc hs rfl 7 (by decide) (by decide) rfl) ev_int (c_eq (eqG_of rfl rfl (congrArg some (decide_eq_true hc)))))
      (x_cons (x_app rfl (pn hs rfl rfl) l.acts (kp_val (ev_tup (v := .d (encA .back)) (vs := [.d (.str "rollback")]) (sl_cons (kp_val (ev_str ok_rollback)) sl_nil) rfl (by decide))) l.acts (app_lenA' (by omega)) (congrArg (fun l => σ.set p.ma (Cell.lst l)) (encAV_app (m := [.back])).symm)) (x_cons (x_asgN (kp_val (pn hs rfl rfl)) rfl) x_nil))) ?_
    have hrun := h.run.quiet (by omega) (a := .back) rfl rfl
    simp only at hrun
    have e2 : encT (pf p.kept (vAt rs)) = p.old.d (vAt rs) := by rw [hk, eo]
    rw [e2] at hrun
    exact law_12 (p := { p with hand := p.old }) rb sc ⟨hs.put rfl, set_at hml, by rw [set_ne l.ne]; exact l.past, l.ne⟩ ⟨h.log, h.eqv, hrun, h.trs, h.ko, h.kn, h.ko, h.kk⟩ hk (by omega) (by rw [List.length_append, List.length_cons, List.length_nil]; omega) hpl
  · exact r_step rfl (x_iff (tt_cmp (fun n => rfl) (ev_mod rb sc hs rfl 7 (by decide) (by decide) rfl) ev_int (c_eq (eqG_of rfl rfl (congrArg some (decide_eq_false hc))))) x_nil) (law_12 rb sc l h hk hb (by omega) hpl)
end
open PySem
noncomputable def Chain (rs : List Int) : D → List Act → D → Prop
  | d, [], d' => d = d'
  | d, .put k s :: l, d' => ∃ e, PutTo rs d k s e ∧ Chain rs e l d'
  | d, .rem k :: l, d' => ∃ e, RemTo rs d k e ∧ Chain rs e l d'
  | _, _ :: _, _ => False
section
variable {rs : List Int} {d d' e : D} {l m acts : List Act} {b : Nat}
theorem chain_app : ∀ {l : List Act} {d : D}, Chain rs d l e → Chain rs e m d' → Chain rs d (l ++ m) d'
  | [], d, h, k => by cases h; exact k
  | .put _ _ :: l, d, h, k => h.imp fun _ q => ⟨q.1, chain_app q.2 k⟩
  | .rem _ :: l, d, h, k => h.imp fun _ q => ⟨q.1, chain_app q.2 k⟩
  | .back :: _, d, h, k => h.elim
  | .com :: _, d, h, k => h.elim
  | .syn :: _, d, h, k => h.elim
  | .chk :: _, d, h, k => h.elim
  | .fls _ :: _, d, h, k => h.elim
  | .crs _ :: _, d, h, k => h.elim
theorem chain_run (hb : b < 100) : ∀ {l acts : List Act} {s : PS}, Run rs acts s b → Chain rs s.hand l d' → Run rs (acts ++ l) { s with hand := d' } b
  | [], acts, s, h, k => by cases k; rw [List.append_nil]; exact h
  | .put x y :: l, acts, s, h, k => by
    obtain ⟨e, q, k⟩ := k
    have := chain_run hb (h.quiet hb (a := .put x y) ⟨e, q, rfl⟩ rfl) k
    rw [List.append_assoc] at this
    exact this
  | .rem x :: l, acts, s, h, k => by
    obtain ⟨e, q, k⟩ := k
    have := chain_run hb (h.quiet hb (a := .rem x) ⟨e, q, rfl⟩ rfl) k
    rw [List.append_assoc] at this
    exact this
  | .back :: _, acts, s, h, k => k.elim
  | .com :: _, acts, s, h, k => k.elim
  | .syn :: _, acts, s, h, k => k.elim
  | .chk :: _, acts, s, h, k => k.elim
  | .fls _ :: _, acts, s, h, k => k.elim
  | .crs _ :: _, acts, s, h, k => k.elim
end
noncomputable def tCases : D := valOf (topAt 14)
noncomputable def tStarts : D := valOf (topAt 13)
structure CaseOk (c size st : Int) (steps : List Int) (old new : Tr) : Prop where
  tab : ∀ σ, getR σ (.val (.d tCases)) (.val (.d (.int c))) = some (.d (.tup [.int st, .tup (steps.map .int), .tup (new.rows.map encRow), .int new.root]))
  tab2 : ∀ σ, getR σ (.val (.d tStarts)) (.val (.d (.int st))) = some (.d (.tup [.int size, .tup (old.rows.map encRow), .int old.root]))
  ko : TOk old
  kn : TOk new
  odd : ∀ rs v, Odds rs v old
  front : ∀ rs turn, turn < 4 → Chain rs (tE.d (vAt rs)) (acts0 rs size turn) (old.d (vAt rs))
  step : ∀ rs, Chain rs (old.d (vAt rs)) (steps.map (stepA rs)) (new.d (vAt rs))
  sz : 0 ≤ size ∧ size ≤ 20
  sm : ∀ i ∈ steps, smallI i
  sl : steps.length < 100
theorem acts0_eq {rs : List Int} {turn : Nat} {size : Int} (ht : turn < 4) : acts0 rs size turn = (.put (2 * (frontL.drop turn ++ frontL.take turn).headD 0) "stale" :: (frontL.drop turn ++ frontL.take turn).map (putA rs)) ++ (rangeL 10 (2 * size + 2) 2).map (putA rs) := by
  unfold acts0 orderL
  have : turn = 0 ∨ turn = 1 ∨ turn = 2 ∨ turn = 3 := by omega
  rcases this with rfl | rfl | rfl | rfl <;> rfl
open PySem
section
variable (rs : List Int)
theorem f_0 : Chain rs (tE.d (vAt rs)) (.put (2 * (frontL.drop 0 ++ frontL.take 0).headD 0) "stale" :: (frontL.drop 0 ++ frontL.take 0).map (putA rs)) (x3.d (vAt rs)) := ⟨_, s1_0 rs (vAt rs), _, s2_0 rs (vAt rs), _, p_x0_4 rs (vAt rs), _, p_x1_6 rs (vAt rs), _, p_x2_8 rs (vAt rs), rfl⟩
theorem f_1 : Chain rs (tE.d (vAt rs)) (.put (2 * (frontL.drop 1 ++ frontL.take 1).headD 0) "stale" :: (frontL.drop 1 ++ frontL.take 1).map (putA rs)) (x3.d (vAt rs)) := ⟨_, s1_1 rs (vAt rs), _, s2_1 rs (vAt rs), _, p_x4_6 rs (vAt rs), _, p_x5_8 rs (vAt rs), _, p_x6_2 rs (vAt rs), rfl⟩
theorem f_2 : Chain rs (tE.d (vAt rs)) (.put (2 * (frontL.drop 2 ++ frontL.take 2).headD 0) "stale" :: (frontL.drop 2 ++ frontL.take 2).map (putA rs)) (x3.d (vAt rs)) := ⟨_, s1_2 rs (vAt rs), _, s2_2 rs (vAt rs), _, p_x7_8 rs (vAt rs), _, p_x8_2 rs (vAt rs), _, p_x9_4 rs (vAt rs), rfl⟩
theorem f_3 : Chain rs (tE.d (vAt rs)) (.put (2 * (frontL.drop 3 ++ frontL.take 3).headD 0) "stale" :: (frontL.drop 3 ++ frontL.take 3).map (putA rs)) (x3.d (vAt rs)) := ⟨_, s1_3 rs (vAt rs), _, s2_3 rs (vAt rs), _, p_x10_2 rs (vAt rs), _, p_x11_4 rs (vAt rs), _, p_x12_6 rs (vAt rs), rfl⟩
theorem t_4 : Chain rs (x3.d (vAt rs)) (([] : List Int).map (putA rs)) (x3.d (vAt rs)) := rfl
theorem r_4 : rangeL 10 (2 * 4 + 2) 2 = [] := by kernel_rfl
theorem a_4 (turn : Nat) (ht : turn < 4) : Chain rs (tE.d (vAt rs)) (acts0 rs 4 turn) (x3.d (vAt rs)) := by
  rw [acts0_eq ht, r_4]
  have : turn = 0 ∨ turn = 1 ∨ turn = 2 ∨ turn = 3 := by omega
  rcases this with rfl | rfl | rfl | rfl
  · exact chain_app (f_0 rs) (t_4 rs)
  · exact chain_app (f_1 rs) (t_4 rs)
  · exact chain_app (f_2 rs) (t_4 rs)
  · exact chain_app (f_3 rs) (t_4 rs)
theorem t_6 : Chain rs (x3.d (vAt rs)) (([10, 12] : List Int).map (putA rs)) (x14.d (vAt rs)) := ⟨_, p_x3_10 rs (vAt rs), _, p_x13_12 rs (vAt rs), rfl⟩
theorem r_6 : rangeL 10 (2 * 6 + 2) 2 = [10, 12] := by kernel_rfl
theorem a_6 (turn : Nat) (ht : turn < 4) : Chain rs (tE.d (vAt rs)) (acts0 rs 6 turn) (x14.d (vAt rs)) := by
  rw [acts0_eq ht, r_6]
  have : turn = 0 ∨ turn = 1 ∨ turn = 2 ∨ turn = 3 := by omega
  rcases this with rfl | rfl | rfl | rfl
  · exact chain_app (f_0 rs) (t_6 rs)
  · exact chain_app (f_1 rs) (t_6 rs)
  · exact chain_app (f_2 rs) (t_6 rs)
  · exact chain_app (f_3 rs) (t_6 rs)
theorem t_12 : Chain rs (x3.d (vAt rs)) (([10, 12, 14, 16, 18, 20, 22, 24] : List Int).map (putA rs)) (x20.d (vAt rs)) := ⟨_, p_x3_10 rs (vAt rs), _, p_x13_12 rs (vAt rs), _, p_x14_14 rs (vAt rs), _, p_x15_16 rs (vAt rs), _, p_x16_18 rs (vAt rs), _, p_x17_20 rs (vAt rs), _, p_x18_22 rs (vAt rs), _, p_x19_24 rs (vAt rs), rfl⟩
theorem r_12 : rangeL 10 (2 * 12 + 2) 2 = [10, 12, 14, 16, 18, 20, 22, 24] := by kernel_rfl
theorem a_12 (turn : Nat) (ht : turn < 4) : Chain rs (tE.d (vAt rs)) (acts0 rs 12 turn) (x20.d (vAt rs)) := by
  rw [acts0_eq ht, r_12]
  have : turn = 0 ∨ turn = 1 ∨ turn = 2 ∨ turn = 3 := by omega
  rcases this with rfl | rfl | rfl | rfl
  · exact chain_app (f_0 rs) (t_12 rs)
  · exact chain_app (f_1 rs) (t_12 rs)
  · exact chain_app (f_2 rs) (t_12 rs)
  · exact chain_app (f_3 rs) (t_12 rs)
theorem t_13 : Chain rs (x3.d (vAt rs)) (([10, 12, 14, 16, 18, 20, 22, 24, 26] : List Int).map (putA rs)) (x21.d (vAt rs)) := ⟨_, p_x3_10 rs (vAt rs), _, p_x13_12 rs (vAt rs), _, p_x14_14 rs (vAt rs), _, p_x15_16 rs (vAt rs), _, p_x16_18 rs (vAt rs), _, p_x17_20 rs (vAt rs), _, p_x18_22 rs (vAt rs), _, p_x19_24 rs (vAt rs), _, p_x20_26 rs (vAt rs), rfl⟩
theorem r_13 : rangeL 10 (2 * 13 + 2) 2 = [10, 12, 14, 16, 18, 20, 22, 24, 26] := by kernel_rfl
theorem a_13 (turn : Nat) (ht : turn < 4) : Chain rs (tE.d (vAt rs)) (acts0 rs 13 turn) (x21.d (vAt rs)) := by
  rw [acts0_eq ht, r_13]
  have : turn = 0 ∨ turn = 1 ∨ turn = 2 ∨ turn = 3 := by omega
  rcases this with rfl | rfl | rfl | rfl
  · exact chain_app (f_0 rs) (t_13 rs)
  · exact chain_app (f_1 rs) (t_13 rs)
  · exact chain_app (f_2 rs) (t_13 rs)
  · exact chain_app (f_3 rs) (t_13 rs)
theorem t_15 : Chain rs (x3.d (vAt rs)) (([10, 12, 14, 16, 18, 20, 22, 24, 26, 28, 30] : List Int).map (putA rs)) (x23.d (vAt rs)) := ⟨_, p_x3_10 rs (vAt rs), _, p_x13_12 rs (vAt rs), _, p_x14_14 rs (vAt rs), _, p_x15_16 rs (vAt rs), _, p_x16_18 rs (vAt rs), _, p_x17_20 rs (vAt rs), _, p_x18_22 rs (vAt rs), _, p_x19_24 rs (vAt rs), _, p_x20_26 rs (vAt rs), _, p_x21_28 rs (vAt rs), _, p_x22_30 rs (vAt rs), rfl⟩
theorem r_15 : rangeL 10 (2 * 15 + 2) 2 = [10, 12, 14, 16, 18, 20, 22, 24, 26, 28, 30] := by kernel_rfl
theorem a_15 (turn : Nat) (ht : turn < 4) : Chain rs (tE.d (vAt rs)) (acts0 rs 15 turn) (x23.d (vAt rs)) := by
  rw [acts0_eq ht, r_15]
  have : turn = 0 ∨ turn = 1 ∨ turn = 2 ∨ turn = 3 := by omega
  rcases this with rfl | rfl | rfl | rfl
  · exact chain_app (f_0 rs) (t_15 rs)
  · exact chain_app (f_1 rs) (t_15 rs)
  · exact chain_app (f_2 rs) (t_15 rs)
  · exact chain_app (f_3 rs) (t_15 rs)
end
theorem c_0 : CaseOk 0 4 0 [-2, -4, -6, -8] x3 tE := ⟨fun σ => by kernel_rfl, fun σ => by kernel_rfl, k_x3, k_tE, o_x3, a_4, fun rs => ⟨_, r_x3_2 rs (vAt rs), _, r_x6_4 rs (vAt rs), _, r_x8_6 rs (vAt rs), _, r_x10_8 rs (vAt rs), rfl⟩, by decide, by unfold smallI; decide, by decide⟩
theorem c_1 : CaseOk 1 6 1 [-12, -2] x14 x25 := ⟨fun σ => by kernel_rfl, fun σ => by kernel_rfl, k_x14, k_x25, o_x14, a_6, fun rs => ⟨_, r_x14_12 rs (vAt rs), _, r_x13_2 rs (vAt rs), rfl⟩, by decide, by unfold smallI; decide, by decide⟩
theorem c_2 : CaseOk 2 6 1 [-12, -10, -2] x14 x6 := ⟨fun σ => by kernel_rfl, fun σ => by kernel_rfl, k_x14, k_x6, o_x14, a_6, fun rs => ⟨_, r_x14_12 rs (vAt rs), _, r_x13_10 rs (vAt rs), _, r_x26_2 rs (vAt rs), rfl⟩, by decide, by unfold smallI; decide, by decide⟩
theorem c_3 : CaseOk 3 6 1 [3, -12, -10, -8] x14 x30 := ⟨fun σ => by kernel_rfl, fun σ => by kernel_rfl, k_x14, k_x30, o_x14, a_6, fun rs => ⟨_, p_x14_3 rs (vAt rs), _, r_x27_12 rs (vAt rs), _, r_x28_10 rs (vAt rs), _, r_x29_8 rs (vAt rs), rfl⟩, by decide, by unfold smallI; decide, by decide⟩
theorem c_4 : CaseOk 4 12 2 [11, -14] x20 x32 := ⟨fun σ => by kernel_rfl, fun σ => by kernel_rfl, k_x20, k_x32, o_x20, a_12, fun rs => ⟨_, p_x20_11 rs (vAt rs), _, r_x31_14 rs (vAt rs), rfl⟩, by decide, by unfold smallI; decide, by decide⟩
theorem c_5 : CaseOk 5 12 2 [-16] x20 x33 := ⟨fun σ => by kernel_rfl, fun σ => by kernel_rfl, k_x20, k_x33, o_x20, a_12, fun rs => ⟨_, r_x20_16 rs (vAt rs), rfl⟩, by decide, by unfold smallI; decide, by decide⟩
theorem c_6 : CaseOk 6 12 2 [-8, 23] x20 x35 := ⟨fun σ => by kernel_rfl, fun σ => by kernel_rfl, k_x20, k_x35, o_x20, a_12, fun rs => ⟨_, r_x20_8 rs (vAt rs), _, p_x34_23 rs (vAt rs), rfl⟩, by decide, by unfold smallI; decide, by decide⟩
theorem c_7 : CaseOk 7 12 2 [21] x20 x36 := ⟨fun σ => by kernel_rfl, fun σ => by kernel_rfl, k_x20, k_x36, o_x20, a_12, fun rs => ⟨_, p_x20_21 rs (vAt rs), rfl⟩, by decide, by unfold smallI; decide, by decide⟩
theorem c_8 : CaseOk 8 13 3 [-2] x21 x37 := ⟨fun σ => by kernel_rfl, fun σ => by kernel_rfl, k_x21, k_x37, o_x21, a_13, fun rs => ⟨_, r_x21_2 rs (vAt rs), rfl⟩, by decide, by unfold smallI; decide, by decide⟩
theorem c_9 : CaseOk 9 13 3 [-26, -24] x21 x19 := ⟨fun σ => by kernel_rfl, fun σ => by kernel_rfl, k_x21, k_x19, o_x21, a_13, fun rs => ⟨_, r_x21_26 rs (vAt rs), _, r_x38_24 rs (vAt rs), rfl⟩, by decide, by unfold smallI; decide, by decide⟩
theorem c_10 : CaseOk 10 13 3 [1, 3, 5, -14] x21 x42 := ⟨fun σ => by kernel_rfl, fun σ => by kernel_rfl, k_x21, k_x42, o_x21, a_13, fun rs => ⟨_, p_x21_1 rs (vAt rs), _, p_x39_3 rs (vAt rs), _, p_x40_5 rs (vAt rs), _, r_x41_14 rs (vAt rs), rfl⟩, by decide, by unfold smallI; decide, by decide⟩
theorem c_11 : CaseOk 11 15 4 [-2] x23 x43 := ⟨fun σ => by kernel_rfl, fun σ => by kernel_rfl, k_x23, k_x43, o_x23, a_15, fun rs => ⟨_, r_x23_2 rs (vAt rs), rfl⟩, by decide, by unfold smallI; decide, by decide⟩
open PySem
section
variable {rs : List Int} {items : List D} {c size st : Int} {steps : List Int} {old new : Tr} {xs ys : List (Str × V)} {σ : List Cell} {K : Nat}
theorem ev_tab {x : Str} {dt : D} {p : Pos} (kt : fLaw.names.lookup x = some .globalImplicit) (ht : lookS x (G rs).tabs = some dt) : Ev (G rs) fLaw (K+1) (.Name x p) ⟨xs, σ⟩ (.val (.d dt)) ⟨xs, σ⟩ := fun n => by
  show evName (G rs) fLaw x ⟨xs, σ⟩ = _
  unfold evName
  rw [kt]
  exact mpd ht rfl
theorem run0 : Run rs [] ps0 0 := by
  have g := (log_start).1 eT List.mem_cons_self
  exact ⟨.nil _, ⟨g, g, fun _ h => absurd h List.not_mem_nil, fun _ h => absurd h List.not_mem_nil, (by decide : (0 : Nat) + 0 < 400)⟩, Nat.le_refl _⟩
theorem actsP_len (hs : 0 ≤ size ∧ size ≤ 20) {turn : Nat} (hsl : steps.length < 100) {hold gone : Int} : (actsP rs size turn steps hold gone).length < 190 := by
  have := order_len (turn := turn) hs
  have := holds_len hold
  unfold actsP acts0
  simp only [List.length_append, List.length_cons, List.length_map, List.length_nil]
  omega
theorem start_run (hc : CaseOk c size st steps old new) {turn : Nat} (ht : turn < 4) {hold : Int} (hh : 0 ≤ hold ∧ hold < 3) {gone : Nat} (hg : gone < 16) :
    Run rs (actsP rs size turn steps hold gone) ⟨new.d (vAt rs), pf old (vAt rs), (holdP hold [] (dif eT.f (pf old (vAt rs)).f ++ [.cm old.root]) eT (pf old (vAt rs))).2.2, (holdP hold [] (dif eT.f (pf old (vAt rs)).f ++ [.cm old.root]) eT (pf old (vAt rs))).1, (holdP hold [] (dif eT.f (pf old (vAt rs)).f ++ [.cm old.root]) eT (pf old (vAt rs))).2.1⟩ 11 := by
  have co := can_of hc.ko.can
  have eo : encT (pf old (vAt rs)) = old.d (vAt rs) := co.enc
  have r1 := chain_run (by decide) (run0 (rs := rs)) (hc.front rs turn ht)
  rw [List.nil_append] at r1
  have r2 := r1.com (by decide) ⟨pf old (vAt rs), eo.symm, co.good, rfl⟩
  have r3 := hold_run r2 (by decide) hh
  have r4 := r3.quiet (by decide) (a := .rem (2 * (gone : Int) + 1)) ⟨old.d (vAt rs), rem_odd hc.ko (hc.odd rs (vAt rs)) hg, rfl⟩ rfl
  exact chain_run (by decide) r4 (hc.step rs)
noncomputable def lw (rs : List Int) (items : List D) : List (Str × V) := [("script", .d (.lst items)), ("base", .d (.key 0)), ("gap", .d (.int (G rs).gap)), ("s", .d (.raw 2 0))]
theorem x_empty : X1 (G rs) fLaw 30 (stAt fLaw 7) ⟨xs, σ⟩ .next ⟨setS "empty" (.d (encT eT)) xs, σ⟩ := fun n => by kernel_rfl
noncomputable def ly7 (rs : List Int) (items : List D) (old new : Tr) : List (Str × V) := [("script", .d (.lst items)), ("base", .d (.key 0)), ("gap", .d (.int (G rs).gap)), ("s", .d (.raw 2 0)), ("old", .d (old.d (vAt rs))), ("old_twin", .d (old.d (vAt rs))), ("new", .d (new.d (vAt rs))), ("new_twin", .d (new.d (vAt rs))), ("acts", .loc 1)]
theorem law_7 (kE : TOk tE) (rb : RB rs) (sc : Scr items) (hc : CaseOk c size st steps old new) {turn gone : Nat} (ht4 : turn < 4) (hg16 : gone < 16) (h : Sees xs (ly7 rs items old new)) : Ret (G rs) fLaw 171 7 xs [.lst (encAV (acts0 rs size turn)), .lst (encAV (actsP rs size turn steps (rs.getD 5 0) gone))] tru := by
  have ko := hc.ko
  have kn := hc.kn
  have co := can_of ko.can
  have eo : encT (pf old (vAt rs)) = old.d (vAt rs) := co.enc
  have eE : encT eT = tE.d (vAt rs) := (can_of (t := tE) (by kernel_rfl)).enc (v := vAt rs)
  have hh : 0 ≤ rs.getD 5 0 ∧ rs.getD 5 0 < 3 := ⟨rb.lo 5, rb.hi 5 (by decide) (by decide)⟩
  refine r_step rfl (x_empty.up (by decide)) ?_
  have h7 := h.put (x := "empty") (v := .d (encT eT)) rfl
  have gE : Good eT := (log_start).1 eT List.mem_cons_self
  have hd := ldiff_ok (rs := rs) gE (co.good (v := vAt rs))
  rw [eo] at hd
  have hdl := dif_len eT.f (pf old (vAt rs)).f
  refine r_step rfl (x_asgN (kp_fz (l := ((dif eT.f (pf old (vAt rs)).f ++ [Rec.cm old.root]).map encR).map V.d) (ev_bin (ev_fn (f := fLDiff) rfl (ne_cls (by decide)) rfl rfl (sl_cons (kp_val (pn h7 rfl rfl)) (sl_cons (kp_val (pn h7 rfl rfl)) sl_nil)) rfl (hd.up (by decide))) (ev_list (sl_cons (kp_val (ev_tup (v := .d (encR (.cm old.root))) (vs := [.d (.str "commit"), .d (.int old.root)]) (sl_cons (kp_val (ev_str ok_commit)) (sl_cons (kp_val (ev_idx rfl (pn h7 rfl rfl) ev_int rfl)) sl_nil)) rfl (by decide))) sl_nil) (by decide)) (b_catD (m := [.cm old.root]) ?_)) rfl (allD_d _)) rfl) ?_
  · unfold lim; simp only [List.length_cons, List.length_nil]; omega
  have h8 := h7.put (x := "first") (v := .d (encL (dif eT.f (pf old (vAt rs)).f ++ [.cm old.root]))) rfl
  have hold := lhold_ok (rs := rs) (k := rs.getD 5 0) (safe := []) (pend := dif eT.f (pf old (vAt rs)).f ++ [.cm old.root]) (disk := eT) (kept := pf old (vAt rs)) (by unfold lim; simp only [List.length_append, List.length_cons, List.length_nil]; omega)
  rw [eo] at hold
  have hrun := start_run (rs := rs) hc ht4 hh hg16
  have hlog := log_hold (log_com log_start (co.good (v := vAt rs))) (rs.getD 5 0)
  rw [List.nil_append] at hlog
  rw [show (pf old (vAt rs)).r = old.root from rfl] at hlog
  generalize hH : holdP (rs.getD 5 0) [] (dif eT.f (pf old (vAt rs)).f ++ [.cm old.root]) eT (pf old (vAt rs)) = H at *
  refine r_step rfl (x_asgU (l := [.d (encL H.1), .d (encL H.2.1), .d (encT H.2.2)]) rfl rfl (kp_val (ev_fn (f := fLHold) (us := [.d (.int (rs.getD 5 0)), .d (encL []), .d (encL (dif eT.f (pf old (vAt rs)).f ++ [.cm old.root])), .d (encT eT), .d (old.d (vAt rs))]) rfl (ne_cls (by decide)) rfl rfl (sl_cons (kp_val (ev_mod rb sc h8 rfl 5 (by decide) (by decide) rfl)) (sl_cons (kp_fz (l := []) (ds := []) (ev_list sl_nil (by decide)) rfl rfl) (sl_cons (kp_val (pn h8 rfl rfl)) (sl_cons (kp_val (pn h8 rfl rfl)) (sl_cons (kp_val (pn h8 rfl rfl)) sl_nil))))) rfl (hold.up (by decide)))) rfl (tos_cons (to_name rfl) (tos_cons (to_name rfl) (tos_cons (to_name rfl) tos_nil)))) ?_
  have h9 := ((h8.put (x := "safe") (v := .d (encL H.1)) rfl).put (x := "pend") (v := .d (encL H.2.1)) rfl).put (x := "disk") (v := .d (encT H.2.2)) rfl
  refine r_step (σ' := [.lst (encAV (acts0 rs size turn)), .lst (encAV (actsP rs size turn steps (rs.getD 5 0) gone)), .lst [.d (encT eT), .d (old.d (vAt rs))]]) rfl (x_asgT rfl rfl (ws_cons (kp_val (pn h9 rfl rfl)) (ws_cons (kp_val (pn h9 rfl rfl)) (ws_cons (kp_new (σ := [.lst (encAV (acts0 rs size turn)), .lst (encAV (actsP rs size turn steps (rs.getD 5 0) gone))]) (ev_list (sl_cons (kp_val (pn h9 rfl rfl)) (sl_cons (kp_val (pn h9 rfl rfl)) sl_nil)) (by decide)) rfl) ws_nil))) (tos_cons (to_name rfl) (tos_cons (to_name rfl) (tos_cons (to_name rfl) tos_nil)))) ?_
  have h10 := ((h9.put (x := "hand") (v := .d (new.d (vAt rs))) rfl).put (x := "kept") (v := .d (old.d (vAt rs))) rfl).put (x := "past") (v := .loc 2) rfl
  refine (law_11 (p := ⟨items, old, new, new, old, H.1, H.2.1, H.2.2, 1⟩) (mp := 2) (past := [tE, old]) (b := 11) (acts := actsP rs size turn steps (rs.getD 5 0) gone) rb sc ⟨h10.trans (.cons rfl (.cons rfl (.cons rfl (.cons rfl (.cons rfl (.cons rfl (.cons rfl (.cons rfl (.cons rfl (.cons rfl (.cons rfl (.cons rfl (.cons rfl (.cons rfl (.cons rfl .nil))))))))))))))), rfl, ?_, (by decide : (1 : Nat) ≠ 2)⟩ ⟨hlog, eqv_refl, hrun, fun t ht => ?_, ko, kn, kn, ko⟩ rfl (by decide) (actsP_len hc.sz hc.sl) (show 2 < 50 from by decide)).up (by decide)
  · rw [eE]; rfl
  · rcases List.mem_cons.mp ht with rfl | ht
    · exact kE
    · rw [List.mem_singleton.mp ht]; exact ko
theorem law_ok (kE : TOk tE) (rb : RB rs) (sc : Scr items) (hc : CaseOk (rs.getD 3 0) size st steps old new) : Cl (G rs) fLaw 180 [.d (.lst items)] [] tru [] := by
  have ko := hc.ko
  have kn := hc.kn
  have co := can_of ko.can
  have cn := can_of kn.can
  have rok := rb.rok
  have eo : encT (pf old (vAt rs)) = old.d (vAt rs) := co.enc
  have eE : encT eT = tE.d (vAt rs) := (can_of (t := tE) (by kernel_rfl)).enc (v := vAt rs)
  obtain ⟨turn, hturn⟩ : ∃ c : Nat, rs.getD 4 0 = (c : Int) := ⟨(rs.getD 4 0).toNat, (Int.toNat_of_nonneg (rb.lo 4)).symm⟩
  obtain ⟨gone, hgone⟩ : ∃ c : Nat, rs.getD 6 0 = (c : Int) := ⟨(rs.getD 6 0).toNat, (Int.toNat_of_nonneg (rb.lo 6)).symm⟩
  have ht4 : turn < 4 := by have := rb.hi 4 (by decide) (by decide); rw [show mods.getD 4 0 = 4 from rfl, hturn] at this; omega
  have hg16 : gone < 16 := by have := rb.hi 6 (by decide) (by decide); rw [show mods.getD 6 0 = 16 from rfl, hgone] at this; omega
  have hh : 0 ≤ rs.getD 5 0 ∧ rs.getD 5 0 < 3 := ⟨rb.lo 5, rb.hi 5 (by decide) (by decide)⟩
  have h0 : Sees (fLaw.params.zip [V.d (.lst items)]) [("script", .d (.lst items))] := .refl
  have tO := ltree_ok rok co.ok
  have tN := ltree_ok rok cn.ok
  have hA := lacts_ok rok ht4 hc.sz hh (gone := (gone : Int)) (by unfold smallI; omega) hc.sm hc.sl
  refine c_own rfl rfl (r_step rfl (x_iff (tt_cmp (fun n => rfl) (ev_b1 (r₁ := .val (.d (.int (items.length : Int)))) (fun n => rfl) (pn h0 rfl rfl) (ifp (c := _ = _) rfl (mpd (a := items.map V.d) rfl (by rw [List.length_map])))) ev_int (congrArg some (decide_eq_false (show ¬ ((items.length : Int) < 16) from by have := sc.len; omega)))) x_nil) ?_)
  refine r_step rfl (x_asgT rfl rfl (ws_cons (kp_val (ev_scr sc h0 rfl (j := 0) sc.key)) (ws_cons (kp_val (ev_bin (ev_mod rb sc h0 rfl 1 (by decide) (by decide) rfl) ev_int (b_int (y := .int (G rs).gap) rfl))) (ws_cons (kp_val (ev_scr sc h0 rfl (j := 2) (sc.raw 2 (by decide) (by decide)))) ws_nil))) (tos_cons (to_name rfl) (tos_cons (to_name rfl) (tos_cons (to_name rfl) tos_nil)))) ?_
  have h1 : Sees _ (lw rs items) := ((h0.put (x := "base") (v := .d (.key 0)) rfl).put (x := "gap") (v := .d (.int (G rs).gap)) rfl).put (x := "s") (v := .d (.raw 2 0)) rfl
  refine r_step rfl (x_asgN (kp_val (ev_idx rfl (ev_tab rfl rfl) (ev_mod rb sc h1 rfl 3 (by decide) (by decide) rfl) (hc.tab _))) rfl) ?_
  have h2 := h1.put (x := "case") (v := .d (.tup [.int st, .tup (steps.map .int), .tup (new.rows.map encRow), .int new.root])) rfl
  refine r_step rfl (x_asgU (l := [.d (.int size), .d (.tup (old.rows.map encRow)), .d (.int old.root)]) rfl rfl (kp_val (ev_idx rfl (ev_tab rfl rfl) (ev_idx rfl (pn h2 rfl rfl) ev_int rfl) (hc.tab2 _))) rfl (tos_cons (to_name rfl) (tos_cons (to_name rfl) (tos_cons (to_name rfl) tos_nil)))) ?_
  have h3 := ((h2.put (x := "size") (v := .d (.int size)) rfl).put (x := "rows") (v := .d (.tup (old.rows.map encRow))) rfl).put (x := "root") (v := .d (.int old.root)) rfl
  refine r_step rfl (x_asgT rfl rfl (ws_cons (kp_val (ev_fn (f := fLTree) rfl (ne_cls (by decide)) rfl rfl (sl_cons (kp_val (pn h3 rfl rfl)) (sl_cons (kp_val (pn h3 rfl rfl)) (sl_cons (kp_val (pn h3 rfl rfl)) (sl_cons (kp_val (pn h3 rfl rfl)) (sl_cons (kp_val (pn h3 rfl rfl)) sl_nil))))) rfl (tO.up (by decide)))) (ws_cons (kp_val (ev_fn (f := fLTree) rfl (ne_cls (by decide)) rfl rfl (sl_cons (kp_val (pn h3 rfl rfl)) (sl_cons (kp_val (pn h3 rfl rfl)) (sl_cons (kp_val (pn h3 rfl rfl)) (sl_cons (kp_val (pn h3 rfl rfl)) (sl_cons (kp_val (pn h3 rfl rfl)) sl_nil))))) rfl (tO.up (by decide)))) ws_nil)) (tos_cons (to_name rfl) (tos_cons (to_name rfl) tos_nil))) ?_
  have h4 := (h3.put (x := "old") (v := .d (old.d (vAt rs))) rfl).put (x := "old_twin") (v := .d (old.d (vAt rs))) rfl
  refine r_step rfl (x_asgT rfl rfl (ws_cons (kp_val (ev_fn (f := fLTree) rfl (ne_cls (by decide)) rfl rfl (sl_cons (kp_val (ev_idx rfl (pn h4 rfl rfl) ev_int rfl)) (sl_cons (kp_val (ev_idx rfl (pn h4 rfl rfl) ev_int rfl)) (sl_cons (kp_val (pn h4 rfl rfl)) (sl_cons (kp_val (pn h4 rfl rfl)) (sl_cons (kp_val (pn h4 rfl rfl)) sl_nil))))) rfl (tN.up (by decide)))) (ws_cons (kp_val (ev_fn (f := fLTree) rfl (ne_cls (by decide)) rfl rfl (sl_cons (kp_val (ev_idx rfl (pn h4 rfl rfl) ev_int rfl)) (sl_cons (kp_val (ev_idx rfl (pn h4 rfl rfl) ev_int rfl)) (sl_cons (kp_val (pn h4 rfl rfl)) (sl_cons (kp_val (pn h4 rfl rfl)) (sl_cons (kp_val (pn h4 rfl rfl)) sl_nil))))) rfl (tN.up (by decide)))) ws_nil)) (tos_cons (to_name rfl) (tos_cons (to_name rfl) tos_nil))) ?_
  have h5 := (h4.put (x := "new") (v := .d (new.d (vAt rs))) rfl).put (x := "new_twin") (v := .d (new.d (vAt rs))) rfl
  refine r_step (σ' := [.lst (encAV (acts0 rs size turn)), .lst (encAV (actsP rs size turn steps (rs.getD 5 0) gone))]) rfl (x_asgN (v := .loc 1) (kp_val (ev_fnS (f := fLActs) rfl (ne_cls (by decide)) rfl rfl (sl_cons (kp_val (pn h5 rfl rfl)) (sl_cons (kp_val (ev_idx rfl (pn h5 rfl rfl) ev_int rfl)) (sl_cons (kp_val (hturn ▸ ev_mod rb sc h5 rfl 4 (by decide) (by decide) rfl)) (sl_cons (kp_val (ev_mod rb sc h5 rfl 5 (by decide) (by decide) rfl)) (sl_cons (kp_val (hgone ▸ ev_mod rb sc h5 rfl 6 (by decide) (by decide) rfl)) (sl_cons (kp_val (pn h5 rfl rfl)) (sl_cons (kp_val (pn h5 rfl rfl)) (sl_cons (kp_val (pn h5 rfl rfl)) sl_nil)))))))) (hA.up (by decide)))) rfl) ?_
  have h6 := h5.put (x := "acts") (v := .loc 1) rfl
  exact (law_7 kE rb sc hc ht4 hg16 (h6.trans (.cons rfl (.cons rfl (.cons rfl (.cons rfl (.cons rfl (.cons rfl (.cons rfl (.cons rfl (.cons rfl .nil))))))))))).up (by decide)
end
end Mine.U
namespace Mine.S
open PySem
abbrev lcg (m i : Nat) : Nat := (i * 5 + 1) % (m + 1)
noncomputable def lcgs (m : Nat) : Nat → Nat → Nat
  | 0, i => i
  | t + 1, i => lcgs m t (lcg m i)
theorem lcgs_add (m : Nat) : ∀ a b i, lcgs m (a + b) i = lcgs m b (lcgs m a i)
  | 0, b, i => by simp [lcgs]
  | a + 1, b, i => by rw [show a + 1 + b = (a + b) + 1 by omega]; exact lcgs_add m a b (lcg m i)
noncomputable def maskOk (m : Nat) : Bool := m == 7 || m == 15 || m == 31 || m == 63 || m == 127
noncomputable def coverB (m : Nat) : Bool := (List.range (m + 1)).all (fun j => ((List.range (m + 1)).map fun t => lcgs m t 0).contains j) && lcgs m (m + 1) 0 == 0
theorem cover_all : coverB 7 = true ∧ coverB 15 = true ∧ coverB 31 = true ∧ coverB 63 = true ∧ coverB 127 = true := by decide +kernel
theorem coverB_of {m : Nat} (h : maskOk m = true) : coverB m = true := by
  obtain ⟨a, b, c, d, e⟩ := cover_all
  simp only [maskOk, Bool.or_eq_true, beq_iff_eq] at h
  rcases h with (((rfl | rfl) | rfl) | rfl) | rfl <;> assumption
theorem reach0 {m j : Nat} (h : maskOk m = true) (hj : j ≤ m) : ∃ t, t ≤ m ∧ lcgs m t 0 = j := by
  have q := coverB_of h
  simp only [coverB, Bool.and_eq_true, List.all_eq_true, List.mem_range, List.contains_iff_mem, List.mem_map] at q
  obtain ⟨t, h1, h2⟩ := q.1 j (by omega)
  exact ⟨t, by omega, h2⟩
theorem around0 {m : Nat} (h : maskOk m = true) : lcgs m (m + 1) 0 = 0 := by
  have q := coverB_of h
  simp only [coverB, Bool.and_eq_true, beq_iff_eq] at q
  exact q.2
theorem reach {m i j : Nat} (h : maskOk m = true) (hi : i ≤ m) (hj : j ≤ m) : ∃ t, t ≤ m ∧ lcgs m t i = j := by
  obtain ⟨a, ha, rfl⟩ := reach0 h hi
  obtain ⟨b, hb, rfl⟩ := reach0 h hj
  by_cases q : a ≤ b
  · refine ⟨b - a, by omega, ?_⟩
    rw [← lcgs_add, show a + (b - a) = b by omega]
  · refine ⟨m + 1 + b - a, by omega, ?_⟩
    rw [← lcgs_add, show a + (m + 1 + b - a) = (m + 1) + b by omega, lcgs_add, around0 h]
section
variable {mask : Nat} {owner : Array (Option Nat)}
theorem free_is : ∀ {fuel i p j : Nat}, SetTable.layClean.free mask owner fuel i p = some j → owner.getD j (some 0) = none
  | 0, _, _, _, h => by simp [SetTable.layClean.free] at h
  | fuel + 1, i, p, j, h => by
    unfold SetTable.layClean.free at h
    split at h
    · rename_i k hk
      cases h
      have := List.find?_some hk
      simpa using this
    · exact free_is h
theorem free_at {fuel i p : Nat} (h : owner.getD i (some 0) = none) : ∃ j, SetTable.layClean.free mask owner (fuel + 1) i p = some j := by
  unfold SetTable.layClean.free
  split
  · exact ⟨_, rfl⟩
  · rename_i hk
    have := List.find?_eq_none.mp hk 0 (by simp only [List.mem_range, SetTable.runEnd]; split <;> omega)
    simp [h] at this
theorem free_step {fuel i p : Nat} (h : ∃ j, SetTable.layClean.free mask owner fuel (SetTable.leap mask i p).1 (SetTable.leap mask i p).2 = some j) : ∃ j, SetTable.layClean.free mask owner (fuel + 1) i p = some j := by
  rw [SetTable.layClean.free]
  split
  · exact ⟨_, rfl⟩
  · exact h
theorem free_reach : ∀ {t fuel i : Nat}, owner.getD (lcgs mask t i) (some 0) = none → t < fuel → ∃ j, SetTable.layClean.free mask owner fuel i 0 = some j
  | 0, fuel + 1, i, h, _ => free_at h
  | t + 1, fuel + 1, i, h, q => by
    refine free_step ?_
    have : SetTable.leap mask i 0 = (lcg mask i, 0) := by simp [SetTable.leap, lcg]
    rw [this]
    exact free_reach (t := t) h (by omega)
theorem free_ex {i p j : Nat} (hm : maskOk mask = true) (hp : p < 64) (hj : j ≤ mask) (h : owner.getD j (some 0) = none) : ∃ k, SetTable.layClean.free mask owner (SetTable.turns mask) i p = some k := by
  rw [show SetTable.turns mask = (mask + 12 + 1) + 1 + 1 by simp [SetTable.turns]]
  refine free_step (free_step ?_)
  have e : (SetTable.leap mask (SetTable.leap mask i p).1 (SetTable.leap mask i p).2).2 = 0 := by simp only [SetTable.leap]; omega
  have l : (SetTable.leap mask (SetTable.leap mask i p).1 (SetTable.leap mask i p).2).1 ≤ mask := by simp only [SetTable.leap]; exact Nat.le_of_lt_succ (Nat.mod_lt _ (by omega))
  rw [e]
  obtain ⟨t, ht, q⟩ := reach hm l hj
  exact free_reach (t := t) (by rw [q]; exact h) (by omega)
end
theorem fm_set {α : Type} {f g : Nat → Option α} {j : Nat} {k : α} (hf : f j = none) (hg : g j = some k) (ho : ∀ i, i ≠ j → g i = f i) : ∀ {L : List Nat}, L.Nodup → j ∈ L → (L.filterMap g).Perm (k :: L.filterMap f)
  | [], _, h => by simp at h
  | a :: L, hn, h => by
    rw [List.nodup_cons] at hn
    by_cases q : a = j
    · subst q
      have e : L.filterMap g = L.filterMap f := by
        have : ∀ x ∈ L, g x = f x := fun x hx => ho x (fun e => hn.1 (e ▸ hx))
        clear hn h ho
        induction L with
        | nil => rfl
        | cons b L ih => rw [List.filterMap_cons, List.filterMap_cons, this b (by simp), ih fun x hx => this x (by simp [hx])]
      simp only [List.filterMap_cons, hg, hf, e]
      exact List.Perm.refl _
    · have hj : j ∈ L := by simpa [Ne.symm q] using h
      have ih := fm_set hf hg ho hn.2 hj
      simp only [List.filterMap_cons, ho a q]
      cases f a with
      | none => exact ih
      | some b => exact (ih.cons b).trans (List.Perm.swap _ _ _)
noncomputable def ordOf (mask : Nat) (owner : Array (Option Nat)) : List Nat := (List.range (mask + 1)).filterMap fun j => owner.getD j none
abbrev layStep (mask : Nat) (acc : Option (Array (Option Nat) × Nat)) (h : Int) : Option (Array (Option Nat) × Nat) := do
  let (owner, k) ← acc
  let j ← SetTable.layClean.free mask owner (SetTable.turns mask) (SetTable.bits h % (mask + 1)) (SetTable.bits h)
  pure (owner.setIfInBounds j (some k), k + 1)
theorem fm_len {α : Type} {f : Nat → Option α} : ∀ {L : List Nat}, (∀ j ∈ L, f j ≠ none) → (L.filterMap f).length = L.length
  | [], _ => rfl
  | a :: L, h => by
    have h1 := h a (by simp)
    cases e : f a with
    | none => exact absurd e h1
    | some b => simp [List.filterMap_cons, e, fm_len (L := L) (fun j hj => h j (by simp [hj]))]
theorem lay_step {mask : Nat} {owner : Array (Option Nat)} {k : Nat} {h : Int} (hm : maskOk mask = true) (hs : owner.size = mask + 1) (hp : (ordOf mask owner).Perm (List.range k)) (hk : k ≤ mask) (hb : SetTable.bits h < 64) :
    ∃ owner', layStep mask (some (owner, k)) h = some (owner', k + 1) ∧ owner'.size = mask + 1 ∧ (ordOf mask owner').Perm (List.range (k + 1)) := by
  have : ∃ j, j ≤ mask ∧ owner.getD j none = none := by
    apply Classical.byContradiction
    intro q
    have := fm_len (f := fun j => owner.getD j none) (L := List.range (mask + 1)) fun j hj e => q ⟨j, by have := List.mem_range.mp hj; omega, e⟩
    have l := hp.length_eq
    simp only [ordOf] at l
    rw [this] at l
    simp at l
    omega
  obtain ⟨j, hj, e⟩ := this
  have dflt : ∀ {i : Nat}, i ≤ mask → owner.getD i none = owner.getD i (some 0) := fun {i} q => by
    simp only [Array.getD]
    rw [dif_pos (by omega), dif_pos (by omega)]
  obtain ⟨i, q⟩ := free_ex (owner := owner) (i := SetTable.bits h % (mask + 1)) hm hb hj (by rw [← dflt hj]; exact e)
  have hi := free_is q
  have il : i < owner.size := by
    apply Classical.byContradiction
    intro n
    simp only [Array.getD] at hi
    rw [dif_neg n] at hi
    cases hi
  refine ⟨owner.setIfInBounds i (some k), by simp [layStep, q], by simp [hs], ?_⟩
  have := fm_set (f := fun j => owner.getD j none) (g := fun j => (owner.setIfInBounds i (some k)).getD j none) (j := i) (k := k) (by rw [dflt (by omega)]; exact hi) (by simp [Array.getD, il]) (fun x hx => by
    simp only [Array.getD, Array.size_setIfInBounds]
    split
    · rename_i hlt
      have := Array.getElem?_setIfInBounds_ne (xs := owner) (a := some k) (Ne.symm hx)
      rw [Array.getElem?_eq_getElem (by simpa using hlt), Array.getElem?_eq_getElem hlt] at this
      exact Option.some.inj this
    · rfl) (List.nodup_range (n := mask + 1)) (List.mem_range.mpr (by omega))
  refine this.trans ((hp.cons k).trans ?_)
  rw [List.range_succ]
  exact (List.perm_append_singleton k (List.range k)).symm
theorem lay_fold {mask : Nat} (hm : maskOk mask = true) : ∀ {hs : List Int} {owner : Array (Option Nat)} {k : Nat}, owner.size = mask + 1 → (ordOf mask owner).Perm (List.range k) → k + hs.length ≤ mask + 1 → (∀ h ∈ hs, SetTable.bits h < 64) →
    ∃ owner', hs.foldl (layStep mask) (some (owner, k)) = some (owner', k + hs.length) ∧ owner'.size = mask + 1 ∧ (ordOf mask owner').Perm (List.range (k + hs.length))
  | [], owner, k, h1, h2, _, _ => ⟨owner, rfl, h1, h2⟩
  | h :: hs, owner, k, h1, h2, h3, h4 => by
    simp only [List.length_cons] at h3
    obtain ⟨o, e, a, b⟩ := lay_step hm h1 h2 (by omega) (h4 h (by simp))
    obtain ⟨o', e', a', b'⟩ := lay_fold hm (hs := hs) a b (by omega) fun x hx => h4 x (by simp [hx])
    refine ⟨o', ?_, a', ?_⟩
    · rw [List.foldl_cons, e, e', List.length_cons]; congr 2; omega
    · rw [List.length_cons, show k + (hs.length + 1) = k + 1 + hs.length by omega]; exact b'
structure TabOk (t : SetTable) (n : Nat) (led : Bool) : Prop where
  mask : maskOk t.mask = true
  size : t.place.size = n
  dum : t.dummies = #[]
  plain : t.plain = true
  led : t.led = led
  rise : t.place.toList.Pairwise (· < ·)
  low : ∀ j ∈ t.place.toList, j ≤ t.mask
  fill : n ≤ t.mask
theorem laid_ok {mask finger moves : Nat} {led : Bool} {hashes : Array Int} (hm : maskOk mask = true) (hn : hashes.size ≤ mask) (hb : ∀ h ∈ hashes.toList, SetTable.bits h < 64) :
    ∃ t order, SetTable.laid mask finger moves led true hashes = some (t, order) ∧ order.toList.Perm (List.range hashes.size) ∧ TabOk t hashes.size led ∧ t.mask = mask ∧ t.finger = finger ∧ t.moves = moves := by
  have z : (ordOf mask (Array.replicate (mask + 1) none)).Perm (List.range 0) := by
    have : ordOf mask (Array.replicate (mask + 1) none) = [] := by
      simp only [ordOf, List.filterMap_eq_nil_iff]
      intro j hj
      simp only [Array.getD]
      split
      · simp
      · rfl
    rw [this]; exact List.Perm.refl _
  obtain ⟨o, e, hs, hp⟩ := lay_fold hm (hs := hashes.toList) (owner := Array.replicate (mask + 1) none) (k := 0) (by simp) z (by simp; omega) hb
  have lc : SetTable.layClean mask hashes = some o := by
    unfold SetTable.layClean
    rw [← Array.foldl_toList]
    have : hashes.toList.foldl (layStep mask) (some (Array.replicate (mask + 1) none, 0)) = some (o, 0 + hashes.toList.length) := e
    exact congrArg (Option.map (·.1)) this
  simp only [Nat.zero_add, Array.length_toList] at hp
  refine ⟨_, _, by unfold SetTable.laid; rw [lc]; rfl, ?_, ⟨hm, ?_, rfl, rfl, rfl, ?_, ?_, hn⟩, rfl, rfl, rfl⟩
  · simp only [List.map_filterMap]
    refine List.Perm.trans (List.Perm.of_eq ?_) hp
    simp only [ordOf]
    congr 1
    funext j
    cases o.getD j none <;> rfl
  · simp only [List.size_toArray, List.length_map]
    have l := hp.length_eq
    rw [List.length_range] at l
    rw [← l]
    simp only [ordOf]
    generalize List.range (mask + 1) = L
    induction L with
    | nil => rfl
    | cons a L ih =>
      simp only [List.filterMap_cons]
      cases o.getD a none with
      | none => exact ih
      | some b => exact congrArg (· + 1) ih
  · simp only [List.map_filterMap]
    refine List.Pairwise.sublist (l₂ := List.range (mask + 1)) ?_ List.pairwise_lt_range
    generalize List.range (mask + 1) = L
    induction L with
    | nil => exact List.Sublist.refl _
    | cons a L ih =>
      simp only [List.filterMap_cons]
      cases o.getD a none with
      | none => exact ih.cons a
      | some b => exact ih.cons_cons a
  · intro j hj
    simp only [List.map_filterMap, List.mem_filterMap] at hj
    obtain ⟨a, h1, h2⟩ := hj
    cases q : o.getD a none with
    | none => rw [q] at h2; cases h2
    | some b =>
      rw [q] at h2
      cases h2
      have := List.mem_range.mp h1
      show a ≤ mask
      omega
abbrev Rise (xs : Array Nat) : Prop := ∀ i k, i < k → k < xs.size → xs.getD i 0 < xs.getD k 0
theorem rise_of {xs : Array Nat} (h : xs.toList.Pairwise (· < ·)) : Rise xs := by
  intro i k hik hk
  have := List.pairwise_iff_getElem.mp h i k (by simp; omega) (by simpa using hk) hik
  simpa [Array.getD, hk, (by omega : i < xs.size)] using this
theorem getD_any {xs : Array Nat} {i a b : Nat} (h : i < xs.size) : xs.getD i a = xs.getD i b := by simp [Array.getD, h]
theorem below_go {xs : Array Nat} {j : Nat} (hr : Rise xs) : ∀ {fuel lo hi : Nat}, hi - lo ≤ fuel → lo ≤ hi → hi ≤ xs.size → (∀ i, i < lo → xs.getD i 0 < j) → (∀ i, hi ≤ i → i < xs.size → j ≤ xs.getD i 0) →
    (SetTable.below.go xs j fuel lo hi ≤ xs.size ∧ (∀ i, i < SetTable.below.go xs j fuel lo hi → xs.getD i 0 < j) ∧ ∀ i, SetTable.below.go xs j fuel lo hi ≤ i → i < xs.size → j ≤ xs.getD i 0)
  | 0, lo, hi, h1, h2, h3, h4, h5 => by
    have : hi = lo := by omega
    subst this
    exact ⟨h3, h4, h5⟩
  | fuel + 1, lo, hi, h1, h2, h3, h4, h5 => by
    unfold SetTable.below.go
    split
    · rename_i hl
      have hm : (lo + hi) / 2 < xs.size := by omega
      dsimp only
      rw [getD_any (b := 0) hm]
      by_cases q : xs.getD ((lo + hi) / 2) 0 < j
      · rw [if_pos q]
        refine below_go hr (by omega) (by omega) h3 (fun i hi' => ?_) h5
        by_cases e : i = (lo + hi) / 2
        · subst e; exact q
        · exact Nat.lt_trans (hr i _ (by omega) hm) q
      · rw [if_neg q]
        refine below_go hr (by omega) (by omega) (by omega) h4 (fun i hi' hs => ?_)
        by_cases e : i = (lo + hi) / 2
        · subst e; omega
        · have := hr _ i (by omega : (lo + hi) / 2 < i) hs; omega
    · have : hi = lo := by omega
      subst this
      exact ⟨h3, h4, h5⟩
theorem below_spec {xs : Array Nat} (j : Nat) (hr : Rise xs) : SetTable.below xs j ≤ xs.size ∧ (∀ i, i < SetTable.below xs j → xs.getD i 0 < j) ∧ ∀ i, SetTable.below xs j ≤ i → i < xs.size → j ≤ xs.getD i 0 :=
  below_go hr (by omega) (by omega) (by omega) (fun i h => by omega) fun i h h' => by omega
open PySem
section
variable {t : SetTable} {n : Nat} {led : Bool} {h : Int}
theorem has_nil (j : Nat) : SetTable.has #[] j = false := rfl
theorem slot_in {j : Nat} (hr : t.place.toList.Pairwise (· < ·)) (hj : j ∈ t.place.toList) : t.slot j ≠ .empty := by
  have hs := below_spec j (rise_of hr)
  obtain ⟨k, hk, e⟩ := List.getElem_of_mem hj
  rw [Array.length_toList] at hk
  have e' : t.place.getD k 0 = j := by simp [Array.getD, hk]; simpa using e
  have h1 : SetTable.below t.place j ≤ k := Nat.not_lt.mp fun q => by have := hs.2.1 k q; omega
  have hb : SetTable.below t.place j < t.place.size := Nat.lt_of_le_of_lt h1 hk
  have h2 := hs.2.2 _ (Nat.le_refl _) hb
  have h3 : t.place.getD (SetTable.below t.place j) 0 = j := by
    by_cases q : SetTable.below t.place j = k
    · rw [q]; exact e'
    · have := rise_of hr _ k (by omega : SetTable.below t.place j < k) hk
      omega
  have h4 : t.place[SetTable.below t.place j]? = some j := by
    rw [Array.getElem?_eq_getElem hb]
    simp [Array.getD, hb] at h3
    rw [h3]
  unfold SetTable.slot
  simp only [h4, beq_self_eq_true, if_true]
  exact fun q => nomatch q
theorem slot_out {j : Nat} (hd : t.dummies = #[]) (hj : j ∉ t.place.toList) : t.slot j = .empty := by
  unfold SetTable.slot
  have : (t.place[SetTable.below t.place j]? == some j) = false := by
    rw [beq_eq_false_iff_ne]
    intro e
    obtain ⟨hk, e⟩ := Array.getElem?_eq_some_iff.mp e
    exact hj (by rw [← e]; exact Array.mem_toList_iff.mpr (Array.getElem_mem hk))
  simp only [this, hd, has_nil, Bool.false_eq_true, if_false]
theorem slot_nd {j : Nat} (hd : t.dummies = #[]) : t.slot j ≠ .dummy := by
  unfold SetTable.slot
  rw [hd]
  simp only [has_nil, Bool.false_eq_true, if_false]
  split <;> exact fun q => nomatch q
theorem all_le : ∀ (n : Nat) (l : List Nat), (∀ j, j < n → j ∈ l) → n ≤ l.length
  | 0, l, _ => Nat.zero_le _
  | n + 1, l, h => by
    have h1 := h n (Nat.lt_succ_self _)
    have := all_le n (l.erase n) fun j hj => (List.mem_erase_of_ne (Nat.ne_of_lt hj)).mpr (h j (Nat.lt_succ_of_lt hj))
    rw [List.length_erase_of_mem h1] at this
    have := List.length_pos_of_mem h1
    omega
theorem empty_ex (hs : t.place.size ≤ t.mask) : ∃ j, j ≤ t.mask ∧ j ∉ t.place.toList := by
  apply Classical.byContradiction
  intro q
  have := all_le (t.mask + 1) t.place.toList fun j hj => Classical.byContradiction fun m => q ⟨j, by omega, m⟩
  rw [Array.length_toList] at this
  omega
noncomputable def pS (t : SetTable) (i pert : Nat) : SetTable.Probe := { j := i, more := SetTable.runEnd t.mask i - i, i, perturb := pert, dummy := none }
theorem run_le {m i : Nat} (h : i ≤ m) : SetTable.runEnd m i ≤ m ∧ SetTable.runEnd m i - i ≤ 9 := by
  unfold SetTable.runEnd
  split <;> omega
theorem run_ge {m i : Nat} : i ≤ SetTable.runEnd m i := by
  unfold SetTable.runEnd
  split <;> omega
theorem go_is (hd : t.dummies = #[]) : ∀ (fuel : Nat) (p : SetTable.Probe) {m : SetTable.Met}, p.dummy = none → p.j + p.more ≤ t.mask → SetTable.probe.go t (fun _ => h + 1) h fuel p = some m → ∃ j, m = .empty j none ∧ t.slot j = .empty ∧ j ≤ t.mask
  | 0, p, m, _, _, e => by simp [SetTable.probe.go] at e
  | fuel + 1, p, m, h1, h2, e => by
    have adv : (t.advance p).dummy = none ∧ (t.advance p).j + (t.advance p).more ≤ t.mask := by
      unfold SetTable.advance
      split
      · exact ⟨h1, by dsimp only; omega⟩
      · refine ⟨h1, ?_⟩
        have h3 := run_le (m := t.mask) (i := (SetTable.leap t.mask p.i p.perturb).1) (Nat.le_of_lt_succ (Nat.mod_lt _ (Nat.succ_pos _)))
        have h4 := run_ge (m := t.mask) (i := (SetTable.leap t.mask p.i p.perturb).1)
        show (SetTable.leap t.mask p.i p.perturb).1 + (SetTable.runEnd t.mask (SetTable.leap t.mask p.i p.perturb).1 - (SetTable.leap t.mask p.i p.perturb).1) ≤ t.mask
        omega
    rw [SetTable.probe.go] at e
    split at e
    · rename_i hs
      cases e
      exact ⟨p.j, by rw [h1], hs, by omega⟩
    · rename_i hs; exact absurd hs (slot_nd hd)
    · rw [if_neg (by simp; omega)] at e
      exact go_is hd fuel _ adv.1 adv.2 e
theorem go_run (hd : t.dummies = #[]) (i pert fuel : Nat) (hx : ∃ x, SetTable.probe.go t (fun _ => h + 1) h fuel (pS t (SetTable.leap t.mask i pert).1 (SetTable.leap t.mask i pert).2) = some x) (m : Nat) : ∀ (j : Nat), ∃ x, SetTable.probe.go t (fun _ => h + 1) h (fuel + m + 1) { j, more := m, i, perturb := pert, dummy := none } = some x := by
  induction m with
  | zero =>
    intro j
    rw [SetTable.probe.go]
    split
    · exact ⟨_, rfl⟩
    · rename_i hs; exact absurd hs (slot_nd hd)
    · rw [if_neg (by simp; omega)]
      exact hx
  | succ m ih =>
    intro j
    rw [SetTable.probe.go]
    split
    · exact ⟨_, rfl⟩
    · rename_i hs; exact absurd hs (slot_nd hd)
    · rw [if_neg (by simp; omega)]
      exact ih (j + 1)
theorem go_more (hd : t.dummies = #[]) : ∀ (fuel k : Nat) (p : SetTable.Probe), (∃ x, SetTable.probe.go t (fun _ => h + 1) h fuel p = some x) → ∃ x, SetTable.probe.go t (fun _ => h + 1) h (fuel + k) p = some x
  | 0, k, p, hx => by simp [SetTable.probe.go] at hx
  | fuel + 1, k, p, hx => by
    rw [show fuel + 1 + k = fuel + k + 1 by omega]
    rw [SetTable.probe.go] at hx ⊢
    split
    · exact ⟨_, rfl⟩
    · rename_i hs; exact absurd hs (slot_nd hd)
    · rename_i hs
      rw [hs] at hx
      simp only at hx
      rw [if_neg (by simp; omega)] at hx ⊢
      exact go_more hd fuel k _ hx
theorem go_leap (hd : t.dummies = #[]) {i pert fuel : Nat} (hi : i ≤ t.mask) (hx : ∃ x, SetTable.probe.go t (fun _ => h + 1) h fuel (pS t (SetTable.leap t.mask i pert).1 (SetTable.leap t.mask i pert).2) = some x) : ∃ x, SetTable.probe.go t (fun _ => h + 1) h (fuel + 10) (pS t i pert) = some x := by
  have hr := (run_le hi).2
  have := go_more hd _ (9 - (SetTable.runEnd t.mask i - i)) _ (go_run hd i pert fuel hx (SetTable.runEnd t.mask i - i) i)
  rw [show fuel + (SetTable.runEnd t.mask i - i) + 1 + (9 - (SetTable.runEnd t.mask i - i)) = fuel + 10 by omega] at this
  exact this
theorem go_reach (hd : t.dummies = #[]) : ∀ (k i : Nat), i ≤ t.mask → t.slot (lcgs t.mask k i) = .empty → ∃ x, SetTable.probe.go t (fun _ => h + 1) h (10 * k + 1) (pS t i 0) = some x
  | 0, i, _, hs => by
    have hs : t.slot i = .empty := hs
    rw [SetTable.probe.go]
    show ∃ x, (match t.slot i with | .empty => _ | .dummy => _ | .live _ => _) = some x
    rw [hs]
    exact ⟨_, rfl⟩
  | k + 1, i, hi, hs => by
    have e : SetTable.leap t.mask i 0 = (lcg t.mask i, 0) := by simp [SetTable.leap, lcg]
    have := go_leap (h := h) (pert := 0) (fuel := 10 * k + 1) hd hi (by rw [e]; exact go_reach hd k (lcg t.mask i) (Nat.le_of_lt_succ (Nat.mod_lt _ (Nat.succ_pos _))) hs)
    rw [show 10 * (k + 1) + 1 = 10 * k + 1 + 10 by omega]
    exact this
theorem free_slot (T : TabOk t n led) (hb : SetTable.bits h < 64) : ∃ j, t.freeSlot h = some (j, false) ∧ j ∉ t.place.toList ∧ j ≤ t.mask := by
  obtain ⟨j, hj, hn⟩ := empty_ex (t := t) (by rw [T.size]; exact T.fill)
  have ex : ∃ x, SetTable.probe t (fun _ => h + 1) h (t.probeStart h) = some x := by
    have lm : ∀ i p, (SetTable.leap t.mask i p).1 ≤ t.mask := fun i p => Nat.le_of_lt_succ (Nat.mod_lt _ (Nat.succ_pos _))
    have hi : SetTable.bits h % (t.mask + 1) ≤ t.mask := Nat.le_of_lt_succ (Nat.mod_lt _ (Nat.succ_pos _))
    generalize h1 : SetTable.leap t.mask (SetTable.bits h % (t.mask + 1)) (SetTable.bits h) = l1
    generalize h2 : SetTable.leap t.mask l1.1 l1.2 = l2
    have e2 : l2.2 = 0 := by rw [← h2, ← h1]; simp only [SetTable.leap]; omega
    obtain ⟨k, hk, e⟩ := reach T.mask (by rw [← h2]; exact lm _ _ : l2.1 ≤ t.mask) hj
    have g := go_reach (h := h) T.dum k l2.1 (by rw [← h2]; exact lm _ _) (by rw [e]; exact slot_out T.dum hn)
    have g2 := go_leap (h := h) (i := l1.1) (pert := l1.2) T.dum (by rw [← h1]; exact lm _ _) (by rw [h2, e2]; exact g)
    have g3 := go_leap (h := h) (i := SetTable.bits h % (t.mask + 1)) (pert := SetTable.bits h) T.dum hi (by rw [h1]; exact g2)
    have g4 := go_more T.dum _ (10 * SetTable.turns t.mask - (10 * k + 1 + 10 + 10)) _ g3
    rw [show 10 * k + 1 + 10 + 10 + (10 * SetTable.turns t.mask - (10 * k + 1 + 10 + 10)) = 10 * SetTable.turns t.mask by unfold SetTable.turns; omega] at g4
    exact g4
  obtain ⟨m, hm⟩ := ex
  have hr := run_le (m := t.mask) (i := SetTable.bits h % (t.mask + 1)) (Nat.le_of_lt_succ (Nat.mod_lt _ (Nat.succ_pos _)))
  obtain ⟨k, rfl, hs, hk⟩ := go_is (h := h) T.dum _ _ (by rfl) (by show SetTable.bits h % (t.mask + 1) + (SetTable.runEnd t.mask (SetTable.bits h % (t.mask + 1)) - SetTable.bits h % (t.mask + 1)) ≤ t.mask; have := run_ge (m := t.mask) (i := SetTable.bits h % (t.mask + 1)); omega) hm
  refine ⟨k, ?_, fun q => slot_in T.rise q hs, hk⟩
  unfold SetTable.freeSlot
  rw [hm]; rfl
theorem put_ok (T : TabOk t n led) {j : Nat} (hj : j ∉ t.place.toList) (hm : j ≤ t.mask) (hn : n + 1 ≤ t.mask) : TabOk (t.put j).1 (n + 1) led ∧ (t.put j).1.mask = t.mask ∧ (t.put j).2 ≤ n := by
  have hs := below_spec j (rise_of T.rise)
  have ep : (t.put j).1.place.toList = t.place.toList.take (SetTable.below t.place j) ++ j :: t.place.toList.drop (SetTable.below t.place j) := SetTable.toList_insertAt _ _ _
  have ed : (t.put j).1.dummies = #[] := by
    show (if SetTable.has t.dummies j = true then _ else t.dummies) = #[]
    rw [T.dum, has_nil]; rfl
  refine ⟨⟨T.mask, ?_, ed, T.plain, T.led, ?_, ?_, hn⟩, rfl, by rw [← T.size]; exact hs.1⟩
  · rw [← Array.length_toList, ep, List.length_append, List.length_cons, List.length_take, List.length_drop, Array.length_toList, T.size]
    have := hs.1
    rw [T.size] at this
    omega
  · rw [ep]
    have hlt : ∀ x ∈ t.place.toList.take (SetTable.below t.place j), x < j := fun x hx => by
      obtain ⟨k, hk, e⟩ := List.getElem_of_mem hx
      rw [List.length_take, Array.length_toList] at hk
      have := hs.2.1 k (by omega)
      rw [List.getElem_take] at e
      have e' : t.place.getD k 0 = x := by simp [Array.getD, (by omega : k < t.place.size)]; simpa using e
      omega
    have hgt : ∀ x ∈ t.place.toList.drop (SetTable.below t.place j), j < x := fun x hx => by
      obtain ⟨k, hk, e⟩ := List.getElem_of_mem hx
      rw [List.length_drop, Array.length_toList] at hk
      have := hs.2.2 (SetTable.below t.place j + k) (by omega) (by omega)
      rw [List.getElem_drop] at e
      have e' : t.place.getD (SetTable.below t.place j + k) 0 = x := by simp [Array.getD, (by omega : SetTable.below t.place j + k < t.place.size)]; simpa using e
      have : x ≠ j := fun q => hj (q ▸ List.mem_of_mem_drop hx)
      omega
    refine List.pairwise_append.mpr ⟨T.rise.sublist (List.take_sublist _ _), List.pairwise_cons.mpr ⟨hgt, T.rise.sublist (List.drop_sublist _ _)⟩, fun x hx y hy => ?_⟩
    rcases List.mem_cons.mp hy with rfl | hy
    · exact hlt x hx
    · exact Nat.lt_trans (hlt x hx) (hgt y hy)
  · intro x hx
    rw [ep] at hx
    rcases List.mem_append.mp hx with hx | hx
    · exact T.low x (List.mem_of_mem_take hx)
    · rcases List.mem_cons.mp hx with rfl | hx
      · exact hm
      · exact T.low x (List.mem_of_mem_drop hx)
end
open PySem PyProof.Rows PySem.Calls
noncomputable def setObj (es : Array (Int × Value)) (ep : Nat) (t : SetTable) : Obj := { cls := .type "set", dict := none, data := .set es ep t, slots := #[] }
noncomputable def Ents (es : List (Int × Value)) : Prop := ∀ e ∈ es, ∃ k tok, e = (k, .int k tok) ∧ 0 ≤ k ∧ k < 64
noncomputable def keysE (es : Array (Int × Value)) : List Int := es.toList.map (·.1)
noncomputable def addK (l : List Int) (k : Int) : List Int := if l.contains k then l else l ++ [k]
theorem hash_small {k : Int} (h : 0 ≤ k ∧ k < 64) : hashInt k = k := by
  obtain ⟨n, rfl⟩ : ∃ n : Nat, k = n := ⟨k.toNat, by omega⟩
  have : ∀ n : Fin 64, hashInt ((n : Nat) : Int) = (n : Nat) := by decide +kernel
  exact this ⟨n, by omega⟩
theorem bits_small {k : Int} (h : 0 ≤ k ∧ k < 64) : SetTable.bits k < 64 := by
  unfold SetTable.bits
  rw [Int.emod_eq_of_lt h.1 (by omega)]
  omega
structure SA (h : Heap) (a : Addr) (led : Bool) (rem : Nat) (es : Array (Int × Value)) (ep : Nat) (t : SetTable) : Prop where
  at_ : h.get? a = some (setObj es ep t)
  ents : Ents es.toList
  tab : TabOk t es.size led
  room : (es.size + rem) * 5 < t.mask * 3
section
variable {prog : Program} {w : World} {A : Around} {E : Value → Shared → Prop} {s : Shared} {a : Addr} {led : Bool} {rem n : Nat} {es : Array (Int × Value)} {ep : Nat} {t : SetTable} {k : Int} {tok : Tok}
theorem TabOk.fits (T : TabOk t n led) : t.fits n = true := by
  unfold SetTable.fits SetTable.fill
  rw [T.size, T.dum]
  simp [T.fill]
theorem Ents.elems (h : Ents es.toList) : ElemsOf (intKind prog w) es.toList := fun e he => by
  obtain ⟨k, tok, rfl, hk⟩ := h e he
  exact ⟨⟨k, by simp [intKind, Value.isInt], (hash_small hk).symm⟩, rfl⟩
theorem mask_le (T : TabOk t n led) : t.mask ≤ 127 := by
  have := T.mask
  simp only [maskOk, Bool.or_eq_true, beq_iff_eq] at this
  omega
theorem SA.add {Q : Bool → Shared → Prop} (S : SA s.heap a led (rem + 1) es ep t) (hk : 0 ≤ k ∧ k < 64)
    (h : ∀ b h' es' ep' t', Heap.SameBut a s.heap h' → SA h' a led rem es' ep' t' → (keysE es').Perm (addK (keysE es) k) → Q b { s with heap := h' }) : wpAny (model prog w) A (setAddHashed a (.int k tok) k) Q E s := by
  have hml := mask_le S.tab
  have hsz : es.size < 4096 := by have := S.tab.fill; omega
  have hel : ElemsOf (intKind prog w) es.toList := S.ents.elems
  have hkey : (intKind prog w).is k (.int k tok) = true := by simp [intKind, Value.isInt]
  have hh : (intKind prog w).hash k = k := hash_small hk
  have hroom := S.room
  have hnm : es.size + 1 ≤ t.mask := by omega
  unfold setAddHashed setAddHashedIn
  refine wpAny_holding (wpAny_bind (wpAny_setState_of S.at_ rfl S.tab.fits ?_))
  dsimp only
  rw [byScan_of (knd := intKind prog w) rfl hsz hel]
  simp only [↓reduceIte]
  unfold setAddByScan
  refine wpAny_bind ?_
  refine wpAny_bind (wpAny_rule ?_)
  have hsc := wpAny_setScan_of (prog := prog) (w := w) (A := A) (E := E) (s := s) (knd := intKind prog w) (adding := true) hkey S.at_ rfl S.tab.fits hel (Q := fun r s' => s' = s ∧ r = match es.toList.findIdx? (fun e => (intKind prog w).is k e.2) with | some j => .found (0 + j) | none => .absent)
  rw [hh] at hsc
  refine wpAny_bind (wpAny_mono (hsc ⟨rfl, rfl⟩) (fun r s' q => ?_) fun _ _ q => q)
  obtain ⟨rfl, rfl⟩ := q
  cases hr : List.findIdx? (fun e => (intKind prog w).is k e.2) es.toList with
  | some j =>
    dsimp only
    obtain ⟨hj, hpj, _⟩ := List.findIdx?_eq_some_iff_getElem.mp hr
    have hmem : k ∈ keysE es := by
      obtain ⟨k', tok', e, _⟩ := S.ents _ (List.getElem_mem hj)
      rw [e] at hpj
      have : k' = k := by simpa [intKind, Value.isInt] using hpj
      exact List.mem_map.mpr ⟨_, List.getElem_mem hj, by rw [e]; exact this⟩
    refine wpAny_pure (wpAny_pure ?_)
    have := h false s'.heap es ep t (Heap.SameBut.refl a s'.heap) ⟨S.at_, S.ents, S.tab, by omega⟩ (by unfold addK; rw [if_pos (List.contains_iff_mem.mpr hmem)])
    exact this
  | none =>
    dsimp only
    have hnm' : k ∉ keysE es := fun q => by
      obtain ⟨e, he, rfl⟩ := List.mem_map.mp q
      obtain ⟨k', tok', rfl, _⟩ := S.ents _ he
      have := List.findIdx?_eq_none_iff.mp hr _ he
      simp [intKind, Value.isInt] at this
    obtain ⟨j, hf, hj, hjm⟩ := free_slot S.tab (bits_small hk)
    obtain ⟨T', hm', _⟩ := put_ok S.tab hj hjm hnm
    have hL : layNew t es k (.int k tok) = (SetTable.insertAt es (t.put j).2 (k, .int k tok), (t.put j).1, false, false) := by
      have hs' : (SetTable.insertAt es (t.put j).2 (k, Value.int k tok)).size = es.size + 1 := by
        rw [← Array.length_toList, (SetTable.insertAt_perm es _ _).length_eq, Array.length_toList, Array.size_push]
      unfold layNew
      rw [hf]
      simp only
      rw [hs']
      unfold SetTable.orStandIn
      rw [T'.fits]; rfl
    have hperm : (SetTable.insertAt es (t.put j).2 (k, Value.int k tok)).toList.Perm (es.toList ++ [(k, .int k tok)]) := by
      have := SetTable.insertAt_perm es (t.put j).2 (k, Value.int k tok)
      rwa [Array.toList_push] at this
    generalize SetTable.insertAt es (t.put j).2 (k, Value.int k tok) = es1 at hL hperm
    generalize (t.put j).1 = t1 at hL T' hm'
    have hs1 : es1.size = es.size + 1 := by rw [← Array.length_toList, hperm.length_eq, List.length_append, Array.length_toList]; rfl
    rw [hL]
    dsimp only
    refine wpAny_bind (wpAny_pure ?_)
    rw [T'.plain]
    simp only [↓reduceIte]
    rw [hashByValue_scannable 8 rfl]
    refine wpAny_bind (wpAny_pure ?_)
    simp only [plainKind, ↓reduceIte]
    refine wpAny_bind (wpAny_storeSet_of S.at_ rfl ?_ (by rw [hs1]; exact fits_of_scanBound (Nat.lt_of_le_of_lt (Nat.le_trans hnm hml) (by decide))))
    have hfull : t1.tooFull = false := by
      unfold SetTable.tooFull SetTable.fill
      rw [T'.size, T'.dum, hm']
      simp
      omega
    rw [hfull]
    simp only [Bool.not_false, Bool.and_false, Bool.false_eq_true, ↓reduceIte]
    refine wpAny_pure (wpAny_pure ?_)
    have hg : (s'.heap.update a (Obj.putSet es1 t1)).get? a = some (setObj es1 (ep + 1) t1) := by
      have := Heap.get?_update_self (Obj.putSet es1 t1) S.at_ (by rw [putSet_of es1 t1 rfl]; rfl)
      rw [putSet_of es1 t1 rfl] at this; exact this
    refine h true _ es1 (ep + 1) t1 (Heap.SameBut.update s'.heap a _) ⟨hg, fun e he => ?_, by rw [hs1]; exact T', by rw [hs1, hm']; omega⟩ ?_
    · rcases List.mem_append.mp (hperm.mem_iff.mp he) with q | q
      · exact S.ents e q
      · exact ⟨k, tok, List.mem_singleton.mp q, hk⟩
    · unfold addK
      rw [if_neg (by rw [List.contains_iff_mem]; exact hnm')]
      have := hperm.map (·.1)
      rw [List.map_append] at this
      exact this
end
open PySem PyProof.Rows PySem.Calls
structure SB (h : Heap) (a : Addr) (led : Bool) (es : Array (Int × Value)) (ep : Nat) (t : SetTable) : Prop where
  at_ : h.get? a = some (setObj es ep t)
  ents : Ents es.toList
  tab : TabOk t es.size led
theorem above_small : ∀ w : Fin 81, maskOk (SetTable.sizeAbove w - 1) = true ∧ (w : Nat) < SetTable.sizeAbove w := by decide +kernel
section
variable {prog : Program} {w : World} {A : Around} {E : Value → Shared → Prop} {s : Shared} {a : Addr} {led : Bool} {rem n : Nat} {es : Array (Int × Value)} {ep : Nat} {t : SetTable} {k : Int} {tok : Tok}
theorem SB.sa (S : SB s.heap a led es ep t) {more : Nat} (h : (es.size + more) * 5 < t.mask * 3) : SA s.heap a led more es ep t := ⟨S.at_, S.ents, S.tab, h⟩
theorem order_es {order : Array Nat} (hp : order.toList.Perm (List.range es.size)) : (order.filterMap (es[·]?)).toList.Perm es.toList := by
  rw [Array.toList_filterMap]
  exact (hp.filterMap _).trans (by rw [filterMap_getElem?_range])
theorem store_sb {Q : Unit → Shared → Prop} {es' : Array (Int × Value)} {t' : SetTable} (ho : s.heap.get? a = some (setObj es ep t)) (hz : es'.size ≤ sizeLine) (h : ∀ h', Heap.SameBut a s.heap h' → h'.get? a = some (setObj es' (ep + 1) t') → Q () { s with heap := h' }) : wpAny (model prog w) A (storeSet a es' t') Q E s := by
  refine wpAny_storeSet_of ho rfl (h _ (Heap.SameBut.update s.heap a _) ?_) hz
  have := Heap.get?_update_self (Obj.putSet es' t') ho (by rw [putSet_of es' t' rfl]; rfl)
  rw [putSet_of es' t' rfl] at this; exact this
theorem Ents.perm {l l' : List (Int × Value)} (h : Ents l) (p : l'.Perm l) : Ents l' := fun e he => h e (p.mem_iff.mp he)
theorem SB.relay {Q : Unit → Shared → Prop} (S : SB s.heap a led es ep t) {wanted : Nat} (hw : wanted ≤ 80) (hn : es.size ≤ wanted)
    (h : ∀ h' es' ep' t', Heap.SameBut a s.heap h' → SB h' a led es' ep' t' → es'.toList.Perm es.toList → t'.mask = SetTable.sizeAbove wanted - 1 → Q () { s with heap := h' }) : wpAny (model prog w) A (setRelay a wanted) Q E s := by
  obtain ⟨hm, hlt⟩ := above_small ⟨wanted, by omega⟩
  simp only at hm hlt
  have hb : ∀ x ∈ (es.map (·.1)).toList, SetTable.bits x < 64 := fun x hx => by
    rw [Array.toList_map] at hx
    obtain ⟨e, he, rfl⟩ := List.mem_map.mp hx
    obtain ⟨k, tok, rfl, hk⟩ := S.ents e he
    exact bits_small hk
  obtain ⟨t', order, hl, hp, T', hmk, _, _⟩ := laid_ok (finger := t.finger) (moves := t.movedTo (SetTable.sizeAbove wanted - 1)) (led := led) (hashes := es.map (·.1)) hm (by rw [Array.size_map]; omega) hb
  rw [Array.size_map] at hp T'
  have hpe := order_es (es := es) hp
  have hse : (order.filterMap (es[·]?)).size = es.size := by rw [← Array.length_toList, hpe.length_eq, Array.length_toList]
  have hr : t.relaid (es.map (·.1)) wanted = some (t', order) := by
    unfold SetTable.relaid
    rw [S.tab.led, S.tab.plain]; exact hl
  have hml := mask_le T'
  have hsz : es.size ≤ sizeLine := Nat.le_trans (Nat.le_trans hn hw) (by decide)
  unfold setRelay
  refine wpAny_bind (wpAny_setState_of S.at_ rfl S.tab.fits ?_)
  dsimp only
  have hsl : ¬ SetTable.sizeAbove wanted > sizeLine := by
    have : sizeLine ≥ 200 := by decide
    rw [hmk] at hml
    omega
  rw [if_neg hsl]
  refine wpAny_bind ?_
  wp_delta
  rw [hr]
  dsimp only
  rw [show ((order.filterMap (es[·]?)).size != es.size) = false from by rw [hse]; exact bne_self_eq_false _]
  simp only [Bool.false_eq_true, ↓reduceIte]
  refine wpAny_pure (store_sb S.at_ (by rw [hse]; exact hsz) fun h' hsb hg => h h' _ _ _ hsb ⟨hg, S.ents.perm hpe, by rw [hse]; exact T'⟩ hpe hmk)
theorem SB.room {Q : Unit → Shared → Prop} (S : SB s.heap a led es ep t) {more : Nat} (hn : es.size + more ≤ 40)
    (h : ∀ h' es' ep' t', Heap.SameBut a s.heap h' → SA h' a led more es' ep' t' → es'.toList.Perm es.toList → Q () { s with heap := h' }) : wpAny (model prog w) A (setRoomFor a more) Q E s := by
  unfold setRoomFor
  refine wpAny_bind (wpAny_setState_of S.at_ rfl S.tab.fits ?_)
  dsimp only
  unfold SetTable.roomFor SetTable.fill
  rw [S.tab.size, S.tab.dum]
  by_cases hc : (es.size + 0 + more) * 5 ≥ t.mask * 3
  · rw [if_pos (by simpa using hc)]
    dsimp only
    obtain ⟨hm, hlt⟩ := above_small ⟨(es.size + more) * 2, by omega⟩
    simp only at hm hlt
    refine S.relay (by omega) (by omega) fun h' es' ep' t' hsb S' hp hmk => h h' es' ep' t' hsb ⟨S'.at_, S'.ents, S'.tab, ?_⟩ hp
    have hs' : es'.size = es.size := by rw [← Array.length_toList, hp.length_eq, Array.length_toList]
    rw [hs', hmk]
    have : 7 ≤ t.mask := by
      have := S.tab.mask
      simp only [maskOk, Bool.or_eq_true, beq_iff_eq] at this
      omega
    omega
  · rw [if_neg (by simpa using hc)]
    dsimp only
    exact wpAny_pure (h s.heap es ep t (Heap.SameBut.refl a s.heap) (S.sa (by omega)) (List.Perm.refl _))
theorem wp_forIn {M : Model} {α β : Type} (f : α → β → Sem (ForInStep β)) (I : List α → β → Shared → Prop) (Q : β → Shared → Prop)
    (turn : ∀ x rest b s, I (x :: rest) b s → wpAny M A (f x b) (fun r s' => match r with | .yield b' => I rest b' s' | .done b' => Q b' s') E s) (fin : ∀ b s, I [] b s → Q b s) : ∀ (xs : List α) (b : β) (s : Shared), I xs b s → wpAny M A (forIn xs b f) Q E s
  | [], b, s, h => by rw [List.forIn_nil]; exact wpAny_pure (fin b s h)
  | x :: xs, b, s, h => by
    rw [List.forIn_cons]
    refine wpAny_bind (wpAny_mono (turn x xs b s h) (fun r s' q => ?_) fun _ _ q => q)
    cases r with
    | done b' => exact wpAny_pure q
    | yield b' => exact wp_forIn f I Q turn fin xs b' s' q
theorem wp_forIn_array {M : Model} {α β : Type} (f : α → β → Sem (ForInStep β)) (I : List α → β → Shared → Prop) (Q : β → Shared → Prop)
    (turn : ∀ x rest b s, I (x :: rest) b s → wpAny M A (f x b) (fun r s' => match r with | .yield b' => I rest b' s' | .done b' => Q b' s') E s) (fin : ∀ b s, I [] b s → Q b s) (xs : Array α) (b : β) (h : I xs.toList b s) : wpAny M A (forIn xs b f) Q E s := by
  rw [← Array.forIn_toList]
  exact wp_forIn f I Q turn fin xs.toList b s h
end
open PySem PyProof.Rows PySem.Calls
noncomputable def ledW (w : World) : Bool := !w.params.followText "set-order"
section
variable {prog : Program} {w : World} {A : Around} {E : Value → Shared → Prop} {s : Shared} {d : Addr} {kvs : List (Int × Value)}
theorem fresh_tab (led : Bool) : TabOk (.fresh 0 0 led) 0 led := ⟨rfl, rfl, rfl, rfl, rfl, List.Pairwise.nil, fun _ h => absurd h List.not_mem_nil, Nat.zero_le _⟩
theorem fresh_sb {h : Heap} {a : Addr} (led : Bool) (e : h.get? a = some (setObj #[] 0 (.fresh 0 0 led))) : SB h a led #[] 0 (.fresh 0 0 led) := ⟨e, fun _ h => absurd h List.not_mem_nil, fresh_tab led⟩
theorem new_code (x : Value) {Q₁ : Value → Shared → Prop} (h : Q₁ (.ref s.heap.objs.size) { s with heap := s.heap.push (setObj #[] 0 (.fresh 0 0 (ledW w))) }) :
    codeAny (model prog w) A (.call (.builtin "set.__new__") ⟨[.type "set", x], []⟩) (PySem.wants Q₁ E) s := by
  refine codeAny_of_tree ?_
  show wpAny _ A.in1 (do checkBuiltinCall "set.__new__" ⟨[.type "set", x], []⟩; again (.builtin "set.__new__" ⟨[.type "set", x], []⟩)) _ _ s
  refine wpAny_bind (wpAny_of_eq (F.newCall_set_1 x) (wpAny_pure ⟨plainId_quiet F.plain_set_new _, codeAny_builtin F.entry_set_new ?_⟩))
  rw [Around.under_plainId F.plain_set_new _]
  unfold Builtin.«set.__new__» Builtin.Frozenset.newClass
  have hsub := sub_set_self
  obtain ⟨hp, g, d, tk, os⟩ := s
  dsimp only
  wp_walk
  refine wpAny_askSetting (wpAny_pure ?_)
  dsimp only
  simp only [newObj]
  refine wpAny_bind (wpAny_alloc (wpAny_pure ?_))
  exact wpAny_pure h
theorem pairs_at {des : List DictEntry} {kvs : List (Int × Value)} (hp : Pairs (intKind prog w) des kvs) : ∀ (i : Nat) (e : DictEntry), des[i]? = some e → ∃ kv, kvs[i]? = some kv ∧ (intKind prog w).is kv.1 e.key = true := by
  induction hp with
  | nil => exact fun _ _ h => nK h
  | @cons _ kv _ _ h1 _ _ ih =>
    intro i e h
    cases i with
    | zero => cases h; exact ⟨kv, rfl, h1⟩
    | succ i => exact ih i e h
theorem from_dict {a : Addr} {Q : Unit → Shared → Prop} (ha : s.heap.get? a = some (setObj #[] 0 (.fresh 0 0 (ledW w)))) (hd : (d == sysModules) = false) (had : a ≠ d) (hm : s.heap.DictOf (intKind prog w) d kvs) (hn : kvs.length ≤ 20) (hk : ∀ p ∈ kvs, 0 ≤ p.1 ∧ p.1 < 64)
    (h : ∀ h' es ep t, Heap.SameBut a s.heap h' → SB h' a (ledW w) es ep t → (keysE es).Perm (kvs.map (·.1)) → Q () { s with heap := h' }) :
    wpAny (model prog w) A (Builtin.Frozenset.updateFrom "set.__init__" a (.ref d)) Q E s := by
  obtain ⟨o, des, ep, ho, hex, hdat, hkeys, hprs, hnod⟩ := hm
  have hT : s.TypeIs (.ref d) "dict" := ⟨o, ho, hex.1⟩
  have hsls := F.sub_dict_set
  have hslf := F.sub_dict_frozenset
  unfold Builtin.Frozenset.updateFrom Builtin.Frozenset.isAnySet
  wp_walk
  rw [hdat]
  dsimp only
  refine wpAny_pure ?_
  refine wpAny_bind (wpAny_dictEntries ho hdat ?_)
  have hlen : des.size = kvs.length := by rw [← hprs.length, Array.length_toList]
  refine wpAny_bind (SB.room (fresh_sb _ ha) (more := des.size) (by rw [hlen]; show 0 + _ ≤ 40; omega) fun h1 es1 ep1 t1 hsb1 S1 hp1 => ?_)
  have hod : ∀ {h' : Heap}, Heap.SameBut a s.heap h' → h'.get? d = some o := fun hsb => (hsb.2 d (Ne.symm had)).trans ho
  refine wpAny_bind (wpAny_dictEntries (hod hsb1) hdat ?_)
  refine wpAny_bind ?_
  rw [Std.Legacy.Range.forIn_eq_forIn_range']
  refine wp_forIn _ (fun l _ s' => ∃ i h' es ep t, i + l.length = kvs.length ∧ l = List.range' i l.length ∧ s' = { s with heap := h' } ∧ Heap.SameBut a s.heap h' ∧ SA h' a (ledW w) l.length es ep t ∧ (keysE es).Perm ((kvs.take i).map (·.1))) _ (fun i rest b s' I => ?_) (fun b s' I => ?_) _ _ _ ⟨0, h1, es1, ep1, t1, ?_, ?_, rfl, hsb1, ?_, ?_⟩
  · obtain ⟨j, h', es, ep', t, hj, hr, rfl, hsb, S, hp⟩ := I
    rw [List.length_cons] at hj hr S
    rw [List.range'_succ] at hr
    injection hr with hi hrest
    subst hi
    have hik : i < kvs.length := by omega
    obtain ⟨e, he⟩ : ∃ e, des[i]? = some e := ⟨des[i]'(by omega), Array.getElem?_eq_getElem (by omega)⟩
    refine wpAny_bind (wpAny_dictEntries (hod hsb) hdat ?_)
    rw [he]
    dsimp only
    obtain ⟨kv, hkv, his⟩ := pairs_at hprs i e (by rw [Array.getElem?_toList]; exact he)
    obtain ⟨tok, hek⟩ := intKind_val his
    have hkk := hk kv (List.mem_of_getElem? hkv)
    have heh : e.hash = kv.1 := by
      obtain ⟨k', h1, h2⟩ := hkeys e (Array.mem_of_getElem? he)
      have : k' = kv.1 := (intKind prog w).inj _ _ _ h1 his
      rw [h2, this]; exact hash_small hkk
    rw [hek, heh]
    refine wpAny_bind (wpAny_holding (S.add hkk fun b h2 es2 ep2 t2 hsb2 S2 hp2 => ?_))
    refine wpAny_bind (wpAny_dictEpoch (hod (hsb.trans hsb2)) hdat ?_)
    rw [show (ep != ep) = false from bne_self_eq_false _]
    simp only [Bool.false_eq_true, ↓reduceIte]
    refine wpAny_pure ⟨i + 1, h2, es2, ep2, t2, by omega, hrest, rfl, hsb.trans hsb2, S2, ?_⟩
    have hnew : kv.1 ∉ keysE es := fun q => by
      have q' := hp.mem_iff.mp q
      rw [List.map_take] at q'
      obtain ⟨m, hm, e1⟩ := List.getElem_of_mem q'
      rw [List.length_take, List.length_map] at hm
      rw [List.getElem_take] at e1
      have e2 : (kvs.map (·.1))[i]'(by rw [List.length_map]; exact hik) = kv.1 := by
        rw [List.getElem_map]
        have := (List.getElem?_eq_some_iff.mp hkv).2
        rw [this]
      have := (List.getElem_inj hnod).mp (e1.trans e2.symm)
      omega
    have e3 : addK (keysE es) kv.1 = keysE es ++ [kv.1] := by
      unfold addK
      rw [if_neg (by rw [List.contains_iff_mem]; exact hnew)]
    rw [e3] at hp2
    refine hp2.trans ((hp.append_right _).trans (List.Perm.of_eq ?_))
    rw [List.take_add_one, hkv, List.map_append]; rfl
  · obtain ⟨j, h', es, ep', t, hj, hr, rfl, hsb, S, hp⟩ := I
    refine wpAny_pure (h h' es ep' t hsb ⟨S.at_, S.ents, S.tab⟩ ?_)
    rw [List.length_nil, Nat.add_zero] at hj
    rwa [hj, List.take_length] at hp
  · rw [List.length_range', Std.Legacy.Range.size]; simp [hlen]
  · rw [List.length_range', Std.Legacy.Range.size]
  · rw [List.length_range', Std.Legacy.Range.size]; simpa using S1
  · show (keysE es1).Perm []
    exact hp1.map _
end
open PySem PyProof.Rows PySem.Calls
noncomputable def PS (w : World) (h : Heap) (a : Addr) (ks : List Int) : Prop := ∃ es ep t, SB h a (ledW w) es ep t ∧ (keysE es).Perm ks ∧ ks.Nodup
section
variable {prog : Program} {w : World} {A : Around} {E : Value → Shared → Prop} {s : Shared} {d : Addr} {kvs : List (Int × Value)}
set_option maxHeartbeats 3200000 in
theorem make_ok {Q : Value → Shared → Prop} (hd : (d == sysModules) = false) (hm : s.heap.DictOf (intKind prog w) d kvs) (hn : kvs.length ≤ 20) (hk : ∀ p ∈ kvs, 0 ≤ p.1 ∧ p.1 < 64)
    (h : ∀ h' tk a, (∀ b o, s.heap.get? b = some o → h'.get? b = some o) → ¬ Al s.heap a → PS w h' a (kvs.map (·.1)) → Q (.ref a) { s with heap := h', toks := tk }) : wpAny (model prog w) A (call (.type "set") [.ref d]) Q E s := by
  have hnod : (kvs.map (·.1)).Nodup := by obtain ⟨_, _, _, _, _, _, _, _, q⟩ := hm; exact q
  obtain ⟨c, tl, hmro⟩ := F.called_set.mro
  have hmade := F.called_set.made
  have hsub := F.called_set.sub
  refine wpAny_call (codeAny_of_tree ?_)
  show wpAny _ _ (callAny (.type "set") _) _ _ _
  refine wpAny_pure ⟨Code.quiet_builtin _ (by decide +kernel), codeAny_builtin F.entry_type_call ?_⟩
  rw [Around.under_plain (weight_type_call_type "set" [.ref d] []) rfl]
  have h1 := F.called_set.notType
  have h2 := F.called_set.canCreate
  have hct := F.typeCall_set_1 (.ref d)
  repeat (any_goals (first | assumption | wp_step))
  refine codeAny_mono (new_code (.ref d) (E := E) (Q₁ := fun obj s₁ => obj = .ref s.heap.objs.size ∧ s₁ = { s with heap := s.heap.push (setObj #[] 0 (.fresh 0 0 (ledW w))) }) ⟨rfl, rfl⟩) fun r s₁ hr => ?_
  cases r with
  | error e => exact hr
  | ok fl =>
    cases fl with
    | ret obj =>
      obtain ⟨rfl, rfl⟩ := hr
      have hS : (s.heap.push (setObj #[] 0 (.fresh 0 0 (ledW w)))).get? s.heap.objs.size = some (setObj #[] 0 (.fresh 0 0 (ledW w))) := Heap.get?_push_size _ rfl
      have hT : Shared.TypeIs { s with heap := s.heap.push (setObj #[] 0 (.fresh 0 0 (ledW w))) } (.ref s.heap.objs.size) "set" := ⟨_, hS, rfl⟩
      have hli := F.called_set.init.lookup
      have hbi := F.called_set.init.bind (.ref s.heap.objs.size)
      repeat (any_goals (first | assumption | wp_step))
      refine codeAny_mono (codeAny_call_builtin (R := PySem.wants (fun r s₂ => r = .none ∧ ∃ h' tk, s₂ = { s with heap := h', toks := tk } ∧ PS w h' s.heap.objs.size (kvs.map (·.1)) ∧
          (∀ b o, s.heap.get? b = some o → h'.get? b = some o)) E) F.called_set.init.plain F.entry_set_init (check_set_init_1 hT ?_)) fun r₂ s₂ hr₂ => ?_
      · have hpush : ∀ b o, s.heap.get? b = some o → (s.heap.push (setObj #[] 0 (.fresh 0 0 (ledW w)))).get? b = some o := fun b o e => Heap.get?_push_of_some _ e
        have hm' : (s.heap.push (setObj #[] 0 (.fresh 0 0 (ledW w)))).DictOf (intKind prog w) d kvs := by
          obtain ⟨o, es, ep, q, r⟩ := hm
          exact ⟨o, es, ep, hpush _ _ q, r⟩
        have hne : s.heap.objs.size ≠ d := by
          obtain ⟨o, es, ep, q, r⟩ := hm
          exact (Nat.ne_of_lt (Heap.lt_size q)).symm
        unfold Builtin.«set.__init__» noKeywords
        generalize hPI : Builtin.Frozenset.updateFrom = PI
        wp_walk
        subst hPI
        refine from_dict hS hd hne hm' hn hk fun h' es ep t hsb S hp => ?_
        show wpAny _ _ (ret Value.none) _ _ _
        exact wpAny_pure ⟨rfl, h', s.toks, rfl, ⟨es, ep, t, S, hp, hnod⟩, fun b o e => (hsb.2 b (Nat.ne_of_lt (Heap.lt_size e))).trans (hpush b o e)⟩
      · cases r₂ with
        | error e => exact hr₂
        | ok fl₂ =>
          cases fl₂ with
          | ret r =>
            obtain ⟨rfl, h', tk, rfl, hS', hk'⟩ := hr₂
            repeat (any_goals (first | assumption | wp_step))
            exact h _ _ _ hk' (not_al_size _) hS'
          | _ => exact hr₂.elim
    | _ => exact hr.elim
end
open PySem PyProof.Rows PySem.Calls
theorem mem_addK {l : List Int} {k x : Int} : x ∈ addK l k ↔ x ∈ l ∨ x = k := by
  unfold addK
  split
  · rename_i h
    exact ⟨.inl, fun q => q.elim id fun e => e ▸ List.contains_iff_mem.mp h⟩
  · rw [List.mem_append, List.mem_singleton]
theorem nod_addK {l : List Int} {k : Int} (h : l.Nodup) : (addK l k).Nodup := by
  unfold addK
  split
  · exact h
  · rename_i hc
    exact List.nodup_append.mpr ⟨h, List.nodup_cons.mpr ⟨List.not_mem_nil, List.nodup_nil⟩, fun a ha b hb e => hc (List.contains_iff_mem.mpr (by rw [List.mem_singleton.mp hb] at e; exact e ▸ ha))⟩
theorem cons_erase {α : Type} {l : List α} {i : Nat} (h : i < l.length) : (l[i] :: l.eraseIdx i).Perm l := by
  rw [List.eraseIdx_eq_take_drop_succ]
  refine List.perm_middle.symm.trans (List.Perm.of_eq ?_)
  rw [List.getElem_cons_drop, List.take_append_drop]
theorem pick_go {α : Type} (next : Nat → Nat) : ∀ (fuel k : Nat) (left : List α) (out : Array α), left.length = fuel → (pickOrder.go next fuel k left out).toList.Perm (out.toList ++ left)
  | 0, k, left, out, h => by
    rw [List.length_eq_zero_iff.mp h, List.append_nil]
    exact List.Perm.refl _
  | fuel + 1, k, left, out, h => by
    have hlt : next k % left.length < left.length := Nat.mod_lt _ (by omega)
    rw [pickOrder.go, List.getElem?_eq_getElem hlt]
    refine (pick_go next fuel (k + 1) _ _ (by rw [List.length_eraseIdx, if_pos hlt]; omega)).trans ?_
    rw [Array.toList_push, List.append_assoc]
    exact (cons_erase hlt).append_left out.toList
theorem pick_perm {α : Type} (next : Nat → Nat) (xs : Array α) : (pickOrder next xs).toList.Perm xs.toList := by
  have := pick_go next xs.size 0 xs.toList #[] (by rw [Array.length_toList])
  exact this
section
variable {prog : Program} {w : World} {A : Around} {E : Value → Shared → Prop} {s : Shared} {a b o : Addr} {ks ls : List Int} {es eo : Array (Int × Value)} {ep po : Nat} {t to : SetTable}
theorem walk_ok {Q : Array (Int × Value) → Shared → Prop} (S : SB s.heap a (ledW w) es ep t) (h : ∀ xs, xs.toList.Perm es.toList → Q xs s) : wpAny (model prog w) A (setWalk a) Q E s := by
  unfold setWalk setsByText
  refine wpAny_bind (wpAny_setState_of S.at_ rfl S.tab.fits ?_)
  dsimp only
  refine wpAny_bind (wpAny_bind (wpAny_askSetting (wpAny_pure ?_)))
  dsimp only
  refine wpAny_ite_split (fun hb => ?_) (fun hb => ?_)
  · exact wpAny_bind (wpAny_askSetting (wpAny_pure (h _ (pick_perm _ _))))
  · have hl : t.led = true := by
      rw [S.tab.led]; unfold ledW
      rw [show w.params.followText "set-order" = false from (Bool.not_eq_true _).mp hb]; rfl
    refine wpAny_ite_split (fun hd => absurd (show (!t.plain && decide (es.size > 1)) = true from hd) (by rw [S.tab.plain]; simp)) (fun _ => ?_)
    refine wpAny_bind ?_
    wp_delta
    refine wpAny_ite_split (fun hd => absurd hd (by rw [hl]; simp)) (fun _ => wpAny_pure (wpAny_pure (h _ (List.Perm.refl _))))
theorem unseen_ok {Q : Array (Int × Value) → Shared → Prop} {os : List Addr} {f : Option Addr} (S : SB s.heap a (ledW w) es ep t) (h : ∀ xs, xs.toList.Perm es.toList → Q xs s) : wpAny (model prog w) A (setWalkUnseen a os f) Q E s := by
  unfold setWalkUnseen setsByText
  refine wpAny_bind (wpAny_setState_of S.at_ rfl S.tab.fits ?_)
  dsimp only
  refine wpAny_bind (wpAny_bind (wpAny_askSetting (wpAny_pure ?_)))
  dsimp only
  refine wpAny_ite_split (fun _ => walk_ok S h) (fun hb => absurd ?_ hb)
  rw [S.tab.led, S.tab.plain]
  show (w.params.followText "set-order" || (ledW w && true) || decide (es.size ≤ 1)) = true
  unfold ledW
  cases w.params.followText "set-order" <;> rfl
theorem road_zero {t to : SetTable} {r : SetTable.Road} (h : t.road to = r) (hr : r ≠ .oneByOne) : t.place.size = 0 ∧ True := by
  unfold SetTable.road at h
  split at h
  · exact absurd h.symm hr
  · rename_i hf
    refine ⟨?_, trivial⟩
    have : t.fill = 0 := by simpa using hf
    unfold SetTable.fill at this
    omega
theorem merge_ok {each : Sem Unit} {Q : Unit → Shared → Prop} (hne : a ≠ o) (S : SB s.heap a (ledW w) es ep t) (So : SB s.heap o (ledW w) eo po to) (hn : es.size ≤ 20) (hno : eo.size ≤ 20) (nd : (keysE es).Nodup) (ndo : (keysE eo).Nodup)
    (hea : ∀ (s' : Shared) (Q' : Unit → Shared → Prop), s'.heap.get? o = some (setObj eo po to) → Q' () s' → wpAny (model prog w) A each Q' E s')
    (h : ∀ h' es' ep' t', Heap.SameBut a s.heap h' → SB h' a (ledW w) es' ep' t' → (keysE es').Nodup → (∀ x, x ∈ keysE es' ↔ x ∈ keysE es ∨ x ∈ keysE eo) → Q () { s with heap := h' }) : wpAny (model prog w) A (setMerge a o each) Q E s := by
  unfold setMerge
  refine wpAny_ite_split (fun e => absurd (beq_iff_eq.mp e) hne) (fun _ => ?_)
  refine wpAny_bind (wpAny_setState_of So.at_ rfl So.tab.fits ?_)
  dsimp only
  refine wpAny_ite_split (fun he => ?_) (fun he => ?_)
  · have : eo = #[] := Array.isEmpty_iff.mp he
    refine wpAny_pure (h s.heap es ep t (Heap.SameBut.refl a s.heap) S nd fun x => ?_)
    rw [this]; exact ⟨.inl, fun q => q.elim id fun q => absurd q List.not_mem_nil⟩
  · refine wpAny_bind (S.room (by omega) fun h1 es1 ep1 t1 hsb1 S1 hp1 => ?_)
    have hs1 : es1.size = es.size := by rw [← Array.length_toList, hp1.length_eq, Array.length_toList]
    have hk1 : (keysE es1).Perm (keysE es) := hp1.map _
    have So1 : SB h1 o (ledW w) eo po to := ⟨(hsb1.2 o (Ne.symm hne)).trans So.at_, So.ents, So.tab⟩
    refine wpAny_bind (wpAny_setState_of S1.at_ rfl S1.tab.fits ?_)
    dsimp only
    cases hr : t1.road to with
    | slotForSlot =>
      obtain ⟨h0, hmk⟩ := road_zero hr (fun q => nomatch q)
      have hz := S1.tab.size
      rw [h0] at hz
      have hnil : keysE es = [] := List.Perm.eq_nil (hk1.symm.trans (List.Perm.of_eq (by unfold keysE; rw [Array.eq_empty_of_size_eq_zero hz.symm]; rfl)))
      dsimp only
      refine store_sb S1.at_ (Nat.le_trans hno (by decide)) fun h2 hsb2 hg => h h2 eo _ _ (hsb1.trans hsb2) ⟨hg, So.ents, ⟨So.tab.mask, So.tab.size, So.tab.dum, ?_, ?_, So.tab.rise, So.tab.low, So.tab.fill⟩⟩ ndo fun x => ?_
      · show (t1.plain && to.plain) = true
        rw [S1.tab.plain, So.tab.plain]; rfl
      · show (t1.led && to.led) = ledW w
        rw [S1.tab.led, So.tab.led, Bool.and_self]
      · rw [hnil]; exact ⟨.inr, fun q => q.elim (fun q => absurd q List.not_mem_nil) id⟩
    | clean =>
      obtain ⟨h0, _⟩ := road_zero hr (fun q => nomatch q)
      have hz := S1.tab.size
      rw [h0] at hz
      have hnil : keysE es = [] := List.Perm.eq_nil (hk1.symm.trans (List.Perm.of_eq (by unfold keysE; rw [Array.eq_empty_of_size_eq_zero hz.symm]; rfl)))
      have hroom := S1.room
      have hbt : ∀ x ∈ (eo.map (·.1)).toList, SetTable.bits x < 64 := fun x hx => by
        rw [Array.toList_map] at hx
        obtain ⟨e, he, rfl⟩ := List.mem_map.mp hx
        obtain ⟨k, tok, rfl, hk⟩ := So.ents e he
        exact bits_small hk
      obtain ⟨t', order, hl, hp, T', hmk, _, _⟩ := laid_ok (finger := t1.finger) (moves := t1.moves) (led := ledW w) (hashes := eo.map (·.1)) S1.tab.mask (by rw [Array.size_map]; omega) hbt
      rw [Array.size_map] at hp T'
      have hpe := order_es (es := eo) hp
      have hse : (order.filterMap (eo[·]?)).size = eo.size := by rw [← Array.length_toList, hpe.length_eq, Array.length_toList]
      dsimp only
      rw [S1.tab.led, So.tab.led, S1.tab.plain, So.tab.plain, Bool.and_self, Bool.and_self, hl]
      refine wpAny_bind ?_
      wp_delta
      dsimp only
      rw [show ((order.filterMap (eo[·]?)).size != eo.size) = false from by rw [hse]; exact bne_self_eq_false _]
      simp only [Bool.false_eq_true, ↓reduceIte]
      refine wpAny_pure (store_sb S1.at_ (by rw [hse]; exact Nat.le_trans hno (by decide)) fun h2 hsb2 hg => h h2 _ _ _ (hsb1.trans hsb2) ⟨hg, So.ents.perm hpe, by rw [hse]; exact T'⟩ ((hpe.map _).nodup_iff.mpr ndo) fun x => ?_)
      rw [hnil]
      exact ⟨fun q => .inr ((hpe.map _).mem_iff.mp q), fun q => q.elim (fun q => absurd q List.not_mem_nil) (hpe.map _).mem_iff.mpr⟩
    | oneByOne =>
      dsimp only
      refine wpAny_bind (unseen_ok So1 fun xs hxs => ?_)
      refine wpAny_bind ?_
      refine wp_forIn_array _ (fun l _ s' => ∃ h' es' ep' t', s' = { s with heap := h' } ∧ Heap.SameBut a s.heap h' ∧ SA h' a (ledW w) l.length es' ep' t' ∧ (keysE es').Nodup ∧ Ents l ∧ ∀ x, (x ∈ keysE es' ∨ x ∈ l.map (·.1)) ↔ x ∈ keysE es ∨ x ∈ keysE eo) _ (fun e rest u s' I => ?_) (fun u s' I => ?_) _ _ ⟨h1, es1, ep1, t1, rfl, hsb1, ?_, hk1.nodup_iff.mpr nd, So.ents.perm hxs, fun x => ?_⟩
      · obtain ⟨h', es', ep', t', rfl, hsb, S', nd', hen, hmem⟩ := I
        obtain ⟨k, tok, rfl, hk⟩ := hen e List.mem_cons_self
        dsimp only
        refine wpAny_bind (wpAny_holding (S'.add hk fun b' h2 es2 ep2 t2 hsb2 S2 hp2 => ?_))
        have ho2 : h2.get? o = some (setObj eo po to) := ((hsb.trans hsb2).2 o (Ne.symm hne)).trans So.at_
        refine wpAny_bind (hea _ _ ho2 ?_)
        refine wpAny_bind (wpAny_setState_of ho2 rfl So.tab.fits ?_)
        dsimp only
        refine wpAny_ite_split (fun q => absurd q (by rw [bne_self_eq_false]; exact Bool.false_ne_true)) (fun _ => ?_)
        refine wpAny_pure ⟨h2, es2, ep2, t2, rfl, hsb.trans hsb2, S2, hp2.nodup_iff.mpr (nod_addK nd'), fun e he => hen e (List.mem_cons_of_mem _ he), fun x => ?_⟩
        rw [← hmem x, hp2.mem_iff, mem_addK, List.map_cons, List.mem_cons, or_assoc]
      · obtain ⟨h', es', ep', t', rfl, hsb, S', nd', hen, hmem⟩ := I
        exact wpAny_pure (h h' es' ep' t' hsb ⟨S'.at_, S'.ents, S'.tab⟩ nd' fun x => by rw [← hmem x]; exact ⟨.inl, fun q => q.elim id fun q => absurd q List.not_mem_nil⟩)
      · rw [hxs.length_eq, Array.length_toList]; exact S1
      · rw [hk1.mem_iff, (hxs.map (·.1)).mem_iff]; exact Iff.rfl
end
open PySem PyProof.Rows PySem.Calls
theorem entry_set_or : entryFor table "set.__or__" = some Builtin.«frozenset.__or__» := entryFor_alias (id' := "frozenset.__or__") (by kernel_rfl) rfl (by decide +kernel) (by kernel_rfl)
section
variable {prog : Program} {w : World} {A : Around} {E : Value → Shared → Prop} {s : Shared} {a b : Addr} {ks ls : List Int}
theorem union_fold : ∀ (l acc : List Int), acc.Nodup → (l.foldl (fun l x => if l.contains x then l else l ++ [x]) acc).Nodup ∧ ∀ x, x ∈ l.foldl (fun l x => if l.contains x then l else l ++ [x]) acc ↔ x ∈ acc ∨ x ∈ l
  | [], acc, h => ⟨h, fun x => ⟨.inl, fun q => q.elim id fun q => absurd q List.not_mem_nil⟩⟩
  | y :: r, acc, h => by
    obtain ⟨h1, h2⟩ := union_fold r (addK acc y) (nod_addK h)
    refine ⟨h1, fun x => ?_⟩
    rw [List.foldl_cons]
    refine (h2 x).trans ?_
    rw [mem_addK, List.mem_cons, or_assoc]
theorem unionK_nodup (ks ls : List Int) : (unionK ks ls).Nodup := (union_fold (ks ++ ls) [] List.nodup_nil).1
theorem mem_unionK {ks ls : List Int} {x : Int} : x ∈ unionK ks ls ↔ x ∈ ks ∨ x ∈ ls := by
  refine ((union_fold (ks ++ ls) [] List.nodup_nil).2 x).trans ?_
  rw [List.mem_append]
  exact ⟨fun q => q.elim (fun q => absurd q List.not_mem_nil) id, .inr⟩
theorem upd_set {id : String} {r : Addr} {es eo : Array (Int × Value)} {ep po : Nat} {t to : SetTable} {Q : Unit → Shared → Prop} (hne : r ≠ b) (S : SB s.heap r (ledW w) es ep t) (So : SB s.heap b (ledW w) eo po to) (hn : es.size ≤ 20) (hno : eo.size ≤ 20) (nd : (keysE es).Nodup) (ndo : (keysE eo).Nodup)
    (h : ∀ h' es' ep' t', Heap.SameBut r s.heap h' → SB h' r (ledW w) es' ep' t' → (keysE es').Nodup → (∀ x, x ∈ keysE es' ↔ x ∈ keysE es ∨ x ∈ keysE eo) → Q () { s with heap := h' }) : wpAny (model prog w) A (Builtin.Frozenset.updateFrom id r (.ref b)) Q E s := by
  have hT : s.TypeIs (.ref b) "set" := ⟨_, So.at_, rfl⟩
  have hsub := sub_set_self
  unfold Builtin.Frozenset.updateFrom Builtin.Frozenset.isAnySet
  refine wpAny_bind (wpAny_bind (wpAny_isInstance hT hsub ?_))
  dsimp only [toBool]
  refine wpAny_pure ?_
  rw [if_pos rfl]
  refine wpAny_bind (wpAny_pure ?_)
  unfold Builtin.Frozenset.merge
  refine wpAny_bind (wpAny_setEpoch_of So.at_ rfl So.tab.fits ?_)
  refine merge_ok hne S So hn hno nd ndo (fun s' Q' ho hq => ?_) h
  unfold Builtin.Frozenset.unchanged
  refine wpAny_bind (wpAny_setEpoch_of ho rfl So.tab.fits ?_)
  refine wpAny_ite_split (fun q => absurd q (by rw [bne_self_eq_false]; exact Bool.false_ne_true)) (fun _ => wpAny_pure hq)
theorem union_ok {Q : Value → Shared → Prop} (hab : a ≠ b) (ha : PS w s.heap a ks) (hb : PS w s.heap b ls) (h1 : ks.length ≤ 20) (h2 : ls.length ≤ 20)
    (h : ∀ h' tk c, (∀ b o, s.heap.get? b = some o → h'.get? b = some o) → ¬ Al s.heap c → PS w h' c (unionK ks ls) → Q (.ref c) { s with heap := h', toks := tk }) : wpAny (model prog w) A (binaryOp .BitOr (.ref a) (.ref b)) Q E s := by
  obtain ⟨ea, pa, ta, SAa, hpa, nda⟩ := ha
  obtain ⟨eb, pb, tb, SBb, hpb, ndb⟩ := hb
  have hTa : s.TypeIs (.ref a) "set" := ⟨_, SAa.at_, rfl⟩
  have hTb : s.TypeIs (.ref b) "set" := ⟨_, SBb.at_, rfl⟩
  refine wpAny_binaryOp_same (T := "set") (id := "set.__or__") hTa hTb F.fills_set_or F.slot_set_or (wpAny_call_entry F.slot_set_or hTa entry_set_or ?_ (F.args_set_or_2 _ _))
  have hsub := sub_set_self
  have hoa : s.heap.get? a = some { cls := .type "set", dict := none, data := .set ea pa ta, slots := #[] } := SAa.at_
  have hob : s.heap.get? b = some { cls := .type "set", dict := none, data := .set eb pb tb, slots := #[] } := SBb.at_
  unfold Builtin.«frozenset.__or__»
  wp_walk
  refine wpAny_askSetting (wpAny_pure ?_)
  dsimp only
  simp only [newObj, ↓reduceIte]
  refine wpAny_bind (wpAny_alloc (wpAny_pure ?_))
  refine wpAny_bind (wpAny_pure ?_)
  have hpush : ∀ x o, s.heap.get? x = some o → (s.heap.push (setObj #[] 0 (.fresh 0 0 (ledW w)))).get? x = some o := fun x o e => Heap.get?_push_of_some _ e
  have hS : (s.heap.push (setObj #[] 0 (.fresh 0 0 (ledW w)))).get? s.heap.objs.size = some (setObj #[] 0 (.fresh 0 0 (ledW w))) := Heap.get?_push_size _ rfl
  have hna : s.heap.objs.size ≠ a := (Nat.ne_of_lt (Heap.lt_size SAa.at_)).symm
  have hnb : s.heap.objs.size ≠ b := (Nat.ne_of_lt (Heap.lt_size SBb.at_)).symm
  have hla : ea.size ≤ 20 := by have := hpa.length_eq; unfold keysE at this; rw [List.length_map, Array.length_toList] at this; omega
  have hlb : eb.size ≤ 20 := by have := hpb.length_eq; unfold keysE at this; rw [List.length_map, Array.length_toList] at this; omega
  refine wpAny_bind (merge_ok (s := { s with heap := s.heap.push (setObj #[] 0 (.fresh 0 0 (ledW w))) }) hna (fresh_sb (ledW w) hS) ⟨hpush _ _ SAa.at_, SAa.ents, SAa.tab⟩ (Nat.zero_le _) hla List.nodup_nil (hpa.nodup_iff.mpr nda) (fun s' Q' _ hq => wpAny_pure hq) fun h3 e3 p3 t3 hsb3 S3 nd3 hm3 => ?_)
  refine wpAny_pure ?_
  have hl3 : e3.size ≤ 20 := by
    have : (keysE e3).Perm ks := (List.perm_ext_iff_of_nodup nd3 nda).mpr fun x => by
      rw [hm3 x, ← hpa.mem_iff]
      exact ⟨fun q => q.elim (fun q => absurd q List.not_mem_nil) id, .inr⟩
    have := this.length_eq
    unfold keysE at this; rw [List.length_map, Array.length_toList] at this; omega
  have hne : (Value.ref b != Value.ref a) = true := by
    rw [bne_iff_ne]
    intro e
    exact hab (Value.ref.inj e).symm
  simp only [Bool.false_eq_true, ↓reduceIte, hne]
  have hob3 : h3.get? b = some (setObj eb pb tb) := (hsb3.2 b (Ne.symm hnb)).trans (hpush _ _ SBb.at_)
  refine wpAny_bind (wpAny_pure ?_)
  refine wpAny_bind (wpAny_holding (upd_set (s := { s with heap := h3 }) hnb S3 ⟨hob3, SBb.ents, SBb.tab⟩ hl3 hlb nd3 (hpb.nodup_iff.mpr ndb) fun h4 e4 p4 t4 hsb4 S4 nd4 hm4 => ?_))
  refine wpAny_pure (wpAny_pure ⟨_, rfl, (by intro q; cases q), ?_⟩)
  refine h h4 s.toks s.heap.objs.size (fun x o e => ?_) (not_al_size _) ⟨e4, p4, t4, S4, (List.perm_ext_iff_of_nodup nd4 (unionK_nodup ks ls)).mpr fun x => ?_, unionK_nodup ks ls⟩
  · have hx : x ≠ s.heap.objs.size := Nat.ne_of_lt (Heap.lt_size e)
    exact (hsb4.2 x hx).trans ((hsb3.2 x hx).trans (hpush _ _ e))
  · rw [hm4 x, hm3 x, mem_unionK, ← hpa.mem_iff, ← hpb.mem_iff]
    exact ⟨fun q => q.elim (fun q => .inl (q.elim (fun q => absurd q List.not_mem_nil) id)) .inr, fun q => q.elim (fun q => .inl (.inr q)) .inr⟩
end
open PySem PyProof.Rows PySem.Calls
theorem slot_next : Slot "set_iterator" "__next__" "set_iterator.__next__" :=
  .of (owner := "set_iterator") (n := "__next__") (by rw [typeLookup_type, builtinLookup_eq_fast]; kernel_rfl) (by decide +kernel) (by decide +kernel) (by decide +kernel)
    (by first | exact .inl (by decide +kernel) | exact .inr (by decide +kernel)) (by rw [isSubtype_type]; kernel_rfl)
theorem entry_next : entryFor table "set_iterator.__next__" = some Builtin.«set_iterator.__next__» := entryFor_of_tree (by kernel_rfl)
theorem owner_it : Manifest.owners.lookup (String.ofList ['r', 'o', 't', 'a', 'r', 'e', 't', 'i', '_', 't', 'e', 's'].reverse) = some Manifest.sig_set_iterator := by kernel_rfl
theorem args_next (a : Value) : argsOk "set_iterator.__next__" ⟨[a], []⟩ := by
  unfold argsOk; rw [signature?_of (id := "set_iterator.__next__") (n := ['_', '_', 't', 'x', 'e', 'n', '_', '_']) (o := ['r', 'o', 't', 'a', 'r', 'e', 't', 'i', '_', 't', 'e', 's']) (by kernel_rfl) owner_it]; kernel_rfl
theorem slot_iter : Slot "set_iterator" "__iter__" "set_iterator.__iter__" :=
  .of (owner := "set_iterator") (n := "__iter__") (by rw [typeLookup_type, builtinLookup_eq_fast]; kernel_rfl) (by decide +kernel) (by decide +kernel) (by decide +kernel)
    (by first | exact .inl (by decide +kernel) | exact .inr (by decide +kernel)) (by rw [isSubtype_type]; kernel_rfl)
theorem entry_iter : entryFor table "set_iterator.__iter__" = some Builtin.«dict_keyiterator.__iter__» := entryFor_alias (id' := "dict_keyiterator.__iter__") (by kernel_rfl) rfl (by decide +kernel) (by kernel_rfl)
theorem args_iter (a : Value) : argsOk "set_iterator.__iter__" ⟨[a], []⟩ := by
  unfold argsOk; rw [signature?_of (id := "set_iterator.__iter__") (n := ['_', '_', 'r', 'e', 't', 'i', '_', '_']) (o := ['r', 'o', 't', 'a', 'r', 'e', 't', 'i', '_', 't', 'e', 's']) (by kernel_rfl) owner_it]; kernel_rfl
theorem entry_set_iter : entryFor table "set.__iter__" = some Builtin.«frozenset.__iter__» := entryFor_alias (id' := "frozenset.__iter__") (by kernel_rfl) rfl (by decide +kernel) (by kernel_rfl)
noncomputable def itObj (slot i : Nat) (a : Addr) (n ep : Nat) : Obj := { cls := .type "set_iterator", dict := none, data := .fields #[.int slot 0, .int i 0, .ref a, .int n 0, .int ep 0], slots := #[] }
theorem below_zero {xs : Array Nat} (h : xs.toList.Pairwise (· < ·)) : SetTable.below xs 0 = 0 := by
  have hs := below_spec 0 (rise_of h)
  by_cases q : SetTable.below xs 0 = 0
  · exact q
  · have := hs.2.1 0 (by omega); omega
theorem below_next {xs : Array Nat} (h : xs.toList.Pairwise (· < ·)) {i j : Nat} (hi : xs[i]? = some j) : SetTable.below xs (j + 1) = i + 1 := by
  obtain ⟨hlt, e⟩ := Array.getElem?_eq_some_iff.mp hi
  have ej : xs.getD i 0 = j := by simp [Array.getD, hlt, e]
  have hs := below_spec (j + 1) (rise_of h)
  have h1 : ¬ SetTable.below xs (j + 1) ≤ i := fun q => by have := hs.2.2 i q hlt; omega
  have h2 : ¬ i + 1 < SetTable.below xs (j + 1) := fun q => by
    have a := hs.2.1 (i + 1) q
    have b := rise_of h i (i + 1) (Nat.lt_succ_self _) (Nat.lt_of_lt_of_le q hs.1)
    omega
  omega
section
variable {prog : Program} {w : World} {A : Around} {E : Value → Shared → Prop} {s : Shared} {a I : Addr} {es : Array (Int × Value)} {ep : Nat} {t : SetTable} {i slot : Nat}
noncomputable def ordW (w : World) (a : Addr) (ep : Nat) (es : Array (Int × Value)) : Array (Int × Value) := if w.params.followText "set-order" = true then pickOrder (w.params.setOrder a ep) es else es
theorem ordW_perm : (ordW w a ep es).toList.Perm es.toList := by
  unfold ordW
  split
  · exact pick_perm _ _
  · exact List.Perm.refl _
noncomputable def slotOk (w : World) (t : SetTable) (slot i : Nat) : Prop := w.params.followText "set-order" = false → SetTable.below t.place slot = i
theorem next_ok {Q : Option (Value × Nat) → Shared → Prop} (S : SB s.heap a (ledW w) es ep t) (hsl : slotOk w t slot i) (h : ∀ r, (r.map (·.1)) = ((ordW w a ep es)[i]?).map (·.2) → (∀ x n, r = some (x, n) → slotOk w t n (i + 1)) → Q r s) : wpAny (model prog w) A (setNext a slot i ep) Q E s := by
  unfold setNext setsByText
  refine wpAny_bind (wpAny_setState_of S.at_ rfl S.tab.fits ?_)
  dsimp only
  refine wpAny_bind (wpAny_bind (wpAny_askSetting (wpAny_pure ?_)))
  dsimp only
  refine wpAny_ite_split (fun hb => ?_) (fun hb => ?_)
  · have hb : w.params.followText "set-order" = true := hb
    refine wpAny_ite_split (fun q => absurd q (by rw [bne_self_eq_false]; exact Bool.false_ne_true)) (fun _ => ?_)
    refine wpAny_bind ?_
    unfold setWalk setsByText
    refine wpAny_bind (wpAny_setState_of S.at_ rfl S.tab.fits ?_)
    dsimp only
    refine wpAny_bind (wpAny_bind (wpAny_askSetting (wpAny_pure ?_)))
    dsimp only
    refine wpAny_ite_split (fun _ => ?_) (fun q => absurd hb q)
    refine wpAny_bind (wpAny_askSetting (wpAny_pure (wpAny_pure (h _ ?_ fun x n _ q => absurd (q.symm.trans hb) Bool.false_ne_true))))
    unfold ordW
    rw [if_pos hb, Option.map_map]; rfl
  · have hb : w.params.followText "set-order" = false := (Bool.not_eq_true _).mp hb
    have hl : t.led = true := by rw [S.tab.led]; unfold ledW; rw [hb]; rfl
    refine wpAny_ite_split (fun hd => absurd (show (!t.plain && decide (es.size > 1)) = true from hd) (by rw [S.tab.plain]; simp)) (fun _ => ?_)
    refine wpAny_bind ?_
    wp_delta
    refine wpAny_ite_split (fun hd => absurd hd (by rw [hl]; simp)) (fun _ => wpAny_pure ?_)
    rw [hsl hb]
    have ho : ordW w a ep es = es := by unfold ordW; rw [if_neg (by rw [hb]; exact Bool.false_ne_true)]
    refine wpAny_pure (h _ ?_ fun x n e _ => ?_)
    · rw [ho]
      cases he : es[i]? with
      | none => rfl
      | some e =>
        have : i < t.place.size := by rw [S.tab.size]; exact (Array.getElem?_eq_some_iff.mp he).1
        rw [Array.getElem?_eq_getElem this]; rfl
    · cases he : es[i]? with
      | none => rw [he] at e; cases e
      | some e' =>
        rw [he] at e
        cases hp : t.place[i]? with
        | none => rw [hp] at e; cases e
        | some j => rw [hp] at e; cases e; exact below_next S.tab.rise hp
end
open PySem PyProof.Rows PySem.Calls PySem.W
section
variable {prog : Program} {w : World} {A : Around} {E : Value → Shared → Prop} {s : Shared} {a I : Addr} {es : Array (Int × Value)} {ep : Nat} {t : SetTable} {i slot n : Nat}
theorem it_type (h : s.heap.get? I = some (itObj slot i a n ep)) : s.TypeIs (.ref I) "set_iterator" := ⟨_, h, rfl⟩
theorem iter_self {Q : Value → Shared → Prop} (h : s.heap.get? I = some (itObj slot i a n ep)) (hq : Q (.ref I) s) : wpAny (model prog w) A (pyIter (.ref I)) Q E s := by
  refine wpAny_pyIter_slot (it_type h) slot_iter (wpAny_call_entry slot_iter (it_type h) entry_iter ?_ (args_iter _))
  show wpAny _ _ (ret (.ref I)) _ _ s
  exact wpAny_pure ⟨_, rfl, "set_iterator", _, it_type h, slot_next.lookup, hq⟩
theorem set_iter {Q : Value → Shared → Prop} (S : SB s.heap a (ledW w) es ep t) (hq : Q (.ref s.heap.objs.size) { s with heap := s.heap.push (itObj 0 0 a es.size ep) }) : wpAny (model prog w) A (pyIter (.ref a)) Q E s := by
  have hT : s.TypeIs (.ref a) "set" := ⟨_, S.at_, rfl⟩
  refine wpAny_pyIter_slot hT F.slot_set_iter (wpAny_call_entry F.slot_set_iter hT entry_set_iter ?_ (F.args_set_iter_1 _))
  unfold Builtin.«frozenset.__iter__» Builtin.Frozenset.slot0 Builtin.Frozenset.sizeOf setDrawn setsByText
  refine wpAny_bind (wpAny_bind (wpAny_pure (wpAny_pure ?_)))
  dsimp only
  refine wpAny_bind (wpAny_bind (wpAny_setEntries_of S.at_ rfl S.tab.fits (wpAny_pure ?_)))
  refine wpAny_bind (wpAny_bind ?_)
  refine wpAny_setState_of S.at_ rfl S.tab.fits ?_
  dsimp only
  refine wpAny_bind (wpAny_bind (wpAny_askSetting (wpAny_pure ?_)))
  refine wpAny_pure ?_
  refine wpAny_ite_split (fun hd => absurd (show (!w.params.followText "set-order" && (!t.plain && decide (es.size > 1))) = true from hd) (by rw [S.tab.plain]; simp)) (fun _ => ?_)
  refine wpAny_bind (wpAny_pure ?_)
  refine wpAny_bind (wpAny_setEpoch_of S.at_ rfl S.tab.fits ?_)
  unfold newFields
  refine wpAny_bind (wpAny_newObj_type (wpAny_pure ⟨_, rfl, "set_iterator", _, ⟨_, Heap.get?_push_size _ rfl, rfl⟩, slot_next.lookup, ?_⟩))
  exact hq
theorem next_item {Q : Option Value → Shared → Prop} {x : Value} (h : s.heap.get? I = some (itObj slot i a es.size ep)) (S : SB s.heap a (ledW w) es ep t) (hsl : slotOk w t slot i) (hx : ((ordW w a ep es)[i]?).map (·.2) = some x)
    (hq : ∀ h' n, Heap.SameBut I s.heap h' → h'.get? I = some (itObj n (i + 1) a es.size ep) → slotOk w t n (i + 1) → Q (some x) { s with heap := h' }) : wpAny (model prog w) A (pyNext (.ref I)) Q E s := by
  unfold pyNext
  refine wpAny_bind (wpAny_attempt (wpAny_callSpecial?_slot (name := Str.ofString "__next__") (it_type h) slot_next (wpAny_call_entry slot_next (it_type h) entry_next ?_ (args_next _))))
  unfold Builtin.«set_iterator.__next__»
  refine wpAny_bind (wpAny_pure ?_)
  refine wpAny_bind (wpAny_fieldsOf h rfl ?_)
  dsimp only
  refine wpAny_bind (wpAny_setEntries_of S.at_ rfl S.tab.fits ?_)
  refine wpAny_ite_split (fun q => absurd q (by simp)) (fun _ => ?_)
  simp only [Int.toNat_natCast]
  refine wpAny_bind (next_ok S hsl fun r hr hn => ?_)
  rw [hx] at hr
  cases r with
  | none => cases hr
  | some p =>
    obtain ⟨y, n⟩ := p
    cases hr
    dsimp only
    refine wpAny_bind (wpAny_setField_rec h (by simp) fun h1 g1 hsb1 => ?_)
    refine wpAny_bind (wpAny_setField_rec (s := { s with heap := h1 }) g1 (by simp) fun h2 g2 hsb2 => ?_)
    refine wpAny_pure ⟨_, rfl, wpAny_pure (hq h2 n (hsb1.trans hsb2) ?_ (hn _ _ rfl))⟩
    exact g2
theorem next_end {Q : Option Value → Shared → Prop} (hh : A.handled = none) (h : s.heap.get? I = some (itObj slot i a es.size ep)) (S : SB s.heap a (ledW w) es ep t) (hsl : slotOk w t slot i) (hx : ((ordW w a ep es)[i]?).map (·.2) = none)
    (hq : ∀ h', Heap.ExtBut I s.heap h' → Q none { s with heap := h' }) : wpAny (model prog w) A (pyNext (.ref I)) Q E s := by
  unfold pyNext
  refine wpAny_bind (wpAny_attempt (wpAny_callSpecial?_slot (name := Str.ofString "__next__") (it_type h) slot_next (wpAny_call_entry slot_next (it_type h) entry_next ?_ (args_next _))))
  unfold Builtin.«set_iterator.__next__»
  refine wpAny_bind (wpAny_pure ?_)
  refine wpAny_bind (wpAny_fieldsOf h rfl ?_)
  dsimp only
  refine wpAny_bind (wpAny_setEntries_of S.at_ rfl S.tab.fits ?_)
  refine wpAny_ite_split (fun q => absurd q (by simp)) (fun _ => ?_)
  simp only [Int.toNat_natCast]
  refine wpAny_bind (next_ok S hsl fun r hr hn => ?_)
  rw [hx] at hr
  cases r with
  | some p => cases hr
  | none =>
    dsimp only
    refine wpAny_bind (wpAny_setField h rfl (by simp) ?_)
    show wpAny _ _ (newExc (.type "StopIteration") [] >>= _) _ _ _
    refine wpAny_bind ?_
    simp only [newExc, newTuple]
    refine wpAny_bind (wpAny_newObj_type ?_ (by size_fits))
    refine wpAny_bind (m := firstArgMember _ _) (wpAny_of_eq (a := Value.none) (by first | rfl | (simp only [firstArgMember]; rfl)) ?_)
    refine wpAny_newObj_type ?_ (by size_fits)
    simp only [raiseNew]
    refine wpAny_bind (wpAny_handled ?_)
    rw [show A.in1.handled = none from hh]
    refine wpAny_bind (wpAny_pure (wpAny_throw ?_))
    refine wpAny_bind (wpAny_isInstance (T := "StopIteration") (b := true) ⟨_, Heap.get?_push_size _ rfl, rfl⟩ isSubtype_stop ?_)
    exact wpAny_pure (hq _ (((Heap.SameBut.update ..).extBut.push _).push _))
noncomputable def PW (w : World) (a : Addr) (ep : Nat) (es : Array (Int × Value)) (i : Nat) (v : Value) : Prop := ((ordW w a ep es)[i]?).map (·.2) = some v
noncomputable def StW (w : World) (I a : Addr) (es : Array (Int × Value)) (ep : Nat) (t : SetTable) (i : Nat) (h : Heap) : Prop := ∃ slot, h.get? I = some (itObj slot i a es.size ep) ∧ slotOk w t slot i ∧ SB h a (ledW w) es ep t
theorem ordW_size : (ordW w a ep es).size = es.size := by
  have := (ordW_perm (w := w) (a := a) (ep := ep) (es := es)).length_eq
  rwa [Array.length_toList, Array.length_toList] at this
theorem walks (hh : A.handled = none) (hne : a ≠ I) : Walks prog w A I [I, a] [I] es.size (PW w a ep es) (StW w I a es ep t) where
  sub := fun b hb => by simp at hb; simp [hb]
  frame := fun _ _ _ st hk => st.imp fun _ q => ⟨hk I (by simp) _ q.1, q.2.1, ⟨hk a (by simp) _ q.2.2.at_, q.2.2.ents, q.2.2.tab⟩⟩
  item := fun i s Q E hi st hQ => by
    obtain ⟨slot, g, hsl, S⟩ := st
    have hi' : i < (ordW w a ep es).size := by rw [ordW_size]; exact hi
    have hx : ((ordW w a ep es)[i]?).map (·.2) = some (ordW w a ep es)[i].2 := by rw [Array.getElem?_eq_getElem hi']; rfl
    refine next_item g S hsl hx fun h' n hsb g' hsl' => ?_
    exact hQ _ h' s.toks hx ⟨n, g', hsl', ⟨(hsb.2 a hne).trans S.at_, S.ents, S.tab⟩⟩ fun b o hb e => (hsb.2 b (fun q => hb (by simp [q]))).trans e
  done := fun s Q E st hQ => by
    obtain ⟨slot, g, hsl, S⟩ := st
    refine next_end hh g S hsl (by rw [Array.getElem?_eq_none (by rw [ordW_size]; exact Nat.le_refl _)]; rfl) fun h' he' => hQ h' s.toks fun b o hb e => he' b o (fun q => hb (by simp [q])) e
  self := fun _ _ _ _ st hQ => st.elim fun _ q => iter_self q.1 hQ
theorem hint_set {Q : Bool → Shared → Prop} (hT : s.TypeIs (.ref a) "set") (h : Q false s) : wpAny (model prog w) A (Builtin.List.listLengthHint (.ref a)) Q E s := by
  unfold Builtin.List.listLengthHint
  refine wpAny_bind (wpAny_specialOf hT PySem.F.slot_set_len.lookup ?_)
  generalize hid : ("set.__len__" : String) = id0
  wp_delta
  rw [show splitId id0 = some ("set", "__len__") from by subst hid; decide +kernel]
  subst hid
  refine wpAny_bind (wpAny_isInstance (T := "set") (b := true) hT (by rw [isSubtype_type]; kernel_rfl) ?_)
  refine wpAny_ite_split (fun hab => absurd hab (by decide)) (fun _ => ?_)
  refine wpAny_ite_split (fun _ => ?_) (fun hab => absurd (by decide +kernel) hab)
  refine wpAny_bind (wpAny_typeOf hT ?_)
  exact wpAny_pure h
theorem src (S : SB s.heap a (ledW w) es ep t) : KdlSrc prog w "set" a a es.size (PW w a ep es) (fun h => SB h a (ledW w) es ep t) where
  type := fun _ q => ⟨_, q.at_, rfl⟩
  there := fun _ q => ⟨Heap.lt_size q.at_, Heap.lt_size q.at_⟩
  keep := fun _ _ q hk => ⟨hk a (.inl rfl) _ q.at_, q.ents, q.tab⟩
  notList := by decide
  notTuple := by decide
  hint := fun _ _ _ _ q hq => hint_set ⟨_, q.at_, rfl⟩ hq
  iter := fun _ s' hh q => ⟨itObj 0 0 a es.size ep, StW w s'.heap.objs.size a es ep t, (fun _ _ hq => set_iter q hq), walks hh (Nat.ne_of_lt (Heap.lt_size q.at_)), ⟨0, Heap.get?_push_size _ rfl, fun _ => below_zero q.tab.rise, ⟨Heap.get?_push_of_some _ q.at_, q.ents, q.tab⟩⟩⟩
theorem coll_ok {Q : List Value → Shared → Prop} {ks : List Int} (hh : A.handled = none) (hp : PS w s.heap a ks)
    (h : ∀ h' tk vs ns, (∀ b o, s.heap.get? b = some o → h'.get? b = some o) → IntsAre vs ns → ns.Perm ks → Q vs { s with heap := h', toks := tk }) : wpAny (model prog w) A (collect (.ref a)) Q E s := by
  obtain ⟨es, ep, t, S, hk, nd⟩ := hp
  have K := src (prog := prog) S
  have hlt := Heap.lt_size S.at_
  have hsz : es.size ≤ sizeLine := by
    have := S.tab.fill
    have := mask_le S.tab
    exact Nat.le_trans (Nat.le_trans S.tab.fill (mask_le S.tab)) (by decide)
  refine Mine.collect_via (fun hR => kdl_extend (A := A) (s := { s with heap := s.heap.push (seqObj "list" #[] 0) }) K hh (K.keep _ _ S fun b _ o e => Heap.get?_push_of_some _ e) _ (Nat.ne_of_gt hlt) (Nat.ne_of_gt hlt) _ 0 (Heap.get?_push_size _ rfl) hR hsz) fun h' tk vs hkp hl hv => ?_
  have hvs : vs = (ordW w a ep es).toList.map (·.2) := by
    refine List.ext_getElem? fun j => ?_
    rw [List.getElem?_map]
    cases hj : vs[j]? with
    | none =>
      rw [List.getElem?_eq_none (by rw [Array.length_toList, ordW_size, ← hl]; exact List.getElem?_eq_none_iff.mp hj)]; rfl
    | some v => exact ((congrArg (Option.map _) Array.getElem?_toList).trans (hv j v hj)).symm
  have hen : Ents (ordW w a ep es).toList := S.ents.perm ordW_perm
  have hints : ∀ l : List (Int × Value), Ents l → IntsAre (l.map (·.2)) (l.map (·.1)) := by
    intro l
    induction l with
    | nil => exact fun _ => .nil
    | cons e l ih =>
      intro he
      obtain ⟨k, tok, rfl, _⟩ := he e List.mem_cons_self
      exact .cons k tok (ih fun x hx => he x (List.mem_cons_of_mem _ hx))
  rw [hvs]
  exact h h' tk _ _ hkp (hints _ hen) ((List.Perm.map (fun x : Int × Value => x.1) ordW_perm).trans hk)
end
theorem setG (prog : Program) (w : World) : SetG prog w (PS w) where
  keep := fun q hk => by
    obtain ⟨es, ep, t, S, r⟩ := q
    exact ⟨es, ep, t, ⟨hk _ S.at_, S.ents, S.tab⟩, r⟩
  al := fun q => by
    obtain ⟨es, ep, t, S, r⟩ := q
    exact ⟨_, S.at_⟩
  make := fun _ hd hm hn hk h => make_ok hd hm hn hk h
  union := fun _ hab ha hb h1 h2 _ _ h => union_ok hab ha hb h1 h2 h
  coll := fun hh hp h => coll_ok hh hp h
end Mine.S
namespace Mine
open PySem PyProof.Rows PySem.Calls PySem.W Mine.U
theorem law_all {rs : List Int} (rb : RB rs) {items : List D} (sc : Scr items) : Cl (G rs) fLaw 180 [.d (.lst items)] [] tru [] := by
  have a := rb.lo 3
  have b := rb.hi 3 (by decide) (by decide)
  obtain ⟨n, hn⟩ : ∃ n : Nat, rs.getD 3 0 = (n : Int) := ⟨(rs.getD 3 0).toNat, (Int.toNat_of_nonneg a).symm⟩
  rw [hn, show mods.getD 3 0 = 12 from rfl] at b
  have go : ∀ {c size st : Int} {steps : List Int} {old new : Tr}, CaseOk c size st steps old new → (n : Int) = c → Cl (G rs) fLaw 180 [.d (.lst items)] [] tru [] := fun h e => law_ok k_tE rb sc (hn.trans e ▸ h)
  have hlt : n < 12 := Int.ofNat_lt.mp b
  clear b hn
  have step : ∀ {k : Nat}, n < k + 1 → (n = k → Cl (G rs) fLaw 180 [.d (.lst items)] [] tru []) → (n < k → Cl (G rs) fLaw 180 [.d (.lst items)] [] tru []) → Cl (G rs) fLaw 180 [.d (.lst items)] [] tru [] := fun h p q => (Nat.lt_succ_iff_lt_or_eq.mp h).elim q p
  refine step hlt (fun e => go c_11 (congrArg Int.ofNat e)) fun h => step h (fun e => go c_10 (congrArg Int.ofNat e)) fun h => step h (fun e => go c_9 (congrArg Int.ofNat e)) fun h => step h (fun e => go c_8 (congrArg Int.ofNat e)) fun h => step h (fun e => go c_7 (congrArg Int.ofNat e)) fun h => step h (fun e => go c_6 (congrArg Int.ofNat e)) fun h => ?_
  exact step h (fun e => go c_5 (congrArg Int.ofNat e)) fun h => step h (fun e => go c_4 (congrArg Int.ofNat e)) fun h => step h (fun e => go c_3 (congrArg Int.ofNat e)) fun h => step h (fun e => go c_2 (congrArg Int.ofNat e)) fun h => step h (fun e => go c_1 (congrArg Int.ofNat e)) fun h => step h (fun e => go c_0 (congrArg Int.ofNat e)) fun h => absurd h (Nat.not_lt_zero _)
theorem law_short {rs : List Int} {items : List D} (h : items.length < 16) : Cl (G rs) fLaw 180 [.d (.lst items)] [] tru [] := by
  have h0 : Sees (fLaw.params.zip [V.d (.lst items)]) [("script", .d (.lst items))] := .refl
  exact c_own rfl rfl (r_ret (r₁ := tru) rfl (x_ift (tt_cmp (fun n => rfl) (ev_b1 (r₁ := .val (.d (.int (items.length : Int)))) (fun n => rfl) (pn h0 rfl rfl) (ifp (c := _ = _) rfl (mpd (a := items.map V.d) rfl (by rw [List.length_map])))) ev_int (congrArg some (decide_eq_true (show (items.length : Int) < 16 from by omega)))) (x_ret (x_retE fun n => rfl))) rfl)
noncomputable def rsOf (is : List Int) : List Int := (List.range 16).map fun j => is.getD j 0 % mods.getD j 0
noncomputable def itOf (j : Nat) (i : Int) : D := if j = 0 then .key 0 else if j < 16 then .raw j 0 else .int i
noncomputable def itemsOf (is : List Int) : List D := (List.range is.length).map fun j => itOf j (is.getD j 0)
noncomputable def iotaOf (is : List Int) : Iota := ⟨is.getD 0 0, is.getD 1 0 % 3 + 2, fun j => if j < 16 then is.getD j 0 else 0⟩
theorem rs_at (is : List Int) {j : Nat} (h : j < 16) : (rsOf is).getD j 0 = is.getD j 0 % mods.getD j 0 := by
  unfold rsOf
  rw [List.getD_eq_getElem?_getD, List.getElem?_map, List.getElem?_range h]; rfl
theorem rs_out (is : List Int) {j : Nat} (h : ¬ j < 16) : (rsOf is).getD j 0 = 0 := by
  unfold rsOf
  rw [List.getD_eq_getElem?_getD, List.getElem?_eq_none (by rw [List.length_map, List.length_range]; omega)]; rfl
theorem mods_pos : ∀ j, j < 16 → 0 < mods.getD j 0 := by decide
theorem rb_of (is : List Int) : RB (rsOf is) := by
  refine ⟨fun j => ?_, fun j h1 h2 => ?_⟩
  · by_cases h : j < 16
    · rw [rs_at is h]; exact Int.emod_nonneg _ (Int.ne_of_gt (mods_pos j h))
    · rw [rs_out is h]; exact Int.le_refl _
  · rw [rs_at is h2]; exact Int.emod_lt_of_pos _ (mods_pos j h2)
theorem iok_of (is : List Int) : IOk (iotaOf is) (rsOf is) := by
  have e1 : (G (rsOf is)).gap = is.getD 1 0 % 3 + 2 := by
    show (rsOf is).getD 1 0 + 2 = _
    rw [rs_at is (by decide)]; rfl
  refine ⟨?_, e1, fun j => ?_⟩
  · show 2 ≤ is.getD 1 0 % 3 + 2
    have := Int.emod_nonneg (is.getD 1 0) (by decide : (3 : Int) ≠ 0)
    omega
  · show (rsOf is).getD j 0 = (if j < 16 then is.getD j 0 else 0) % mods.getD j 0
    by_cases h : j < 16
    · rw [rs_at is h, if_pos h]
    · rw [rs_out is h, if_neg h]; exact (Int.zero_emod _).symm
theorem items_len (is : List Int) : (itemsOf is).length = is.length := by unfold itemsOf; rw [List.length_map, List.length_range]
theorem items_at (is : List Int) {j : Nat} (h : j < is.length) : (itemsOf is)[j]? = some (itOf j (is.getD j 0)) := by
  unfold itemsOf
  rw [List.getElem?_map, List.getElem?_range h]; rfl
theorem scr_of {is : List Int} (h : 16 ≤ is.length) : Scr (itemsOf is) := ⟨items_at is (by omega), fun j h1 h2 => by
    rw [items_at is (by omega)]
    unfold itOf
    rw [if_neg (by omega), if_pos h2], by rw [items_len]; exact h⟩
theorem law_any (is : List Int) : Cl (G (rsOf is)) fLaw 180 [.d (.lst (itemsOf is))] [] tru [] := by
  by_cases h : 16 ≤ is.length
  · exact law_all (rb_of is) (scr_of h)
  · exact law_short (by rw [items_len]; omega)
theorem ints_len {us : List Value} {is : List Int} (h : IntsAre us is) : us.length = is.length := by
  induction h with
  | nil => rfl
  | cons n t _ ih => exact congrArg (· + 1) ih
theorem rep_items {is : List Int} {us : List Value} {T : Sm} (h : IntsAre us is) : RepDs (iotaOf is) T (itemsOf is) us := by
  refine repDs_eq.mpr (All2.ext (by rw [items_len]; exact ints_len h) fun j d u e1 e2 => ?_)
  have hj : j < is.length := by rw [← items_len]; exact (List.getElem?_eq_some_iff.mp e1).1
  rw [items_at is hj] at e1
  obtain ⟨t, rfl⟩ := h.int_at j u e2
  cases e1
  unfold itOf
  split
  · rename_i h0
    subst h0
    refine ⟨t, ?_⟩
    show Value.int (is.getD 0 0) t = .int (is.getD 0 0 + (is.getD 1 0 % 3 + 2) * (0 / 2) + 0 % 2) t
    congr 1; omega
  · split
    · rename_i h1
      refine ⟨t, ?_⟩
      show Value.int (is.getD j 0) t = .int ((if j < 16 then is.getD j 0 else 0) + 0) t
      rw [if_pos h1, Int.add_zero]
    · exact ⟨t, rfl⟩
theorem has_int {R : WRecords} {x : WData} (h : WShape.has R x .int = true) : ∃ i, x = .int i := by
  cases x with
  | int i => exact ⟨i, rfl⟩
  | _ => exact fK h
theorem has_ints {R : WRecords} {xs : List WData} : WShape.hasItems R xs .int = true → ∃ is : List Int, xs = is.map WData.int := by
  induction xs with
  | nil => exact fun _ => ⟨[], rfl⟩
  | cons x xs ih =>
    exact fun h => andK (show (WShape.has R x .int && WShape.hasItems R xs .int) = true from h) fun h1 h2 => by
      obtain ⟨i, rfl⟩ := has_int h1
      obtain ⟨is, rfl⟩ := ih h2
      exact ⟨i :: is, rfl⟩
theorem has_list {R : WRecords} {x : WData} (h : WShape.has R x (.list .int) = true) : ∃ is : List Int, x = .list (is.map WData.int) := by
  cases x with
  | list xs =>
    have h : ([WShape.list .int].any fun a => match a with | .list e => WShape.hasItems R xs e | _ => false) = true := h
    obtain ⟨is, rfl⟩ := has_ints (R := R) (xs := xs) (by simpa using h)
    exact ⟨is, rfl⟩
  | _ => exact fK h
theorem has_args {R : WRecords} {args : List WData} (h : WShape.hasAll R args [.list .int] = true) : ∃ is : List Int, args = [.list (is.map WData.int)] := by
  cases args with
  | nil => exact fK h
  | cons x xs =>
    refine andK (show (WShape.has R x (.list .int) && WShape.hasAll R xs []) = true from h) fun h1 h2 => ?_
    obtain ⟨is, rfl⟩ := has_list h1
    cases xs with
    | nil => exact ⟨is, rfl⟩
    | cons _ _ => exact fK h2
theorem well_int {P : Params} {h : Heap} {v : Value} {i : Int} (w : Well P h v (.int i)) : ∃ t, v = .int i t := by
  cases w; exact ⟨_, rfl⟩
theorem well_ints {P : Params} {h : Heap} {is : List Int} : ∀ {vs : List Value}, WellAll P h vs (is.map WData.int) → IntsAre vs is := by
  induction is with
  | nil => intro vs w; cases w; exact .nil
  | cons i is ih =>
    intro vs w
    obtain ⟨v, vs', rfl, w1, w2⟩ := wellAll_cons_inv w
    obtain ⟨t, rfl⟩ := well_int w1
    exact .cons _ _ (ih w2)
theorem well_list {P : Params} {h : Heap} {v : Value} {xs : List WData} (w : Well P h v (.list xs)) : ∃ l vs, v = .ref l ∧ h.get? l = some { cls := .type "list", data := .seq (List.toArray vs) } ∧ WellAll P h vs xs := by
  cases w with
  | list h1 h2 => exact ⟨_, _, rfl, h1, h2⟩
theorem len63 {is : List Int} (h : WTm.holds [] (.and (.not (.lt (.lit (.int 63)) (.len (.arg 0)))) (.lit (.bool true))) { args := [WData.list (is.map WData.int)] } = true) : is.length ≤ 63 := by
  have e : ∀ b : Bool, Num.less? (WData.int 63) (WData.int ((is.map WData.int).length : Int)) = some b → b = false := fun b hb => by
    cases b with
    | false => rfl
    | true =>
      have h : (match (match (match (Num.less? (WData.int 63) (WData.int ((is.map WData.int).length : Int))).map WData.bool with | some (.bool b) => some (WData.bool !b) | _ => none) with | some (.bool false) => some (WData.bool false) | some (.bool true) => some (WData.bool true) | _ => none) with | some (.bool true) => true | _ => false) = true := h
      rw [hb] at h
      exact fK h
  have := e _ rfl
  have := of_decide_eq_false this
  rw [List.length_map] at this
  omega
theorem walk (hS : ∀ w, ∃ P, SetG pw w P) : WalkO qv loose (fun _ _ => True) Says Challenge.rw_sx_r033_1.row.toRowW dLaw [] fun f vs => PySem.call f vs := by
  intro w s₀ s₁ mg mb Gr Y a o pm cd doc dV kV ho hdat hcode hdf hname hgens args vals as hpre hlay hrd hwell hlow
  obtain ⟨hp1, hp2⟩ := Bool.and_eq_true_iff.mp hpre
  obtain ⟨is, rfl⟩ := has_args (R := []) hp1
  obtain ⟨v, vn, rfl, wl, wn⟩ := wellAll_cons_inv hwell
  cases wn
  obtain ⟨l, vs, rfl, hl, wv⟩ := well_list wl
  have hi := well_ints wv
  have hlen : is.length ≤ 63 := len63 hp2
  obtain ⟨P, S⟩ := hS w
  obtain ⟨C, K, mg', mb', Y⟩ := Y
  obtain ⟨HT, YC⟩ := Y (iotaOf is) (rsOf is) (iok_of is)
  have hmg : mg' = mg := (HT.g.eq_nsMap).trans (Gr.T.g.eq_nsMap).symm
  obtain ⟨fa, fo, fd, h1, hf⟩ := HT.fns "law" fLaw rfl
  have hfa : fa = a := by
    have e1 : mg' "law" = some (.ref fa) := h1
    have e2 : mg "law" = some (.ref a) := hname
    rw [hmg, e2] at e1
    cases e1; rfl
  subst hfa
  have e := law_any is 20
  refine wpAny_call ?_
  refine (snd HT YC S 200).call (T := ⟨s₁, ⟨Al s₁.heap, [], []⟩⟩) (vs := [.d (.lst (itemsOf is))]) (σ := []) ⟨rfl, by decide, by decide⟩ e hf ⟨fun _ _ e => e, fun _ e => e, fun _ e => e, fun _ _ q => absurd q List.not_mem_nil, rfl, rfl, List.nodup_nil, fun _ _ e => nomatch e⟩ (.one ⟨l, vs, rfl, ⟨_, hl⟩, ⟨0, hl⟩, by rw [items_len]; exact Nat.le_trans hlen (by decide), rep_items hi⟩) fun u T' af rc => ?_
  have hu : u = .bool true := rc
  subst hu
  obtain ⟨hh, tk, hsh⟩ := af.ext.sh
  refine ⟨.inl ⟨.bool true, .bool true, [], rfl, fun _ => rfl, .bool true, ?_, fun _ => ⟨List.nodup_nil, fun _ h => absurd h List.not_mem_nil⟩⟩, .of_keep fun b o e => af.ext.keep b o e fun q => absurd q List.not_mem_nil, ?_, .of_eq ?_⟩
  · kernel_rfl
  · rw [hsh]
  · rw [hsh]; exact hgens
end Mine

theorem PySem.Challenge.cw_sx_r033_1_holds : PySem.Challenge.rw_sx_r033_1.Holds :=
 Mine.head (Mine.walk fun w => ⟨_, Mine.S.setG _ w⟩)
