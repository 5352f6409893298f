import PyProof.Rows.All
import Wide.All
import OpenK.AllK
import Wide.FinOn
import PyProof.EqAt
import PyProof.EqKinds
import PyProof.TupleCall
import HandS.ForMost
import HandS.Exc
import HandS.WordsExc
import HandS.ExcOwn
import HandS.IsInst
import HandS.Zip
import HandS.Walk
import HandS.Conv
import HandS.TupAny
import HandS.Wide
import HandS.WideBits
import HandS.Property
import HandS.FStr
import HandS.Deep
import KE.GoesNew
import HandS.Text
import HandS.Lambda
import HandS.ExcInit
import HandS.ExcValue
import HandS.Flt
import HandS.TryOnly
import HandS.TupMul
import KE.KDictZip
import HandS.Defaults
import HandS.MakeKw
import HandS.Style
import PyProof.ReprRoads
import HandS.RaiseMore
import HandS.SetFor
import KE.KExcInit
import HandS.ExcIs
import HandS.ExcField
import HandS.HotCalls
import KE.KExcIs
import KE.KTryMore
import KE.DataFind
import OpenK.KOps
import OpenK.KMeth
import KE.KCallOwn
import HandS.SlotsOwn
import PyProof.Rows.Range3
import HandS.More
import HandS.Star
import HandS.ClsMeth
import HandS.ReplaceLit
import HandS.Dict
import KE.KDictDisplayH
import HandS.SortInts
import HandS.SortKw
import HandS.Strs
import KE.KDictPairs
import KE.SortKeyHeap
import KE.KOpsOwn
import KE.KEqDict
import PyProof.NeKinds
import KE.KeyNested
import HandS.ListItems
import KE.KStateDown
import HandS.Ends
import HandS.EndBits
import HandS.Head0
import HandS.Head1
import HandS.Head2
import HandS.HeadEnd
import HandS.HeadHook1
import HandS.HeadHook2
import HandS.Codes
import HandS.HeadHook4
import HandS.EndTab
import HandS.NestedK
import HandS.HeadNt
import PySem.Challenge.RW_meetrounds_k01_limits_and_errors
set_option Elab.async false
set_option linter.all false
namespace Eg
open PySem
inductive T where
 | non | bl (b:Bool) | int (i:Int) | str (x:Str)
 | tup (xs:List T) | lst (xs:List T)
 | obj (c:Nat) (vs:List T)
 | exc (c:Nat) (vs:List T)
 | loc (l:Nat)
 | scr (ns:List Int)
 | cv (c:Nat)
 | ptp (xs:List T)
 | edt
 | exh (c:Nat) (vs:List T)
 | dk1 (k:Str) (t:T)
instance:Inhabited T:=⟨.non⟩
inductive Cell where
 | lst (xs:List T) | ins (c:Nat) (vs:List T) | dt (kvs:List (List L2.Key × T)) | dk (kvs:List (L2.Key × T)) | dn (ks:List (List (List Int)))
def Z7v (k:List (List Int)):T := .tup (k.map fun r => .tup (r.map T.int))
abbrev Sto:=List Cell
inductive R (A:Type) where
 | ok (a:A) (s:Sto) | exc (e:T) (s:Sto) | bad
def R.bnd {A B:Type} (x:R A) (f:A→Sto→R B):R B:=match x with
 | .ok a s=>f a s
 | .exc e s => .exc e s
 | .bad => .bad
def R.nox {A:Type} (x:R A):R A:=match x with
 | .ok a s => .ok a s
 | _ => .bad
def R.opt {A:Type} (o:Option A) (s:Sto):R A:=match o with
 | some a => .ok a s
 | none => .bad
abbrev Env:=List (Option T)
def lim:Nat:=16777216
theorem Z1t:lim=sizeLine:=by rw[sizeLine_eq];rfl
mutual
def data:T→Bool
 | .non=>true
 | .bl _=>true
 | .int _=>true
 | .str x=>PyData.strOk x
 | .tup xs=>Z0l xs
 | .lst xs=>Z0l xs
 | .obj _ _=>false
 | .exc _ _=>false
 | .loc _=>false
 | .scr _=>false
 | .cv _=>false
 | .ptp _=>false
 | .edt=>false
 | .exh _ _=>false
 | .dk1 _ _=>false
def Z0l:List T→Bool
 | []=>true
 | x :: xs=>data x && Z0l xs
end
mutual
def dep:T→Nat
 | .tup xs=>Z2s xs+1
 | .lst xs=>Z2s xs+1
 | .edt=>1
 | .dk1 _ t=>dep t+1
 | _=>0
def Z2s:List T→Nat
 | []=>0
 | x :: xs=>max (dep x) (Z2s xs)
end
mutual
def eqv:T→T→Bool
 | .non, .non=>true
 | .bl a, .bl b=>a == b
 | .bl a, .int j=>(if a then 1 else 0) == j
 | .int i, .bl b=>i == (if b then 1 else 0)
 | .int i, .int j=>i == j
 | .str x, .str y=>x == y
 | .lst xs, .lst ys=>Zad xs ys
 | .tup xs, .tup ys=>Zad xs ys
 | _,_=>false
def Zad:List T→List T→Bool
 | [],[]=>true
 | x :: xs,y :: ys=>eqv x y && Zad xs ys
 | _,_=>false
end
def eqT (a b:T):Option Bool:=if data a && data b && decide (dep a≤60) && decide (dep b≤60) then some (eqv a b) else none
def Z4v (i j:Int):Prop:=i.natAbs.log2+j.natAbs.log2 < 100000000
instance (i j:Int):Decidable (Z4v i j):=by unfold Z4v;infer_instance
def Z6s (j:Int):Prop:=0 < j∧j.natAbs.log2 < 9000
instance (j:Int):Decidable (Z6s j):=by unfold Z6s;infer_instance
def Z6o (i j:Int):Prop:=0≤j∧j≤1000000∧i.natAbs < 2 ^ 64
instance (i j:Int):Decidable (Z6o i j):=by unfold Z6o;infer_instance
def addT:T→T→Option T
 | .int a, .int b=>some (.int (a+b))
 | .str a, .str b=>if a.length+b.length≤lim then some (.str (a++b)) else none
 | .tup a, .tup b=>if a.length+b.length≤lim then some (.tup (a++b)) else none
 | _,_=>none
def Z5i:Operator→T→T→Option T
 | .Add,a,b=>addT a b
 | .Sub, .int a, .int b=>some (.int (a - b))
 | .Mult, .int a, .int b=>if Z4v a b then some (.int (a * b)) else none
 | .FloorDiv, .int a, .int b=>if Z6s b then some (.int (a / b)) else none
 | .Mod, .int a, .int b=>if 0 < b then some (.int (a % b)) else none
 | .Pow, .int a, .int b=>if Z6o a b then some (.int (a ^ b.toNat)) else none
 | _,_,_=>none
def Z2r (st:Sto):T→Option (List T)
 | .lst xs=>some xs
 | .loc l=>match st[l]? with
  | some (.lst xs)=>some xs
  | _=>none
 | _=>none
def Z0p (st:Sto):T→Option (List T)
 | .lst xs=>some xs
 | .scr ns=>some (ns.map .int)
 | .loc l=>match st[l]? with
  | some (.lst xs)=>some xs
  | _=>none
 | _=>none
def Z2o (st:Sto):T→Option (List T)
 | .tup xs=>some xs
 | .ptp xs=>some xs
 | t=>Z0p st t
def Zbh (x:Str):List T:=x.cps.toList.map fun c => .str ⟨#[c]⟩
def ZaT (a b:Str):Bool := !(Builtin.Str.occurrences b a 0 b.length 1).isEmpty
def inT (st:Sto) (a b:T):Option Bool:=match a,b with
 | .str x, .str y=>some (ZaT x y)
 | a,b=>match Z2o st b with
  | some ys=>if data a && Z0l ys && decide (dep a≤60) && decide (Z2s ys≤60) then some (ys.any fun y=>eqv y a) else none
  | none=>none
def Z0j (st:Sto) (t:T):T:=match Z0p st t with
 | some xs => .lst xs
 | none=>t
def Z1h (st:Sto):CmpOp→T→T→Option Bool
 | .Eq,a,b=>eqT (Z0j st a) (Z0j st b)
 | .NotEq,a,b=>(eqT (Z0j st a) (Z0j st b)).map (!·)
 | .Lt, .int a, .int b=>some (decide (a < b))
 | .LtE, .int a, .int b=>some (decide (a≤b))
 | .Gt, .int a, .int b=>some (decide (b < a))
 | .GtE, .int a, .int b=>some (decide (b≤a))
 | .In,a,b=>inT st a b
 | .NotIn,a,b=>(inT st a b).map (!·)
 | _,_,_=>none
def ixT (st:Sto):T→T→Option T
 | .str x, .int i=>if x.length≤lim then(L2.atI x.cps.toList i).map fun c => .str ⟨#[c]⟩ else none
 | a, .int i=>match Z2o st a with
  | some xs=>L2.atI xs i
  | none=>none
 | _,_=>none
def cut {A:Type} (xs:List A) (lo hi:Option Int):List A:=(xs.drop (HT.sIx xs.length 0 lo)).take (HT.sIx xs.length xs.length hi - HT.sIx xs.length 0 lo)
def Z0v:List T→Option (List Int)
 | []=>some []
 | .int i :: r=>(Z0v r).map (i :: ·)
 | _ :: _=>none
def Z4t:List T→Option (List Bool)
 | []=>some []
 | .bl b :: r=>(Z4t r).map (b :: ·)
 | _ :: _=>none
def Z9b:List T→Option (List Str)
 | []=>some []
 | .str b :: r=>(Z9b r).map (b :: ·)
 | _ :: _=>none
def Z8q:List Int→Int
 | []=>0
 | [a]=>a
 | a :: b :: r=>max a (Z8q (b :: r))
def Z8o:List Int→Int
 | []=>0
 | [a]=>a
 | a :: b :: r=>min a (Z8o (b :: r))
inductive Bi where
 | len | sum | max | min | abs | int | tuple | all | any | divmod
 deriving DecidableEq
def biT (st:Sto):Bi→List T→Option T
 | .len,[.str x]=>if x.length≤lim then some (.int x.length) else none
 | .len,[a]=>(Z2o st a).map fun xs => .int xs.length
 | .sum,[a]=>((Z2o st a).bind Z0v).map fun ns => .int ns.sum
 | .max,[a]=>((Z0p st a).bind Z0v).bind fun ns=>if ns=[] then none else some (.int (Z8q ns))
 | .min,[a]=>((Z0p st a).bind Z0v).bind fun ns=>if ns=[] then none else some (.int (Z8o ns))
 | .max,[.int i, .int j]=>some (.int (if j > i then j else i))
 | .min,[.int i, .int j]=>some (.int (if j < i then j else i))
 | .max,[.int i, .int j, .int l]=>some (.int (if l > (if j > i then j else i) then l else(if j > i then j else i)))
 | .min,[.int i, .int j, .int l]=>some (.int (if l < (if j < i then j else i) then l else(if j < i then j else i)))
 | .abs,[.int i]=>some (.int (if i < 0 then -i else i))
 | .int,[.int i]=>some (.int i)
 | .int,[.bl k]=>some (.int (if k then 1 else 0))
 | .int,[.str a]=>(PySem.intText? a).bind fun n=>if a.length≤640 then some (.int n) else none
 | .tuple,[.ptp xs]=>some (.ptp xs)
 | .tuple,[a]=>(Z2o st a).map .tup
 | .all,[a]=>((Z0p st a).bind Z4t).map fun bs => .bl (bs.all id)
 | .any,[a]=>((Z0p st a).bind Z4t).map fun bs => .bl (bs.any id)
 | .divmod,[.int i, .int j]=>if Z6s j then some (.tup [.int (i / j), .int (i % j)]) else none
 | _,_=>none
inductive IG where
 | name (i:Nat) | tup (gs:List IG)
structure Fn where
 name:Str
 ks:List Str
 F:List T→Sto→R T
structure Ci where
 fl:List Str
 props:List (Str × (List T→Sto→R T))
 meths:List (Str × Fn)
inductive Ty where
 | non | bl | int | str | tup | lst | cls (c:Nat) | dct
 deriving DecidableEq
inductive Tg where
 | ty (n:String) | cls (c:Nat)
 deriving DecidableEq
structure Hd where
 name:Str
 FT:(Sto→R T)→Sto→R T
structure Tab where
 cons:List (Str × T)
 funs:List Fn
 cls:List Ci
 isi:List ((Ty × Tg) × Bool)
 tgs:List (Str × Tg)
 hfuns:List Fn:=[]
 xis:List ((Nat × Tg) × Bool):=[]
 xfl:List (Nat × Str):=[]
 xcs:List (Nat × Str):=[]
 hds:List Hd:=[]
 dun:List ((Nat × Str) × (List T→Sto→R T)):=[]
 nes:List Nat:=[]
 ids:List Nat:=[]
 xm:List Nat:=[]
 cmf:List (Nat × Fn):=[]
def Tab.hot (tb:Tab):Tab:={ tb with funs:=[],cls:=[],hds:=[],xcs:=[],dun:=[],cmf:=[] }
def IG.set:IG→T→Env→Option Env
 | .name i,t,env=>if i < env.length then some (env.set i (some t)) else none
 | .tup gs, .tup xs,env=>sets gs xs env
 | .tup gs, .lst xs,env=>sets gs xs env
 | .tup _,_,_=>none
where sets:List IG→List T→Env→Option Env
 | [],[],env=>some env
 | g :: gs,x :: xs,env=>match g.set x env with
  | some env'=>sets gs xs env'
  | none=>none
 | _,_,_=>none
def Z1y (env:Env):List Nat→Env
 | []=>env
 | i :: r=>(Z1y env r).set i none
def Z8n (f:T→Sto→R (Option T)):List T→Sto→R (List T)
 | [],st => .ok [] st
 | x :: xs,st=>(f x st).bnd fun o st1=>(Z8n f xs st1).bnd fun r st2 => .ok (match o with
  | some y=>y :: r
  | none=>r) st2
def Z1i:List T→List T→List T
 | x :: xs,y :: ys => .tup [x,y] :: Z1i xs ys
 | _,_=>[]
def Z1k:Nat→List T→List T
 | _,[]=>[]
 | n,x :: xs => .tup [.int n,x] :: Z1k (n+1) xs
def Z2m (lo hi:Int):List T:=(List.range (hi - lo).toNat).map fun i => .int (lo+(i:Nat))
def RgOk (i:Int):Prop := -(2 ^ 62)≤i∧i < 2 ^ 62
instance (i:Int):Decidable (RgOk i):=by unfold RgOk;infer_instance
def ZcS (n:Bool):T→Bool
 | .non => !n
 | _=>n
def asBl:T→Option Bool
 | .bl b=>some b
 | _=>none
def evV (i:Nat) (env:Env) (st:Sto):R T:=match env[i]? with
  | some (some t) => .ok t st
  | _ => .bad
end Eg
set_option maxRecDepth 100000
set_option maxHeartbeats 2000000
namespace Eg
open PySem PySem.Spec PyProof.Rows L2
structure XA where
 a:Addr
 oe:Obj
 cls:Value
 d:Option Addr
structure Gh where
 K:PySem.W.Frag
 cl:Nat→Addr
 fl:Nat→List Str
 tb:List (Addr × Str):=[]
 xa:Option XA:=none
def NT:HO→Prop
 | .tbl _=>False
 | _=>True
theorem NT.ne{o:HO}(h:NT o):∀ ps,o ≠ .tbl ps:=fun ps e=>by rw[e] at h;exact h
def KL (K:PySem.W.Frag) (a:Addr) (xs:List V):Prop :=
 ∃ (o:Obj) (its:Array Value) (n:Nat),K.lookup a=some o∧o.cls = .type "list" ∧ o.dict=none∧o.data = .seq its n∧its.size≤sizeLine∧Vals xs its.toList
structure Mm where
 as:List Addr
 fo:Addr→Prop
def Mm.w (m:Mm) (a:Addr):Prop:=a∈m.as∨m.fo a
def LAt (G:Gh) (m:Mm) (H:Hp) (a:Addr) (xs:List V):Prop:=¬ m.w a∧H a=some (.lst xs)
def SAt (G:Gh) (m:Mm) (H:Hp) (a:Addr) (xs:List V):Prop:=(¬ m.w a∧Rd H a (.lst xs))∨KL G.K a xs
def PAt (m:Mm) (H:Hp) (a:Addr) (vs:List V):Prop:=¬ m.w a∧∃ o:Obj,H a=some (.frz o (.tup vs))∧o.dict=none
def TAt (G:Gh) (m:Mm) (H:Hp) (a:Addr) (xs:List V):Prop:=¬ m.w a∧H a=some (.tup xs)
mutual
def Rp (G:Gh) (m:Mm) (H:Hp):T→V→Prop
 | .non,v=>v = .non
 | .bl b,v=>v = .bl b
 | .int i,v=>v = .int i
 | .str x,v=>v = .str x
 | .tup xs,v=>∃ a vs,v = .ref a∧TAt G m H a vs∧Rps G m H xs vs
 | .lst xs,v=>∃ a vs,v = .ref a∧LAt G m H a vs∧Rps G m H xs vs
 | .obj c xs,v=>∃ a dx fv,v = .ref a∧¬ m.w a∧H a=some (.ins (G.cl c) dx fv)∧fv.map (·.1)=G.fl c∧Rps G m H xs (fv.map (·.2))
 | .exc c ts,v=>∃ y vs,G.xa=some y∧v = .ref y.a∧y.cls = .ref (G.cl c)∧Rps G m H ts vs∧((vs=[]∧y.d=none)∨∃ dx f w,vs=[w]∧y.d=some dx∧¬ m.w dx∧H dx=some (.xd [(f,w)])∧G.fl c=[f])
 | .loc l,v=>∃ a,v = .ref a∧m.as[l]? = some a
 | .scr ns,v=>∃ a,v = .ref a∧SAt G m H a (ns.map V.int)
 | .cv c,v=>v = .ref (G.cl c)
 | .ptp xs,v=>∃ a vs,v = .ref a∧PAt m H a vs∧Rps G m H xs vs
 | .edt,v=>∃ a,v = .ref a∧¬ m.w a∧H a=some (.dK [])
 | .exh c ts,v=>∃ a vs,v = .ref a∧¬ m.w a∧Rps G m H ts vs∧((vs=[]∧H a=some (ExO (.ref (G.cl c)) a))∨∃ dx f w,vs=[w]∧G.fl c=[f]∧¬ m.w dx∧H a=some (exo a (G.cl c) (some dx))∧H dx=some (exd dx [(f,w)]))
 | .dk1 k t,v=>∃ a w,v = .ref a∧¬ m.w a∧H a=some (.dK [(Sum.inr k,w)])∧Rp G m H t w
def Rps (G:Gh) (m:Mm) (H:Hp):List T→List V→Prop
 | [],vs=>vs=[]
 | x :: xs,vs=>∃ v r,vs=v :: r∧Rp G m H x v∧Rps G m H xs r
end
def RKs {κ : Type} (G:Gh) (m:Mm) (H:Hp):List (κ × T)→List (κ × V)→Prop
 | [],vs=>vs=[]
 | p :: r,vs=>∃ v s,vs=(p.1,v) :: s∧Rp G m H p.2 v∧RKs G m H r s
def HN (k:List (List Int)):Int:=reduceHash (Builtin.Tuple.tupleHashOf (k.map fun r=>reduceHash (Builtin.Tuple.tupleHashOf (r.map hashInt))))
def entN (x:List (List Int) × Addr):DictEntry:={ hash:=HN x.1,key := .ref x.2,val := .bool true }
def DnP (a:Addr) (ks:List (List (List Int))) (bs:List Addr) (h:Heap):Prop :=
 (a == sysModules)=false∧ks.length≤sizeLine∧bs.length=ks.length∧ks.Nodup∧∃ o es ep,h.get? a=some o∧o.ExactDict∧o.data = .dict es ep∧es.toList=(ks.zip bs).map entN
def Z1m (G:Gh) (m:Mm) (H:Hp) (a:Addr):Cell→Prop
 | .lst xs=>∃ vs,H a=some (.lst vs)∧Rps G m H xs vs
 | .ins c xs=>∃ dx fv,H a=some (.ins (G.cl c) dx fv)∧fv.map (·.1)=(G.fl c).take xs.length∧xs.length≤(G.fl c).length∧Rps G m H xs (fv.map (·.2))
 | .dt kvs=>∃ vs,H a=some (.dT vs)∧RKs G m H kvs vs
 | .dk kvs=>∃ vs,H a=some (.dK vs)∧RKs G m H kvs vs
 | .dn ks=>∃ bs:List Addr,H a=some (.ext (DnP a ks bs))∧Rps G m H (ks.map Z7v) (bs.map V.ref)
structure RSto (G:Gh) (m:Mm) (H:Hp) (st:Sto):Prop where
 nd:m.as.Nodup
 fd:∀ a∈m.as,¬ m.fo a
 len:m.as.length=st.length
 cell:∀ (i:Nat) a c,m.as[i]? = some a→st[i]? = some c→Z1m G m H a c
 foS:∀ a,m.fo a→H a≠none
 tab:LamX.Tabs G.tb H
def Z0z (G:Gh) (m:Mm) (H:Hp) (env:Env) (σ : L2.St):Prop:=env.length = σ.length∧∀ (i:Nat) t,env[i]? = some (some t)→∃ v,σ[i]? = some (some v)∧Rp G m H t v
structure RS (G:Gh) (m:Mm) (env:Env) (st:Sto) (σ : L2.St) (H:Hp):Prop where
 env:Z0z G m H env σ
 sto:RSto G m H st
structure Mov (m:Mm) (H:Hp) (m':Mm) (H':Hp):Prop where
 keep:∀ a o,H a=some o→NT o→a ∉ m.as→H' a=some o
 stay:∀ a,a ∉ m.as→H a≠none→H' a≠none
 newA:∀ a,a∈m'.as→a∈m.as∨H a=none
 newF:∀ a,m'.fo a→m.w a∨H a=none
 pre:∃ n,m'.as=m.as++n
structure Stp (m:Mm) (H:Hp) (m':Mm) (H':Hp):Prop extends Mov m H m' H' where
 fo:m'.fo=m.fo
variable {G:Gh} {m m1 m':Mm} {H H1 H':Hp} {st st':Sto} {σ σ':L2.St} {env env':Env} {a p D:Addr} {o:HO}
theorem Mov.w(x:Mov m H m' H')(h:m'.w a):m.w a∨H a=none:=by
 rcases h with h | h
 ·rcases x.newA a h with z | z
  ·exact .inl (.inl z)
  ·exact .inr z
 ·exact x.newF a h
theorem Z3o(h:H a≠none):upd H p o a≠none:=by
 by_cases e:a=p
 ·rw[e,upd_same];simp
 ·rw[upd_ne e];exact h
theorem Stp.refl(m:Mm)(H:Hp):Stp m H m H:=⟨⟨fun _ _ h _ _=>h,fun _ _ h=>h,fun _ h => .inl h,fun _ h => .inl (.inr h),⟨[],by simp⟩⟩,rfl⟩
theorem Stp.trans(x:Stp m H m1 H1)(y:Stp m1 H1 m' H'):Stp m H m' H':=by
 have back:∀ a,H1 a=none→a∈m.as∨H a=none:=fun a z=>by
  by_cases hm:a∈m.as
  ·exact .inl hm
  ·exact .inr (Decidable.byContradiction fun e=>x.stay a hm e z)
 have out:∀ a,a ∉ m.as→H a≠none→a ∉ m1.as:=fun a hn h q=>by
  rcases x.newA a q with z | z
  ·exact hn z
  ·exact h z
 have keep:∀ a o,H a=some o→NT o→a ∉ m.as→H' a=some o:=fun a o h hT hn=>y.keep a o (x.keep a o h hT hn) hT (out a hn (by rw[h];simp))
 refine⟨⟨keep,fun a hn h=>y.stay a (out a hn h) (x.stay a hn h),fun a h => ?_,fun a h => ?_, ?_⟩,y.fo.trans x.fo⟩
 ·rcases y.newA a h with z | z
  ·exact x.newA a z
  ·exact back a z
 ·rw[y.fo,x.fo] at h
  exact .inl (.inr h)
 ·obtain⟨n,e⟩:=x.pre
  obtain⟨n',e'⟩:=y.pre
  exact⟨n++n',by rw[e',e,List.append_assoc]⟩
theorem Stp.fresh(hp:H p=none):Stp m H m (upd H p o) :=
 ⟨⟨fun a u h _ _=>by rw[upd_ne (ne_of_none h hp)];exact h,fun a _ h z=>by
   by_cases e:a=p
   ·exact h (by rw[e];exact hp)
   ·rw[upd_ne e] at z;exact h z,fun _ h => .inl h,fun _ h => .inl (.inr h),⟨[],by simp⟩⟩,rfl⟩
theorem Mov.wt(x:Mov m H m' H'){u:HO}(h:H a=some u)(hn:¬ m.w a):¬ m'.w a:=fun q=>by
 rcases x.w q with z | z
 ·exact hn z
 ·rw[h] at z;cases z
theorem Mov.rd(x:Mov m H m' H'){u:HO}(hT:NT u)(h:Rd H a u)(hn:¬ m.w a):¬ m'.w a∧Rd H' a u:=by
 have hm:a ∉ m.as:=fun z=>hn (.inl z)
 rcases h with h | ⟨o,h⟩
 ·exact⟨x.wt h hn, .inl (x.keep a _ h hT hm)⟩
 ·exact⟨x.wt h hn, .inr ⟨o,x.keep a _ h True.intro hm⟩⟩
theorem LAt.mov(x:Mov m H m' H'){vs:List V}(h:LAt G m H a vs):LAt G m' H' a vs :=
 ⟨x.wt h.2 h.1,x.keep a _ h.2 True.intro fun z=>h.1 (.inl z)⟩
theorem SAt.mov(x:Mov m H m' H'){vs:List V}(h:SAt G m H a vs):SAt G m' H' a vs:=by
 rcases h with ⟨hn,h⟩ | h
 ·exact .inl (x.rd True.intro h hn)
 ·exact .inr h
theorem TAt.mov(x:Mov m H m' H'){vs:List V}(h:TAt G m H a vs):TAt G m' H' a vs :=
 ⟨x.wt h.2 h.1,x.keep a _ h.2 True.intro fun z=>h.1 (.inl z)⟩
theorem PAt.mov(x:Mov m H m' H'){vs:List V}(h:PAt m H a vs):PAt m' H' a vs:=by
 obtain⟨hn,o,e,hd⟩:=h
 exact⟨x.wt e hn,o,x.keep a _ e True.intro fun z=>hn (.inl z),hd⟩
theorem ZhV(x:Mov m H m' H'){l:Nat}(h:m.as[l]? = some a):m'.as[l]? = some a:=by
 obtain⟨n,e⟩:=x.pre
 rw[e,List.getElem?_append_left (List.getElem?_eq_some_iff.mp h).1]
 exact h
mutual
theorem Rp.mov(x:Mov m H m' H'):∀ (t:T) (v:V),Rp G m H t v→Rp G m' H' t v
 | .non,_,h=>h
 | .bl _,_,h=>h
 | .int _,_,h=>h
 | .str _,_,h=>h
 | .tup xs,_,⟨a,vs,e,h,r⟩=>⟨a,vs,e,h.mov x,Rps.mov x xs vs r⟩
 | .lst xs,_,⟨a,vs,e,h,r⟩=>⟨a,vs,e,h.mov x,Rps.mov x xs vs r⟩
 | .obj c xs,_,⟨a,dx,fv,e,hn,h,hf,r⟩=>⟨a,dx,fv,e,x.wt h hn,x.keep a _ h True.intro (fun z=>hn (.inl z)),hf,Rps.mov x xs _ r⟩
 | .exc c ts,_,⟨y,vs,e1,e2,e3,r,q⟩=>⟨y,vs,e1,e2,e3,Rps.mov x ts vs r,q.imp id fun⟨dx,f,w,h1,h2,h3,h4,h5⟩=>⟨dx,f,w,h1,h2,x.wt h4 h3,x.keep dx _ h4 True.intro fun z=>h3 (.inl z),h5⟩⟩
 | .loc l,_,⟨a,e,h⟩=>⟨a,e,ZhV x h⟩
 | .scr ns,_,⟨a,e,h⟩=>⟨a,e,h.mov x⟩
 | .cv _,_,h=>h
 | .ptp xs,_,⟨a,vs,e,h,r⟩=>⟨a,vs,e,h.mov x,Rps.mov x xs vs r⟩
 | .edt,_,⟨a,e,hn,h⟩=>⟨a,e,x.wt h hn,x.keep a _ h True.intro fun z=>hn (.inl z)⟩
 | .exh c ts,_,⟨a,vs,e,hn,r,q⟩=>⟨a,vs,e,q.elim (fun h=>x.wt h.2 hn) (fun⟨_,_,_,_,_,_,h,_⟩=>x.wt h hn),Rps.mov x ts vs r,q.imp (fun⟨h1,h2⟩=>⟨h1,x.keep a _ h2 True.intro fun z=>hn (.inl z)⟩) fun⟨dx,f,w,h1,h2,h3,h4,h5⟩=>⟨dx,f,w,h1,h2,x.wt h5 h3,x.keep a _ h4 True.intro fun z=>hn (.inl z),x.keep dx _ h5 True.intro fun z=>h3 (.inl z)⟩⟩
 | .dk1 k t,_,⟨a,w,e,hn,h,r⟩=>⟨a,w,e,x.wt h hn,x.keep a _ h True.intro (fun z=>hn (.inl z)),Rp.mov x t w r⟩
theorem Rps.mov(x:Mov m H m' H'):∀ (ts:List T) (vs:List V),Rps G m H ts vs→Rps G m' H' ts vs
 | [],_,h=>h
 | t :: ts,_,⟨v,r,e,h,q⟩=>⟨v,r,e,Rp.mov x t v h,Rps.mov x ts r q⟩
end
structure MovF (m:Mm) (H:Hp) (m':Mm) (H':Hp):Prop where
 keep:∀ a o,H a=some o→NT o→¬ m.w a→H' a=some o
 newA:∀ a,a∈m'.as→a∈m.as∨H a=none
 newF:∀ a,m'.fo a→m.w a∨H a=none
 pre:∃ n,m'.as=m.as++n
 stay:∀ a,a ∉ m.as→H a≠none→H' a≠none
theorem Mov.F(x:Mov m H m' H'):MovF m H m' H':=⟨fun a o h hT hn=>x.keep a o h hT fun z=>hn (.inl z),x.newA,x.newF,x.pre,x.stay⟩
theorem MovF.w(x:MovF m H m' H')(h:m'.w a):m.w a∨H a=none:=by
 rcases h with h | h
 ·rcases x.newA a h with z | z
  ·exact .inl (.inl z)
  ·exact .inr z
 ·exact x.newF a h
theorem MovF.wt(x:MovF m H m' H'){u:HO}(h:H a=some u)(hn:¬ m.w a):¬ m'.w a:=fun q=>by
 rcases x.w q with z | z
 ·exact hn z
 ·rw[h] at z;cases z
theorem MovF.rd(x:MovF m H m' H'){u:HO}(hT:NT u)(h:Rd H a u)(hn:¬ m.w a):¬ m'.w a∧Rd H' a u:=by
 rcases h with h | ⟨o,h⟩
 ·exact⟨x.wt h hn, .inl (x.keep a _ h hT hn)⟩
 ·exact⟨x.wt h hn, .inr ⟨o,x.keep a _ h True.intro hn⟩⟩
theorem LAt.movF(x:MovF m H m' H'){vs:List V}(h:LAt G m H a vs):LAt G m' H' a vs:=⟨x.wt h.2 h.1,x.keep a _ h.2 True.intro h.1⟩
theorem SAt.movF(x:MovF m H m' H'){vs:List V}(h:SAt G m H a vs):SAt G m' H' a vs:=by
 rcases h with ⟨hn,h⟩ | h
 ·exact .inl (x.rd True.intro h hn)
 ·exact .inr h
theorem PAt.movF(x:MovF m H m' H'){vs:List V}(h:PAt m H a vs):PAt m' H' a vs:=by
 obtain⟨hn,o,e,hd⟩:=h
 exact⟨x.wt e hn,o,x.keep a _ e True.intro hn,hd⟩
theorem TAt.movF(x:MovF m H m' H'){vs:List V}(h:TAt G m H a vs):TAt G m' H' a vs:=⟨x.wt h.2 h.1,x.keep a _ h.2 True.intro h.1⟩
mutual
theorem Rp.movF(x:MovF m H m' H'):∀ (t:T) (v:V),Rp G m H t v→Rp G m' H' t v
 | .non,_,h=>h
 | .bl _,_,h=>h
 | .int _,_,h=>h
 | .str _,_,h=>h
 | .tup xs,_,⟨a,vs,e,h,r⟩=>⟨a,vs,e,h.movF x,Rps.movF x xs vs r⟩
 | .lst xs,_,⟨a,vs,e,h,r⟩=>⟨a,vs,e,h.movF x,Rps.movF x xs vs r⟩
 | .obj c xs,_,⟨a,dx,fv,e,hn,h,hf,r⟩=>⟨a,dx,fv,e,x.wt h hn,x.keep a _ h True.intro hn,hf,Rps.movF x xs _ r⟩
 | .exc c ts,_,⟨y,vs,e1,e2,e3,r,q⟩=>⟨y,vs,e1,e2,e3,Rps.movF x ts vs r,q.imp id fun⟨dx,f,w,h1,h2,h3,h4,h5⟩=>⟨dx,f,w,h1,h2,x.wt h4 h3,x.keep dx _ h4 True.intro h3,h5⟩⟩
 | .loc l,_,⟨a,e,h⟩=>⟨a,e,by
  obtain⟨n,e2⟩:=x.pre
  rw[e2,List.getElem?_append_left (List.getElem?_eq_some_iff.mp h).1]
  exact h⟩
 | .scr ns,_,⟨a,e,h⟩=>⟨a,e,h.movF x⟩
 | .cv _,_,h=>h
 | .ptp xs,_,⟨a,vs,e,h,r⟩=>⟨a,vs,e,h.movF x,Rps.movF x xs vs r⟩
 | .edt,_,⟨a,e,hn,h⟩=>⟨a,e,x.wt h hn,x.keep a _ h True.intro hn⟩
 | .exh c ts,_,⟨a,vs,e,hn,r,q⟩=>⟨a,vs,e,q.elim (fun h=>x.wt h.2 hn) (fun⟨_,_,_,_,_,_,h,_⟩=>x.wt h hn),Rps.movF x ts vs r,q.imp (fun⟨h1,h2⟩=>⟨h1,x.keep a _ h2 True.intro hn⟩) fun⟨dx,f,w,h1,h2,h3,h4,h5⟩=>⟨dx,f,w,h1,h2,x.wt h5 h3,x.keep a _ h4 True.intro hn,x.keep dx _ h5 True.intro h3⟩⟩
 | .dk1 k t,_,⟨a,w,e,hn,h,r⟩=>⟨a,w,e,x.wt h hn,x.keep a _ h True.intro hn,Rp.movF x t w r⟩
theorem Rps.movF(x:MovF m H m' H'):∀ (ts:List T) (vs:List V),Rps G m H ts vs→Rps G m' H' ts vs
 | [],_,h=>h
 | t :: ts,_,⟨v,r,e,h,q⟩=>⟨v,r,e,Rp.movF x t v h,Rps.movF x ts r q⟩
end
theorem Z0z.movF(x:MovF m H m' H')(h:Z0z G m H env σ):Z0z G m' H' env σ :=
 ⟨h.1,fun i t e=>let ⟨v,e1,r⟩:=h.2 i t e; ⟨v,e1,Rp.movF x t v r⟩⟩
theorem MovF.trans(x:MovF m H m1 H1)(y:Mov m1 H1 m' H'):MovF m H m' H':=by
 have back:∀ a,H1 a=none→a∈m.as∨H a=none:=fun a z=>by
  by_cases hm:a∈m.as
  ·exact .inl hm
  ·exact .inr (Decidable.byContradiction fun e=>x.stay a hm e z)
 have out:∀ a,a ∉ m.as→H a≠none→a ∉ m1.as:=fun a hn h q=>by
  rcases x.newA a q with z | z
  ·exact hn z
  ·exact h z
 refine⟨fun a o h hT hn=>y.keep a o (x.keep a o h hT hn) hT (out a (fun z=>hn (.inl z)) (by rw[h];simp)),fun a h => ?_,fun a h => ?_, ?_,fun a hn h=>y.stay a (out a hn h) (x.stay a hn h)⟩
 ·rcases y.newA a h with z | z
  ·exact x.newA a z
  ·exact back a z
 ·rcases y.newF a h with z | z
  ·rcases x.w z with q | q
   ·exact .inl q
   ·exact .inr q
  ·rcases back a z with q | q
   ·exact .inl (.inl q)
   ·exact .inr q
 ·obtain⟨n,e⟩:=x.pre
  obtain⟨n',e'⟩:=y.pre
  exact⟨n++n',by rw[e',e,List.append_assoc]⟩
theorem ZaS(h:LamX.Tabs G.tb H)(hp:∀ ps,H p≠some (.tbl ps))(hq:∀ q,H p≠some (LamX.CodeO p q)):LamX.Tabs G.tb (upd H p o):=fun x hx=>by
 obtain⟨ps,h1,h2,h3⟩:=h x hx
 have e:x.1≠p:=fun z=>hp ps (by rw[← z];exact h1)
 refine⟨ps,by rw[upd_ne e];exact h1,h2,fun pos cv hc => ?_⟩
 obtain⟨c,e1,e2⟩:=h3 pos cv hc
 have ne:c≠p:=fun z=>hq x.2 (by rw[z] at e2;exact e2)
 exact⟨c,e1,by rw[upd_ne ne];exact e2⟩
theorem Z0z.mov(x:Mov m H m' H')(h:Z0z G m H env σ):Z0z G m' H' env σ :=
 ⟨h.1,fun i t e=>let ⟨v,e1,r⟩:=h.2 i t e; ⟨v,e1,Rp.mov x t v r⟩⟩
theorem Z1m.there{c:Cell}(h:Z1m G m H a c):H a≠none:=by
 cases c with
 | lst xs=>obtain⟨vs,e,_⟩:=h;rw[e];simp
 | ins c xs=>obtain⟨dx,fv,e,_⟩:=h;rw[e];simp
 | dt kvs=>obtain⟨vs,e,_⟩:=h;rw[e];simp
 | dk kvs=>obtain⟨vs,e,_⟩:=h;rw[e];simp
 | dn ks=>obtain⟨bs,e,_⟩:=h;rw[e];simp
theorem RSto.mem(s:RSto G m H st)(h:a∈m.as):H a≠none:=by
 obtain⟨i,hi,e⟩:=List.mem_iff_getElem.mp h
 have hi':i < st.length:=by rw[← s.len];exact hi
 exact(s.cell i a st[i] (by rw[List.getElem?_eq_getElem hi,e]) (List.getElem?_eq_getElem hi')).there
theorem Zi3{a:Addr}{ks:List (List (List Int))}{bs:List Addr}{q:Str}:HO.ext (DnP a ks bs)≠LamX.CodeO a q:=fun z=>by
 unfold LamX.CodeO at z
 have z:=HO.ext.inj z
 let ob:Obj:={ cls := .none,data := .fields #[.none, .str q 0] }
 let h:Heap:={ objs:=Array.replicate (a+1) ob }
 have hg:h.get? a=some ob:=by
  have e:h.objs[a]? = some ob:=by simp[h]
  unfold Heap.get?
  rw[e]
 have y:DnP a ks bs h:=by rw[z];exact⟨ob,_,0,hg,rfl,rfl⟩
 obtain⟨_,_,_,_,o,es,ep,e1,_,e2,_⟩:=y
 rw[hg] at e1
 cases e1
 cases e2
theorem Z1m.nt{c:Cell}(h:Z1m G m H a c):(∀ ps,H a≠some (.tbl ps))∧∀ q,H a≠some (LamX.CodeO a q):=by
 have go:∀ {u:HO},H a=some u→(∀ ps,u ≠ .tbl ps)→(∀ q,u≠LamX.CodeO a q)→(∀ ps,H a≠some (.tbl ps))∧∀ q,H a≠some (LamX.CodeO a q):=fun {u} e h1 h2 =>
  ⟨fun ps z=>h1 ps (by rw[e] at z;exact Option.some.inj z),fun q z=>h2 q (by rw[e] at z;exact Option.some.inj z)⟩
 cases c with
 | lst xs=>obtain⟨vs,e,_⟩:=h;exact go e (fun ps z=>by cases z) fun q z=>by unfold LamX.CodeO at z;cases z
 | ins c xs=>obtain⟨dx,fv,e,_⟩:=h;exact go e (fun ps z=>by cases z) fun q z=>by unfold LamX.CodeO at z;cases z
 | dt kvs=>obtain⟨vs,e,_⟩:=h;exact go e (fun ps z=>by cases z) fun q z=>by unfold LamX.CodeO at z;cases z
 | dk kvs=>obtain⟨vs,e,_⟩:=h;exact go e (fun ps z=>by cases z) fun q z=>by unfold LamX.CodeO at z;cases z
 | dn ks=>obtain⟨bs,e,_⟩:=h;exact go e (fun ps z=>by cases z) fun q z=>Zi3 z
theorem RSto.tabs(s:RSto G m H st)(ha:a∈m.as):LamX.Tabs G.tb (upd H a o):=by
 obtain⟨i,hi,e⟩:=List.mem_iff_getElem.mp ha
 have hi':i < st.length:=by rw[← s.len];exact hi
 have n:=(s.cell i a st[i] (by rw[List.getElem?_eq_getElem hi,e]) (List.getElem?_eq_getElem hi')).nt
 exact ZaS s.tab n.1 n.2
theorem RSto.free(s:RSto G m H st)(hp:H p=none):¬ m.w p:=fun q=>by
 rcases q with q | q
 ·exact s.mem q hp
 ·exact s.foS p q hp
theorem RKs.mov{κ : Type}(x:Mov m H m' H'):∀ (ts:List (κ × T)) (vs:List (κ × V)),RKs G m H ts vs→RKs G m' H' ts vs
 | [],_,h=>h
 | p :: ts,_,⟨v,r,e,h,q⟩=>⟨v,r,e,Rp.mov x p.2 v h,RKs.mov x ts r q⟩
theorem RKs.length{κ : Type}:∀ {ts:List (κ × T)} {vs:List (κ × V)},RKs G m H ts vs→vs.length=ts.length
 | [],_,h=>by cases (show _=_ from h);rfl
 | p :: ts,_,⟨v,r,e,_,q⟩=>by rw[e];simp[RKs.length q]
theorem Z1m.mov(x:Mov m H m' H')(e:H' a=H a){c:Cell}(h:Z1m G m H a c):Z1m G m' H' a c:=by
 cases c with
 | lst xs=>obtain⟨vs,e1,r⟩:=h;exact⟨vs,by rw[e];exact e1,Rps.mov x _ _ r⟩
 | ins c xs=>obtain⟨dx,fv,e1,e2,e3,r⟩:=h;exact⟨dx,fv,by rw[e];exact e1,e2,e3,Rps.mov x _ _ r⟩
 | dt kvs=>obtain⟨vs,e1,r⟩:=h;exact⟨vs,by rw[e];exact e1,RKs.mov x _ _ r⟩
 | dk kvs=>obtain⟨vs,e1,r⟩:=h;exact⟨vs,by rw[e];exact e1,RKs.mov x _ _ r⟩
 | dn ks=>obtain⟨bs,e1,r⟩:=h;exact⟨bs,by rw[e];exact e1,Rps.mov x _ _ r⟩
theorem RSto.fresh(s:RSto G m H st)(hp:H p=none):RSto G m (upd H p o) st where
 nd:=s.nd
 fd:=s.fd
 len:=s.len
 cell:=fun i a c h1 h2=>Z1m.mov (Stp.fresh hp).toMov (upd_ne fun z=>s.mem (z ▸ List.mem_of_getElem? h1) hp) (s.cell i a c h1 h2)
 foS:=fun a h=>by
  have hne:a≠p:=fun z=>by subst z;exact s.foS _ h hp
  rw[upd_ne hne]
  exact s.foS a h
 tab:=ZaS s.tab (fun ps z=>by rw[hp] at z;cases z) fun q z=>by rw[hp] at z;cases z
theorem RS.fresh(s:RS G m env st σ H)(hp:H p=none):RS G m env st σ (upd H p o):=⟨s.env.mov (Stp.fresh hp).toMov,s.sto.fresh hp⟩
theorem Rps.length:∀ {ts:List T} {vs:List V},Rps G m H ts vs→ts.length=vs.length
 | [],_,h=>by cases (show _=_ from h);rfl
 | t :: ts,_,⟨v,r,e,_,q⟩=>by rw[e];simp[Rps.length q]
theorem Rps.get:∀ {ts:List T} {vs:List V} {i:Nat} {t:T},Rps G m H ts vs→ts[i]? = some t→∃ v,vs[i]? = some v∧Rp G m H t v
 | [],_,i,t,_,e=>by simp at e
 | u :: ts,_,0,t,⟨v,r,e,h,q⟩,e1=>by
  have:u=t:=by simpa using e1
  subst this
  exact⟨v,by rw[e];rfl,h⟩
 | u :: ts,_,i+1,t,⟨v,r,e,h,q⟩,e1=>by
  obtain⟨w,e2,h2⟩:=Rps.get (i:=i) (t:=t) q (by simpa using e1)
  exact⟨w,by rw[e];simpa using e2,h2⟩
theorem Rps.getV:∀ {ts:List T} {vs:List V} {i:Nat} {v:V},Rps G m H ts vs→vs[i]? = some v→∃ t,ts[i]? = some t∧Rp G m H t v:=fun {ts vs i v} h e=>by
 have hi:i < ts.length:=by rw[h.length];exact(List.getElem?_eq_some_iff.mp e).1
 obtain⟨w,e2,r⟩:=h.get (List.getElem?_eq_getElem hi)
 rw[e] at e2
 cases e2
 exact⟨_,List.getElem?_eq_getElem hi,r⟩
theorem Rps.append:∀ {ts us:List T} {vs ws:List V},Rps G m H ts vs→Rps G m H us ws→Rps G m H (ts++us) (vs++ws)
 | [],_,_,_,h,h2=>by cases (show _=_ from h);exact h2
 | t :: ts,us,_,ws,⟨v,r,e,h,q⟩,h2=>⟨v,r++ws,by rw[e];rfl,h,Rps.append q h2⟩
theorem Rps.drop:∀ {ts:List T} {vs:List V} (n:Nat),Rps G m H ts vs→Rps G m H (ts.drop n) (vs.drop n)
 | _,_,0,h=>h
 | [],_,_+1,h=>by cases (show _=_ from h);exact rfl
 | t :: ts,_,n+1,⟨v,r,e,h,q⟩=>by subst e;exact Rps.drop (ts:=ts) (vs:=r) n q
theorem Rps.take:∀ {ts:List T} {vs:List V} (n:Nat),Rps G m H ts vs→Rps G m H (ts.take n) (vs.take n)
 | _,_,0,h=>rfl
 | [],_,_+1,h=>by cases (show _=_ from h);exact rfl
 | t :: ts,_,n+1,⟨v,r,e,h,q⟩=>by subst e;exact⟨v,r.take n,rfl,h,Rps.take n q⟩
theorem Rps.cut{ts:List T}{vs:List V}(h:Rps G m H ts vs)(lo hi:Option Int):Rps G m H (cut ts lo hi) (cutV vs lo hi):=by
 unfold Eg.cut cutV
 rw[h.length]
 exact(h.drop _).take _
theorem Rps.rep{ts:List T}{vs:List V}(h:Rps G m H ts vs):∀ k:Nat,Rps G m H (List.replicate k ts).flatten (List.replicate k vs).flatten
 | 0=>rfl
 | k+1=>by
  rw[List.replicate_succ,List.flatten_cons,List.replicate_succ,List.flatten_cons]
  exact h.append (Rps.rep h k)
theorem Rps.nil_iff{ts:List T}{vs:List V}(h:Rps G m H ts vs):vs=[]↔ts=[]:=by
 have e:=h.length
 constructor
 ·intro q;subst q;exact List.length_eq_zero_iff.mp e
 ·intro q;subst q;exact List.length_eq_zero_iff.mp e.symm
theorem Rps.ints:∀ {ts:List T} {vs:List V} {ns:List Int},Rps G m H ts vs→Z0v ts=some ns→vs=ns.map V.int
 | [],_,ns,h,e=>by cases (show _=_ from h);cases (show some []=some ns from e);rfl
 | t :: ts,_,ns,⟨v,r,e,h,q⟩,e1=>by
  cases t with
  | int i =>
   cases e2:Z0v ts with
   | none=>simp[Z0v,e2] at e1
   | some ms =>
    have e3:i :: ms=ns:=by simpa [Z0v,e2] using e1
    subst e3 e
    rw[Rps.ints q e2,show v = .int i from h]
    rfl
  | _=>simp[Z0v] at e1
theorem Rps.bls:∀ {ts:List T} {vs:List V} {ns:List Bool},Rps G m H ts vs→Z4t ts=some ns→vs=ns.map V.bl
 | [],_,ns,h,e=>by cases (show _=_ from h);cases (show some []=some ns from e);rfl
 | t :: ts,_,ns,⟨v,r,e,h,q⟩,e1=>by
  cases t with
  | bl i =>
   cases e2:Z4t ts with
   | none=>simp[Z4t,e2] at e1
   | some ms =>
    have e3:i :: ms=ns:=by simpa [Z4t,e2] using e1
    subst e3 e
    rw[Rps.bls q e2,show v = .bl i from h]
    rfl
  | _=>simp[Z4t] at e1
theorem Rp.own{t:T}{v:V}{xs:List T}(s:RSto G m H st)(r:Rp G m H t v)(e:Z2r st t=some xs):∃ a vs,v = .ref a∧H a=some (.lst vs)∧Rps G m H xs vs:=by
 cases t with
 | lst ys =>
  cases (show some ys=some xs from e)
  obtain⟨a,vs,e1,h,q⟩:=r
  exact⟨a,vs,e1,h.2,q⟩
 | loc l =>
  obtain⟨a,e1,h⟩:=r
  cases e2:st[l]? with
  | none=>simp[Z2r,e2] at e
  | some c =>
   cases c with
   | ins c ys=>simp[Z2r,e2] at e
   | dt ys=>simp[Z2r,e2] at e
   | dk ys=>simp[Z2r,e2] at e
   | dn ys=>simp[Z2r,e2] at e
   | lst ys =>
    have e3:ys=xs:=by simpa [Z2r,e2] using e
    subst e3
    obtain⟨vs,h1,q⟩:=s.cell l a _ h e2
    exact⟨a,vs,e1,h1,q⟩
 | _=>simp[Z2r] at e
theorem Rps.of_ints:∀ ns:List Int,Rps G m H (ns.map T.int) (ns.map V.int)
 | []=>rfl
 | n :: ns=>⟨.int n,ns.map V.int,rfl,rfl,Rps.of_ints ns⟩
theorem Rp.lst{t:T}{v:V}{xs:List T}(s:RSto G m H st)(r:Rp G m H t v)(e:Z0p st t=some xs):∃ a vs,v = .ref a∧SqL G.K H a vs∧Rps G m H xs vs:=by
 by_cases c:∃ ns,t = .scr ns
 ·obtain⟨ns,rfl⟩:=c
  cases (show some (ns.map T.int)=some xs from e)
  obtain⟨a,e1,h⟩:=r
  refine⟨a,ns.map V.int,e1, ?_,Rps.of_ints ns⟩
  rcases h with h | h
  ·exact .inl h.2
  ·exact .inr h
 ·have e':Z2r st t=some xs:=by
   cases t with
   | scr ns=>exact(c ⟨ns,rfl⟩).elim
   | _=>exact e
  obtain⟨a,vs,e1,h,q⟩:=Rp.own s r e'
  exact⟨a,vs,e1, .inl (.inl h),q⟩
theorem Rp.seq{t:T}{v:V}{xs:List T}(s:RSto G m H st)(r:Rp G m H t v)(e:Z2o st t=some xs):∃ a vs,v = .ref a∧(SqL G.K H a vs∨SqT G.K H a vs)∧Rps G m H xs vs:=by
 by_cases ht:∃ ys,t = .tup ys
 ·obtain⟨ys,rfl⟩:=ht
  cases (show some ys=some xs from e)
  obtain⟨a,vs,e1,h,q⟩:=r
  exact⟨a,vs,e1, .inr (.inl (.inl h.2)),q⟩
 ·by_cases hp:∃ ys,t = .ptp ys
  ·obtain⟨ys,rfl⟩:=hp
   cases (show some ys=some xs from e)
   obtain⟨a,vs,e1,⟨_,o,h,_⟩,q⟩:=r
   exact⟨a,vs,e1, .inr (.inl (.inr ⟨o,h⟩)),q⟩
  ·have e':Z0p st t=some xs:=by
    cases t with
    | tup ys=>exact(ht ⟨ys,rfl⟩).elim
    | ptp ys=>exact(hp ⟨ys,rfl⟩).elim
    | _=>exact e
   obtain⟨a,vs,e1,h,q⟩:=Rp.lst s r e'
   exact⟨a,vs,e1, .inl h,q⟩
end Eg
set_option maxHeartbeats 2000000
namespace Eg
open PySem PySem.Spec PyProof.Rows L2
def ZdM (G:Gh) (m:Mm) (H:Hp):T→Value→Option Addr→Prop
 | .exc c [],cls,d=>cls = .ref (G.cl c)∧d=none
 | .exc c [t],cls,d=>cls = .ref (G.cl c)∧∃ a v f,d=some a∧¬ m.w a∧H a=some (.xd [(f,v)])∧G.fl c=[f]∧Rp G m H t v
 | _,_,_=>False
section
variable {A B A' B':Type}
def Rn (G:Gh) (W:WX) (σ : L2.St) (env:Env) (rel:Mm→Hp→A→B→Prop) (m:Mm) (H:Hp) (r:R A) (K:A→Sto→B→Hp→Mm→Prop):Prop:=match r with
 | .ok a st'=>∀ b H' m',RS G m' env st' σ H'→Stp m H m' H'→rel m' H' a b→K a st' b H' m'
 | .exc e st'=>∀ cls d H' m',RS G m' env st' σ H'→Stp m H m' H'→ZdM G m' H' e cls d→W cls d σ H'
 | .bad=>False
variable {G:Gh} {W:WX} {σ : L2.St} {env:Env} {rel:Mm→Hp→A→B→Prop} {rel':Mm→Hp→A'→B'→Prop} {m m1:Mm} {H H1:Hp} {r:R A} {K K':A→Sto→B→Hp→Mm→Prop} {st:Sto}
theorem Rn.base(x:Stp m H m1 H1)(h:Rn G W σ env rel m H r K):Rn G W σ env rel m1 H1 r K:=by
 cases r with
 | ok a s=>exact fun b H' m' rs y q=>h b H' m' rs (x.trans y) q
 | exc e s=>exact fun cls d H' m' rs y q=>h cls d H' m' rs (x.trans y) q
 | bad=>exact h
theorem Rn.imp(h:Rn G W σ env rel m H r K)(k:∀ a st' b H' m',RS G m' env st' σ H'→Stp m H m' H'→rel m' H' a b→K a st' b H' m'→K' a st' b H' m'):Rn G W σ env rel m H r K':=by
 cases r with
 | ok a s=>exact fun b H' m' rs y q=>k a s b H' m' rs y q (h b H' m' rs y q)
 | exc e s=>exact h
 | bad=>exact h
theorem Rn.bnd{x:R A}{f:A→Sto→R A'}{K:A'→Sto→B'→Hp→Mm→Prop}(h:Rn G W σ env rel' m H (x.bnd f) K) :
  Rn G W σ env rel m H x (fun a st1 _ H1 m1=>Rn G W σ env rel' m1 H1 (f a st1) K):=by
 cases x with
 | ok a s=>exact fun b H' m' rs y q=>Rn.base y h
 | exc e s=>exact h
 | bad=>exact h
theorem Rn.here{a:A}{b:B}(h:Rn G W σ env rel m H (.ok a st) K)(rs:RS G m env st σ H)(r:rel m H a b):K a st b H m:=h b H m rs (Stp.refl m H) r
theorem Rn.next{a:A}{b:B}(h:Rn G W σ env rel m H (.ok a st) K)(rs:RS G m1 env st σ H1)(x:Stp m H m1 H1)(r:rel m1 H1 a b):K a st b H1 m1:=h b H1 m1 rs x r
end
def tE (G:Gh) (W:WX) (f:Env→Sto→R T):TE:=fun σ H Q=>∃ m env st,RS G m env st σ H∧Rn G W σ env (Rp G) m H (f env st) (fun _ _ v H' _=>Q v H')
def tA (G:Gh) (W:WX) (f:Env→Sto→R (List T)):TA:=fun σ H Q=>∃ m env st,RS G m env st σ H∧Rn G W σ env (Rps G) m H (f env st) (fun _ _ v H' _=>Q v H')
def tP (G:Gh) (W:WX) (f:Env→Sto→R (Option Int)):TO:=fun σ H Q=>∃ m env st,RS G m env st σ H∧Rn G W σ env (fun _ _ a b=>b=a) m H (f env st) (fun _ _ v H' _=>Q v H')
theorem PE.imp{X:Cx}{e:Expr}{t t':TE}(h:PE X e t)(k:∀ σ H Q,t' σ H Q→t σ H Q):PE X e t':=⟨fun pins s σ H Q I q=>h.run pins s σ H Q I (k σ H Q q)⟩
theorem PT.imp{X:Cx}{e:Expr}{t t':TT}(h:PT X e t)(k:∀ σ H Q,t' σ H Q→t σ H Q):PT X e t':=⟨fun pins s σ H Q I q=>h.run pins s σ H Q I (k σ H Q q)⟩
theorem PW.imp{X:Cx}{e:Expr}{t t':TT}(h:PW X e t)(k:∀ σ H Q,t' σ H Q→t σ H Q):PW X e t':=⟨fun w pins s σ H Q I q=>h.run w pins s σ H Q I (k σ H Q q)⟩
theorem PA.imp{X:Cx}{e:List Expr}{t t':TA}(h:PA X e t)(k:∀ σ H Q,t' σ H Q→t σ H Q):PA X e t':=⟨fun p pins s σ H Q I q=>h.run p pins s σ H Q I (k σ H Q q)⟩
theorem PO.imp{X:Cx}{e:Option Expr}{t t':TO}(h:PO X e t)(k:∀ σ H Q,t' σ H Q→t σ H Q):PO X e t':=⟨fun pins s σ H Q I q=>h.run pins s σ H Q I (k σ H Q q)⟩
section
variable {G:Gh} {W:WX} {σ : L2.St} {H:Hp} {A B:Type} {rel:Mm→Hp→A→B→Prop}
def At (G:Gh) (W:WX) (rel:Mm→Hp→A→B→Prop) (g:Env→Sto→R A) (σ : L2.St) (H:Hp) (K:A→Sto→B→Hp→Mm→Prop):Prop :=
 ∃ m env st,RS G m env st σ H∧Rn G W σ env rel m H (g env st) K
theorem at1{f:Env→Sto→R T}{g:Env→T→Sto→R A}{K:A→Sto→B→Hp→Mm→Prop}{P:V→Hp→Prop}
  (h:At G W rel (fun env st=>(f env st).bnd fun x st1=>g env x st1) σ H K)
  (k:∀ m env st t v H1,RS G m env st σ H1→Rp G m H1 t v→Rn G W σ env rel m H1 (g env t st) K→P v H1):tE G W f σ H P:=by
 obtain⟨m,env,st,rs,h⟩:=h
 exact⟨m,env,st,rs,(Rn.bnd h).imp fun a st' b H' m' rs' _ r q=>k m' env st' a b H' rs' r q⟩
theorem at2{fa fb:Env→Sto→R T}{g:Env→T→T→Sto→R A}{K:A→Sto→B→Hp→Mm→Prop}{P:V→V→Hp→Prop}
  (h:At G W rel (fun env st=>(fa env st).bnd fun x st1=>(fb env st1).bnd fun y st2=>g env x y st2) σ H K)
  (k:∀ m env st t u v w H1,RS G m env st σ H1→Rp G m H1 t v→Rp G m H1 u w→Rn G W σ env rel m H1 (g env t u st) K→P v w H1) :
  tE G W fa σ H fun v H1=>tE G W fb σ H1 fun w H2=>P v w H2:=by
 obtain⟨m,env,st,rs,h⟩:=h
 refine⟨m,env,st,rs,(Rn.bnd h).imp fun a st' b H' m' rs' _ r q=>⟨m',env,st',rs',(Rn.bnd q).imp fun a2 st2 b2 H2 m2 rs2 s2 r2 q2=>k m2 env st2 a a2 b b2 H2 rs2 (Rp.mov s2.toMov _ _ r) r2 q2⟩⟩
theorem atA{f:Env→Sto→R (List T)}{g:Env→List T→Sto→R A}{K:A→Sto→B→Hp→Mm→Prop}{P:List V→Hp→Prop}
  (h:At G W rel (fun env st=>(f env st).bnd fun x st1=>g env x st1) σ H K)
  (k:∀ m env st ts vs H1,RS G m env st σ H1→Rps G m H1 ts vs→Rn G W σ env rel m H1 (g env ts st) K→P vs H1):tA G W f σ H P:=by
 obtain⟨m,env,st,rs,h⟩:=h
 exact⟨m,env,st,rs,(Rn.bnd h).imp fun a st' b H' m' rs' _ r q=>k m' env st' a b H' rs' r q⟩
theorem tE.at{f:Env→Sto→R T}{Q:VK}(h:tE G W f σ H Q):At G W (Rp G) f σ H (fun _ _ v H' _=>Q v H'):=h
end
section
variable {X:Cx} {G:Gh} {W:WX} {σ : L2.St} {H:Hp} {m:Mm} {env:Env} {st:Sto} {Q:VK} {x y:V} {t u:T} {v w:V}
abbrev Kq (Q:VK):T→Sto→V→Hp→Mm→Prop:=fun _ _ v H' _=>Q v H'
theorem Rn.give{a:T}{b:V}(h:Rn G W σ env (Rp G) m H (.ok a st) (Kq Q))(rs:RS G m env st σ H)(r:Rp G m H a b):Q b H:=Rn.here h rs r
theorem Rn.tup{xs:List T}{vs:List V}{p:Addr}(h:Rn G W σ env (Rp G) m H (.ok (.tup xs) st) (Kq Q))(rs:RS G m env st σ H)(r:Rps G m H xs vs)(hp:H p=none):Q (.ref p) (upd H p (.tup vs)) :=
 Rn.next (K:=Kq Q) h (rs.fresh hp) (Stp.fresh hp) ⟨p,vs,rfl,⟨rs.sto.free hp,upd_same⟩,Rps.mov (Stp.fresh hp).toMov _ _ r⟩
def Zfn (K:PySem.W.Frag):R2:=fun x y H Q=>rI0 (fun i j => .int (i+j)) x y H Q∨(∃ i j,x = .str i∧y = .str j∧i.length+j.length≤sizeLine∧Q (.str (i++j)) H)∨rCatA K x y H Q
theorem Zi2:OpR X (binaryOp .Add) (Zfn X.K):=OpR.or op_add (OpR.or op_add_str op_catA)
theorem ZiS(rs:RS G m env st σ H)(r1:Rp G m H t v)(r2:Rp G m H u w)(h:Rn G W σ env (Rp G) m H (R.opt (Z5i .Add t u) st) (Kq Q)):Zfn G.K v w H Q:=by
 have h:Rn G W σ env (Rp G) m H (R.opt (addT t u) st) (Kq Q):=h
 cases t with
 | int i =>
  cases u with
  | int j =>
   cases (show v=_ from r1);cases (show w=_ from r2)
   exact .inl ⟨i,j,rfl,rfl,Rn.give (b := .int (i+j)) h rs rfl⟩
  | _=>exact h.elim
 | str i =>
  cases u with
  | str j =>
   cases (show v=_ from r1);cases (show w=_ from r2)
   by_cases hl:i.length+j.length≤lim
   ·have h:Rn G W σ env (Rp G) m H (R.opt (if i.length+j.length≤lim then some (T.str (i++j)) else none) st) (Kq Q):=h
    rw[if_pos hl] at h
    exact .inr (.inl ⟨i,j,rfl,rfl,Z1t ▸ hl,Rn.give (b := .str (i++j)) h rs rfl⟩)
   ·have h:Rn G W σ env (Rp G) m H (R.opt (if i.length+j.length≤lim then some (T.str (i++j)) else none) st) (Kq Q):=h
    rw[if_neg hl] at h
    exact h.elim
  | _=>exact h.elim
 | tup xs =>
  cases u with
  | tup ys =>
   obtain⟨a,vs,rfl,ha,ra⟩:=r1
   obtain⟨b,ws,rfl,hb,rb⟩:=r2
   by_cases hl:xs.length+ys.length≤lim
   ·have h:Rn G W σ env (Rp G) m H (R.opt (if xs.length+ys.length≤lim then some (T.tup (xs++ys)) else none) st) (Kq Q):=h
    rw[if_pos hl] at h
    have h:Rn G W σ env (Rp G) m H (.ok (.tup (xs++ys)) st) (Kq Q):=h
    refine .inr (.inr ⟨a,b,vs,ws,rfl,rfl, .inl (.inl ha.2), .inl (.inl hb.2), ?_,fun e => ?_,fun e e2 => ?_,fun e e2 p hp => ?_⟩)
    ·rw[← ra.length,← rb.length,← Z1t];exact hl
    ·have e':=ra.nil_iff.mp e
     subst e'
     exact Rn.give h rs ⟨b,ws,rfl,hb,rb⟩
    ·have e':=rb.nil_iff.mp e2
     subst e'
     rw[List.append_nil] at h
     exact Rn.give h rs ⟨a,vs,rfl,ha,ra⟩
    ·exact Rn.tup h rs (ra.append rb) hp
   ·have h:Rn G W σ env (Rp G) m H (R.opt (if xs.length+ys.length≤lim then some (T.tup (xs++ys)) else none) st) (Kq Q):=h
    rw[if_neg hl] at h
    exact h.elim
  | _=>exact h.elim
 | _=>exact h.elim
theorem Z5b{c:Prop} [Decidable c]{a:T}(h:Rn G W σ env (Rp G) m H (R.opt (if c then some a else none) st) (Kq Q)):c∧Rn G W σ env (Rp G) m H (.ok a st) (Kq Q):=by
 by_cases hc:c
 ·rw[if_pos hc] at h;exact⟨hc,h⟩
 ·rw[if_neg hc] at h;exact h.elim
def Zdf (i j:Int):Prop:=i.natAbs.log2+j.natAbs.log2 < 100000000
theorem Zdf.ok{i j:Int}(h:Zdf i j):IntMulOk i j:=by
 have b:∀ x:Int,Builtin.Int.intBits x≤x.natAbs.log2+1:=fun x=>by
  unfold Builtin.Int.intBits
  split <;> omega
 have h1:=b i
 have h2:=b j
 have h3:i.natAbs.log2+j.natAbs.log2 < 100000000:=h
 have e:bitsLine=134217728:=by decide
 unfold IntMulOk
 intro z
 rw[Bool.and_eq_true] at z
 have z2:=z.2
 unfold Builtin.Int.intTooBig at z2
 have z3:=of_decide_eq_true z2
 rw[e] at z3
 omega
theorem Zi8:OpR X (binaryOp .Mult) (rI Zdf fun i j => .int (i * j)):=opI fun _ _ _ _ _ _ _ hc q=>mul_int q hc.ok
def rBin (K:PySem.W.Frag):Operator→R2
 | .Add=>Zfn K
 | .Sub=>rI0 fun i j => .int (i - j)
 | .Mult=>rI Zdf fun i j => .int (i * j)
 | .FloorDiv=>rI CDivW fun i j => .int (i / j)
 | .Mod=>rI (fun _ j=>0 < j) fun i j => .int (i % j)
 | .Pow=>rI CPow fun i j => .int (i ^ j.toNat)
 | _=>fun _ _ _ _=>False
theorem Ziv:∀ op,OpR X (binaryOp op) (rBin X.K op)
 | .Add=>Zi2
 | .Sub=>op_sub
 | .Mult=>Zi8
 | .FloorDiv=>op_fdivW
 | .Mod=>op_mod
 | .Pow=>op_pow
 | .MatMult | .Div | .LShift | .RShift | .BitOr | .BitXor | .BitAnd=>fun _ _ _ _ _ _ _ _ _ _ _ _ h=>h.elim
theorem Zj2{op:Operator}(rs:RS G m env st σ H)(r1:Rp G m H t v)(r2:Rp G m H u w)(h:Rn G W σ env (Rp G) m H (R.opt (Z5i op t u) st) (Kq Q)):rBin G.K op v w H Q:=by
 have none_of:∀ {op},(∀ i j,t = .int i→u = .int j→False)→op ≠ .Add→Z5i op t u=none:=by
  intro op hh hne
  cases op <;> first | exact absurd rfl hne | (cases t <;> first | rfl | (cases u <;> first | rfl | exact(hh _ _ rfl rfl).elim))
 by_cases hA:op = .Add
 ·subst hA;exact ZiS rs r1 r2 h
 ·by_cases c:∃ i j,t = .int i∧u = .int j
  ·obtain⟨i,j,rfl,rfl⟩:=c
   cases (show v=_ from r1);cases (show w=_ from r2)
   cases op with
   | Add=>exact absurd rfl hA
   | Sub=>exact⟨i,j,rfl,rfl,Rn.give (b := .int (i - j)) h rs rfl⟩
   | Mult=>obtain⟨c,h⟩:=Z5b h;exact⟨i,j,rfl,rfl,c,Rn.give (b := .int (i * j)) h rs rfl⟩
   | FloorDiv=>obtain⟨c,h⟩:=Z5b h;exact⟨i,j,rfl,rfl,c,Rn.give (b := .int (i / j)) h rs rfl⟩
   | Mod=>obtain⟨c,h⟩:=Z5b h;exact⟨i,j,rfl,rfl,c,Rn.give (b := .int (i % j)) h rs rfl⟩
   | Pow=>obtain⟨c,h⟩:=Z5b h;exact⟨i,j,rfl,rfl,c,Rn.give (b := .int (i ^ j.toNat)) h rs rfl⟩
   | _=>exact h.elim
  ·rw[none_of (fun i j e1 e2=>c ⟨i,j,e1,e2⟩) hA] at h
   exact h.elim
theorem s_bin{fa fb:Env→Sto→R T}{op:Operator}{a b:Expr}{pos:Pos}(hK:X.K=G.K)(ha:PE X a (tE G W fa))(hb:PE X b (tE G W fb)) :
  PE X (.BinOp a op b pos) (tE G W fun env st=>(fa env st).bnd fun x st1=>(fb env st1).bnd fun y st2=>R.opt (Z5i op x y) st2):=by
 refine PE.imp (pe_op (Ziv op) ha hb) fun σ H Q h => ?_
 refine at2 h fun m env st t u v w H1 rs r1 r2 q => ?_
 rw[hK]
 exact Zj2 rs r1 r2 q
end
end Eg
set_option maxHeartbeats 2000000
namespace Eg
open PySem PySem.Spec PyProof.Rows L2
mutual
def toD:T→PyData
 | .bl b => .bool b
 | .int i => .int i
 | .str x => .str x
 | .tup xs => .tuple (Z0q xs)
 | .lst xs => .list (Z0q xs)
 | .edt => .dict []
 | .dk1 k t => .dict [(.str k,toD t)]
 | _ => .none
def Z0q:List T→List PyData
 | []=>[]
 | x :: xs=>toD x :: Z0q xs
end
mutual
theorem Zc7:∀ t:T,data t=true→(toD t).canLay0=true
 | .non,_=>by simp[toD,PyData.canLay0]
 | .bl _,_=>by simp[toD,PyData.canLay0]
 | .int _,_=>by simp[toD,PyData.canLay0]
 | .str x,h=>by simpa [toD,PyData.canLay0,data] using h
 | .tup xs,h=>by simpa [toD,PyData.canLay0] using Z4o xs (by simpa [data] using h)
 | .lst xs,h=>by simpa [toD,PyData.canLay0] using Z4o xs (by simpa [data] using h)
 | .obj _ _,h=>by simp[data] at h
 | .exc _ _,h=>by simp[data] at h
 | .loc _,h=>by simp[data] at h
 | .scr _,h=>by simp[data] at h
 | .cv _,h=>by simp[data] at h
 | .ptp _,h=>by simp[data] at h
 | .edt,h=>by simp[data] at h
 | .exh _ _,h=>by simp[data] at h
 | .dk1 _ _,h=>by simp[data] at h
theorem Z4o:∀ ts:List T,Z0l ts=true→PyData.canLayAll0 (Z0q ts)=true
 | [],_=>by simp[Z0q,PyData.canLayAll0]
 | t :: ts,h=>by
  have h':data t=true∧Z0l ts=true:=by simpa [Z0l] using h
  simp[Z0q,PyData.canLayAll0,Zc7 t h'.1,Z4o ts h'.2]
end
mutual
theorem Z7x:∀ t:T,(toD t).depth=dep t
 | .non=>by simp[toD,PyData.depth,dep]
 | .bl _=>by simp[toD,PyData.depth,dep]
 | .int _=>by simp[toD,PyData.depth,dep]
 | .str x=>by simp[toD,PyData.depth,dep]
 | .tup xs=>by simp[toD,PyData.depth,dep,Z6z xs]
 | .lst xs=>by simp[toD,PyData.depth,dep,Z6z xs]
 | .obj _ _=>by simp[toD,PyData.depth,dep]
 | .exc _ _=>by simp[toD,PyData.depth,dep]
 | .loc _=>by simp[toD,PyData.depth,dep]
 | .scr _=>by simp[toD,PyData.depth,dep]
 | .cv _=>by simp[toD,PyData.depth,dep]
 | .ptp _=>by simp[toD,PyData.depth,dep]
 | .edt=>by simp[toD,PyData.depth,PyData.depthKv,dep]
 | .exh _ _=>by simp[toD,PyData.depth,dep]
 | .dk1 _ t=>by simp[toD,PyData.depth,PyData.depthKv,dep,Z7x t]
theorem Z6z:∀ ts:List T,PyData.depthAll (Z0q ts)=Z2s ts
 | []=>by simp[Z0q,PyData.depthAll,Z2s]
 | t :: ts=>by simp[Z0q,PyData.depthAll,Z2s,Z7x t,Z6z ts]
end
mutual
theorem Z7d:∀ t u:T,data t=true→data u=true→PyData.eqv (toD t) (toD u)=eqv t u
 | .non,u,_,h=>by cases u <;> simp[toD,PyData.eqv,eqv,data] at h ⊢
 | .bl _,u,_,h=>by cases u <;> simp[toD,PyData.eqv,eqv,data] at h ⊢
 | .int _,u,_,h=>by cases u <;> simp[toD,PyData.eqv,eqv,data] at h ⊢
 | .str _,u,_,h=>by cases u <;> simp[toD,PyData.eqv,eqv,data] at h ⊢
 | .tup xs,u,h,h2=>by
  cases u with
  | tup ys=>simpa [toD,PyData.eqv,eqv] using ZbC xs ys (by simpa [data] using h) (by simpa [data] using h2)
  | _=>simp[toD,PyData.eqv,eqv,data] at h2 ⊢
 | .lst xs,u,h,h2=>by
  cases u with
  | lst ys=>simpa [toD,PyData.eqv,eqv] using ZbC xs ys (by simpa [data] using h) (by simpa [data] using h2)
  | _=>simp[toD,PyData.eqv,eqv,data] at h2 ⊢
 | .obj _ _,_,h,_=>by simp[data] at h
 | .exc _ _,_,h,_=>by simp[data] at h
 | .loc _,_,h,_=>by simp[data] at h
 | .scr _,_,h,_=>by simp[data] at h
 | .cv _,_,h,_=>by simp[data] at h
 | .ptp _,_,h,_=>by simp[data] at h
 | .edt,_,h,_=>by simp[data] at h
 | .exh _ _,_,h,_=>by simp[data] at h
 | .dk1 _ _,_,h,_=>by simp[data] at h
theorem ZbC:∀ ts us:List T,Z0l ts=true→Z0l us=true→PyData.eqvAll (Z0q ts) (Z0q us)=Zad ts us
 | [],us,_,_=>by cases us <;> simp[Z0q,PyData.eqvAll,Zad]
 | t :: ts,us,h,h2=>by
  have h':data t=true∧Z0l ts=true:=by simpa [Z0l] using h
  cases us with
  | nil=>simp[Z0q,PyData.eqvAll,Zad]
  | cons u us =>
   have h2':data u=true∧Z0l us=true:=by simpa [Z0l] using h2
   simp[Z0q,PyData.eqvAll,Zad,Z7d t u h'.1 h2'.1,ZbC ts us h'.2 h2'.2]
end
theorem Z6p{t:T}(h:data t=true)(hd:dep t≤60):SeqAt.shaped (toD t)=true:=by
 show((toD t).canLay0 && decide ((toD t).depth≤64))=true
 rw[Zc7 t h,Z7x t,Bool.true_and]
 exact decide_eq_true (by omega)
variable {G:Gh} {m:Mm} {H:Hp} {st:Sto} {σ : L2.St} {env:Env}
mutual
theorem Zdg:∀ (t:T) (v:V),data t=true→Rp G m H t v→Dp G.K H v (toD t)
 | .non,_,_,h=>by cases (show _=_ from h);exact .non
 | .bl b,_,_,h=>by cases (show _=_ from h);exact .bl b
 | .int i,_,_,h=>by cases (show _=_ from h);exact .int i
 | .str x,_,_,h=>by cases (show _=_ from h);exact .str x
 | .tup xs,_,h,⟨a,vs,e,p,r⟩=>by subst e;exact .tup (.inl (.inl p.2)) (Z7u xs vs (by simpa [data] using h) r)
 | .lst xs,_,h,⟨a,vs,e,p,r⟩=>by
  subst e
  exact .lst (.inl (.inl p.2)) (Z7u xs vs (by simpa [data] using h) r)
 | .obj _ _,_,h,_=>by simp[data] at h
 | .exc _ _,_,h,_=>by simp[data] at h
 | .loc _,_,h,_=>by simp[data] at h
 | .scr _,_,h,_=>by simp[data] at h
 | .cv _,_,h,_=>by simp[data] at h
 | .ptp _,_,h,_=>by simp[data] at h
 | .edt,_,h,_=>by simp[data] at h
 | .exh _ _,_,h,_=>by simp[data] at h
 | .dk1 _ _,_,h,_=>by simp[data] at h
theorem Z7u:∀ (ts:List T) (vs:List V),Z0l ts=true→Rps G m H ts vs→DpAll G.K H vs (Z0q ts)
 | [],_,_,h=>by cases (show _=_ from h);exact .nil
 | t :: ts,_,h,⟨v,r,e,p,q⟩=>by
  have h':data t=true∧Z0l ts=true:=by simpa [Z0l] using h
  subst e
  exact .cons (Zdg t v h'.1 p) (Z7u ts r h'.2 q)
end
theorem ZeW{t:T}{v:V}(s:RSto G m H st)(h:data (Z0j st t)=true)(r:Rp G m H t v):Dp G.K H v (toD (Z0j st t)):=by
 unfold Z0j at h ⊢
 cases e:Z0p st t with
 | none=>rw[e] at h;exact Zdg t v h r
 | some xs =>
  rw[e] at h
  obtain⟨a,vs,rfl,hs,q⟩:=Rp.lst s r e
  exact .lst hs (Z7u xs vs (by simpa [data] using h) q)
section
variable {X:Cx} {W:WX} {Q:VK} {t u:T} {v w:V}
def ZdN (K:PySem.W.Frag) (n:Bool):R2:=fun x y H Q=>∃ d ds,Dp K H x d∧(Dp K H y (.list ds)∨Dp K H y (.tuple ds))∧SeqAt.shaped d=true∧PyData.canLayAll0 ds=true∧Q (.bl (if n then !ds.any fun z=>PyData.eqv z d else ds.any fun z=>PyData.eqv z d)) H
theorem ZiC(hu:X.A.units+65 < cLine):OpR X (compareOp .In) (ZdN X.K false):=by
 intro pins s σ H x y v u Q I rx ry h
 obtain⟨d,ds,hd,he,sd,se,q⟩:=h
 obtain⟨as,r1⟩:=Dp.reads I d x v hd rx
 rcases he with he | he
 ·obtain⟨bs,r2⟩:=Dp.reads I (.list ds) y u he ry
  exact SeqAt.in_list_reads r2 r1 se (SeqAt.canLay_of_shaped sd) (room_in_shaped sd hu) ⟨.bl _,H,I,rfl,q⟩
 ·obtain⟨bs,r2⟩:=Dp.reads I (.tuple ds) y u he ry
  exact SeqAt.in_tuple_reads r2 r1 se (SeqAt.canLay_of_shaped sd) (room_in_shaped sd hu) ⟨.bl _,H,I,rfl,q⟩
theorem Zgb(hu:X.A.units+65 < cLine):OpR X (compareOp .NotIn) (ZdN X.K true):=by
 intro pins s σ H x y v u Q I rx ry h
 obtain⟨d,ds,hd,he,sd,se,q⟩:=h
 obtain⟨as,r1⟩:=Dp.reads I d x v hd rx
 rcases he with he | he
 ·obtain⟨bs,r2⟩:=Dp.reads I (.list ds) y u he ry
  exact SeqAt.notIn_list_reads r2 r1 se (SeqAt.canLay_of_shaped sd) (room_in_shaped sd hu) ⟨.bl _,H,I,rfl,q⟩
 ·obtain⟨bs,r2⟩:=Dp.reads I (.tuple ds) y u he ry
  exact SeqAt.notIn_tuple_reads r2 r1 se (SeqAt.canLay_of_shaped sd) (room_in_shaped sd hu) ⟨.bl _,H,I,rfl,q⟩
def ZdO (K:PySem.W.Frag):CmpOp→R2
 | .Eq=>rEqD K
 | .NotEq=>rNeD K
 | .Lt=>rI0 fun i j => .bl (decide (i < j))
 | .LtE=>rI0 fun i j => .bl (decide (i≤j))
 | .Gt=>rI0 fun i j => .bl (decide (j < i))
 | .GtE=>rI0 fun i j => .bl (decide (j≤i))
 | .In=>fun x y H Q=>(∃ i j,x = .str i∧y = .str j∧Q (.bl (ZaT i j)) H)∨ZdN K false x y H Q
 | .NotIn=>fun x y H Q=>(∃ i j,x = .str i∧y = .str j∧Q (.bl (!ZaT i j)) H)∨ZdN K true x y H Q
 | _=>fun _ _ _ _=>False
theorem Z8v(hu:X.A.units+65 < cLine):∀ op,OpR X (compareOp op) (ZdO X.K op)
 | .Eq=>op_eqD (by omega)
 | .NotEq=>op_neD (by omega)
 | .Lt=>op_lt
 | .LtE=>op_le
 | .Gt=>op_gt
 | .GtE=>op_ge
 | .In=>OpR.or op_in_str (ZiC hu)
 | .NotIn=>OpR.or op_notin_str (Zgb hu)
 | .Is | .IsNot=>fun _ _ _ _ _ _ _ _ _ _ _ _ h=>h.elim
theorem Zer{t:T}(ht:data t=true):∀ {us:List T},Z0l us=true→((Z0q us).any fun z=>PyData.eqv z (toD t))=us.any fun z=>eqv z t
 | [],_=>rfl
 | u :: us,h=>by
  have h':data u=true∧Z0l us=true:=by simpa [Z0l] using h
  simp only[Z0q,List.any_cons]
  rw[Z7d u t h'.1 ht,Zer ht h'.2]
theorem Zhg{n:Bool}{k:Bool}(s:RSto G m H st)(r1:Rp G m H t v)(r2:Rp G m H u w)(e:inT st t u=some k)(q:Q (.bl (if n then !k else k)) H) :
  (∃ i j,v = .str i∧w = .str j∧Q (.bl (if n then !ZaT i j else ZaT i j)) H)∨ZdN G.K n v w H Q:=by
 by_cases c:∃ i j,t = .str i∧u = .str j
 ·obtain⟨i,j,rfl,rfl⟩:=c
  cases (show some (ZaT i j)=some k from e)
  exact .inl ⟨i,j,r1,r2,q⟩
 ·have e':(match Z2o st u with
   | some ys=>if data t && Z0l ys && decide (dep t≤60) && decide (Z2s ys≤60) then some (ys.any fun y=>eqv y t) else none
   | none=>none)=some k:=by
   unfold inT at e
   split at e
   ·exact(c ⟨_,_,rfl,rfl⟩).elim
   ·exact e
  cases e1:Z2o st u with
  | none=>rw[e1] at e';cases e'
  | some ys =>
   rw[e1] at e'
   have e':(if (data t && Z0l ys && decide (dep t≤60) && decide (Z2s ys≤60))=true then some (ys.any fun y=>eqv y t) else none)=some k:=e'
   by_cases hc:(data t && Z0l ys && decide (dep t≤60) && decide (Z2s ys≤60))=true
   ·rw[if_pos hc] at e'
    have hk:=Option.some.inj e'
    simp only[Bool.and_eq_true,decide_eq_true_eq] at hc
    obtain⟨⟨⟨h1,h2⟩,h3⟩,h4⟩:=hc
    obtain⟨a,vs,rfl,hs,rq⟩:=Rp.seq s r2 e1
    refine .inr ⟨toD t,Z0q ys,Zdg t v h1 r1, ?_,Z6p h1 h3,Z4o ys h2, ?_⟩
    ·rcases hs with hs | hs
     ·exact .inl (.lst hs (Z7u ys vs h2 rq))
     ·exact .inr (.tup hs (Z7u ys vs h2 rq))
    ·rw[Zer h1 h2,hk]
     exact q
   ·rw[if_neg hc] at e';cases e'
theorem ZdQ{op:CmpOp}{k:Bool}(s:RSto G m H st)(r1:Rp G m H t v)(r2:Rp G m H u w)(e:Z1h st op t u=some k)(q:Q (.bl k) H):ZdO G.K op v w H Q:=by
 have eqs:∀ k,eqT (Z0j st t) (Z0j st u)=some k→∃ d e,Dp G.K H v d∧Dp G.K H w e∧SeqAt.shaped d=true∧SeqAt.shaped e=true∧PyData.eqv d e=k:=by
  intro k e
  unfold eqT at e
  split at e
  ·rename_i hc
   simp only[Bool.and_eq_true,decide_eq_true_eq] at hc
   obtain⟨⟨⟨h1,h2⟩,h3⟩,h4⟩:=hc
   exact⟨_,_,ZeW s h1 r1,ZeW s h2 r2,Z6p h1 h3,Z6p h2 h4,by rw[Z7d _ _ h1 h2];exact Option.some.inj e⟩
  ·cases e
 have intsC:∀ {f:Int→Int→Bool},(∀ i j,t = .int i→u = .int j→some (f i j)=some k)→((∀ i j,t = .int i→u = .int j→False)→False)→rI0 (fun i j => .bl (f i j)) v w H Q:=by
  intro f h1 h2
  by_cases c:∃ i j,t = .int i∧u = .int j
  ·obtain⟨i,j,rfl,rfl⟩:=c
   refine⟨i,j,r1,r2, ?_⟩
   have h3:=Option.some.inj (h1 i j rfl rfl)
   show Q (.bl (f i j)) H
   rw[h3]
   exact q
  ·exact(h2 fun i j e1 e2=>c ⟨i,j,e1,e2⟩).elim
 cases op with
 | Eq =>
  obtain⟨d,d',h1,h2,h3,h4,h5⟩:=eqs k e
  exact⟨d,d',h1,h2,h3,h4,by rw[h5];exact q⟩
 | NotEq =>
  have e:(eqT (Z0j st t) (Z0j st u)).map (!·)=some k:=e
  cases e1:eqT (Z0j st t) (Z0j st u) with
  | none=>rw[e1] at e;cases e
  | some b =>
   rw[e1] at e
   have e:some (!b)=some k:=e
   obtain⟨d,d',h1,h2,h3,h4,h5⟩:=eqs b e1
   exact⟨d,d',h1,h2,h3,h4,by rw[h5,Option.some.inj e];exact q⟩
 | Lt=>exact intsC (fun i j e1 e2=>by subst e1 e2;exact e) fun hh=>by cases t <;> first | (cases e;done) | (cases u <;> first | exact hh _ _ rfl rfl | (cases e;done))
 | LtE=>exact intsC (fun i j e1 e2=>by subst e1 e2;exact e) fun hh=>by cases t <;> first | (cases e;done) | (cases u <;> first | exact hh _ _ rfl rfl | (cases e;done))
 | Gt=>exact intsC (fun i j e1 e2=>by subst e1 e2;exact e) fun hh=>by cases t <;> first | (cases e;done) | (cases u <;> first | exact hh _ _ rfl rfl | (cases e;done))
 | GtE=>exact intsC (fun i j e1 e2=>by subst e1 e2;exact e) fun hh=>by cases t <;> first | (cases e;done) | (cases u <;> first | exact hh _ _ rfl rfl | (cases e;done))
 | In=>exact Zhg (n:=false) s r1 r2 e q
 | NotIn =>
  have e:(inT st t u).map (!·)=some k:=e
  cases e1:inT st t u with
  | none=>rw[e1] at e;cases e
  | some b =>
   rw[e1] at e
   have e:some (!b)=some k:=e
   exact Zhg (n:=true) s r1 r2 e1 (by rw[if_pos rfl,Option.some.inj e];exact q)
 | Is=>cases t <;> cases u <;> cases e
 | IsNot=>cases t <;> cases u <;> cases e
end
section
variable {X:Cx} {W:WX} {fa fb fc:Env→Sto→R T} {a b c:Expr} {pos:Pos}
theorem Zes{op:CmpOp}{σ : L2.St}{H:Hp}{Q:VK}(h:tE G W (fun env st=>(fa env st).bnd fun x st1=>(fb env st1).bnd fun y st2=>R.opt ((Z1h st2 op x y).map .bl) st2) σ H Q) :
  tOp (ZdO G.K op) (tE G W fa) (tE G W fb) σ H Q:=by
 refine at2 h fun m env st t u v w H1 rs r1 r2 q => ?_
 cases e:Z1h st op t u with
 | none=>rw[e] at q;exact q.elim
 | some k =>
  rw[e] at q
  exact ZdQ rs.sto r1 r2 e (Rn.give (b := .bl k) q rs rfl)
theorem s_cmp{op:CmpOp}(hK:X.K=G.K)(hu:X.A.units+65 < cLine)(hm:behindInMarks op b=false)(ha:PE X a (tE G W fa))(hb:PE X b (tE G W fb)) :
  PE X (.Compare a [op] [b] pos) (tE G W fun env st=>(fa env st).bnd fun x st1=>(fb env st1).bnd fun y st2=>R.opt ((Z1h st2 op x y).map .bl) st2) :=
 PE.imp (pe_cmpR (Z8v hu op) ha hb hm) fun σ H Q h=>by rw[hK];exact Zes h
theorem t_cmp{op:CmpOp}(hK:X.K=G.K)(hu:X.A.units+65 < cLine)(hm:behindInMarks op b=false)(ha:PE X a (tE G W fa))(hb:PE X b (tE G W fb)) :
  PT X (.Compare a [op] [b] pos) (tTest (tE G W fun env st=>(fa env st).bnd fun x st1=>(fb env st1).bnd fun y st2=>R.opt ((Z1h st2 op x y).map .bl) st2)) :=
 PT.imp (pt_cmpR (Z8v hu op) ha hb hm) fun σ H Q h=>by rw[hK];exact Zes h
def ZaA (o1 o2:CmpOp) (fa fb fc:Env→Sto→R T):Env→Sto→R T:=fun env st=>(fa env st).bnd fun x st1=>(fb env st1).bnd fun y st2=>(R.opt (Z1h st2 o1 x y) st2).bnd fun k st3 =>
   if k=true then(fc env st3).bnd fun z st4=>R.opt ((Z1h st4 o2 y z).map .bl) st4 else .ok (.bl false) st3
theorem Zd3{o1 o2:CmpOp}{σ : L2.St}{H:Hp}{Q:VK}(h:tE G W (ZaA o1 o2 fa fb fc) σ H Q):tChain (ZdO G.K o1) (ZdO G.K o2) (tE G W fa) (tE G W fb) (tE G W fc) σ H Q:=by
 refine at2 h fun m env st t u v w H1 rs r1 r2 q => ?_
 cases e:Z1h st o1 t u with
 | none=>rw[e] at q;exact q.elim
 | some k =>
  rw[e] at q
  refine ZdQ rs.sto r1 r2 e ⟨k,rfl, ?_⟩
  have q:Rn G W σ env (Rp G) m H1 (if k=true then(fc env st).bnd fun z st4=>R.opt ((Z1h st4 o2 u z).map .bl) st4 else .ok (.bl false) st) (Kq Q):=q
  cases k with
  | false=>exact Rn.give q rs rfl
  | true =>
   refine⟨m,env,st,rs,(Rn.bnd q).imp fun z st' b H' m' rs' s r q2 => ?_⟩
   cases e2:Z1h st' o2 u z with
   | none=>rw[e2] at q2;exact q2.elim
   | some k2 =>
    rw[e2] at q2
    exact ZdQ rs'.sto (Rp.mov s.toMov _ _ r2) r e2 (Rn.give (b := .bl k2) q2 rs' rfl)
theorem Zid{o1 o2:CmpOp}(hK:X.K=G.K)(hu:X.A.units+65 < cLine)(hm:lastMarks [o1,o2] [b,c]=false)(ha:PE X a (tE G W fa))(hb:PE X b (tE G W fb))(hc:PE X c (tE G W fc)) :
  PE X (.Compare a [o1,o2] [b,c] pos) (tE G W (ZaA o1 o2 fa fb fc)):=PE.imp (pe_chain (Z8v hu o1) (Z8v hu o2) ha hb hc hm) fun σ H Q h=>by rw[hK];exact Zd3 h
theorem Zit{o1 o2:CmpOp}(hK:X.K=G.K)(hu:X.A.units+65 < cLine)(hm:lastMarks [o1,o2] [b,c]=false)(ha:PE X a (tE G W fa))(hb:PE X b (tE G W fb))(hc:PE X c (tE G W fc)) :
  PT X (.Compare a [o1,o2] [b,c] pos) (tTest (tE G W (ZaA o1 o2 fa fb fc))):=PT.imp (pt_chain (Z8v hu o1) (Z8v hu o2) ha hb hc hm) fun σ H Q h=>by rw[hK];exact Zd3 h
theorem asB{σ : L2.St}{H:Hp}{P:Bool→Hp→Prop}{g:Env→Bool→Sto→R T}{Q:VK}
  (h:At G W (Rp G) (fun env st=>(fa env st).bnd fun x st1=>match x with
    | .bl b=>g env b st1
    | _ => .bad) σ H (Kq Q))
  (k:∀ m env st b H1,RS G m env st σ H1→Rn G W σ env (Rp G) m H1 (g env b st) (Kq Q)→P b H1):tE G W fa σ H fun x H1=>∃ c,x = .bl c∧P c H1:=by
 refine at1 h fun m env st t v H1 rs r q => ?_
 cases t with
 | bl b=>exact⟨b,r,k m env st b H1 rs q⟩
 | _=>exact q.elim
def Zfm (fa:Env→Sto→R T):Env→Sto→R T:=fun env st=>(fa env st).bnd fun x st1=>match x with
  | .bl b => .ok (.bl (!b)) st1
  | _ => .bad
theorem s_not(ha:PE X a (tE G W fa)):PE X (.UnaryOp .Not a pos) (tE G W (Zfm fa)) :=
 PE.imp (pe_not ha) fun σ H Q h=>asB (P:=fun c H1=>Q (.bl (!c)) H1) h fun m env st b H1 rs q=>Rn.give (b := .bl (!b)) q rs rfl
theorem t_not(ha:PT X a (tTest (tE G W fa))):PT X (.UnaryOp .Not a pos) (tTest (tE G W (Zfm fa))) :=
 PT.imp (pt_not ha) fun σ H Q h=>asB (P:=fun c H1=>Q (!c) H1) h fun m env st b H1 rs q=>by
  obtain⟨k,e,q⟩:=Rn.give (b := .bl (!b)) q rs rfl
  cases e
  exact q
def fBl (fb:Env→Sto→R T):Env→Sto→R T:=fun env st=>(fb env st).bnd fun y st2=>match y with
   | .bl c => .ok (.bl c) st2
   | _ => .bad
theorem Zie{σ : L2.St}{H:Hp}{Q:VK}{m:Mm}{env:Env}{st:Sto}(rs:RS G m env st σ H)(q:Rn G W σ env (Rp G) m H (fBl fb env st) (Kq Q)):tE G W fb σ H fun x H1=>∃ c,x = .bl c∧Q x H1:=by
 refine⟨m,env,st,rs,(Rn.bnd q).imp fun t st' v H' m' rs' _ r q => ?_⟩
 cases t with
 | bl c=>exact⟨c,r,by cases (show v=_ from r);exact Rn.give q rs' rfl⟩
 | _=>exact q.elim
theorem ZeA{σ : L2.St}{H:Hp}{Q:VK}{m:Mm}{env:Env}{st:Sto}(rs:RS G m env st σ H)(q:Rn G W σ env (Rp G) m H (fBl fb env st) (Kq Q)):tE G W fb σ H Q:=by
 obtain⟨m',env',st',rs',q'⟩:=Zie rs q
 exact⟨m',env',st',rs',q'.imp fun _ _ _ _ _ _ _ _ z=>z.choose_spec.2⟩
def fAnd (fa fb:Env→Sto→R T):Env→Sto→R T:=fun env st=>(fa env st).bnd fun x st1=>match x with
  | .bl true=>fBl fb env st1
  | .bl false => .ok (.bl false) st1
  | _ => .bad
def fOr (fa fb:Env→Sto→R T):Env→Sto→R T:=fun env st=>(fa env st).bnd fun x st1=>match x with
  | .bl true => .ok (.bl true) st1
  | .bl false=>fBl fb env st1
  | _ => .bad
def gOr (fb:Env→Sto→R T) (env:Env) (b:Bool) (st:Sto):R T:=if b=true then .ok (.bl true) st else fBl fb env st
theorem Zg8:fOr fa fb=fun env st=>(fa env st).bnd fun x st1=>match x with
   | .bl b=>gOr fb env b st1
   | _ => .bad:=by
 funext env st
 unfold fOr
 congr 1
 funext x st1
 cases x with
 | bl b=>cases b <;> rfl
 | _=>rfl
theorem Zgn{σ : L2.St}{H:Hp}{Q:VK}(h:tE G W (fOr fa fb) σ H Q):tOrV (tE G W fa) (tE G W fb) σ H Q:=by
 rw[Zg8] at h
 refine asB (P:=fun c H1=>if c=true then Q (.bl true) H1 else tE G W fb σ H1 Q) h fun m env st b H1 rs q => ?_
 cases b with
 | false=>exact ZeA rs q
 | true=>exact Rn.give q rs rfl
theorem ZeR{σ : L2.St}{H:Hp}{Q:Bool→Hp→Prop}(h:tTest (tE G W (fOr fa fb)) σ H Q):tOr (tTest (tE G W fa)) (tTest (tE G W fb)) σ H Q:=by
 have h:tE G W (fOr fa fb) σ H fun x H'=>∃ k,x = .bl k∧Q k H':=h
 rw[Zg8] at h
 refine asB (P:=fun c H1=>if c=true then Q true H1 else tTest (tE G W fb) σ H1 Q) h fun m env st b H1 rs q => ?_
 cases b with
 | false=>exact ZeA rs q
 | true =>
  obtain⟨k,e,z⟩:=Rn.give (b := .bl true) q rs rfl
  cases e
  exact z
def ZfM (fc fa fb:Env→Sto→R T):Env→Sto→R T:=fun env st=>(fc env st).bnd fun x st1=>match x with
  | .bl true=>fa env st1
  | .bl false=>fb env st1
  | _ => .bad
theorem Zif{σ : L2.St}{H:Hp}{Q:VK}(h:tE G W (ZfM fc fa fb) σ H Q):tIf (tTest (tE G W fc)) (tE G W fa) (tE G W fb) σ H Q:=by
 show tE G W fc σ H fun x H1=>∃ c,x = .bl c∧if c=true then tE G W fa σ H1 Q else tE G W fb σ H1 Q
 refine at1 (g:=fun env x st1=>match x with
  | .bl true=>fa env st1
  | .bl false=>fb env st1
  | _ => .bad) h fun m env st t v H1 rs r q => ?_
 cases t with
 | bl b =>
  refine⟨b,r, ?_⟩
  cases b with
  | true=>exact⟨m,env,st,rs,q⟩
  | false=>exact⟨m,env,st,rs,q⟩
 | _=>exact q.elim
theorem s_ite(hc:PT X c (tTest (tE G W fc)))(ha:PE X a (tE G W fa))(hb:PE X b (tE G W fb)):PE X (.IfExp c a b pos) (tE G W (ZfM fc fa fb)):=PE.imp (pe_ifExp hc ha hb) fun σ H Q h=>Zif h
end
end Eg
set_option maxHeartbeats 2000000
namespace Eg
open PySem PySem.Spec PyProof.Rows L2
def tL (G:Gh) (W:WX) (f:Env→Sto→R (List T)):TE:=fun σ H Q=>∃ m env st,RS G m env st σ H∧Rn G W σ env (Rps G) m H (f env st) (fun _ _ vs H' _=>∀ p,H' p=none→Q (.ref p) (upd H' p (.lst vs)))
section
variable {X:Cx} {G:Gh} {W:WX} {fa fb fc:Env→Sto→R T} {fs:Env→Sto→R (List T)} {fl fh:Env→Sto→R (Option Int)} {a b c:Expr} {es:List Expr} {pos:Pos} {m:Mm} {H:Hp} {σ : L2.St} {env:Env} {st:Sto} {Q:VK}
theorem s_v{i:Nat}{x:Str}(hN:X.N[i]? = some x)(hv:Vis X.env.scope x)(hd:(x == ("__debug__" : Str))=false)(hcd:(x == ("__classdict__" : Str))=false) :
  PE X (.Name x pos) (tE G W (evV i)):=by
 refine PE.imp (pe_var hN hv hd hcd) fun σ H Q h => ?_
 obtain⟨m,env,st,rs,h⟩:=h
 unfold evV at h
 cases e:env[i]? with
 | none=>rw[e] at h;exact h.elim
 | some o =>
  cases o with
  | none=>rw[e] at h;exact h.elim
  | some t =>
   rw[e] at h
   obtain⟨v,e2,r⟩:=rs.env.2 i t e
   exact⟨v,e2,Rn.give h rs r⟩
def kT:T→Option V
 | .non=>some .non
 | .bl b=>some (.bl b)
 | .int i=>some (.int i)
 | .str x=>some (.str x)
 | _=>none
theorem Zfe{t:T}{v:V}(h:kT t=some v):Rp G m H t v:=by
 cases t <;> first | (cases h;done) | (cases (show some _=some v from h);rfl)
theorem s_k{t:T}{v:V}{e:Expr}(h:kT t=some v)(he:PE X e (tC v)):PE X e (tE G W fun _ st => .ok t st) :=
 PE.imp he fun σ H Q ⟨m,env,st,rs,q⟩=>Rn.give q rs (Zfe h)
theorem s_nil:PA X [] (tA G W fun _ st => .ok [] st):=PA.imp pa_nil fun σ H Q ⟨m,env,st,rs,q⟩=>Rn.here (b:=[]) q rs rfl
theorem Zjj{e:Expr}(ha:PE X e (tE G W fa))(hr:PA X es (tA G W fs))(hs:starEach (e :: es) X.env=(false,eval e X.env) :: starEach es X.env) :
  PA X (e :: es) (tA G W fun env st=>(fa env st).bnd fun x st1=>(fs env st1).bnd fun xs st2 => .ok (x :: xs) st2):=by
 refine PA.imp (pa_cons ha hr hs) fun σ H Q h => ?_
 show tE G W fa σ H fun x H1=>tA G W fs σ H1 fun xs H2=>Q (x :: xs) H2
 obtain⟨m,env,st,rs,h⟩:=h
 refine⟨m,env,st,rs,(Rn.bnd h).imp fun t st' v H' m' rs' _ r q=>⟨m',env,st',rs',(Rn.bnd q).imp fun ts st2 vs H2 m2 rs2 s2 r2 q2 => ?_⟩⟩
 exact Rn.here q2 rs2 ⟨v,vs,rfl,Rp.mov s2.toMov _ _ r,r2⟩
theorem s_tup{k:Nat}(h:PA X es (tA G W fs)):PE X (.Tuple es k pos) (tE G W fun env st=>(fs env st).bnd fun xs st1=>if xs.length≤lim then .ok (.tup xs) st1 else .bad):=by
 refine PE.imp (pe_tup h) fun σ H Q h => ?_
 refine atA h fun m env st ts vs H1 rs r q => ?_
 by_cases hl:ts.length≤lim
 ·rw[if_pos hl] at q
  exact⟨by rw[← r.length,← Z1t];exact hl,fun p hp=>Rn.tup q rs r hp⟩
 ·rw[if_neg hl] at q;exact q.elim
theorem ix_ok{t u:T}{v w:V}{r:T}(s:RSto G m H st)(r1:Rp G m H t v)(r2:Rp G m H u w)(e:ixT st t u=some r)(q:∀ b,Rp G m H r b→Q b H):rIx G.K v w H Q:=by
 cases u with
 | int i =>
  cases (show w=_ from r2)
  by_cases c:∃ x,t = .str x
  ·obtain⟨x,rfl⟩:=c
   cases (show v=_ from r1)
   have e:(if x.length≤lim then(atI x.cps.toList i).map fun c=>T.str ⟨#[c]⟩ else none)=some r:=e
   by_cases hl:x.length≤lim
   ·rw[if_pos hl] at e
    cases e2:atI x.cps.toList i with
    | none=>rw[e2] at e;cases e
    | some c =>
     rw[e2] at e
     cases (show some (T.str ⟨#[c]⟩)=some r from e)
     exact .inr (.inr ⟨x,i,c,rfl,rfl,Z1t ▸ hl,e2,q _ rfl⟩)
   ·rw[if_neg hl] at e;cases e
  ·have e:(match Z2o st t with
    | some xs=>atI xs i
    | none=>none)=some r:=by
    unfold ixT at e
    split at e
    ·exact(c ⟨_,rfl⟩).elim
    ·rename_i h1;cases h1;exact e
    ·cases e
   cases e1:Z2o st t with
   | none=>rw[e1] at e;cases e
   | some xs =>
    rw[e1] at e
    have e:atI xs i=some r:=e
    obtain⟨a,vs,rfl,hs,rq⟩:=Rp.seq s r1 e1
    have hb:∃ b,atI vs i=some b∧Rp G m H r b:=by
     unfold atI at e ⊢
     rw[← rq.length]
     cases e3:ixN xs.length i with
     | none=>rw[e3] at e;cases e
     | some j =>
      rw[e3] at e
      obtain⟨b,h1,h2⟩:=rq.get (show xs[j]? = some r from e)
      exact⟨b,h1,h2⟩
    obtain⟨b,h1,h2⟩:=hb
    rcases hs with hs | hs
    ·exact .inl ⟨a,vs,i,b,rfl,rfl,hs,h1,q b h2⟩
    ·exact .inr (.inl ⟨a,vs,i,b,rfl,rfl,hs,h1,q b h2⟩)
 | _=>cases t <;> cases e
theorem s_ix(hK:X.K=G.K)(hp:PlainIx b)(ha:PE X a (tE G W fa))(hb:PE X b (tE G W fb)) :
  PE X (.Subscript a b pos) (tE G W fun env st=>(fa env st).bnd fun x st1=>(fb env st1).bnd fun y st2=>R.opt (ixT st2 x y) st2):=by
 refine PE.imp (pe_ix (r:=rIx X.K) ix_seq ha hb hp) fun σ H Q h => ?_
 refine at2 h fun m env st t u v w H1 rs r1 r2 q => ?_
 cases e:ixT st t u with
 | none=>rw[e] at q;exact q.elim
 | some r =>
  rw[e] at q
  rw[hK]
  exact ix_ok rs.sto r1 r2 e fun b hb=>Rn.give q rs hb
theorem Zjh:PO X none (tP G W fun _ st => .ok none st):=PO.imp po_none fun σ H Q ⟨m,env,st,rs,q⟩=>Rn.here (b:=none) q rs rfl
theorem Zji{e:Expr}(h:PE X e (tE G W fa)):PO X (some e) (tP G W fun env st=>(fa env st).bnd fun x st1=>match x with
  | .int i => .ok (some i) st1
  | _ => .bad):=by
 refine PO.imp (po_some h) fun σ H Q h => ?_
 show tE G W fa σ H fun x H1=>∃ i,x = .int i∧Q (some i) H1
 refine at1 h fun m env st t v H1 rs r q => ?_
 cases t with
 | int i=>exact⟨i,r,Rn.here (b:=some i) q rs rfl⟩
 | _=>exact q.elim
theorem Zhm{A B:Type}{rel:Mm→Hp→A→B→Prop}{g:Env→T→Option Int→Option Int→Sto→R A}{K:A→Sto→B→Hp→Mm→Prop}{P:V→Option Int→Option Int→Hp→Prop}
  (h:At G W rel (fun env st=>(fa env st).bnd fun x st1=>(fl env st1).bnd fun l st2=>(fh env st2).bnd fun u st3=>g env x l u st3) σ H K)
  (k:∀ m env st t v l u H1,RS G m env st σ H1→Rp G m H1 t v→Rn G W σ env rel m H1 (g env t l u st) K→P v l u H1) :
  tE G W fa σ H fun x H1=>tP G W fl σ H1 fun l H2=>tP G W fh σ H2 fun u H3=>P x l u H3:=by
 obtain⟨m,env,st,rs,h⟩:=h
 refine⟨m,env,st,rs,(Rn.bnd h).imp fun t st' v H' m' rs' _ r q=>⟨m',env,st',rs',(Rn.bnd q).imp fun l st2 l' H2 m2 rs2 s2 r2 q2=>⟨m2,env,st2,rs2,(Rn.bnd q2).imp fun u st3 u' H3 m3 rs3 s3 r3 q3 => ?_⟩⟩⟩
 subst r2 r3
 exact k m3 env st3 t v l' u' H3 rs3 (Rp.mov (s2.trans s3).toMov _ _ r) q3
theorem s_sl{lo hi:Option Expr}{p2:Pos}(hK:X.K=G.K)(ha:PE X a (tE G W fa))(hl:PO X lo (tP G W fl))(hh:PO X hi (tP G W fh)) :
  PE X (.Subscript a (.Slice lo hi none p2) pos) (tE G W fun env st=>(fa env st).bnd fun x st1=>(fl env st1).bnd fun l st2=>(fh env st2).bnd fun u st3=>match x with
   | .tup xs => .ok (.tup (cut xs l u)) st3
   | .str z=>if z.length≤lim then .ok (.str (cutS z l u)) st3 else .bad
   | _ => .bad):=by
 refine PE.imp (pe_slice (SlR.or (r:=rSlA X.K) (r':=rSlS) sl_tupA sl_str) ha hl hh) fun σ H Q h => ?_
 refine Zhm h fun m env st t v l u H1 rs r q => ?_
 cases t with
 | str z =>
  cases (show v=_ from r)
  by_cases c:z.length≤lim
  ·simp only[if_pos c] at q
   exact .inr ⟨z,rfl,by rw[← Z1t];exact c,Rn.give (b := .str _) q rs rfl⟩
  ·simp only[if_neg c] at q;exact q.elim
 | tup xs =>
  obtain⟨p,vs,rfl,hp,rq⟩:=r
  refine .inl ⟨p,vs,rfl, .inl (.inl hp.2),fun hw => ?_,fun hw n hn => ?_⟩
  ·refine Rn.give q rs ⟨p,vs,rfl,hp, ?_⟩
   have:=rq.cut l u
   have e:cutV vs l u=vs:=by
    unfold cutV
    rw[hw.1,hw.2]
    simp
   rw[e] at this
   exact this
  ·exact Rn.tup q rs (rq.cut l u) hn
 | _=>exact q.elim
theorem Zd7:∀ {ns:List Int},ns≠[]→Z8q ns∈ns∧∀ y,y∈ns→y≤Z8q ns
 | [],h=>absurd rfl h
 | [a],_=>⟨by simp[Z8q],fun y hy=>by simp at hy;simp[Z8q,hy]⟩
 | a :: b :: r,_=>by
  obtain⟨h1,h2⟩:=Zd7 (ns:=b :: r) (by simp)
  simp only[Z8q]
  refine⟨?_,fun y hy => ?_⟩
  ·by_cases c:a≤Z8q (b :: r)
   ·rw[Int.max_eq_right c];exact List.mem_cons_of_mem _ h1
   ·rw[Int.max_eq_left (by omega)];exact List.mem_cons_self
  ·rcases List.mem_cons.mp hy with e | e
   ·subst e;exact Int.le_max_left _ _
   ·exact Int.le_trans (h2 y e) (Int.le_max_right _ _)
theorem ZcX:∀ {ns:List Int},ns≠[]→Z8o ns∈ns∧∀ y,y∈ns→Z8o ns≤y
 | [],h=>absurd rfl h
 | [a],_=>⟨by simp[Z8o],fun y hy=>by simp at hy;simp[Z8o,hy]⟩
 | a :: b :: r,_=>by
  obtain⟨h1,h2⟩:=ZcX (ns:=b :: r) (by simp)
  simp only[Z8o]
  refine⟨?_,fun y hy => ?_⟩
  ·by_cases c:a≤Z8o (b :: r)
   ·rw[Int.min_eq_left c];exact List.mem_cons_self
   ·rw[Int.min_eq_right (by omega)];exact List.mem_cons_of_mem _ h1
  ·rcases List.mem_cons.mp hy with e | e
   ·subst e;exact Int.min_le_left _ _
   ·exact Int.le_trans (Int.min_le_right _ _) (h2 y e)
def Z6d:Bi→Str
 | .len => "len" | .sum => "sum" | .max => "max" | .min => "min" | .abs => "abs" | .int => "int" | .tuple => "tuple" | .all => "all" | .any => "any" | .divmod => "divmod"
def Zha:Bi→Value
 | .int => .type "int" | .tuple => .type "tuple"
 | .len => .builtin "len" | .sum => .builtin "sum" | .max => .builtin "max" | .min => .builtin "min" | .abs => .builtin "abs" | .all => .builtin "all" | .any => .builtin "any" | .divmod => .builtin "divmod"
def rBi (K:PySem.W.Frag):Bi→List V→Hp→VK→Prop
 | .len=>fun xs H Q=>(∃ p ys,xs=[.ref p]∧(SqL K H p ys∨SqT K H p ys)∧Q (.int ys.length) H)∨(∃ z,xs=[.str z]∧z.length≤sizeLine∧Q (.int z.length) H)
 | .sum=>fun xs H Q=>rSum K xs H Q∨∃ (a:Addr) (ns:List Int),xs=[V.ref a]∧SqT K H a (ns.map V.int)∧Q (.int ns.sum) H
 | .max=>fun xs H Q=>rMax K xs H Q∨(∃ i j,xs=[.int i, .int j]∧Q (.int (if j > i then j else i)) H)∨∃ i j l,xs=[.int i, .int j, .int l]∧Q (.int (if l > (if j > i then j else i) then l else(if j > i then j else i))) H
 | .min=>fun xs H Q=>rMin K xs H Q∨(∃ i j,xs=[.int i, .int j]∧Q (.int (if j < i then j else i)) H)∨∃ i j l,xs=[.int i, .int j, .int l]∧Q (.int (if l < (if j < i then j else i) then l else(if j < i then j else i))) H
 | .abs=>fun xs H Q=>∃ i,xs=[.int i]∧Q (.int (if i < 0 then -i else i)) H
 | .int=>fun xs H Q=>((∃ i,xs=[.int i]∧Q (.int i) H)∨∃ k,xs=[.bl k]∧Q (.int (if k then 1 else 0)) H)∨∃ a n,xs=[.str a]∧PySem.intText? a=some n∧a.length≤640∧Q (.int n) H
 | .tuple=>fun xs H Q=>∃ p ys,xs=[.ref p]∧((SqL K H p ys∧∀ l,H l=none→Q (.ref l) (upd H l (.tup ys)))∨(SqT K H p ys∧Q (.ref p) H))
 | .all=>rAll K
 | .any=>rAny K
 | .divmod=>fun xs H Q=>∃ i j,xs=[.int i, .int j]∧CDivP i j∧∀ p,H p=none→Q (.ref p) (upd H p (.tup [.int (i / j), .int (i % j)]))
theorem Zee{prog:Program}{w:World}{A:Around}{E:Value→Shared→Prop}{s:Shared}{l:Addr}{xs:Array (Int × Tok)}{Q:Value→Shared→Prop}(hh:A.handled=none)(hl:s.heap.IsTuple l (intItems xs))
  (h:∀ h' tk t',(∀ b o,s.heap.get? b=some o→h'.get? b=some o)→Q (.int (preSum (numAt xs) xs.size) t') { s with heap:=h',toks:=tk }) :
  wpAny (model prog w) A (call (.builtin "sum") [.ref l]) Q E s:=by
 have hlt:l < s.heap.objs.size:=by obtain⟨_,e,_⟩:=hl;exact Heap.lt_size e
 refine call_sum_walkG (wpAny_pyIter_tuple hl ?_)
 refine⟨_,_,_,_,_,_,numAt xs,rfl,Walks.tuple (A:=A.in1) hh s.heap.objs.size l (Nat.ne_of_lt hlt) (intItems xs),⟨⟨_,Heap.get?_push_size _ rfl,rfl,rfl⟩,hl.push _⟩,fun b hb => ?_,(fun _ _=>intItems_at),fun h' tk t' hk => ?_⟩
 ·show b < (s.heap.push _).objs.size
  rw[Heap.size_push]
  rcases List.mem_cons.mp hb with rfl | hb
  ·exact Nat.lt_succ_self _
  ·rcases List.mem_cons.mp hb with rfl | hb
   ·exact Nat.lt_succ_of_lt hlt
   ·cases hb
 ·have:=h h' tk t' fun b o e=>hk b o (fun hm=>by
   rw[List.mem_singleton] at hm
   subst hm
   exact Nat.lt_irrefl _ (Heap.lt_size e)) (Heap.get?_push_of_some _ e)
  simpa [intItems] using this
theorem ZfV(hc:X.calm=true):CallR X (.builtin "sum") (fun xs H Q=>∃ (a:Addr) (ns:List Int),xs=[V.ref a]∧SqT X.K H a (ns.map V.int)∧Q (.int ns.sum) H):=by
 intro pins s σ H vs us Q I r h
 obtain⟨a,ns,rfl,hs,q⟩:=h
 obtain⟨its,rv,hl,_⟩:=I.tuple hs
 rw[Vals.ref1 r]
 have hi:IntsAre its ns:=rv.ints
 obtain⟨xs,e⟩:=hi.allInts.items
 have hn:numsOf (intItems xs).toList=ns:=by rw[← e];exact hi.numsOf
 rw[nums_intItems] at hn
 rw[e] at hl
 refine Zee (I.ok.hd hc) hl fun h' tk t' hk => ?_
 rw[preSum_eq,List.take_of_length_le (by simp),hn]
 exact⟨.int _,H,I.kept hk,⟨_,rfl⟩,q⟩
theorem Zg4(hc:X.calm=true):CallR X (.builtin "max") (fun xs H Q=>∃ i j l,xs=[.int i, .int j, .int l]∧Q (.int (if l > (if j > i then j else i) then l else(if j > i then j else i))) H):=by
 intro pins s σ H xs us Q I r h
 obtain⟨i,j,l,rfl,q⟩:=h
 refine call_max3Nu hc pins s σ H _ us Q I r ⟨.int i, .int j, .int l,_,rfl, ?_,q⟩
 have e:∀ a b:Int,nuMax2 (.int a) (.int b)=some (.int (if b > a then b else a)):=fun a b=>by
  show some (if decide (a < b)=true then V.int b else V.int a)=_
  by_cases c:a < b <;> simp[c]
 unfold nuMax3
 rw[e,Option.bind_some,e]
theorem Zgx(hc:X.calm=true):CallR X (.builtin "min") (fun xs H Q=>∃ i j l,xs=[.int i, .int j, .int l]∧Q (.int (if l < (if j < i then j else i) then l else(if j < i then j else i))) H):=by
 intro pins s σ H xs us Q I r h
 obtain⟨i,j,l,rfl,q⟩:=h
 refine call_min3Nu hc pins s σ H _ us Q I r ⟨.int i, .int j, .int l,_,rfl, ?_,q⟩
 have e:∀ a b:Int,nuMin2 (.int a) (.int b)=some (.int (if b < a then b else a)):=fun a b=>by
  show some (if decide (b < a)=true then V.int b else V.int a)=_
  by_cases c:b < a <;> simp[c]
 unfold nuMin3
 rw[e,Option.bind_some,e]
theorem Z3v(hc:X.calm=true):∀ b,CallR X (Zha b) (rBi X.K b)
 | .len=>CallR.or call_len_seq call_len_str
 | .sum=>CallR.or (cr_sum hc) (ZfV hc)
 | .max=>CallR.or (cr_max hc) (CallR.or (call_max2 hc) (Zg4 hc))
 | .min=>CallR.or (cr_min hc) (CallR.or (call_min2 hc) (Zgx hc))
 | .abs=>call_abs
 | .int=>fun pins s σ H xs us Q I r h=>by
  rcases h with h | h
  ·exact call_int1 pins s σ H xs us Q I r h
  ·exact call_int_str pins s σ H xs us Q I r h
 | .tuple=>call_tuple_of
 | .all=>cr_all hc
 | .any=>cr_any hc
 | .divmod=>call_divmodW
theorem divp{i j:Int}(h:Z6s j):CDivP i j:=⟨h.1,PyProof.noPylong_of_log2 h.2⟩
theorem Z2x{ts:List T}{vs:List V}{t:T}(r:Rps G m H [t] vs):∃ v,vs=[v]∧Rp G m H t v:=by
 obtain⟨v,r,e,h,q⟩:=r
 cases (show _=_ from q)
 exact⟨v,e,h⟩
theorem Zas{vs:List V}{t u:T}(r:Rps G m H [t,u] vs):∃ v w,vs=[v,w]∧Rp G m H t v∧Rp G m H u w:=by
 obtain⟨v,r,e,h,w,r2,e2,h2,q⟩:=r
 cases (show _=_ from q)
 subst e2
 exact⟨v,w,e,h,h2⟩
theorem Zdq{vs:List V}{t u x:T}(r:Rps G m H [t,u,x] vs):∃ v w z,vs=[v,w,z]∧Rp G m H t v∧Rp G m H u w∧Rp G m H x z:=by
 obtain⟨v,r,e,h,w,r2,e2,h2,z,r3,e3,h3,q⟩:=r
 cases (show _=_ from q)
 subst e3
 subst e2
 exact⟨v,w,z,e,h,h2,h3⟩
theorem lstI{t:T}{v:V}{ns:List Int}(s:RSto G m H st)(r:Rp G m H t v)(e:(Z0p st t).bind Z0v=some ns):∃ a,v = .ref a∧SqL G.K H a (ns.map V.int):=by
 cases e1:Z0p st t with
 | none=>rw[e1] at e;cases e
 | some xs =>
  rw[e1] at e
  obtain⟨a,vs,rfl,hs,rq⟩:=Rp.lst s r e1
  exact⟨a,rfl,by rw[← rq.ints (show Z0v xs=some ns from e)];exact hs⟩
theorem lstB{t:T}{v:V}{ns:List Bool}(s:RSto G m H st)(r:Rp G m H t v)(e:(Z0p st t).bind Z4t=some ns):∃ a,v = .ref a∧SqL G.K H a (ns.map V.bl):=by
 cases e1:Z0p st t with
 | none=>rw[e1] at e;cases e
 | some xs =>
  rw[e1] at e
  obtain⟨a,vs,rfl,hs,rq⟩:=Rp.lst s r e1
  exact⟨a,rfl,by rw[← rq.bls (show Z4t xs=some ns from e)];exact hs⟩
theorem bi_ok{b:Bi}{ts:List T}{vs:List V}(rs:RS G m env st σ H)(r:Rps G m H ts vs)(q:Rn G W σ env (Rp G) m H (R.opt (biT st b ts) st) (Kq Q)):rBi G.K b vs H Q:=by
 have s:=rs.sto
 unfold biT at q
 split at q
 ·-- len of a text
  rename_i x
  obtain⟨v,rfl,h⟩:=Z2x (ts:=[]) r
  cases (show v=_ from h)
  obtain⟨c,q⟩:=Z5b q
  exact .inr ⟨x,rfl,Z1t ▸ c,Rn.give (b := .int x.length) q rs rfl⟩
 ·rename_i a _
  obtain⟨v,rfl,h⟩:=Z2x (ts:=[]) r
  cases e:Z2o st a with
  | none=>rw[e] at q;exact q.elim
  | some xs =>
   rw[e] at q
   obtain⟨p,ys,rfl,hs,rq⟩:=Rp.seq s h e
   have q:=Rn.give (b := .int xs.length) q rs rfl
   rw[rq.length] at q
   exact .inl ⟨p,ys,rfl,hs,q⟩
 ·rename_i a
  obtain⟨v,rfl,h⟩:=Z2x (ts:=[]) r
  cases e:(Z2o st a).bind Z0v with
  | none=>rw[e] at q;exact q.elim
  | some ns =>
   rw[e] at q
   cases e1:Z2o st a with
   | none=>rw[e1] at e;cases e
   | some xs =>
    rw[e1] at e
    obtain⟨p,ys,rfl,hs,rq⟩:=Rp.seq s h e1
    have ei:=rq.ints (show Z0v xs=some ns from e)
    rcases hs with hs | hs
    ·exact .inl ⟨p,ns,rfl,by rw[← ei];exact hs,Rn.give (b := .int ns.sum) q rs rfl⟩
    ·exact .inr ⟨p,ns,rfl,by rw[← ei];exact hs,Rn.give (b := .int ns.sum) q rs rfl⟩
 ·rename_i a
  obtain⟨v,rfl,h⟩:=Z2x (ts:=[]) r
  cases e:(Z0p st a).bind Z0v with
  | none=>rw[e] at q;exact q.elim
  | some ns =>
   rw[e] at q
   have q:Rn G W σ env (Rp G) m H (R.opt (if ns=[] then none else some (T.int (Z8q ns))) st) (Kq Q):=q
   by_cases hn:ns=[]
   ·rw[if_pos hn] at q;exact q.elim
   ·rw[if_neg hn] at q
    obtain⟨p,rfl,hs⟩:=lstI s h e
    obtain⟨h1,h2⟩:=Zd7 hn
    refine .inl ⟨p,ns,rfl,hs,List.length_pos_iff.mpr hn,fun k hk hm => ?_⟩
    have:k=Z8q ns:=Int.le_antisymm (h2 k hk) (hm _ h1)
    subst this
    exact Rn.give q rs rfl
 ·rename_i a
  obtain⟨v,rfl,h⟩:=Z2x (ts:=[]) r
  cases e:(Z0p st a).bind Z0v with
  | none=>rw[e] at q;exact q.elim
  | some ns =>
   rw[e] at q
   have q:Rn G W σ env (Rp G) m H (R.opt (if ns=[] then none else some (T.int (Z8o ns))) st) (Kq Q):=q
   by_cases hn:ns=[]
   ·rw[if_pos hn] at q;exact q.elim
   ·rw[if_neg hn] at q
    obtain⟨p,rfl,hs⟩:=lstI s h e
    obtain⟨h1,h2⟩:=ZcX hn
    refine .inl ⟨p,ns,rfl,hs,List.length_pos_iff.mpr hn,fun k hk hm => ?_⟩
    have:k=Z8o ns:=Int.le_antisymm (hm _ h1) (h2 k hk)
    subst this
    exact Rn.give q rs rfl
 ·rename_i i j
  obtain⟨v,w,rfl,h1,h2⟩:=Zas r
  cases (show v=_ from h1);cases (show w=_ from h2)
  exact .inr (.inl ⟨i,j,rfl,Rn.give (b := .int (if j > i then j else i)) q rs rfl⟩)
 ·rename_i i j
  obtain⟨v,w,rfl,h1,h2⟩:=Zas r
  cases (show v=_ from h1);cases (show w=_ from h2)
  exact .inr (.inl ⟨i,j,rfl,Rn.give (b := .int (if j < i then j else i)) q rs rfl⟩)
 ·rename_i i j l
  obtain⟨v,w,z,rfl,h1,h2,h3⟩:=Zdq r
  cases (show v=_ from h1);cases (show w=_ from h2);cases (show z=_ from h3)
  exact .inr (.inr ⟨i,j,l,rfl,Rn.give (b := .int (if l > (if j > i then j else i) then l else(if j > i then j else i))) q rs rfl⟩)
 ·rename_i i j l
  obtain⟨v,w,z,rfl,h1,h2,h3⟩:=Zdq r
  cases (show v=_ from h1);cases (show w=_ from h2);cases (show z=_ from h3)
  exact .inr (.inr ⟨i,j,l,rfl,Rn.give (b := .int (if l < (if j < i then j else i) then l else(if j < i then j else i))) q rs rfl⟩)
 ·rename_i i
  obtain⟨v,rfl,h⟩:=Z2x (ts:=[]) r
  cases (show v=_ from h)
  exact⟨i,rfl,Rn.give (b := .int (if i < 0 then -i else i)) q rs rfl⟩
 ·rename_i i
  obtain⟨v,rfl,h⟩:=Z2x (ts:=[]) r
  cases (show v=_ from h)
  exact .inl (.inl ⟨i,rfl,Rn.give (b := .int i) q rs rfl⟩)
 ·rename_i k
  obtain⟨v,rfl,h⟩:=Z2x (ts:=[]) r
  cases (show v=_ from h)
  exact .inl (.inr ⟨k,rfl,Rn.give (b := .int (if k then 1 else 0)) q rs rfl⟩)
 ·rename_i x
  obtain⟨v,rfl,h⟩:=Z2x (ts:=[]) r
  cases (show v=V.str x from h)
  cases e:PySem.intText? x with
  | none=>rw[e] at q;exact q.elim
  | some n =>
   rw[e] at q
   obtain⟨c,q⟩:=Z5b (a:=T.int n) q
   exact .inr ⟨x,n,rfl,e,c,Rn.give (b := .int n) q rs rfl⟩
 ·rename_i xs
  obtain⟨v,rfl,h⟩:=Z2x (ts:=[]) r
  have h0:=h
  obtain⟨p,vs,rfl,⟨_,o,hp,_⟩,rq⟩:=h
  exact⟨p,vs,rfl, .inr ⟨.inl (.inr ⟨o,hp⟩),Rn.give q rs h0⟩⟩
 ·rename_i a hna
  obtain⟨v,rfl,h⟩:=Z2x (ts:=[]) r
  cases e:Z2o st a with
  | none=>rw[e] at q;exact q.elim
  | some xs =>
   rw[e] at q
   have q:Rn G W σ env (Rp G) m H (.ok (.tup xs) st) (Kq Q):=q
   by_cases c:∃ ys,a = .tup ys
   ·obtain⟨ys,rfl⟩:=c
    cases (show some ys=some xs from e)
    obtain⟨p,vs,rfl,hp,rq⟩:=h
    exact⟨p,vs,rfl, .inr ⟨.inl (.inl hp.2),Rn.give q rs ⟨p,vs,rfl,hp,rq⟩⟩⟩
   ·have e':Z0p st a=some xs:=by
     cases a with
     | tup ys=>exact(c ⟨ys,rfl⟩).elim
     | ptp ys=>exact(hna ys rfl).elim
     | _=>exact e
    obtain⟨p,vs,rfl,hs,rq⟩:=Rp.lst s h e'
    exact⟨p,vs,rfl, .inl ⟨hs,fun l hl=>Rn.tup q rs rq hl⟩⟩
 ·rename_i a
  obtain⟨v,rfl,h⟩:=Z2x (ts:=[]) r
  cases e:(Z0p st a).bind Z4t with
  | none=>rw[e] at q;exact q.elim
  | some ns =>
   rw[e] at q
   obtain⟨p,rfl,hs⟩:=lstB s h e
   exact⟨p,ns,rfl,hs,Rn.give (b := .bl (ns.all id)) q rs rfl⟩
 ·rename_i a
  obtain⟨v,rfl,h⟩:=Z2x (ts:=[]) r
  cases e:(Z0p st a).bind Z4t with
  | none=>rw[e] at q;exact q.elim
  | some ns =>
   rw[e] at q
   obtain⟨p,rfl,hs⟩:=lstB s h e
   exact⟨p,ns,rfl,hs,Rn.give (b := .bl (ns.any id)) q rs rfl⟩
 ·rename_i i j
  obtain⟨v,w,rfl,h1,h2⟩:=Zas r
  cases (show v=_ from h1);cases (show w=_ from h2)
  obtain⟨c,q⟩:=Z5b q
  exact⟨i,j,rfl,divp c,fun p hp=>Rn.tup q rs ⟨_,_,rfl,rfl,_,_,rfl,rfl,rfl⟩ hp⟩
 ·exact q.elim
theorem Zi7:∀ b,bootBuiltins (Z6d b)=some (Zha b)
 | .len=>by decide +kernel | .sum=>by decide +kernel | .max=>by decide +kernel | .min=>by decide +kernel | .abs=>by decide +kernel | .int=>by decide +kernel
 | .tuple=>by decide +kernel | .all=>by decide +kernel | .any=>by decide +kernel | .divmod=>by decide +kernel
theorem bi_nm:∀ b,Z6d b ≠ "__name__"
 | .len=>by decide | .sum=>by decide | .max=>by decide | .min=>by decide | .abs=>by decide | .int=>by decide | .tuple=>by decide | .all=>by decide | .any=>by decide | .divmod=>by decide
theorem bi_db:∀ b,(Z6d b == ("__debug__" : Str))=false
 | .len=>by decide | .sum=>by decide | .max=>by decide | .min=>by decide | .abs=>by decide | .int=>by decide | .tuple=>by decide | .all=>by decide | .any=>by decide | .divmod=>by decide
theorem Zhi{e:Expr}{pos:Pos}(hpl:(starEach es X.env).all (fun x => !x.1)=true):(backTo pos (starEach es X.env)).any (·.1)=false:=by
 unfold backTo
 rw[List.any_map]
 rw[List.any_eq_false]
 intro x hx
 have:=List.all_eq_true.mp hpl x hx
 simpa using this
theorem s_bi{b:Bi}{e:Expr}{p:Pos}(hK:X.K=G.K)(hc:X.calm=true)(hg:Gl X (Z6d b))(hm:X.mg (Z6d b)=none)(ha:PA X (e :: es) (tA G W fs))
  (he:starEach (e :: es) X.env=(false,eval e X.env) :: starEach es X.env) (hpl:(starEach es X.env).all (fun x => !x.1)=true) :
  PE X (.Call (.Name (Z6d b) p) (e :: es) [] pos) (tE G W fun env st=>(fs env st).bnd fun xs st1=>R.opt (biT st1 b xs) st1):=by
 have go:∀ σ H Q,tE G W (fun env st=>(fs env st).bnd fun xs st1=>R.opt (biT st1 b xs) st1) σ H Q→tCB (rBi X.K b) (tA G W fs) σ H Q:=fun σ H Q h=>by
  refine atA h fun m env st ts vs H1 rs r q => ?_
  rw[hK]
  exact bi_ok rs r q
 have hn:=bi_nm b
 have hd:=bi_db b
 have hv:=Zi7 b
 have hp:=Zhi (e:=e) (pos:=pos) hpl
 cases b with
 | int=>exact PE.imp (pe_callTy (Z3v hc .int) hg hm hv ha hn hd he hp) go
 | tuple=>exact PE.imp (pe_callTy (Z3v hc .tuple) hg hm hv ha hn hd he hp) go
 | len=>exact PE.imp (pe_callB (Z3v hc .len) hg hm hv ha hn hd he hp) go
 | sum=>exact PE.imp (pe_callB (Z3v hc .sum) hg hm hv ha hn hd he hp) go
 | max=>exact PE.imp (pe_callB (Z3v hc .max) hg hm hv ha hn hd he hp) go
 | min=>exact PE.imp (pe_callB (Z3v hc .min) hg hm hv ha hn hd he hp) go
 | abs=>exact PE.imp (pe_callB (Z3v hc .abs) hg hm hv ha hn hd he hp) go
 | all=>exact PE.imp (pe_callB (Z3v hc .all) hg hm hv ha hn hd he hp) go
 | any=>exact PE.imp (pe_callB (Z3v hc .any) hg hm hv ha hn hd he hp) go
 | divmod=>exact PE.imp (pe_callB (Z3v hc .divmod) hg hm hv ha hn hd he hp) go
end
end Eg
set_option maxHeartbeats 2000000
namespace Eg
open PySem PySem.Spec PyProof.Rows L2
inductive Sk where
 | l | t
def sAt (K:PySem.W.Frag):Sk→Hp→Addr→List V→Prop
 | .l,H,a,xs=>SqL K H a xs
 | .t,H,a,xs=>SqT K H a xs
def sIt:Sk→Heap→Addr→Addr→Nat→Prop
 | .l,h,it,a,i=>h.IsListIter it a i
 | .t,h,it,a,i=>h.IsTupleIter it a i
def sIs:Sk→Heap→Addr→Array Value→Prop
 | .l,h,a,xs=>h.IsList a xs
 | .t,h,a,xs=>h.IsTuple a xs
def sOb (a:Addr):Sk→Obj
 | .l=>{ cls := .type "list_iterator",data := .fields #[.ref a, .int 0 0] }
 | .t=>{ cls := .type "tuple_iterator",data := .fields #[.ref a, .int 0 0] }
section
variable {X:Cx} {pins:List (Addr × Obj)} {σ : L2.St} {H:Hp} {s:Shared} {a b it:Addr} {xs ys:List V} {h h':Heap} {i:Nat}
theorem Z1e{k:Sk}(I:Inv X pins σ H s)(hs:sAt X.K k H a xs):∃ its:List Value,Vals xs its∧sIs k s.heap a its.toArray:=by
 cases k with
 | l=>obtain⟨its,r,p,_⟩:=I.list hs;exact⟨its,r,p.isList⟩
 | t=>obtain⟨its,r,p,_⟩:=I.tuple hs;exact⟨its,r,p⟩
theorem Z8s{k:Sk}(I:Inv X pins σ H s)(h1:sAt X.K k H a xs)(h2:sAt X.K k H a ys):xs=ys:=by
 cases k with
 | l=>exact I.list_inj h1 h2
 | t=>exact I.tuple_inj h1 h2
theorem Z7q{k:Sk}(x:sIt k h it a i)(hk:∀ o,h.get? it=some o→h'.get? it=some o):sIt k h' it a i:=by
 cases k with
 | l=>exact Heap.IsListIter.at x hk
 | t=>exact Heap.IsTupleIter.at x hk
theorem Z3s{k:Sk}(x:sIt k h it a i):∃ o,h.get? it=some o∧∀ v,o.data ≠ .cell v:=by
 cases k with
 | l=>obtain⟨o,e,_,d⟩:=x;exact⟨o,e,fun v q=>by rw[d] at q;cases q⟩
 | t=>obtain⟨o,e,_,d⟩:=x;exact⟨o,e,fun v q=>by rw[d] at q;cases q⟩
theorem Z8y{k:Sk}{its:Array Value}{o:Obj}{n:String}(hs:sIs k h a its)(e:h.get? a=some o)(hc:o.cls = .type n)(hl:n ≠ "list")(ht:n ≠ "tuple"):False:=by
 cases k with
 | l =>
  obtain⟨o1,e1,c1,_⟩:=hs
  rw[e] at e1;cases e1
  rw[c1] at hc
  exact hl (Value.type.inj hc).symm
 | t =>
  obtain⟨o1,e1,c1,_⟩:=hs
  rw[e] at e1;cases e1
  rw[c1] at hc
  exact ht (Value.type.inj hc).symm
theorem Z4m{k k':Sk}{its:Array Value}(hs:sIs k h a its)(hi:sIt k' h it b i):a≠it:=fun z=>by
 subst z
 cases k' with
 | l =>
  obtain⟨o2,e2,c2,_⟩:=hi
  exact Z8y hs e2 c2 (by decide) (by decide)
 | t =>
  obtain⟨o2,e2,c2,_⟩:=hi
  exact Z8y hs e2 c2 (by decide) (by decide)
theorem Z2f{prog:Program}{w:World}{A:Around}{k:Sk}(hh:A.handled=none)(hne:a≠it)(its:Array Value) :
  Draws prog w A it [it,a] its.size (fun i v=>its[i]? = some v) (fun i h=>sIt k h it a i∧sIs k h a its):=by
 cases k with
 | l=>exact Draws.list hh it a hne its
 | t=>exact Draws.tuple hh it a hne its
theorem Z5h(k:Sk)(a:Addr)(its:Array Value):Begins (.ref a) (sOb a k) fun h=>sIs k h a its:=by
 cases k with
 | l=>exact begins_list a its
 | t=>exact begins_tuple a its
theorem Z6a{k:Sk}(e:h.get? it=some (sOb a k)):sIt k h it a 0:=by
 cases k with
 | l=>exact⟨_,e,rfl,rfl⟩
 | t=>exact⟨_,e,rfl,rfl⟩
end
def Zfc (K:PySem.W.Frag) (k:Sk) (a:Addr):It :=
 ⟨fun i H=>∃ xs x,sAt K k H a xs∧xs[i]? = some x,fun i H v H'=>∃ T x,v = .ref T∧H T=none∧H'=upd H T (.tup [.int (i:Nat),x])∧∀ xs,sAt K k H a xs→xs[i]? = some x,fun i H=>∃ xs,sAt K k H a xs∧xs.length=i⟩
def ZdZ (K:PySem.W.Frag) (k1 k2:Sk) (a b:Addr):It :=
 ⟨fun i H=>∃ xs ys x y,sAt K k1 H a xs∧sAt K k2 H b ys∧xs[i]? = some x∧ys[i]? = some y,
   fun i H v H'=>∃ T x y,v = .ref T∧H T=none∧H'=upd H T (.tup [x,y])∧(∀ xs,sAt K k1 H a xs→xs[i]? = some x)∧∀ ys,sAt K k2 H b ys→ys[i]? = some y,
   fun i H=>∃ xs ys,sAt K k1 H a xs∧sAt K k2 H b ys∧min xs.length ys.length=i⟩
section
variable {P:Program} {w:World} {K:PySem.W.Frag} {elts:List Expr} {kk:Nat} {tpos:Pos}
theorem ZhX(k:Sk)(a e it:Addr):Turn P w K (.Tuple elts kk tpos) (Zfc K k a) [e,it] e (fun i h=>(∃ old,IsEnum h e it (0+(i:Int)) old)∧sIt k h it a i∧e≠it) where
 mem:=by simp
 obj:=fun i h st b hb=>by
  obtain⟨⟨old,he⟩,hit,_⟩:=st
  simp only[List.mem_cons,List.not_mem_nil,or_false] at hb
  rcases hb with z | z
  ·subst z;exact⟨_,he,fun v q=>nomatch q⟩
  ·subst z;exact Z3s hit
 keep:=fun i h h' st kp=>⟨⟨st.1.choose,kp e (by simp) _ st.1.choose_spec⟩,Z7q st.2.1 fun o q=>kp it (by simp) o q,st.2.2⟩
 item:=by
  intro X hP hw hK hc i pins s σ H E I hf st hg
  subst hP hw hK
  obtain⟨hen,hit,hne⟩:=st
  obtain⟨xs,x,hq,hx⟩:=hg
  obtain⟨its,rv,hs⟩:=Z1e I hq
  obtain⟨u,hu,ru⟩:=rv.get hx
  have hai:a≠it∧a≠e:=⟨Z4m hs hit,fun z=>by obtain⟨old,he⟩:=hen;subst z;exact Z8y hs he rfl (by decide) (by decide)⟩
  have D:=Z2f (prog:=X.prog) (w:=X.w) (A:=X.A.in1) (k:=k) (I.ok.hd hc) hai.1 its.toArray
  have W:=GoesN.enumFrom (elts:=elts) (x1:=kk) (pos:=tpos) 0 D e hne (by simp[hne,Ne.symm hai.2]) (by simp)
  have hlt:i < its.toArray.size:=by
   have:=(List.getElem?_eq_some_iff.mp hu).1
   simpa using this
  refine W.goes i s _ E hlt ⟨hen,hit,hs⟩ fun v h' tk hy hst hk htk => ?_
  obtain⟨T,t,y,rfl,hT,hy,hIs⟩:=hy
  have hy':its[i]? = some y:=by simpa using hy
  rw[hu] at hy'
  cases hy'
  have new:ObjOk X.prog X.w (upd H T (.tup [.int (i:Nat),x])) h' T (.tup [.int (i:Nat),x]):=by
   refine⟨by show 2≤sizeLine;decide,[.int (i:Nat) t,u], .cons ⟨_,rfl⟩ (.cons ru .nil), ?_⟩
   have e0:(0:Int)+(i:Int)=((i:Nat):Int):=by omega
   rw[e0] at hIs
   exact hIs
  have I1:=I.turnedNew (t':=tk) (ch:=[e,it]) hk hf hT new
  refine⟨.ref T,_,I1,rfl,⟨T,x,rfl,I.hok.fresh hT,rfl,fun ys hy=>by rw[Z8s I hy hq];exact hx⟩, ?_,fun b hb => ?_⟩
  ·obtain⟨⟨old,h1⟩,h2,_⟩:=hst
   exact⟨⟨old,h1⟩,h2,hne⟩
  ·have hb':b < s.heap.objs.size:=by
    simp only[List.mem_cons,List.not_mem_nil,or_false] at hb
    rcases hb with z | z
    ·subst z;obtain⟨old,he⟩:=hen;exact Heap.lt_size he
    ·subst z;obtain⟨o,q,_⟩:=Z3s hit;exact Heap.lt_size q
   rw[upd_ne (Nat.ne_of_lt (Nat.lt_of_lt_of_le hb' hT))]
   exact(hf b hb).1
 done:=by
  intro X hP hw hK hc i pins s σ H E I hf st hg
  subst hP hw hK
  obtain⟨hen,hit,hne⟩:=st
  obtain⟨xs,hq,hx⟩:=hg
  obtain⟨its,rv,hs⟩:=Z1e I hq
  have hai:a≠it∧a≠e:=⟨Z4m hs hit,fun z=>by obtain⟨old,he⟩:=hen;subst z;exact Z8y hs he rfl (by decide) (by decide)⟩
  have D:=Z2f (prog:=X.prog) (w:=X.w) (A:=X.A.in1) (k:=k) (I.ok.hd hc) hai.1 its.toArray
  have W:=GoesN.enumFrom (elts:=elts) (x1:=kk) (pos:=tpos) 0 D e hne (by simp[hne,Ne.symm hai.2]) (by simp)
  have hn:i=its.toArray.size:=by
   have:=rv.length
   simp only[List.size_toArray]
   omega
  subst hn
  exact W.stops s _ E ⟨hen,hit,hs⟩ fun h' tk hk htk=>I.turnedL (t':=tk) (ch:=[e,it]) hk hf
 self:=fun A i s Q E st h=>by
  obtain⟨⟨old,he⟩,_,_⟩:=st
  exact wpAny_pyIter_enum he h
theorem ZhU(k1 k2:Sk){a b z TI TO i1 i2:Addr}(S:ZipSep2 z TI TO i1 i2 [i1,a] [i2,b]) :
  Turn P w K (.Tuple elts kk tpos) (ZdZ K k1 k2 a b) [z,TI,TO,i1,i2] z (fun i h=>IsZip h z TI TO .none∧IsTupOf2 h TI (.ref i1) (.ref i2)∧(∃ x y,IsTupOf2 h TO x y)∧sIt k1 h i1 a i∧sIt k2 h i2 b i) where
 mem:=by simp
 obj:=fun i h st c hb=>by
  obtain⟨h1,h2,⟨x,y,h3⟩,h4,h5⟩:=st
  simp only[List.mem_cons,List.not_mem_nil,or_false] at hb
  rcases hb with q | q | q | q | q
  ·subst q;exact⟨_,h1,fun v q=>nomatch q⟩
  ·subst q;exact⟨_,h2,fun v q=>nomatch q⟩
  ·subst q;exact⟨_,h3,fun v q=>nomatch q⟩
  ·subst q;exact Z3s h4
  ·subst q;exact Z3s h5
 keep:=fun i h h' st kp=>by
  obtain⟨h1,h2,⟨x,y,h3⟩,h4,h5⟩:=st
  exact⟨kp z (by simp) _ h1,kp TI (by simp) _ h2,⟨x,y,kp TO (by simp) _ h3⟩,Z7q h4 fun o q=>kp i1 (by simp) o q,Z7q h5 fun o q=>kp i2 (by simp) o q⟩
 item:=by
  intro X hP hw hK hc i pins s σ H E I hf st hg
  subst hP hw hK
  have st':=st
  obtain⟨h1,h2,⟨x0,y0,h3⟩,h4,h5⟩:=st'
  obtain⟨xs,ys,x,y,hq,hq2,hx,hy⟩:=hg
  obtain⟨its,rv,hs⟩:=Z1e I hq
  obtain⟨its2,rv2,hs2⟩:=Z1e I hq2
  obtain⟨u,hu,ru⟩:=rv.get hx
  obtain⟨u2,hu2,ru2⟩:=rv2.get hy
  have D:=Z2f (prog:=X.prog) (w:=X.w) (A:=X.A.in1) (k:=k1) (I.ok.hd hc) (Z4m hs h4) its.toArray
  have D2:=Z2f (prog:=X.prog) (w:=X.w) (A:=X.A.in1) (k:=k2) (I.ok.hd hc) (Z4m hs2 h5) its2.toArray
  have W:=GoesN.zip2 (elts:=elts) (x1:=kk) (pos:=tpos) S D D2
  have hlt:i < min its.toArray.size its2.toArray.size:=by
   have:=(List.getElem?_eq_some_iff.mp hu).1
   have:=(List.getElem?_eq_some_iff.mp hu2).1
   simp only[List.size_toArray]
   omega
  refine W.goes i s _ E hlt ⟨h1,h2,⟨x0,y0,h3⟩,⟨h4,hs⟩,⟨h5,hs2⟩⟩ fun v h' tk hyy hst hk htk => ?_
  obtain⟨T,p,q,rfl,hT,hp1,hp2,hIs⟩:=hyy
  have e1:its[i]? = some p:=by simpa using hp1
  have e2:its2[i]? = some q:=by simpa using hp2
  rw[hu] at e1;cases e1
  rw[hu2] at e2;cases e2
  have new:ObjOk X.prog X.w (upd H T (.tup [x,y])) h' T (.tup [x,y]):=⟨by show 2≤sizeLine;decide,[u,u2], .cons ru (.cons ru2 .nil),hIs⟩
  have hf':∀ c∈[z,TO,i1,i2],FpOk X pins H c:=fun c hc=>hf c (by
   simp only[List.mem_cons,List.not_mem_nil,or_false] at hc ⊢
   rcases hc with q | q | q | q
   ·exact .inl q
   ·exact .inr (.inr (.inl q))
   ·exact .inr (.inr (.inr (.inl q)))
   ·exact .inr (.inr (.inr (.inr q))))
  have I1:=I.turnedNew (t':=tk) (ch:=[z,TO,i1,i2]) hk hf' hT new
  refine⟨.ref T,_,I1,rfl,⟨T,x,y,rfl,I.hok.fresh hT,rfl,fun ys hy=>by rw[Z8s I hy hq];exact hx,fun ys hy'=>by rw[Z8s I hy' hq2];exact hy⟩, ?_,fun c hb => ?_⟩
  ·obtain⟨g1,g2,g3,g4,g5⟩:=hst
   exact⟨g1,g2,g3,g4.1,g5.1⟩
  ·have hb':c < s.heap.objs.size:=by
    simp only[List.mem_cons,List.not_mem_nil,or_false] at hb
    rcases hb with q | q | q | q | q
    ·subst q;exact Heap.lt_size h1
    ·subst q;exact Heap.lt_size h2
    ·subst q;exact Heap.lt_size h3
    ·subst q;obtain⟨o,q,_⟩:=Z3s h4;exact Heap.lt_size q
    ·subst q;obtain⟨o,q,_⟩:=Z3s h5;exact Heap.lt_size q
   rw[upd_ne (Nat.ne_of_lt (Nat.lt_of_lt_of_le hb' hT))]
   exact(hf c hb).1
 done:=by
  intro X hP hw hK hc i pins s σ H E I hf st hg
  subst hP hw hK
  obtain⟨h1,h2,h3,h4,h5⟩:=st
  obtain⟨xs,ys,hq,hq2,hx⟩:=hg
  obtain⟨its,rv,hs⟩:=Z1e I hq
  obtain⟨its2,rv2,hs2⟩:=Z1e I hq2
  have D:=Z2f (prog:=X.prog) (w:=X.w) (A:=X.A.in1) (k:=k1) (I.ok.hd hc) (Z4m hs h4) its.toArray
  have D2:=Z2f (prog:=X.prog) (w:=X.w) (A:=X.A.in1) (k:=k2) (I.ok.hd hc) (Z4m hs2 h5) its2.toArray
  have W:=GoesN.zip2 (elts:=elts) (x1:=kk) (pos:=tpos) S D D2
  have hn:i=min its.toArray.size its2.toArray.size:=by
   have:=rv.length
   have:=rv2.length
   simp only[List.size_toArray]
   omega
  subst hn
  have hf':∀ c∈[z,TO,i1,i2],FpOk X pins H c:=fun c hc=>hf c (by
   simp only[List.mem_cons,List.not_mem_nil,or_false] at hc ⊢
   rcases hc with q | q | q | q
   ·exact .inl q
   ·exact .inr (.inr (.inl q))
   ·exact .inr (.inr (.inr (.inl q)))
   ·exact .inr (.inr (.inr (.inr q))))
  exact W.stops s _ E ⟨h1,h2,h3,⟨h4,hs⟩,⟨h5,hs2⟩⟩ fun h' tk hk htk=>I.turnedL (t':=tk) (ch:=[z,TO,i1,i2]) hk hf'
 self:=fun A i s Q E st h=>wpAny_pyIter_zip st.1 h
end
section
variable {X:Cx} {tg e e2:Expr} {te:TE} {ta:TA}
def iSeq (K:PySem.W.Frag) (te:TE):TI:=fun σ H R=>te σ H fun x H1=>(∃ a xs,x = .ref a∧SqL K H1 a xs∧R (Itl K a) H1)∨(∃ a xs,x = .ref a∧SqT K H1 a xs∧R (Itt K a) H1)∨∃ y,x = .str y∧R (Its y) H1
theorem Ziz(he:PE X e te):PI X tg e (iSeq X.K te):=by
 refine⟨fun pins s σ H R I h => ?_⟩
 refine thn (he.run pins s σ H _ I h) fun v s1 ⟨x,H1,I1,r1,q⟩ => ?_
 rcases q with ⟨a,xs,rfl,hs,q⟩ | ⟨a,xs,rfl,hs,q⟩ | ⟨y,rfl,q⟩
 ·cases r1
  obtain⟨its,rv,p,_⟩:=I1.list hs
  exact wpAny_pyIter_list p.isList (pi_one (tk:=s1.toks) I1 _ (turn_list a _) ⟨_,Heap.get?_push_size _ rfl,rfl,rfl⟩ q)
 ·cases r1
  obtain⟨its,rv,p,_⟩:=I1.tuple hs
  exact wpAny_pyIter_tuple p (pi_one (tk:=s1.toks) I1 _ (turn_tuple a _) ⟨_,Heap.get?_push_size _ rfl,rfl,rfl⟩ q)
 ·obtain⟨t,rfl⟩:=r1
  cases ha:y.cps.all (· < 128) with
  | false=>exact wpAny_pyIter_wide ha (pi_one (tk:=s1.toks) I1 _ (turn_str _ y t _ (.inr rfl)) ⟨_,Heap.get?_push_size _ rfl,rfl,rfl⟩ q)
  | true=>exact wpAny_pyIter_ascii ha (pi_one (tk:=s1.toks) I1 _ (turn_str _ y t _ (.inl rfl)) ⟨_,Heap.get?_push_size _ rfl,rfl,rfl⟩ q)
theorem Zcc{pins:List (Addr × Obj)}{σ : L2.St}{H:Hp}{s s':Shared}(I:Inv X pins σ H s)(I':Inv X pins σ H s'){b:Addr}(h:s.heap.objs.size≤b):FpOk X pins H b :=
 I.fpOk h (I.hok.fresh h)
section
open PySem.AutoSeq1 (wpAny_loadPart')
set_option maxHeartbeats 2000000 in
theorem ZiL{v:Value}{o:Obj}{Hv:Heap→Prop}(Bg:Begins v o Hv) :
  Meets (Builtin.«enumerate.__new__» ⟨[.type "enumerate",v],[]⟩) (fun _ Rq s0=>Hv s0.heap ∧
   Rq (.ok (.ret (.ref (s0.heap.push o).objs.size))) { s0 with heap:=(s0.heap.push o).push { cls := .type "enumerate",data := .fields #[.none, .bool false, .ref s0.heap.objs.size,rawInt 0, .none, .none] } }) :=
 .of_wp fun prog w A Rq s0 hh=>by
  obtain⟨hp,gn,dr,tks,os⟩:=s0
  obtain⟨hv,hh⟩:=hh
  have hse:=sub_enumerate
  have go:∀ {A':Around} {E':Value→Shared→Prop} {Q':Value→Shared→Prop},Q' (.ref hp.objs.size) ⟨hp.push o,gn,dr,tks,os⟩→wpAny (model prog w) A' (pyIter v) Q' E' ⟨hp,gn,dr,tks,os⟩ :=
   fun q'=>Bg.iter prog w _ _ ⟨hp,gn,dr,tks,os⟩ _ hv q'
  wp_walk using go
  refine wpAny_stack_any fun stk=>wpAny_pure ?_
  split
  ·rename_i cc _ _ _ _ _
   cases (cc == Value.type "enumerate") <;> (wp_walk using go) <;> exact⟨_,rfl,hh⟩
  ·wp_walk using go
   exact⟨_,rfl,hh⟩
theorem ZhG{prog:Program}{w:World}{A:Around}{E:Value→Shared→Prop}{s:Shared}{v:Value}{o:Obj}{Hv:Heap→Prop}{Q:Value→Shared→Prop}(Bg:Begins v o Hv)(hv:Hv s.heap)
  (q:∀ h',IsEnum h' (s.heap.objs.size+1) s.heap.objs.size 0 .none→h'.get? s.heap.objs.size=some o→(∀ c u,s.heap.get? c=some u→h'.get? c=some u)→Q (.ref (s.heap.objs.size+1)) { s with heap:=h' }) :
  wpAny (model prog w) A (call (.type "enumerate") [v]) Q E s:=by
 refine callType_new F.called_enumerate (by decide) (F.typeCall_enumerate_1 _) (F.newCall_enumerate_1 _) (fun ob=>F.args_object_init_2 ob _) F.entry_enumerate_new (ZiL Bg) ⟨hv, ?_⟩
 have sz:(s.heap.push o).objs.size=s.heap.objs.size+1:=Heap.size_push ..
 show _∧_
 rw[sz]
 have e1:IsEnum ((s.heap.push o).push { cls := .type "enumerate",data := .fields #[.none, .bool false, .ref s.heap.objs.size,rawInt 0, .none, .none] }) (s.heap.objs.size+1) s.heap.objs.size 0 .none:=by
  have z:=Heap.get?_push_size (s.heap.push o) (o:={ cls := .type "enumerate",data := .fields #[.none, .bool false, .ref s.heap.objs.size,rawInt 0, .none, .none] }) rfl
  rw[sz] at z
  exact z
 exact⟨⟨_,e1,rfl⟩,q _ e1 (Heap.get?_push_of_some _ (Heap.get?_push_size _ Bg.free)) fun c u x=>Heap.get?_push_of_some _ (Heap.get?_push_of_some _ x)⟩
end
theorem ZbN{k:Sk}{h:Heap}{a:Addr}{its:Array Value}(hs:sIs k h a its):a < h.objs.size:=by
 cases k with
 | l=>obtain⟨o,e,_⟩:=hs;exact Heap.lt_size e
 | t=>obtain⟨o,e,_⟩:=hs;exact Heap.lt_size e
def iEn (K:PySem.W.Frag) (ta:TA):TI:=fun σ H R=>ta σ H fun vs H1=>∃ k a xs,vs=[.ref a]∧sAt K k H1 a xs∧R (Zfc K k a) H1
theorem pi_en{p pos tpos:Pos}{elts:List Expr}{kk:Nat}(hg:Gl X "enumerate")(hm:X.mg "enumerate" = none)(ha:PA X [e] ta)(hs:starEach [e] X.env=[(false,eval e X.env)]) :
  PI X (.Tuple elts kk tpos) (.Call (.Name "enumerate" p) [e] [] pos) (iEn X.K ta):=by
 refine⟨fun pins s σ H R I h => ?_⟩
 refine Call_ (ld_blt I hg hm boot_enumerate (PyProof.Rows.callWith_type1 (thn (ha.run pos pins s σ H _ I h) fun us s1 ⟨vs,H1,I1,r1,q1⟩ => ?_) hs rfl))
 obtain⟨k,a,xs,rfl,hq,q⟩:=q1
 cases r1 with
 | cons r rr =>
  cases rr
  cases r
  obtain⟨its,rv,hsr⟩:=Z1e I1 hq
  refine ZhG (Z5h k a its.toArray) hsr fun h' he hb hk=>wpAny_pyIter_enum he ?_
  have I2:Inv X pins σ H1 { s1 with heap:=h' }:=I1.kept (t':=s1.toks) hk
  have he0:IsEnum h' (s1.heap.objs.size+1) s1.heap.objs.size (0+((0:Nat):Int)) .none:=by
   have z:(0:Int)+((0:Nat):Int)=0:=by omega
   rw[z]
   exact he
  refine⟨s1.heap.objs.size+1,[s1.heap.objs.size+1,s1.heap.objs.size],_,_,H1,rfl,I2,ZhX k a (s1.heap.objs.size+1) s1.heap.objs.size,⟨⟨.none,he0⟩,Z6a hb,Nat.succ_ne_self _⟩,fun b hb => ?_,q⟩
  simp only[List.mem_cons,List.not_mem_nil,or_false] at hb
  rcases hb with z | z
  ·subst z;exact Zcc I1 I1 (Nat.le_succ _)
  ·subst z;exact Zcc I1 I1 (Nat.le_refl _)
def iPr (K:PySem.W.Frag) (ta:TA):TI:=fun σ H R=>ta σ H fun vs H1=>∃ k1 k2 a b xs ys,vs=[.ref a, .ref b]∧sAt K k1 H1 a xs∧sAt K k2 H1 b ys∧R (ZdZ K k1 k2 a b) H1
theorem pi_pr{p pos tpos:Pos}{elts:List Expr}{kk:Nat}(hg:Gl X "zip")(hm:X.mg "zip" = none)(ha:PA X [e,e2] ta)
  (hs:starEach [e,e2] X.env=(false,eval e X.env) :: starEach [e2] X.env) (hpl:(backTo pos (starEach [e2] X.env)).any (·.1)=false) :
  PI X (.Tuple elts kk tpos) (.Call (.Name "zip" p) [e,e2] [] pos) (iPr X.K ta):=by
 refine⟨fun pins s σ H R I h => ?_⟩
 refine Call_ (ld_blt I hg hm PyProof.Rows.boot_zip (PyProof.Rows.callWith_type1 (thn (ha.run pos pins s σ H _ I h) fun us s1 ⟨vs,H1,I1,r1,q1⟩ => ?_) hs hpl))
 obtain⟨k1,k2,a,b,xs,ys,rfl,hq,hq2,q⟩:=q1
 cases r1 with
 | cons r rr =>
  cases rr with
  | cons r' rr =>
   cases rr
   cases r
   cases r'
   obtain⟨its,rv,hsr⟩:=Z1e I1 hq
   obtain⟨its2,rv2,hsr2⟩:=Z1e I1 hq2
   refine zip_begins2 (Z5h k1 a its.toArray) (Z5h k2 b its2.toArray) hsr hsr2 fun h' hz hT hO h1 h2 hsz hk=>wpAny_pyIter_zip hz ?_
   have I2:Inv X pins σ H1 { s1 with heap:=h' }:=I1.kept (t':=s1.toks) hk
   have S:=zip_sep2 (N:=s1.heap.objs.size) (fp1:=[a]) (fp2:=[b]) (fun c hc=>by simp only[List.mem_singleton] at hc;subst hc;exact ZbN hsr) (fun c hc=>by simp only[List.mem_singleton] at hc;subst hc;exact ZbN hsr2)
   refine⟨s1.heap.objs.size+4,[s1.heap.objs.size+4,s1.heap.objs.size+2,s1.heap.objs.size+3,s1.heap.objs.size,s1.heap.objs.size+1],_,_,H1,rfl,I2,ZhU k1 k2 S,⟨hz,hT,⟨_,_,hO⟩,Z6a h1,Z6a h2⟩,fun c hb=>Zcc I1 I1 ?_,q⟩
   simp only[List.mem_cons,List.not_mem_nil,or_false] at hb
   rcases hb with z | z | z | z | z
   ·subst z;exact Nat.le_add_right _ _
   ·subst z;exact Nat.le_add_right _ _
   ·subst z;exact Nat.le_add_right _ _
   ·subst z;exact Nat.le_refl _
   ·subst z;exact Nat.le_add_right _ _
end
end Eg
set_option maxHeartbeats 2000000
namespace Eg
open PySem PySem.Spec PyProof.Rows L2
section
variable {G:Gh} {m m1 m':Mm} {H H1 H' H'':Hp} {st st':Sto} {σ σ':L2.St} {env env':Env} {a b p:Addr} {o:HO} {W:WX}
theorem Mov.trans(x:Mov m H m1 H1)(y:Mov m1 H1 m' H'):Mov m H m' H':=by
 have back:∀ a,H1 a=none→a∈m.as∨H a=none:=fun a z=>by
  by_cases hm:a∈m.as
  ·exact .inl hm
  ·exact .inr (Decidable.byContradiction fun e=>x.stay a hm e z)
 have out:∀ a,a ∉ m.as→H a≠none→a ∉ m1.as:=fun a hn h q=>by
  rcases x.newA a q with z | z
  ·exact hn z
  ·exact h z
 refine⟨fun a o h hT hn=>y.keep a o (x.keep a o h hT hn) hT (out a hn (by rw[h];simp)),fun a hn h=>y.stay a (out a hn h) (x.stay a hn h),fun a h => ?_,fun a h => ?_, ?_⟩
 ·rcases y.newA a h with z | z
  ·exact x.newA a z
  ·exact back a z
 ·rcases y.newF a h with z | z
  ·rcases x.w z with q | q
   ·exact .inl q
   ·exact .inr q
  ·rcases back a z with q | q
   ·exact .inl (.inl q)
   ·exact .inr q
 ·obtain⟨n,e⟩:=x.pre
  obtain⟨n',e'⟩:=y.pre
  exact⟨n++n',by rw[e',e,List.append_assoc]⟩
inductive Nw (H:Hp):Hp→Prop
 | nil:Nw H H
 | new {H':Hp} {p:Addr} {o:HO}:Nw H H'→H' p=none→Nw H (upd H' p o)
theorem Nw.stp{H H':Hp}(h:Nw H H')(m:Mm):Stp m H m H':=by
 induction h with
 | nil=>exact Stp.refl _ _
 | new _ hp ih=>exact ih.trans (Stp.fresh hp)
theorem Nw.sto{G:Gh}{m:Mm}{st:Sto}{H H':Hp}(h:Nw H H')(s:RSto G m H st):RSto G m H' st:=by
 induction h with
 | nil=>exact s
 | new _ hp ih=>exact ih.fresh hp
theorem Nw.rs{G:Gh}{m:Mm}{env:Env}{st:Sto}{σ : L2.St}{H H':Hp}(h:Nw H H')(s:RS G m env st σ H):RS G m env st σ H':=by
 induction h with
 | nil=>exact s
 | new _ hp ih=>exact ih.fresh hp
structure Wk (G:Gh) (m:Mm) (H:Hp) (J:It) (xs:List T):Prop where
 go:∀ m' H',MovF m H m' H'→∀ i,i < xs.length→J.go i H'
 stop:∀ m' H',MovF m H m' H'→J.stop xs.length H'
 yld:∀ m' H' st,MovF m H m' H'→RSto G m' H' st→∀ i x H'',i < xs.length→J.yld i H' x H''→Nw H' H''∧∃ t,xs[i]? = some t∧Rp G m' H'' t x
theorem Z1l{ts:List T}{vs:List V}(r:Rps G m H ts vs){i:Nat}(h:i < ts.length):∃ t v,ts[i]? = some t∧vs[i]? = some v∧Rp G m H t v:=by
 obtain⟨v,e,q⟩:=r.get (List.getElem?_eq_getElem h)
 exact⟨_,v,List.getElem?_eq_getElem h,e,q⟩
theorem Wk.lst{xs:List T}{vs:List V}(s:SAt G m H a vs)(r:Rps G m H xs vs):Wk G m H (Itl G.K a) xs:=by
 have sq:∀ {m':Mm} {H':Hp},MovF m H m' H'→SqL G.K H' a vs:=fun x=>by
  rcases s.movF x with h | h
  ·exact .inl h.2
  ·exact .inr h
 refine⟨fun m' H' x i hi => ?_,fun m' H' x=>⟨vs,sq x,Nat.le_of_eq r.length.symm⟩,fun m' H' st x _ i y H'' hi hy => ?_⟩
 ·obtain⟨t,v,_,e,_⟩:=Z1l r hi
  exact⟨vs,v,sq x,e⟩
 ·obtain⟨rfl,hy⟩:=hy
  obtain⟨t,v,e1,e2,q⟩:=Z1l r hi
  have:=hy vs (sq x)
  rw[e2] at this
  cases this
  exact⟨.nil,t,e1,Rp.movF x t _ q⟩
theorem Wk.ptp{xs:List T}{vs:List V}(s:PAt m H a vs)(r:Rps G m H xs vs):Wk G m H (Itt G.K a) xs:=by
 have sq:∀ {m':Mm} {H':Hp},MovF m H m' H'→SqT G.K H' a vs:=fun x=>by
  obtain⟨_,o,h,_⟩:=s.movF x
  exact .inl (.inr ⟨o,h⟩)
 refine⟨fun m' H' x i hi => ?_,fun m' H' x=>⟨vs,sq x,Nat.le_of_eq r.length.symm⟩,fun m' H' st x _ i y H'' hi hy => ?_⟩
 ·obtain⟨t,v,_,e,_⟩:=Z1l r hi
  exact⟨vs,v,sq x,e⟩
 ·obtain⟨rfl,hy⟩:=hy
  obtain⟨t,v,e1,e2,q⟩:=Z1l r hi
  have:=hy vs (sq x)
  rw[e2] at this
  cases this
  exact⟨.nil,t,e1,Rp.movF x t _ q⟩
theorem Wk.tup{xs:List T}{vs:List V}(s:TAt G m H a vs)(r:Rps G m H xs vs):Wk G m H (Itt G.K a) xs:=by
 have sq:∀ {m':Mm} {H':Hp},MovF m H m' H'→SqT G.K H' a vs:=fun x => .inl (.inl (s.movF x).2)
 refine⟨fun m' H' x i hi => ?_,fun m' H' x=>⟨vs,sq x,Nat.le_of_eq r.length.symm⟩,fun m' H' st x _ i y H'' hi hy => ?_⟩
 ·obtain⟨t,v,_,e,_⟩:=Z1l r hi
  exact⟨vs,v,sq x,e⟩
 ·obtain⟨rfl,hy⟩:=hy
  obtain⟨t,v,e1,e2,q⟩:=Z1l r hi
  have:=hy vs (sq x)
  rw[e2] at this
  cases this
  exact⟨.nil,t,e1,Rp.movF x t _ q⟩
theorem Wk.str{y:Str}:Wk G m H (Its y) (Zbh y):=by
 have hl:(Zbh y).length=y.cps.size:=by unfold Zbh;rw[List.length_map];exact Array.length_toList
 refine⟨fun m' H' x i hi=>by rw[hl] at hi;exact hi,fun m' H' x=>Nat.le_of_eq hl.symm,fun m' H' st x _ i v H'' hi hy => ?_⟩
 obtain⟨rfl,c,e,rfl⟩:=hy
 refine⟨.nil, .str ⟨#[c]⟩, ?_,rfl⟩
 unfold Zbh
 rw[List.getElem?_map,Array.getElem?_toList,e]
 rfl
def sOf:Sk→T→Option (List T)
 | .l, .lst xs=>some xs
 | .t, .tup xs=>some xs
 | _,_=>none
theorem Ze8{k:Sk}{t:T}{v:V}{xs:List T}(r:Rp G m H t v)(e:sOf k t=some xs):∃ a vs,v = .ref a∧Rps G m H xs vs∧∀ {m':Mm} {H':Hp},MovF m H m' H'→sAt G.K k H' a vs:=by
 cases k with
 | l =>
  cases t with
  | lst ys =>
   cases (show some ys=some xs from e)
   obtain⟨a,vs,rfl,h,q⟩:=r
   exact⟨a,vs,rfl,q,fun x => .inl (.inl (h.movF x).2)⟩
  | _=>cases e
 | t =>
  cases t with
  | tup ys =>
   cases (show some ys=some xs from e)
   obtain⟨a,vs,rfl,h,q⟩:=r
   exact⟨a,vs,rfl,q,fun x => .inl (.inl (h.movF x).2)⟩
  | _=>cases e
theorem Z2n:∀ (xs:List T) (n:Nat),(Z1k n xs).length=xs.length
 | [],_=>rfl
 | x :: xs,n=>by simp[Z1k,Z2n xs (n+1)]
theorem Z7n:∀ (xs:List T) (n i:Nat) (t:T),xs[i]? = some t→(Z1k n xs)[i]? = some (.tup [.int ((n+i:Nat):Int),t])
 | [],_,i,t,h=>by simp at h
 | x :: xs,n,0,t,h=>by
  have:x=t:=by simpa using h
  subst this
  rfl
 | x :: xs,n,i+1,t,h=>by
  have:=Z7n xs (n+1) i t (by simpa using h)
  have e:n+(i+1)=n+1+i:=by omega
  rw[e]
  simpa [Z1k] using this
theorem Mov.fresh(hp:H p=none):Mov m H m (upd H p o):=(Stp.fresh hp).toMov
theorem Wk.en{k:Sk}{t:T}{v:V}{xs:List T}(r:Rp G m H t v)(e:sOf k t=some xs):∃ a vs,v = .ref a∧sAt G.K k H a vs∧Wk G m H (Zfc G.K k a) (Z1k 0 xs):=by
 obtain⟨a,vs,rfl,q,sq⟩:=Ze8 r e
 refine⟨a,vs,rfl,sq (Stp.refl m H).toMov.F,fun m' H' x i hi => ?_,fun m' H' x=>⟨vs,sq x,by rw[Z2n,q.length]⟩,fun m' H' st x rs i y H'' hi hy => ?_⟩
 ·rw[Z2n] at hi
  obtain⟨t,v,_,e,_⟩:=Z1l q hi
  exact⟨vs,v,sq x,e⟩
 ·rw[Z2n] at hi
  obtain⟨T',y',rfl,hT,rfl,hy⟩:=hy
  obtain⟨t,v,e1,e2,q'⟩:=Z1l q hi
  have:=hy vs (sq x)
  rw[e2] at this
  cases this
  refine⟨.new .nil hT,_,Z7n xs 0 i t e1,T',_,rfl,⟨rs.free hT,upd_same⟩,_,_,rfl, ?_,_,_,rfl, ?_,rfl⟩
  ·show V.int _=V.int _
   rw[Nat.zero_add]
  ·exact Rp.mov (Mov.fresh hT) _ _ (Rp.movF x t _ q')
theorem Z4b:∀ xs ys:List T,(Z1i xs ys).length=min xs.length ys.length
 | [],ys=>by simp[Z1i]
 | x :: xs,[]=>by simp[Z1i]
 | x :: xs,y :: ys=>by simp only[Z1i,List.length_cons,Z4b xs ys];omega
theorem ZaJ:∀ (xs ys:List T) (i:Nat) (t u:T),xs[i]? = some t→ys[i]? = some u→(Z1i xs ys)[i]? = some (.tup [t,u])
 | [],_,i,t,u,h,_=>by simp at h
 | x :: xs,[],i,t,u,_,h=>by simp at h
 | x :: xs,y :: ys,0,t,u,h,h2=>by
  have e1:x=t:=by simpa using h
  have e2:y=u:=by simpa using h2
  subst e1 e2
  rfl
 | x :: xs,y :: ys,i+1,t,u,h,h2=>by simpa [Z1i] using ZaJ xs ys i t u (by simpa using h) (by simpa using h2)
theorem Wk.pr{k1 k2:Sk}{t1 t2:T}{v1 v2:V}{xs ys:List T}(r1:Rp G m H t1 v1)(r2:Rp G m H t2 v2)(e1:sOf k1 t1=some xs)(e2:sOf k2 t2=some ys) :
  ∃ a b vs ws,v1 = .ref a∧v2 = .ref b∧sAt G.K k1 H a vs∧sAt G.K k2 H b ws∧Wk G m H (ZdZ G.K k1 k2 a b) (Z1i xs ys):=by
 obtain⟨a,vs,rfl,q1,sq1⟩:=Ze8 r1 e1
 obtain⟨b,ws,rfl,q2,sq2⟩:=Ze8 r2 e2
 refine⟨a,b,vs,ws,rfl,rfl,sq1 (Stp.refl m H).toMov.F,sq2 (Stp.refl m H).toMov.F,fun m' H' x i hi => ?_,fun m' H' x=>⟨vs,ws,sq1 x,sq2 x,by rw[Z4b,q1.length,q2.length]⟩,fun m' H' st x rs i y H'' hi hy => ?_⟩
 ·rw[Z4b] at hi
  obtain⟨t,v,_,e,_⟩:=Z1l q1 (i:=i) (by omega)
  obtain⟨t2,v2,_,e2,_⟩:=Z1l q2 (i:=i) (by omega)
  exact⟨vs,ws,v,v2,sq1 x,sq2 x,e,e2⟩
 ·rw[Z4b] at hi
  obtain⟨T',x',y',rfl,hT,rfl,hx,hy⟩:=hy
  obtain⟨t,v,f1,f2,q1'⟩:=Z1l q1 (i:=i) (by omega)
  obtain⟨t2,v2,g1,g2,q2'⟩:=Z1l q2 (i:=i) (by omega)
  have z1:=hx vs (sq1 x)
  rw[f2] at z1;cases z1
  have z2:=hy ws (sq2 x)
  rw[g2] at z2;cases z2
  refine⟨.new .nil hT,_,ZaJ xs ys i t t2 f1 g1,T',_,rfl,⟨rs.free hT,upd_same⟩,_,_,rfl, ?_,_,_,rfl, ?_,rfl⟩
  ·exact Rp.mov (Mov.fresh hT) _ _ (Rp.movF x t _ q1')
  ·exact Rp.mov (Mov.fresh hT) _ _ (Rp.movF x t2 _ q2')
theorem Zap(lo hi:Int):(Z2m lo hi).length=(hi - lo).toNat:=by simp[Z2m]
theorem Wk.rng{lo hi:Int}:Wk G m H (Itr lo (hi - lo).toNat) (Z2m lo hi):=by
 refine⟨fun m' H' x i hi=>by rw[Zap] at hi;exact hi,fun m' H' x=>by rw[Zap];exact Nat.le_refl _,fun m' H' st x _ i v H'' hi hy => ?_⟩
 obtain⟨rfl,rfl⟩:=hy
 rw[Zap] at hi
 refine⟨.nil, .int (lo+(i:Nat)), ?_,rfl⟩
 unfold Z2m
 rw[List.getElem?_map,List.getElem?_range hi]
 rfl
def tI (G:Gh) (W:WX) (f:Env→Sto→R (List T)):TI:=fun σ H R=>∃ m env st,RS G m env st σ H∧Rn G W σ env (fun _ _ _ (_:Unit)=>True) m H (f env st) (fun xs _ _ H' m'=>∀ J,Wk G m' H' J xs→R J H')
theorem PI.imp{X:Cx}{tg e:Expr}{t t':TI}(h:PI X tg e t)(k:∀ σ H R,t' σ H R→t σ H R):PI X tg e t':=⟨fun pins s σ H R I q=>h.run pins s σ H R I (k σ H R q)⟩
end
section
variable {X:Cx} {G:Gh} {W:WX} {fa fb:Env→Sto→R T} {e e2 tg:Expr} {pos:Pos}
def Zfr (fa:Env→Sto→R T):Env→Sto→R (List T):=fun env st=>(fa env st).bnd fun x st1=>match x with
  | .lst xs => .ok xs st1
  | .tup xs => .ok xs st1
  | .scr ns => .ok (ns.map .int) st1
  | .str y => .ok (Zbh y) st1
  | .ptp xs => .ok xs st1
  | _ => .bad
theorem i_seq(hK:X.K=G.K)(he:PE X e (tE G W fa)):PI X tg e (tI G W (Zfr fa)):=by
 refine PI.imp (Ziz he) fun σ H R h => ?_
 rw[hK]
 refine at1 h fun m env st t v H1 rs r q => ?_
 cases t with
 | lst xs =>
  obtain⟨a,vs,rfl,h,rq⟩:=r
  have hs:SAt G m H1 a vs := .inl ⟨h.1, .inl h.2⟩
  exact .inl ⟨a,vs,rfl, .inl (.inl h.2),Rn.here (b:=()) q rs trivial _ (Wk.lst hs rq)⟩
 | tup xs =>
  obtain⟨a,vs,rfl,h,rq⟩:=r
  exact .inr (.inl ⟨a,vs,rfl, .inl (.inl h.2),Rn.here (b:=()) q rs trivial _ (Wk.tup h rq)⟩)
 | scr ns =>
  obtain⟨a,rfl,h⟩:=r
  have sq:SqL G.K H1 a (ns.map V.int):=by
   rcases h with h | h
   ·exact .inl h.2
   ·exact .inr h
  exact .inl ⟨a,_,rfl,sq,Rn.here (b:=()) q rs trivial _ (Wk.lst h (Rps.of_ints ns))⟩
 | str y=>exact .inr (.inr ⟨y,r,Rn.here (b:=()) q rs trivial _ Wk.str⟩)
 | ptp xs =>
  obtain⟨a,vs,rfl,h,rq⟩:=r
  obtain⟨o,ho,_⟩:=h.2
  exact .inr (.inl ⟨a,vs,rfl, .inl (.inr ⟨o,ho⟩),Rn.here (b:=()) q rs trivial _ (Wk.ptp h rq)⟩)
 | _=>exact q.elim
def fEn (fa:Env→Sto→R T):Env→Sto→R (List T):=fun env st=>(fa env st).bnd fun x st1=>match x with
  | .lst xs => .ok (Z1k 0 xs) st1
  | .tup xs => .ok (Z1k 0 xs) st1
  | _ => .bad
theorem i_en{elts:List Expr}{kk:Nat}{p tpos:Pos}(hK:X.K=G.K)(hg:Gl X "enumerate")(hm:X.mg "enumerate" = none)(he:PE X e (tE G W fa))(hs:starEach [e] X.env=[(false,eval e X.env)]) :
  PI X (.Tuple elts kk tpos) (.Call (.Name "enumerate" p) [e] [] pos) (tI G W (fEn fa)):=by
 refine PI.imp (pi_en hg hm (pa_cons he pa_nil hs) hs) fun σ H R h => ?_
 rw[hK]
 show tE G W fa σ H fun x H1=>∃ k a xs,[x]=[V.ref a]∧sAt G.K k H1 a xs∧R (Zfc G.K k a) H1
 refine at1 h fun m env st t v H1 rs r q => ?_
 cases t with
 | lst xs =>
  obtain⟨a,vs,rfl,hs,hw⟩:=Wk.en (k := .l) r rfl
  exact⟨_,a,vs,rfl,hs,Rn.here (b:=()) q rs trivial _ hw⟩
 | tup xs =>
  obtain⟨a,vs,rfl,hs,hw⟩:=Wk.en (k := .t) r rfl
  exact⟨_,a,vs,rfl,hs,Rn.here (b:=()) q rs trivial _ hw⟩
 | _=>exact q.elim
def fPr (fa fb:Env→Sto→R T):Env→Sto→R (List T):=fun env st=>(fa env st).bnd fun x st1=>(fb env st1).bnd fun y st2=>match x,y with
  | .lst xs, .lst ys => .ok (Z1i xs ys) st2
  | .tup xs, .tup ys => .ok (Z1i xs ys) st2
  | .lst xs, .tup ys => .ok (Z1i xs ys) st2
  | .tup xs, .lst ys => .ok (Z1i xs ys) st2
  | _,_ => .bad
theorem i_pr{elts:List Expr}{kk:Nat}{p tpos:Pos}(hK:X.K=G.K)(hg:Gl X "zip")(hm:X.mg "zip" = none)(he:PE X e (tE G W fa))(he2:PE X e2 (tE G W fb))
  (hs:starEach [e,e2] X.env=(false,eval e X.env) :: starEach [e2] X.env) (hs2:starEach [e2] X.env=[(false,eval e2 X.env)]) :
  PI X (.Tuple elts kk tpos) (.Call (.Name "zip" p) [e,e2] [] pos) (tI G W (fPr fa fb)):=by
 refine PI.imp (pi_pr hg hm (pa_cons he (pa_cons he2 pa_nil hs2) hs) hs (by rw[hs2];rfl)) fun σ H R h => ?_
 rw[hK]
 show tE G W fa σ H fun x H1=>tE G W fb σ H1 fun y H2=>∃ k1 k2 a b xs ys,[x,y]=[V.ref a,V.ref b]∧sAt G.K k1 H2 a xs∧sAt G.K k2 H2 b ys∧R (ZdZ G.K k1 k2 a b) H2
 refine at2 h fun m env st t u v w H1 rs r1 r2 q => ?_
 have fin:∀ {k1 k2:Sk} {xs ys:List T},sOf k1 t=some xs→sOf k2 u=some ys→Rn G W σ env (fun _ _ _ (_:Unit)=>True) m H1 (.ok (Z1i xs ys) st) (fun xs _ _ H' m'=>∀ J,Wk G m' H' J xs→R J H') →
   ∃ k1 k2 a b xs ys,[v,w]=[V.ref a,V.ref b]∧sAt G.K k1 H1 a xs∧sAt G.K k2 H1 b ys∧R (ZdZ G.K k1 k2 a b) H1:=fun e1 e2 q=>by
  obtain⟨a,b,vs,ws,rfl,rfl,h1,h2,hw⟩:=Wk.pr r1 r2 e1 e2
  exact⟨_,_,a,b,vs,ws,rfl,h1,h2,Rn.here (b:=()) q rs trivial _ hw⟩
 cases t with
 | lst xs =>
  cases u with
  | lst ys=>exact fin (k1 := .l) (k2 := .l) rfl rfl q
  | tup ys=>exact fin (k1 := .l) (k2 := .t) rfl rfl q
  | _=>exact q.elim
 | tup xs =>
  cases u with
  | lst ys=>exact fin (k1 := .t) (k2 := .l) rfl rfl q
  | tup ys=>exact fin (k1 := .t) (k2 := .t) rfl rfl q
  | _=>exact q.elim
 | _=>exact q.elim
def ZaM (fa:Env→Sto→R T):Env→Sto→R (List T):=fun env st=>(fa env st).bnd fun x st1=>match x with
  | .int j=>if RgOk j then .ok (Z2m 0 j) st1 else .bad
  | _ => .bad
theorem i_rg1{p:Pos}(hg:Gl X "range")(hm:X.mg "range" = none)(he:PE X e (tE G W fa))(hs:starEach [e] X.env=[(false,eval e X.env)]) :
  PI X tg (.Call (.Name "range" p) [e] [] pos) (tI G W (ZaM fa)):=by
 refine PI.imp (pi_range1 hg hm (pa_cons he pa_nil hs) hs) fun σ H R h => ?_
 show tE G W fa σ H fun x H1=>∃ j:Int,[x]=[V.int j] ∧ -(2 ^ 62)≤j∧j < 2 ^ 62∧R (Itr 0 j.toNat) H1
 refine at1 h fun m env st t v H1 rs r q => ?_
 cases t with
 | int j =>
  cases (show v=_ from r)
  have q:Rn G W σ env (fun _ _ _ (_:Unit)=>True) m H1 (if RgOk j then .ok (Z2m 0 j) st else .bad) (fun xs _ _ H' m'=>∀ J,Wk G m' H' J xs→R J H'):=q
  by_cases c:RgOk j
  ·rw[if_pos c] at q
   have z:=Rn.here (b:=()) q rs trivial _ (Wk.rng (lo:=0) (hi:=j))
   rw[Int.sub_zero] at z
   exact⟨j,rfl,c.1,c.2,z⟩
  ·rw[if_neg c] at q;exact q.elim
 | _=>exact q.elim
def fRg2 (fa fb:Env→Sto→R T):Env→Sto→R (List T):=fun env st=>(fa env st).bnd fun x st1=>(fb env st1).bnd fun y st2=>match x,y with
  | .int i, .int j=>if RgOk i∧RgOk j then .ok (Z2m i j) st2 else .bad
  | _,_ => .bad
theorem i_rg2{p:Pos}(hg:Gl X "range")(hm:X.mg "range" = none)(he:PE X e (tE G W fa))(he2:PE X e2 (tE G W fb))(hs:starEach [e,e2] X.env=[(false,eval e X.env),(false,eval e2 X.env)])(hs2:starEach [e2] X.env=[(false,eval e2 X.env)]) :
  PI X tg (.Call (.Name "range" p) [e,e2] [] pos) (tI G W (fRg2 fa fb)):=by
 refine PI.imp (pi_range2 hg hm (pa_cons he (pa_cons he2 pa_nil hs2) (by rw[hs,hs2])) hs hs2) fun σ H R h => ?_
 show tE G W fa σ H fun x H1=>tE G W fb σ H1 fun y H2=>∃ i j:Int,[x,y]=[V.int i,V.int j]∧(-(2 ^ 62)≤i∧i < 2 ^ 62 ∧ -(2 ^ 62)≤j∧j < 2 ^ 62)∧R (Itr i (j - i).toNat) H2
 refine at2 h fun m env st t u v w H1 rs r1 r2 q => ?_
 cases t with
 | int i =>
  cases u with
  | int j =>
   cases (show v=_ from r1)
   cases (show w=_ from r2)
   have q:Rn G W σ env (fun _ _ _ (_:Unit)=>True) m H1 (if RgOk i∧RgOk j then .ok (Z2m i j) st else .bad) (fun xs _ _ H' m'=>∀ J,Wk G m' H' J xs→R J H'):=q
   by_cases c:RgOk i∧RgOk j
   ·rw[if_pos c] at q
    exact⟨i,j,rfl,⟨c.1.1,c.1.2,c.2.1,c.2.2⟩,Rn.here (b:=()) q rs trivial _ Wk.rng⟩
   ·rw[if_neg c] at q;exact q.elim
  | _=>exact q.elim
 | _=>exact q.elim
end
end Eg
set_option maxHeartbeats 2000000
namespace Eg
open PySem PySem.Spec PyProof.Rows L2
structure CC where
 N:List Str
 sc:Scope
 fn:Str→Bool
 hot:Bool
 lam:Bool
def Z3f (c:CC):Bool := !c.hot
def Zfs (c:CC) (i:Nat) (x:Str):Bool:=decide (c.N[i]? = some x) && (match c.sc.names.lookup x with
 | some .local=>true
 | some .cell=>true
 | some .free=>true
 | _=>false) && !(x == ("__debug__" : Str)) && !(x == ("__classdict__" : Str))
def Z6h (c:CC) (i:Nat) (x:Str):Bool:=decide (c.N[i]? = some x) && (match c.sc.names.lookup x with
 | some .local=>true
 | some .cell=>c.fn x
 | _=>false)
mutual
def Z3q (c:CC):IG→Expr→Bool
 | .name i, .Name x _=>Z6h c i x
 | .tup gs, .Tuple es _ _=>Z4r c gs es && Z3f c
 | _,_=>false
def Z4r (c:CC):List IG→List Expr→Bool
 | [],[]=>true
 | g :: gs,e :: es=>Z3q c g e && Z4r c gs es
 | _,_=>false
end
mutual
def IG.slots:IG→List Nat
 | .name i=>[i]
 | .tup gs=>Z9e gs
def Z9e:List IG→List Nat
 | []=>[]
 | g :: gs=>g.slots++Z9e gs
end
section
variable {G:Gh} {m m1 m':Mm} {H H1 H':Hp} {st st':Sto} {σ σ':L2.St} {env env':Env} {a D:Addr} {o:HO}
def tG (G:Gh) (g:IG):TG:=fun v σ H Q=>∃ m env st t env',RS G m env st σ H∧Rp G m H t v∧g.set t env=some env'∧∀ σ',RS G m env' st σ' H → σ'.length = σ.length→(∀ i,i ∉ g.slots → σ'[i]? = σ[i]?)→Q σ' H
def tGs (G:Gh) (gs:List IG):TGs:=fun vs σ H Q=>∃ m env st ts env',RS G m env st σ H∧Rps G m H ts vs∧IG.set.sets gs ts env=some env'∧∀ σ',RS G m env' st σ' H → σ'.length = σ.length→(∀ i,i ∉ Z9e gs → σ'[i]? = σ[i]?)→Q σ' H
theorem PG.imp{X:Cx}{e:Expr}{t t':TG}(h:PG X e t)(k:∀ v σ H Q,t' v σ H Q→t v σ H Q):PG X e t':=⟨fun pins s σ H v u Q I r q=>h.run pins s σ H v u Q I r (k v σ H Q q)⟩
theorem PGs.imp{X:Cx}{e:List Expr}{t t':TGs}(h:PGs X e t)(k:∀ v σ H Q,t' v σ H Q→t v σ H Q):PGs X e t':=⟨fun pins s σ H v u Q I r q=>h.run pins s σ H v u Q I r (k v σ H Q q)⟩
theorem RS.set{i:Nat}{t:T}{v:V}(rs:RS G m env st σ H)(hi:i < env.length)(r:Rp G m H t v):RS G m (env.set i (some t)) st (σ.set i (some v)) H:=by
 refine⟨⟨by rw[List.length_set,List.length_set];exact rs.env.1,fun j u e => ?_⟩,rs.sto⟩
 by_cases hj:j=i
 ·subst hj
  rw[List.getElem?_set_self hi] at e
  cases e
  exact⟨v,List.getElem?_set_self (by rw[← rs.env.1];exact hi),r⟩
 ·rw[List.getElem?_set_ne (Ne.symm hj)] at e
  obtain⟨w,e2,r2⟩:=rs.env.2 j u e
  exact⟨w,by rw[List.getElem?_set_ne (Ne.symm hj)];exact e2,r2⟩
theorem ZhM:∀ vs σ H Q,tGs G [] vs σ H Q→gNil vs σ H Q:=fun vs σ H Q ⟨m,env,st,ts,env',rs,r,e,k⟩=>by
 cases ts with
 | nil =>
  cases (show some env=some env' from e)
  exact⟨r,k σ rs rfl fun _ _=>rfl⟩
 | cons t ts=>cases e
theorem ZgB{g:IG}{gs:List IG}:∀ vs σ H Q,tGs G (g :: gs) vs σ H Q→gCons (tG G g) (tGs G gs) vs σ H Q:=fun vs σ H Q ⟨m,env,st,ts,env',rs,r,e,k⟩=>by
 cases ts with
 | nil=>cases e
 | cons t ts =>
  obtain⟨v,w,rfl,r1,r2⟩:=r
  have e:(match g.set t env with
   | some env'=>IG.set.sets gs ts env'
   | none=>none)=some env':=e
  cases e1:g.set t env with
  | none=>rw[e1] at e;cases e
  | some env1 =>
   rw[e1] at e
   refine⟨v,w,rfl,m,env,st,t,env1,rs,r1,e1,fun σ1 rs1 l1 k1=>⟨m,env1,st,ts,env',rs1,r2,e,fun σ2 rs2 l2 k2 => ?_⟩⟩
   refine k σ2 rs2 (l2.trans l1) fun i hi => ?_
   have hi':i ∉ g.slots∧i ∉ Z9e gs:=by
    constructor
    ·exact fun z=>hi (by simp[Z9e,z])
    ·exact fun z=>hi (by simp[Z9e,z])
   exact(k2 i hi'.2).trans (k1 i hi'.1)
variable {X:Cx} {c:CC}
theorem Zd8{g:IG}{e:Expr}(h:Z3q c g e=true)(es:List Expr)(env:PySem.Env):assignEach (e :: es) env=(false,assign e env) :: assignEach es env:=by
 cases e <;> first | rfl | (cases g <;> simp[Z3q] at h)
theorem ZbS(env:PySem.Env):∀ {gs:List IG} {es:List Expr},Z4r c gs es=true→(assignEach es env).length=gs.length∧(assignEach es env).findIdx? (·.1)=none
 | [],[],_=>⟨rfl,rfl⟩
 | [],_ :: _,h=>by simp[Z4r] at h
 | _ :: _,[],h=>by simp[Z4r] at h
 | g :: gs,e :: es,h=>by
  simp only[Z4r,Bool.and_eq_true] at h
  obtain⟨h1,h2⟩:=ZbS env h.2
  rw[Zd8 h.1 es env]
  refine⟨by simp[h1], ?_⟩
  rw[List.findIdx?_cons,h2]
  rfl
theorem ZbM:∀ {gs:List IG} {ts:List T} {env env':Env},IG.set.sets gs ts env=some env'→ts.length=gs.length
 | [],[],_,_,_=>rfl
 | [],_ :: _,_,_,h=>by cases h
 | _ :: _,[],_,_,h=>by cases h
 | g :: gs,t :: ts,env,env',h=>by
  have h:(match g.set t env with
   | some env'=>IG.set.sets gs ts env'
   | none=>none)=some env':=h
  cases e1:g.set t env with
  | none=>rw[e1] at h;cases h
  | some env1 =>
   rw[e1] at h
   simp[ZbM (gs:=gs) (ts:=ts) h]
theorem Z4i{i:Nat}{x:Str}(h:Z6h c i x=true)(hN:X.N=c.N)(hs:X.env.scope=c.sc)(hf:X.fn=c.fn):X.N[i]? = some x∧L2.Loc X.env.scope x∧(X.fn x=true∨X.env.scope.names.lookup x=some .local):=by
 unfold Z6h at h
 rw[Bool.and_eq_true,decide_eq_true_eq] at h
 rw[hN,hs,hf]
 refine⟨h.1, ?_⟩
 have h2:=h.2
 unfold L2.Loc
 split at h2
 ·rename_i e;exact⟨.inl e, .inr e⟩
 ·rename_i e;exact⟨.inr e, .inl h2⟩
 ·cases h2
theorem PG.or{e:Expr}{t t':TG}(h:PG X e t)(h':PG X e t'):PG X e (fun v σ H Q=>t v σ H Q∨t' v σ H Q):=⟨fun pins s σ H v u Q I r hw=>by
 rcases hw with hw | hw
 ·exact h.run pins s σ H v u Q I r hw
 ·exact h'.run pins s σ H v u Q I r hw⟩
mutual
theorem Zab(hN:X.N=c.N)(hs:X.env.scope=c.sc)(hf:X.fn=c.fn)(nd:X.N.Nodup)(hK:X.K=G.K)(hc:Z3f c=true→X.calm=true):∀ (g:IG) (e:Expr),Z3q c g e=true→PG X e (tG G g)
 | .name i,e,h=>by
  cases e with
  | Name x pos =>
   obtain⟨h1,h2,h3⟩:=Z4i (X:=X) h hN hs hf
   refine PG.imp (pg_name nd h1 h2 h3) fun v σ H Q ⟨m,env,st,t,env',rs,r,e,k⟩ => ?_
   have e:(if i < env.length then some (env.set i (some t)) else none)=some env':=e
   by_cases hi:i < env.length
   ·rw[if_pos hi] at e
    cases e
    refine k _ (rs.set hi r) (by rw[List.length_set]) fun j hj => ?_
    have:j≠i:=fun z=>hj (by simp[IG.slots,z])
    rw[List.getElem?_set_ne (Ne.symm this)]
   ·rw[if_neg hi] at e;cases e
  | _=>simp[Z3q] at h
 | .tup gs,e,h=>by
  cases e with
  | Tuple es k pos =>
   have h:Z4r c gs es=true∧Z3f c=true:=by simpa [Z3q] using h
   have hc1:=hc h.2
   have h:=h.1
   obtain⟨h1,h2⟩:=ZbS X.env h
   refine PG.imp (PG.or (pg_tup (n:=gs.length) hc1 (ZfL hN hs hf nd hK hc gs es h) h1 h2) (pg_lst (n:=gs.length) hc1 (ZfL hN hs hf nd hK hc gs es h) h1 h2)) fun v σ H Q ⟨m,env,st,t,env',rs,r,e,k⟩ => ?_
   cases t with
   | tup ts =>
    obtain⟨a,vs,rfl,ha,rr⟩:=r
    have e:IG.set.sets gs ts env=some env':=e
    refine .inl ⟨a,vs,rfl, .inl (.inl ha.2),by rw[← rr.length,ZbM e],m,env,st,ts,env',rs,rr,e,fun σ' rs' l' k'=>k σ' rs' l' fun i hi=>k' i ?_⟩
    simpa [IG.slots] using hi
   | lst ts =>
    obtain⟨a,vs,rfl,ha,rr⟩:=r
    have e:IG.set.sets gs ts env=some env':=e
    refine .inr ⟨a,vs,rfl,SqL.of ha.2,by rw[← rr.length,ZbM e],m,env,st,ts,env',rs,rr,e,fun σ' rs' l' k'=>k σ' rs' l' fun i hi=>k' i ?_⟩
    simpa [IG.slots] using hi
   | _=>cases e
  | _=>simp[Z3q] at h
theorem ZfL(hN:X.N=c.N)(hs:X.env.scope=c.sc)(hf:X.fn=c.fn)(nd:X.N.Nodup)(hK:X.K=G.K)(hc:Z3f c=true→X.calm=true):∀ (gs:List IG) (es:List Expr),Z4r c gs es=true→PGs X es (tGs G gs)
 | [],[],_=>PGs.imp pgs_nil ZhM
 | [],_ :: _,h=>by simp[Z4r] at h
 | _ :: _,[],h=>by simp[Z4r] at h
 | g :: gs,e :: es,h=>by
  have h':Z3q c g e=true∧Z4r c gs es=true:=by simpa [Z4r] using h
  exact PGs.imp (pgs_cons (Zab hN hs hf nd hK hc g e h'.1) (ZfL hN hs hf nd hK hc gs es h'.2) (by rw[Zd8 h'.1 es X.env];rfl)) ZgB
end
end
section
variable {G:Gh} {m m1 m':Mm} {H H1 H':Hp} {st st':Sto} {σ σ':L2.St} {env env':Env} {a D:Addr} {o:HO}
def era (H:Hp) (D:Addr):Hp:=fun b=>if b=D then none else H b
theorem Z4c(h:a≠D):era H D a=H a:=if_neg h
theorem Zgj:era H D D=none:=if_pos rfl
theorem ZeS(h:H D=some o):upd (era H D) D o=H:=by
 funext b
 unfold upd
 by_cases hb:b=D
 ·rw[if_pos hb,hb,h]
 ·rw[if_neg hb,Z4c hb]
mutual
theorem Rp.sub(k:∀ a,¬ m.w a→H' a=H a)(w:∀ a,m'.w a→m.w a)(e:m'.as=m.as):∀ (t:T) (v:V),Rp G m H t v→Rp G m' H' t v
 | .non,_,h=>h
 | .bl _,_,h=>h
 | .int _,_,h=>h
 | .str _,_,h=>h
 | .tup xs,_,⟨a,vs,e1,h,r⟩=>⟨a,vs,e1,⟨fun z=>h.1 (w a z),by rw[k a h.1];exact h.2⟩,Rps.sub k w e xs vs r⟩
 | .lst xs,_,⟨a,vs,e1,h,r⟩=>⟨a,vs,e1,⟨fun z=>h.1 (w a z),by rw[k a h.1];exact h.2⟩,Rps.sub k w e xs vs r⟩
 | .obj c xs,_,⟨a,dx,fv,e1,hn,h,hf,r⟩=>⟨a,dx,fv,e1,fun z=>hn (w a z),by rw[k a hn];exact h,hf,Rps.sub k w e xs _ r⟩
 | .exc c ts,_,⟨y,vs,e1,e2,e3,r,q⟩=>⟨y,vs,e1,e2,e3,Rps.sub k w e ts vs r,q.imp id fun⟨dx,f,w',h1,h2,h3,h4,h5⟩=>⟨dx,f,w',h1,h2,fun z=>h3 (w dx z),by rw[k dx h3];exact h4,h5⟩⟩
 | .loc l,_,⟨a,e1,h⟩=>⟨a,e1,by rw[e];exact h⟩
 | .scr ns,_,⟨a,e1,h⟩=>⟨a,e1,by
  rcases h with ⟨hn,h⟩ | h
  ·refine .inl ⟨fun z=>hn (w a z), ?_⟩
   unfold Rd at h ⊢
   rw[k a hn]
   exact h
  ·exact .inr h⟩
 | .cv _,_,h=>h
 | .ptp xs,_,⟨a,vs,e1,⟨hn,o,h,hd⟩,r⟩=>⟨a,vs,e1,⟨fun z=>hn (w a z),o,by rw[k a hn];exact h,hd⟩,Rps.sub k w e xs vs r⟩
 | .edt,_,⟨a,e1,hn,h⟩=>⟨a,e1,fun z=>hn (w a z),by rw[k a hn];exact h⟩
 | .exh c ts,_,⟨a,vs,e1,hn,r,q⟩=>⟨a,vs,e1,fun z=>hn (w a z),Rps.sub k w e ts vs r,q.imp (fun⟨h1,h2⟩=>⟨h1,by rw[k a hn];exact h2⟩) fun⟨dx,f,w',h1,h2,h3,h4,h5⟩=>⟨dx,f,w',h1,h2,fun z=>h3 (w dx z),by rw[k a hn];exact h4,by rw[k dx h3];exact h5⟩⟩
 | .dk1 _ t,_,⟨a,w',e1,hn,h,r⟩=>⟨a,w',e1,fun z=>hn (w a z),by rw[k a hn];exact h,Rp.sub k w e t w' r⟩
theorem Rps.sub(k:∀ a,¬ m.w a→H' a=H a)(w:∀ a,m'.w a→m.w a)(e:m'.as=m.as):∀ (ts:List T) (vs:List V),Rps G m H ts vs→Rps G m' H' ts vs
 | [],_,h=>h
 | t :: ts,_,⟨v,r,e1,h,q⟩=>⟨v,r,e1,Rp.sub k w e t v h,Rps.sub k w e ts r q⟩
end
theorem RKs.sub{κ : Type}(k:∀ a,¬ m.w a→H' a=H a)(w:∀ a,m'.w a→m.w a)(e:m'.as=m.as):∀ (ts:List (κ × T)) (vs:List (κ × V)),RKs G m H ts vs→RKs G m' H' ts vs
 | [],_,h=>h
 | p :: ts,_,⟨v,r,e1,h,q⟩=>⟨v,r,e1,Rp.sub k w e p.2 v h,RKs.sub k w e ts r q⟩
theorem Z0z.sub(k:∀ a,¬ m.w a→H' a=H a)(w:∀ a,m'.w a→m.w a)(e:m'.as=m.as)(h:Z0z G m H env σ):Z0z G m' H' env σ :=
 ⟨h.1,fun i t q=>let ⟨v,e1,r⟩:=h.2 i t q; ⟨v,e1,Rp.sub k w e t v r⟩⟩
theorem RSto.sub(k:∀ a,¬ m.fo a→H' a=H a)(w:∀ a,m'.fo a→m.fo a)(e:m'.as=m.as)(fs:∀ a,m'.fo a→H' a≠none)(tb:LamX.Tabs G.tb H')(s:RSto G m H st):RSto G m' H' st where
 nd:=by rw[e];exact s.nd
 fd:=fun a h z=>s.fd a (e ▸ h) (w a z)
 len:=by rw[e];exact s.len
 cell:=fun i a c h1 h2=>by
  rw[e] at h1
  have hk:H' a=H a:=k a (s.fd a (List.mem_of_getElem? h1))
  have k':∀ a,¬ m.w a→H' a=H a:=fun a h=>k a fun z=>h (.inr z)
  have w':∀ a,m'.w a→m.w a:=fun a h=>by
   rcases h with h | h
   ·exact .inl (e ▸ h)
   ·exact .inr (w a h)
  cases c with
  | lst xs =>
   obtain⟨vs,e1,r⟩:=s.cell i a _ h1 h2
   exact⟨vs,by rw[hk];exact e1,Rps.sub k' w' e xs vs r⟩
  | ins c xs =>
   obtain⟨dx,fv,e1,e2,e3,r⟩:=s.cell i a _ h1 h2
   exact⟨dx,fv,by rw[hk];exact e1,e2,e3,Rps.sub k' w' e xs _ r⟩
  | dt kvs =>
   obtain⟨vs,e1,r⟩:=s.cell i a _ h1 h2
   exact⟨vs,by rw[hk];exact e1,RKs.sub k' w' e kvs vs r⟩
  | dk kvs =>
   obtain⟨vs,e1,r⟩:=s.cell i a _ h1 h2
   exact⟨vs,by rw[hk];exact e1,RKs.sub k' w' e kvs vs r⟩
  | dn ks =>
   obtain⟨bs,e1,r⟩:=s.cell i a _ h1 h2
   exact⟨bs,by rw[hk];exact e1,Rps.sub k' w' e _ _ r⟩
 foS:=fs
 tab:=tb
def Mm.add (m:Mm) (D:Addr):Mm:=⟨m.as,fun a=>m.fo a∨a=D⟩
theorem Mov.add(hD:H D=none):Mov m H (m.add D) (upd H D o) :=
 ⟨fun a u h _ _=>by rw[upd_ne (ne_of_none h hD)];exact h,fun a _ h z=>by
   by_cases e:a=D
   ·exact h (by rw[e];exact hD)
   ·rw[upd_ne e] at z;exact h z,fun _ h => .inl h,fun a h=>by
   rcases h with h | h
   ·exact .inl (.inr h)
   ·subst h;exact .inr hD,⟨[],by simp[Mm.add]⟩⟩
theorem RSto.add(s:RSto G m H st)(hD:H D=none):RSto G (m.add D) (upd H D o) st where
 nd:=s.nd
 fd:=fun a h z=>by
  rcases z with z | z
  ·exact s.fd a h z
  ·subst z;exact s.mem h hD
 len:=s.len
 cell:=fun i a c h1 h2=>Z1m.mov (Mov.add hD) (upd_ne fun z=>s.mem (z ▸ List.mem_of_getElem? h1) hD) (s.cell i a c h1 h2)
 foS:=fun a h=>by
  rcases h with h | h
  ·rw[upd_ne (fun z=>s.foS a h (by rw[z];exact hD))]
   exact s.foS a h
  ·subst h;rw[upd_same];simp
 tab:=ZaS s.tab (fun ps z=>by rw[hD] at z;cases z) fun q z=>by rw[hD] at z;cases z
theorem Zin{vs:List V}(h:LamX.Tabs G.tb H)(hD:H D=some (.lst vs)):LamX.Tabs G.tb (L2.upd H D o):=ZaS h (fun ps z=>by rw[hD] at z;cases z) fun q z=>by
 rw[hD] at z
 have z:HO.lst vs=LamX.CodeO D q:=Option.some.inj z
 unfold LamX.CodeO at z
 cases z
theorem ZeN{vs:List V}(h:LamX.Tabs G.tb H)(hD:H D=some (.lst vs)):LamX.Tabs G.tb (era H D):=fun x hx=>by
 obtain⟨ps,h1,h2,h3⟩:=h x hx
 have e:x.1≠D:=fun z=>by rw[z,hD] at h1;cases h1
 refine⟨ps,by rw[Z4c e];exact h1,h2,fun pos cv hc => ?_⟩
 obtain⟨c,e1,e2⟩:=h3 pos cv hc
 have ne:c≠D:=fun z=>by
  rw[z,hD] at e2
  have e2:HO.lst vs=LamX.CodeO D x.2:=Option.some.inj e2
  unfold LamX.CodeO at e2
  cases e2
 exact⟨c,e1,by rw[Z4c ne];exact e2⟩
theorem RSto.upd{vs:List V}(s:RSto G m H st)(hD:m.fo D)(hL:H D=some (.lst vs)):RSto G m (L2.upd H D o) st :=
 RSto.sub (fun a h=>upd_ne fun z=>h (z ▸ hD)) (fun _ h=>h) rfl (fun a h=>by
  by_cases e:a=D
  ·subst e;rw[upd_same];simp
  ·rw[upd_ne e];exact s.foS a h) (Zin s.tab hL) s
theorem Z0z.upd(h:Z0z G m H env σ)(hD:m.fo D):Z0z G m (L2.upd H D o) env σ:=h.sub (fun a hn=>upd_ne fun z=>hn (.inr (z ▸ hD))) (fun _ h=>h) rfl
theorem Rps.upd{ts:List T}{vs:List V}(h:Rps G m H ts vs)(hD:m.fo D):Rps G m (L2.upd H D o) ts vs:=Rps.sub (fun a hn=>upd_ne fun z=>hn (.inr (z ▸ hD))) (fun _ h=>h) rfl _ _ h
end
section
variable {G:Gh} {m m1 m':Mm} {H H1 H':Hp} {st st':Sto} {σ σ':L2.St} {env env':Env}
theorem ZcT(env:Env):∀ vs:List Nat,(Z1y env vs).length=env.length
 | []=>rfl
 | v :: vs=>by rw[Z1y,List.length_set,ZcT env vs]
theorem Zcb{i:Nat}{t:T}:∀ {vs:List Nat},(Z1y env vs)[i]? = some (some t)→env[i]? = some (some t)∧i ∉ vs
 | [],h=>⟨h,by simp⟩
 | v :: vs,h=>by
  by_cases hv:i=v
  ·subst hv
   by_cases hl:i < (Z1y env vs).length
   ·rw[Z1y,List.getElem?_set_self hl] at h;cases h
   ·rw[Z1y,List.getElem?_eq_none (by rw[List.length_set];omega)] at h;cases h
  ·rw[Z1y,List.getElem?_set_ne (Ne.symm hv)] at h
   obtain⟨h1,h2⟩:=Zcb (vs:=vs) h
   exact⟨h1,by simp[hv,h2]⟩
theorem Z0z.wipe(h:Z0z G m H env σ)(vs:List Nat):Z0z G m H (Z1y env vs) (L2.wipe σ vs):=by
 refine⟨by rw[ZcT,wipe_length,h.1],fun i t e => ?_⟩
 obtain⟨e1,hn⟩:=Zcb e
 obtain⟨v,e2,r⟩:=h.2 i t e1
 exact⟨v,by rw[wipe_out hn];exact e2,r⟩
theorem Zar{i:Nat}:∀ {vs:List Nat},i∈vs→i < σ.length→(wipe σ vs)[i]? = some none
 | v :: vs,h,hl=>by
  rw[L2.wipe]
  by_cases hv:i=v
  ·subst hv
   rw[List.getElem?_set_self (by rw[wipe_length];exact hl)]
  ·rw[List.getElem?_set_ne (Ne.symm hv)]
   exact Zar ((List.mem_cons.mp h).resolve_left hv) hl
theorem Zaz{vs:List Nat}(hl : σ'.length = σ.length)(h:∀ i,i ∉ vs → σ'[i]? = (wipe σ vs)[i]?):wipe σ' vs=wipe σ vs:=by
 apply List.ext_getElem?
 intro i
 by_cases hi:i∈vs
 ·by_cases hl':i < σ.length
  ·rw[Zar hi hl',Zar hi (by rw[hl];exact hl')]
  ·rw[List.getElem?_eq_none (by rw[wipe_length];omega),List.getElem?_eq_none (by rw[wipe_length];omega)]
 ·rw[wipe_out hi,h i hi]
end
end Eg
set_option maxHeartbeats 2000000
namespace Eg
open PySem PySem.Spec PyProof.Rows L2
abbrev W0:WX:=fun _ _ _ _=>False
section
variable {X:Cx} {G:Gh} {W:WX} {fa fb:Env→Sto→R T} {fs:Env→Sto→R (List T)} {fl fh:Env→Sto→R (Option Int)} {a b:Expr} {es:List Expr} {pos:Pos}
theorem s_fz{e:Expr}(h:PE X e (tL G W fs)):PE X e (tE G W fun env st=>(fs env st).bnd fun xs st1 => .ok (.lst xs) st1):=by
 refine PE.imp h fun σ H Q ⟨m,env,st,rs,h⟩=>⟨m,env,st,rs,(Rn.bnd h).imp fun xs st' vs H' m' rs' _ r q p hp => ?_⟩
 exact Rn.next (K:=Kq Q) q (rs'.fresh hp) (Stp.fresh hp) ⟨p,vs,rfl,⟨rs'.sto.free hp,upd_same⟩,Rps.mov (Stp.fresh hp).toMov _ _ r⟩
def fDl (fs:Env→Sto→R (List T)):Env→Sto→R (List T):=fun env st=>(fs env st).bnd fun xs st1=>if xs.length≤lim then .ok xs st1 else .bad
theorem l_lst(h:PA X es (tA G W fs)):PE X (.List es pos) (tL G W (fDl fs)):=by
 refine PE.imp (pe_lst h) fun σ H Q h => ?_
 show tA G W fs σ H fun xs H1=>xs.length≤sizeLine∧∀ p,H1 p=none→Q (.ref p) (upd H1 p (.lst xs))
 refine atA h fun m env st ts vs H1 rs r q => ?_
 by_cases hl:ts.length≤lim
 ·have hl':vs.length≤sizeLine:=by rw[← r.length,← Z1t];exact hl
  rw[if_pos hl] at q
  exact⟨hl',fun p hp=>Rn.here q rs r p hp⟩
 ·rw[if_neg hl] at q;exact q.elim
def fCat (fa fb:Env→Sto→R T):Env→Sto→R (List T):=fun env st=>(fa env st).bnd fun x st1=>(fb env st1).bnd fun y st2=>match Z2r st2 x,Z2r st2 y with
  | some xs,some ys=>if xs.length+ys.length≤lim then .ok (xs++ys) st2 else .bad
  | _,_ => .bad
theorem l_cat(ha:PE X a (tE G W fa))(hb:PE X b (tE G W fb)):PE X (.BinOp a .Add b pos) (tL G W (fCat fa fb)):=by
 refine PE.imp (pe_op op_cat ha hb) fun σ H Q h => ?_
 refine at2 h fun m env st t u v w H1 rs r1 r2 q => ?_
 cases e1:Z2r st t with
 | none=>rw[e1] at q;exact q.elim
 | some xs =>
  cases e2:Z2r st u with
  | none=>rw[e1,e2] at q;exact q.elim
  | some ys =>
   rw[e1,e2] at q
   have q:Rn G W σ env (Rps G) m H1 (if xs.length+ys.length≤lim then .ok (xs++ys) st else .bad) _:=q
   by_cases hl:xs.length+ys.length≤lim
   ·rw[if_pos hl] at q
    obtain⟨l,vs,rfl,h1,rq1⟩:=Rp.own rs.sto r1 e1
    obtain⟨l2,ws,rfl,h2,rq2⟩:=Rp.own rs.sto r2 e2
    have hl':vs.length+ws.length≤sizeLine:=by rw[← rq1.length,← rq2.length,← Z1t];exact hl
    exact⟨l,l2,vs,ws,rfl,rfl,h1,h2,hl',fun p hp=>Rn.here q rs (rq1.append rq2) p hp⟩
   ·rw[if_neg hl] at q;exact q.elim
def fRep (fa fb:Env→Sto→R T):Env→Sto→R (List T):=fun env st=>(fa env st).bnd fun x st1=>(fb env st1).bnd fun y st2=>match Z2r st2 x,y with
  | some xs, .int k=>if -(2 ^ 62)≤k∧k < 2 ^ 62∧xs.length * k.toNat≤lim then .ok (List.replicate k.toNat xs).flatten st2 else .bad
  | _,_ => .bad
theorem l_rep(ha:PE X a (tE G W fa))(hb:PE X b (tE G W fb)):PE X (.BinOp a .Mult b pos) (tL G W (fRep fa fb)):=by
 refine PE.imp (pe_op op_rep ha hb) fun σ H Q h => ?_
 refine at2 h fun m env st t u v w H1 rs r1 r2 q => ?_
 cases e1:Z2r st t with
 | none=>rw[e1] at q;exact q.elim
 | some xs =>
  rw[e1] at q
  cases u with
  | int k =>
   cases (show w=_ from r2)
   have q:Rn G W σ env (Rps G) m H1 (if -(2 ^ 62)≤k∧k < 2 ^ 62∧xs.length * k.toNat≤lim then .ok (List.replicate k.toNat xs).flatten st else .bad) _:=q
   by_cases hl : -(2 ^ 62)≤k∧k < 2 ^ 62∧xs.length * k.toNat≤lim
   ·rw[if_pos hl] at q
    obtain⟨l,vs,rfl,h1,rq1⟩:=Rp.own rs.sto r1 e1
    have hl':vs.length * k.toNat≤sizeLine:=by rw[← rq1.length,← Z1t];exact hl.2.2
    exact⟨l,k,vs,rfl,rfl,h1,by omega,by omega,hl',fun p hp=>Rn.here q rs (rq1.rep k.toNat) p hp⟩
   ·rw[if_neg hl] at q;exact q.elim
  | _=>exact q.elim
def fSlL (fa:Env→Sto→R T) (fl fh:Env→Sto→R (Option Int)):Env→Sto→R (List T):=fun env st=>(fa env st).bnd fun x st1=>(fl env st1).bnd fun l st2=>(fh env st2).bnd fun u st3=>match Z0p st3 x with
  | some xs => .ok (cut xs l u) st3
  | none => .bad
theorem l_sl{lo hi:Option Expr}{p2:Pos}(hK:X.K=G.K)(ha:PE X a (tE G W fa))(hl:PO X lo (tP G W fl))(hh:PO X hi (tP G W fh)) :
  PE X (.Subscript a (.Slice lo hi none p2) pos) (tL G W (fSlL fa fl fh)):=by
 refine PE.imp (pe_slice (r:=rSlL X.K) sl_list ha hl hh) fun σ H Q h => ?_
 refine Zhm h fun m env st t v l u H1 rs r q => ?_
 rw[hK]
 cases e:Z0p st t with
 | none=>rw[e] at q;exact q.elim
 | some xs =>
  rw[e] at q
  obtain⟨p,vs,rfl,hs,rq⟩:=Rp.lst rs.sto r e
  exact⟨p,vs,rfl,hs,fun n hn=>Rn.here q rs (rq.cut l u) n hn⟩
def tT0 (G:Gh) (f:Env→Sto→R Bool):TT:=fun σ H Q=>∃ m env st,RS G m env st σ H∧Rn G W0 σ env (fun _ _ a b=>b=a) m H (f env st) (fun _ _ b H' _=>Q b H')
def Ze0:Env→Sto→R Bool:=fun _ st => .ok true st
def fTst (fa:Env→Sto→R T):Env→Sto→R Bool:=fun env st=>(fa env st).bnd fun x st1=>R.opt (asBl x) st1
theorem PTs.imp{X:Cx}{e:List Expr}{t t':TT}(h:PTs X e t)(k:∀ σ H Q,t' σ H Q→t σ H Q):PTs X e t':=⟨fun pins s σ H Q I q=>h.run pins s σ H Q I (k σ H Q q)⟩
theorem ZiK:PTs X [] (tT0 G Ze0):=PTs.imp pts_nil fun σ H Q ⟨m,env,st,rs,q⟩=>Rn.here (b:=true) q rs rfl
theorem Zj9{e:Expr}(h:PT X e (tTest (tE G W0 fa))):PTs X [e] (tT0 G (fTst fa)):=by
 refine PTs.imp (pts_one h) fun σ H Q h => ?_
 show tE G W0 fa σ H fun x H'=>∃ k,x = .bl k∧Q k H'
 refine at1 h fun m env st t v H1 rs r q => ?_
 cases t with
 | bl b=>exact⟨b,r,Rn.here (b:=b) q rs rfl⟩
 | _=>exact q.elim
def Z4u (own:List Nat) (fe:Env→Sto→R T) (g:IG) (ft:Env→Sto→R Bool) (env:Env) (x:T) (st2:Sto):R (Option T):=match g.set x (Z1y env own) with
  | none => .bad
  | some env1=>(ft env1 st2).bnd fun b st3=>if b=true then(fe env1 st3).bnd fun y st4 => .ok (some y) st4 else .ok none st3
def fLc (own:List Nat) (fe:Env→Sto→R T) (g:IG) (fit:Env→Sto→R (List T)) (ft:Env→Sto→R Bool):Env→Sto→R (List T):=fun env st=>(fit env st).bnd fun xs st1 =>
  if xs.length≤lim then(Z8n (Z4u own fe g ft env) xs st1).nox else .bad
theorem Z4l{A B:Type}{x:R A}{f:A→Sto→R B}{b:B}{s:Sto}(h:x.bnd f = .ok b s):∃ a s1,x = .ok a s1∧f a s1 = .ok b s:=by
 cases x with
 | ok a s1=>exact⟨a,s1,rfl,h⟩
 | exc e s1=>cases h
 | bad=>cases h
theorem Zd2{f:T→Sto→R (Option T)}{x:T}{xs r:List T}{st s:Sto}(h:Z8n f (x :: xs) st = .ok r s):∃ o st1 r1,f x st = .ok o st1∧Z8n f xs st1 = .ok r1 s∧r=(match o with
  | some y=>y :: r1
  | none=>r1):=by
 obtain⟨o,st1,h1,h⟩:=Z4l h
 obtain⟨r1,st2,h2,h⟩:=Z4l h
 cases h
 exact⟨o,st1,r1,h1,h2,rfl⟩
theorem ZfU{own:List Nat}{fe:Env→Sto→R T}{g:IG}{fit:Env→Sto→R (List T)}{ft:Env→Sto→R Bool}(hg:∀ i,i∈g.slots→i∈own){σ : L2.St}{H:Hp}{Q:VK}
  (h:tL G W (fLc own fe g fit ft) σ H Q):tLc (tI G W fit) (tG G g) (tT0 G ft) (tE G W0 fe) own σ H Q:=by
 obtain⟨m0,env,st0,rs0,h⟩:=h
 refine⟨m0,env,st0,rs0,(Rn.bnd h).imp fun xs st1 _ H1 m1 rs1 _ _ q J hJ D hD => ?_⟩
 by_cases hl:xs.length≤lim
 case neg=>rw[if_neg hl] at q;exact q.elim
 rw[if_pos hl] at q
 cases eE:Z8n (Z4u own fe g ft env) xs st1 with
 | exc e s=>rw[eE] at q;exact q.elim
 | bad=>rw[eE] at q;exact q.elim
 | ok r stE =>
 rw[eE] at q
 have q:Rn G W σ env (Rps G) m1 H1 (.ok r stE) _:=q
 have M0:Mov m1 H1 (m1.add D) (upd H1 D (.lst [])):=Mov.add hD
 let Gp:Hp→Prop:=fun Hx=>∃ m' st',Mov m1 H1 m' Hx∧RSto G m' Hx st'
 let Y:Nat→Hp→V→Hp→Prop:=fun i Hx x H''=>Nw Hx H''∧∃ t,xs[i]? = some t∧∀ m' st',Mov m1 H1 m' Hx→RSto G m' Hx st'→Rp G m' H'' t x
 have w:Walk J xs.length Gp Y:=by
  refine⟨fun i Hx hi ⟨m',st',x,_⟩=>hJ.go m' Hx x.F i hi,fun Hx ⟨m',st',x,_⟩=>hJ.stop m' Hx x.F,fun i Hx y H'' hi ⟨m',st',x,s⟩ hy => ?_⟩
  obtain⟨h1,t,h2,h3⟩:=hJ.yld m' Hx st' x.F s i y H'' hi hy
  refine⟨h1,t,h2,fun m2 st2 x2 s2 => ?_⟩
  obtain⟨_,t2,h4,h5⟩:=hJ.yld m2 Hx st2 x2.F s2 i y H'' hi hy
  rw[h2] at h4;cases h4
  exact h5
 let Pv:Nat→Hp→Prop:=fun i Hx=>∃ m' st' acc vs r',Mov m1 H1 m' Hx∧m'.fo=(m1.add D).fo∧Z0z G m' Hx env σ ∧ RSto G m' Hx st'∧Hx D=some (.lst vs)∧Rps G m' Hx acc vs∧acc.length≤i ∧
  Z8n (Z4u own fe g ft env) (xs.drop i) st' = .ok r' stE∧r=acc++r'
 refine lc_it w Pv ?h0 ?hG ?hs ?hd
 case h0 =>
  exact⟨m1.add D,st1,[],[],r,M0,rfl,rs1.env.mov M0,rs1.sto.add hD,upd_same,rfl,Nat.le_refl _,by simpa using eE,rfl⟩
 case hG =>
  rintro i Hx _ ⟨m',st',acc,vs,r',x,_,_,s,_⟩
  exact⟨m',st',x,s⟩
 case hd =>
  rintro Hx ⟨m',st',acc,vs,r',x,hfo,re,s,hDx,ra,_,eD,er⟩
  rw[List.drop_length] at eD
  have eD:R.ok [] st'=R.ok r' stE:=eD
  cases eD
  rw[List.append_nil] at er
  subst er
  have hfoD:m'.fo D:=by rw[hfo];exact .inr rfl
  have nD:¬ m1.fo D:=fun z=>rs1.sto.foS D z hD
  have k1:∀ a,¬ m'.fo a→era Hx D a=Hx a:=fun a h=>Z4c fun z=>h (z ▸ hfoD)
  have k2:∀ a,¬ m'.w a→era Hx D a=Hx a:=fun a h=>k1 a fun z=>h (.inr z)
  have f1:∀ a,m1.fo a→m'.fo a:=fun a h=>by rw[hfo];exact .inl h
  have w1:∀ a,(⟨m'.as,m1.fo⟩:Mm).w a→m'.w a:=fun a h=>by
   rcases h with h | h
   ·exact .inl h
   ·exact .inr (f1 a h)
  have s2:RSto G ⟨m'.as,m1.fo⟩ (era Hx D) stE:=RSto.sub k1 f1 rfl (fun a h=>by
   have hne:a≠D:=fun z=>nD (z ▸ h)
   rw[Z4c hne]
   exact s.foS a (f1 a h)) (ZeN s.tab hDx) s
  have st:Stp m1 H1 ⟨m'.as,m1.fo⟩ (era Hx D):=by
   have x2:=x
   refine⟨⟨fun a o h hT hn => ?_,fun a hn h => ?_,fun a h=>x2.newA a h,fun a h => .inl (.inr h),x2.pre⟩,rfl⟩
   ·have hne:a≠D:=fun z=>by subst z;rw[h] at hD;cases hD
    rw[Z4c hne]
    exact x2.keep a o h hT hn
   ·have hne:a≠D:=fun z=>by subst z;exact h hD
    rw[Z4c hne]
    exact x2.stay a hn h
  have z:=q vs (era Hx D) ⟨m'.as,m1.fo⟩ ⟨re.sub k2 w1 rfl,s2⟩ st (Rps.sub k2 w1 rfl _ _ ra) D Zgj
  rw[ZeS hDx] at z
  exact z
 case hs =>
  rintro i y Hx H'' hi ⟨m',st',acc,vs,r',x,hfo,re,s,hDx,ra,hla,eD,er⟩ ⟨hH,t,ht,hrp⟩
  have rt:=hrp m' st' x s
  have hdr:xs.drop i=t :: xs.drop (i+1):=by
   obtain⟨h1,h2⟩:=List.getElem?_eq_some_iff.mp ht
   rw[List.drop_eq_getElem_cons h1,h2]
  rw[hdr] at eD
  obtain⟨o,st2,r2,e1,e2,e3⟩:=Zd2 eD
  unfold Z4u at e1
  cases eg:g.set t (Z1y env own) with
  | none=>rw[eg] at e1;cases e1
  | some env1 =>
  rw[eg] at e1
  obtain⟨b,st3,e4,e1⟩:=Z4l e1
  have hfoD:m'.fo D:=by rw[hfo];exact .inr rfl
  have S2:Stp m' Hx m' H'':=by
   exact hH.stp _
  have s2:RSto G m' H'' st':=by
   exact hH.sto s
  have re2:=re.mov S2.toMov
  have nDa:D ∉ m'.as:=fun z=>s.fd D z hfoD
  have hD2:H'' D=some (.lst vs):=S2.keep D _ hDx True.intro nDa
  refine⟨m',Z1y env own,st',t,env1,⟨re2.wipe own,s2⟩,rt,eg,fun σ2 rs2 l2 k2=>⟨?_, ?_⟩⟩
  ·refine Zaz ?_ fun j hj=>k2 j fun z=>hj (hg j z)
   rw[l2,wipe_length]
  ·refine⟨m',env1,st',rs2, ?_⟩
   rw[e4]
   intro b' H3 m3 rs3 S3 hb
   subst hb
   have fin:∀ {H4:Hp} {m4:Mm} {st4:Sto},Stp m' H'' m4 H4→RSto G m4 H4 st4→Mov m1 H1 m4 H4∧m4.fo=(m1.add D).fo∧Z0z G m4 H4 env σ ∧ H4 D=some (.lst vs)∧Rps G m4 H4 acc vs:=fun {H4 m4 st4} S4 s4 =>
    ⟨x.trans (S2.trans S4).toMov,S4.fo.trans hfo,re2.mov S4.toMov,S4.keep D _ hD2 True.intro nDa,Rps.mov (S2.trans S4).toMov _ _ ra⟩
   cases b' with
   | false =>
    rw[if_neg (by decide)] at e1 ⊢
    cases e1
    obtain⟨f1,f2,f3,f4,f5⟩:=fin S3 rs3.sto
    exact⟨m3,st2,acc,vs,r2,f1,f2,f3,rs3.sto,f4,f5,Nat.le_succ_of_le hla,e2,by rw[er,e3]⟩
   | true =>
    rw[if_pos rfl] at e1 ⊢
    obtain⟨yt,st4,e5,e1⟩:=Z4l e1
    cases e1
    refine⟨m3,env1,st3,rs3, ?_⟩
    rw[e5]
    intro v H4 m4 rs4 S4 rv
    have S34:=S3.trans S4
    obtain⟨f1,f2,f3,f4,f5⟩:=fin S34 rs4.sto
    have hfo4:m4.fo D:=by rw[f2];exact .inr rfl
    refine⟨vs,f4, ?_,m4,st2,acc++[yt],vs++[v],r2, ?_,f2,f3.upd hfo4,rs4.sto.upd hfo4 f4,upd_same,Rps.upd (f5.append ⟨v,[],rfl,rv,rfl⟩) hfo4,by rw[List.length_append,List.length_singleton];omega,e2,by rw[er,e3,List.append_assoc];rfl⟩
    ·rw[← f5.length,← Z1t];omega
    ·refine⟨fun a o h hT hn => ?_,fun a hn h => ?_,f1.newA,f1.newF,f1.pre⟩
     ·by_cases ha:a=D
      ·subst ha;rw[hD] at h;cases h
      ·rw[upd_ne ha];exact f1.keep a o h hT hn
     ·by_cases ha:a=D
      ·subst ha;exact absurd hD h
      ·rw[upd_ne ha];exact f1.stay a hn h
end
end Eg
set_option maxHeartbeats 2000000
namespace Eg
open PySem PySem.Spec PyProof.Rows L2
theorem Zf0{J:It}{n:Nat}{Gp:Hp→Prop}{Y:Nat→Hp→V→Hp→Prop}(w:Walk J n Gp Y){Qd:Hp→Prop}{H0:Hp}{B:V→Hp→(Hp→Prop)→Prop}(Pv:Nat→Hp→Prop)(h0:Pv 0 H0)(hG:∀ i H,i≤n→Pv i H→Gp H)
  (hs:∀ i x H H',i < n→Pv i H→Y i H x H'→B x H' (Pv (i+1))) (hd:∀ H,Pv n H→Qd H) :
  ∃ W:Nat→Nat→Hp→Prop,(∃ m,W 0 m H0)∧∀ i m H,W i m H →
   (J.stop i H∧Qd H)∨(J.go i H∧∃ Nx:Hp→Prop,(∀ H',Nx H'→∃ m',m' < m∧W (i+1) m' H')∧∀ x H',J.yld i H x H'→B x H' Nx):=by
 refine⟨fun i m H=>m=n - i∧i≤n∧Pv i H,⟨n,by simp,Nat.zero_le _,h0⟩, ?_⟩
 rintro i m H ⟨rfl,hi,p⟩
 have q:=hG i H hi p
 by_cases c:i < n
 ·refine .inr ⟨w.goes i H c q,Pv (i+1),fun H' p'=>⟨n - (i+1),by omega,rfl,c,p'⟩,fun x H' y => ?_⟩
  exact hs i x H H' c p (w.yields i H x H' c q y)
 ·have e:i=n:=by omega
  subst e
  exact .inl ⟨w.stops H q,hd H p⟩
section
variable {G:Gh} {W:WX}
theorem Zf4{m1:Mm}{H1:Hp}{J:It}{xs:List T}(hJ:Wk G m1 H1 J xs):Walk J xs.length (fun Hx=>∃ m' st',MovF m1 H1 m' Hx∧RSto G m' Hx st')
  (fun i Hx x H''=>Nw Hx H''∧∃ t,xs[i]? = some t∧∀ m' st',MovF m1 H1 m' Hx→RSto G m' Hx st'→Rp G m' H'' t x):=by
 refine⟨fun i Hx hi ⟨m',st',x,_⟩=>hJ.go m' Hx x i hi,fun Hx ⟨m',st',x,_⟩=>hJ.stop m' Hx x,fun i Hx y H'' hi ⟨m',st',x,s⟩ hy => ?_⟩
 obtain⟨h1,t,h2,h3⟩:=hJ.yld m' Hx st' x s i y H'' hi hy
 refine⟨h1,t,h2,fun m2 st2 x2 s2 => ?_⟩
 obtain⟨_,t2,h4,h5⟩:=hJ.yld m2 Hx st2 x2 s2 i y H'' hi hy
 rw[h2] at h4;cases h4
 exact h5
def ZaY (f:T→Sto→R (List T)):List T→Sto→R (List T)
 | [],st => .ok [] st
 | x :: xs,st=>(f x st).bnd fun r st1=>(ZaY f xs st1).bnd fun rs st2 => .ok (r++rs) st2
theorem Zff{f:T→Sto→R (List T)}{x:T}{xs r:List T}{st s:Sto}(h:ZaY f (x :: xs) st = .ok r s):∃ r1 st1 r2,f x st = .ok r1 st1∧ZaY f xs st1 = .ok r2 s∧r=r1++r2:=by
 obtain⟨o,st1,h1,h⟩:=Z4l h
 obtain⟨r1,st2,h2,h⟩:=Z4l h
 cases h
 exact⟨o,st1,r1,h1,h2,rfl⟩
def Zch (own vs1:List Nat) (fe:Env→Sto→R T) (g:IG) (ft:Env→Sto→R Bool) (g1:IG) (fit1:Env→Sto→R (List T)) (ft1:Env→Sto→R Bool) (env:Env) (x:T) (st2:Sto):R (List T):=match g.set x (Z1y env own) with
  | none => .bad
  | some env1=>(ft env1 st2).bnd fun b st3=>if b=true then(fit1 env1 st3).bnd fun ys st4=>if ys.length≤lim then Z8n (Z4u vs1 fe g1 ft1 env1) ys st4 else .bad else .ok [] st3
def fLc2 (own vs1:List Nat) (fe:Env→Sto→R T) (g:IG) (fit:Env→Sto→R (List T)) (ft:Env→Sto→R Bool) (g1:IG) (fit1:Env→Sto→R (List T)) (ft1:Env→Sto→R Bool):Env→Sto→R (List T):=fun env st=>(fit env st).bnd fun xs st1 =>
  if xs.length≤lim then((ZaY (Zch own vs1 fe g ft g1 fit1 ft1 env) xs st1).bnd fun r st2=>if r.length≤lim then .ok r st2 else .bad).nox else .bad
theorem MovF.upd{m1 m:Mm}{H1 H:Hp}{D:Addr}{o:HO}(x:MovF m1 H1 m H)(hD:m1.fo D):MovF m1 H1 m (upd H D o):=by
 refine⟨fun a u h hT hn => ?_,x.newA,x.newF,x.pre,fun a hm h => ?_⟩
 ·have hne:a≠D:=fun z=>hn (.inr (z ▸ hD))
  rw[upd_ne hne];exact x.keep a u h hT hn
 ·by_cases e:a=D
  ·subst e;rw[upd_same];simp
  ·rw[upd_ne e];exact x.stay a hm h
theorem ZeT{own vs1:List Nat}{fe:Env→Sto→R T}{g g1:IG}{fit fit1:Env→Sto→R (List T)}{ft ft1:Env→Sto→R Bool}(hg:∀ i,i∈g.slots→i∈own)(hg1:∀ i,i∈g1.slots→i∈vs1){σ : L2.St}{H:Hp}{Q:VK}
  (h:tL G W (fLc2 own vs1 fe g fit ft g1 fit1 ft1) σ H Q):tLc2 (tI G W fit) (tG G g) (tT0 G ft) (tI G W0 fit1) (tG G g1) (tT0 G ft1) (tE G W0 fe) own vs1 σ H Q:=by
 obtain⟨m0,env,st0,rs0,h⟩:=h
 refine⟨m0,env,st0,rs0,(Rn.bnd h).imp fun xs st1 _ H1 m1 rs1 _ _ q J hJ D hD => ?_⟩
 by_cases hl:xs.length≤lim
 case neg=>rw[if_neg hl] at q;exact q.elim
 rw[if_pos hl] at q
 cases eE:ZaY (Zch own vs1 fe g ft g1 fit1 ft1 env) xs st1 with
 | exc e s=>rw[eE] at q;exact q.elim
 | bad=>rw[eE] at q;exact q.elim
 | ok r stE =>
 rw[eE] at q
 by_cases hrl:r.length≤lim
 case neg =>
  have:((R.ok r stE).bnd fun r st2=>if r.length≤lim then R.ok r st2 else .bad).nox = .bad:=by
   show(if r.length≤lim then R.ok r stE else .bad).nox = .bad
   rw[if_neg hrl];rfl
  rw[this] at q;exact q.elim
 have hq:((R.ok r stE).bnd fun r st2=>if r.length≤lim then R.ok r st2 else .bad).nox = .ok r stE:=by
  show(if r.length≤lim then R.ok r stE else .bad).nox=_
  rw[if_pos hrl];rfl
 rw[hq] at q
 have q:Rn G W σ env (Rps G) m1 H1 (.ok r stE) _:=q
 have M0:Mov m1 H1 (m1.add D) (upd H1 D (.lst [])):=Mov.add hD
 let Pv:Nat→Hp→Prop:=fun i Hx=>∃ m' st' acc vs r',Mov m1 H1 m' Hx∧m'.fo=(m1.add D).fo∧Z0z G m' Hx env σ ∧ RSto G m' Hx st'∧Hx D=some (.lst vs)∧Rps G m' Hx acc vs ∧
  ZaY (Zch own vs1 fe g ft g1 fit1 ft1 env) (xs.drop i) st' = .ok r' stE∧r=acc++r'
 refine Zf0 (Zf4 hJ) Pv ?h0 ?hG ?hs ?hd
 case h0 =>
  exact⟨m1.add D,st1,[],[],r,M0,rfl,rs1.env.mov M0,rs1.sto.add hD,upd_same,rfl,by simpa using eE,rfl⟩
 case hG =>
  rintro i Hx _ ⟨m',st',acc,vs,r',x,_,_,s,_⟩
  exact⟨m',st',x.F,s⟩
 case hd =>
  rintro Hx ⟨m',st',acc,vs,r',x,hfo,re,s,hDx,ra,eD,er⟩
  rw[List.drop_length] at eD
  have eD:R.ok [] st'=R.ok r' stE:=eD
  cases eD
  rw[List.append_nil] at er
  subst er
  have hfoD:m'.fo D:=by rw[hfo];exact .inr rfl
  have nD:¬ m1.fo D:=fun z=>rs1.sto.foS D z hD
  have k1:∀ a,¬ m'.fo a→era Hx D a=Hx a:=fun a h=>Z4c fun z=>h (z ▸ hfoD)
  have k2:∀ a,¬ m'.w a→era Hx D a=Hx a:=fun a h=>k1 a fun z=>h (.inr z)
  have f1:∀ a,m1.fo a→m'.fo a:=fun a h=>by rw[hfo];exact .inl h
  have w1:∀ a,(⟨m'.as,m1.fo⟩:Mm).w a→m'.w a:=fun a h=>by
   rcases h with h | h
   ·exact .inl h
   ·exact .inr (f1 a h)
  have s2:RSto G ⟨m'.as,m1.fo⟩ (era Hx D) stE:=RSto.sub k1 f1 rfl (fun a h=>by
   have hne:a≠D:=fun z=>nD (z ▸ h)
   rw[Z4c hne]
   exact s.foS a (f1 a h)) (ZeN s.tab hDx) s
  have st:Stp m1 H1 ⟨m'.as,m1.fo⟩ (era Hx D):=by
   refine⟨⟨fun a o h hT hn => ?_,fun a hn h => ?_,fun a h=>x.newA a h,fun a h => .inl (.inr h),x.pre⟩,rfl⟩
   ·have hne:a≠D:=fun z=>by subst z;rw[h] at hD;cases hD
    rw[Z4c hne]
    exact x.keep a o h hT hn
   ·have hne:a≠D:=fun z=>by subst z;exact h hD
    rw[Z4c hne]
    exact x.stay a hn h
  have z:=q vs (era Hx D) ⟨m'.as,m1.fo⟩ ⟨re.sub k2 w1 rfl,s2⟩ st (Rps.sub k2 w1 rfl _ _ ra) D Zgj
  rw[ZeS hDx] at z
  exact z
 case hs =>
  rintro i y Hx H'' hi ⟨m',st',acc,vs,r',x,hfo,re,s,hDx,ra,eD,er⟩ ⟨hH,t,ht,hrp⟩
  have rt:=hrp m' st' x.F s
  have hdr:xs.drop i=t :: xs.drop (i+1):=by
   obtain⟨h1,h2⟩:=List.getElem?_eq_some_iff.mp ht
   rw[List.drop_eq_getElem_cons h1,h2]
  rw[hdr] at eD
  obtain⟨r1,st2,r2,e1,e2,e3⟩:=Zff eD
  unfold Zch at e1
  cases eg:g.set t (Z1y env own) with
  | none=>rw[eg] at e1;cases e1
  | some env1 =>
  rw[eg] at e1
  obtain⟨b,st3,e4,e1⟩:=Z4l e1
  have hfoD:m'.fo D:=by rw[hfo];exact .inr rfl
  have S2:Stp m' Hx m' H'':=by
   exact hH.stp _
  have s2:RSto G m' H'' st':=by
   exact hH.sto s
  have re2:=re.mov S2.toMov
  have nDa:D ∉ m'.as:=fun z=>s.fd D z hfoD
  have hD2:H'' D=some (.lst vs):=S2.keep D _ hDx True.intro nDa
  refine⟨m',Z1y env own,st',t,env1,⟨re2.wipe own,s2⟩,rt,eg,fun σ2 rs2 l2 k2=>⟨?_, ?_⟩⟩
  ·refine Zaz ?_ fun j hj=>k2 j fun z=>hj (hg j z)
   rw[l2,wipe_length]
  ·refine⟨m',env1,st',rs2, ?_⟩
   rw[e4]
   intro b' H3 m3 rs3 S3 hb
   subst hb
   have fin:∀ {H4:Hp} {m4:Mm} {st4:Sto},Stp m' H'' m4 H4→RSto G m4 H4 st4→Mov m1 H1 m4 H4∧m4.fo=(m1.add D).fo∧Z0z G m4 H4 env σ ∧ H4 D=some (.lst vs)∧Rps G m4 H4 acc vs:=fun {H4 m4 st4} S4 s4 =>
    ⟨x.trans (S2.trans S4).toMov,S4.fo.trans hfo,re2.mov S4.toMov,S4.keep D _ hD2 True.intro nDa,Rps.mov (S2.trans S4).toMov _ _ ra⟩
   cases b' with
   | false =>
    rw[if_neg (by decide)] at e1 ⊢
    cases e1
    obtain⟨f1,f2,f3,f4,f5⟩:=fin S3 rs3.sto
    exact⟨m3,st2,acc,vs,r2,f1,f2,f3,rs3.sto,f4,f5,e2,by rw[er,e3];rfl⟩
   | true =>
    rw[if_pos rfl] at e1 ⊢
    obtain⟨ys,st4,e5,e1⟩:=Z4l e1
    by_cases hl1:ys.length≤lim
    case neg=>rw[if_neg hl1] at e1;cases e1
    rw[if_pos hl1] at e1
    refine⟨m3,env1,st3,rs3, ?_⟩
    rw[e5]
    intro _ H4 m4 rs4 S4 _ J1 hJ1
    have S34:=S3.trans S4
    obtain⟨f1,f2,f3,f4,f5⟩:=fin S34 rs4.sto
    have hfo4:m4.fo D:=by rw[f2];exact .inr rfl
    let Pi:Nat→Hp→Prop:=fun j Hy=>∃ n' st' acc vs r1',Mov m1 H1 n' Hy∧MovF m4 H4 n' Hy∧n'.fo=(m1.add D).fo∧Z0z G n' Hy env σ ∧ Z0z G n' Hy env1 σ2∧RSto G n' Hy st'∧Hy D=some (.lst vs)∧Rps G n' Hy acc vs ∧
     Z8n (Z4u vs1 fe g1 ft1 env1) (ys.drop j) st' = .ok r1' st2∧r=acc++(r1'++r2)
    refine Zf0 (B:=fun x1 H' Nx1=>tG G g1 x1 (L2.wipe σ2 vs1) H' fun σ3 H5=>L2.wipe σ3 vs1=L2.wipe σ2 vs1∧tT0 G ft1 σ3 H5 fun b H6 =>
     if b=true then tE G W0 fe σ3 H6 fun y H7=>∃ acc,H7 D=some (.lst acc)∧acc.length < sizeLine∧Nx1 (upd H7 D (.lst (acc++[y]))) else Nx1 H6) (Zf4 hJ1) Pi ?i0 ?iG ?is ?id
    case i0 =>
     exact⟨m4,st4,acc,vs,r1,f1,(Stp.refl m4 H4).toMov.F,f2,f3,rs4.env,rs4.sto,f4,f5,by simpa using e1,by rw[er,e3]⟩
    case iG =>
     rintro j Hy _ ⟨n',st',_,_,_,_,x,_,_,_,s,_⟩
     exact⟨n',st',x,s⟩
    case id =>
     rintro Hy ⟨n',st',acc,vs,r1',x,_,hf,re3,_,s,hDy,ra3,eD,er3⟩
     rw[List.drop_length] at eD
     have eD:R.ok [] st'=R.ok r1' st2:=eD
     cases eD
     exact⟨n',st2,acc,vs,r2,x,hf,re3,s,hDy,ra3,e2,by rw[er3];rfl⟩
    case is =>
     rintro j y1 Hy Hz hj ⟨n',st',acc,vs,r1',x,xF,hf,re3,re4,s,hDy,ra3,eD,er3⟩ ⟨hH,u,hu,hru⟩
     have ru:=hru n' st' xF s
     have hdr:ys.drop j=u :: ys.drop (j+1):=by
      obtain⟨h1,h2⟩:=List.getElem?_eq_some_iff.mp hu
      rw[List.drop_eq_getElem_cons h1,h2]
     rw[hdr] at eD
     obtain⟨o,st5,r3,g1',g2,g3⟩:=Zd2 eD
     unfold Z4u at g1'
     cases eg1:g1.set u (Z1y env1 vs1) with
     | none=>rw[eg1] at g1';cases g1'
     | some env2 =>
     rw[eg1] at g1'
     obtain⟨b1,st6,g4,g1'⟩:=Z4l g1'
     have hfoDn:n'.fo D:=by rw[hf];exact .inr rfl
     have T2:Stp n' Hy n' Hz:=by
      exact hH.stp _
     have t2:RSto G n' Hz st':=by
      exact hH.sto s
     have nDn:D ∉ n'.as:=fun z=>s.fd D z hfoDn
     have hD5:Hz D=some (.lst vs):=T2.keep D _ hDy True.intro nDn
     refine⟨n',Z1y env1 vs1,st',u,env2,⟨(re4.mov T2.toMov).wipe vs1,t2⟩,ru,eg1,fun σ3 rs5 l5 k5=>⟨?_, ?_⟩⟩
     ·refine Zaz ?_ fun j hj=>k5 j fun z=>hj (hg1 j z)
      rw[l5,wipe_length]
     ·refine⟨n',env2,st',rs5, ?_⟩
      rw[g4]
      intro b'' H6 m6 rs6 S6 hb
      subst hb
      have fin1:∀ {H7:Hp} {m7:Mm} {st7:Sto},Stp n' Hz m7 H7→RSto G m7 H7 st7→Mov m1 H1 m7 H7∧MovF m4 H4 m7 H7∧m7.fo=(m1.add D).fo∧Z0z G m7 H7 env σ ∧ Z0z G m7 H7 env1 σ2∧H7 D=some (.lst vs)∧Rps G m7 H7 acc vs:=fun {H7 m7 st7} S7 s7 =>
       ⟨x.trans (T2.trans S7).toMov,xF.trans (T2.trans S7).toMov,S7.fo.trans hf,re3.mov (T2.trans S7).toMov,re4.mov (T2.trans S7).toMov,S7.keep D _ hD5 True.intro nDn,Rps.mov (T2.trans S7).toMov _ _ ra3⟩
      cases b'' with
      | false =>
       rw[if_neg (by decide)] at g1' ⊢
       cases g1'
       obtain⟨a1,a2,a3,a4,a5,a6,a7⟩:=fin1 S6 rs6.sto
       exact⟨m6,st5,acc,vs,r3,a1,a2,a3,a4,a5,rs6.sto,a6,a7,g2,by rw[er3,g3]⟩
      | true =>
       rw[if_pos rfl] at g1' ⊢
       obtain⟨yt,st8,g5,g1'⟩:=Z4l g1'
       cases g1'
       refine⟨m6,env2,st6,rs6, ?_⟩
       rw[g5]
       intro v H7 m7 rs7 S7 rv
       have S67:=S6.trans S7
       obtain⟨a1,a2,a3,a4,a5,a6,a7⟩:=fin1 S67 rs7.sto
       have hfo7:m7.fo D:=by rw[a3];exact .inr rfl
       refine⟨vs,a6, ?_,m7,st5,acc++[yt],vs++[v],r3, ?_,a2.upd hfo4,a3,a4.upd hfo7,a5.upd hfo7,rs7.sto.upd hfo7 a6,upd_same,Rps.upd (a7.append ⟨v,[],rfl,rv,rfl⟩) hfo7,g2,by rw[er3,g3,List.append_assoc];rfl⟩
       ·rw[← a7.length,← Z1t]
        have:=congrArg List.length er3
        rw[g3,List.length_append,List.length_append,List.length_cons] at this
        omega
       ·refine⟨fun a o h hT hn => ?_,fun a hn h => ?_,a1.newA,a1.newF,a1.pre⟩
        ·by_cases ha:a=D
         ·subst ha;rw[hD] at h;cases h
         ·rw[upd_ne ha];exact a1.keep a o h hT hn
        ·by_cases ha:a=D
         ·subst ha;exact absurd hD h
         ·rw[upd_ne ha];exact a1.stay a hn h
end
end Eg
set_option maxHeartbeats 4000000
namespace Eg
open PySem PySem.Spec PyProof.Rows L2
section
variable {X:Cx}
end
section
variable {X:Cx} {G:Gh} {W:WX} {fa fb:Env→Sto→R T} {a b:Expr} {pos:Pos}
end
end Eg
set_option maxHeartbeats 2000000
namespace Eg
open PySem PySem.Spec PyProof.Rows
section
variable {prog:Program} {w:World} {A:Around} {E:Value→Shared→Prop} {s:Shared} {z TI TO i1 i2 i3:Addr} {fp1 fp2 fp3:List Addr} {n1 n2 n3 i:Nat} {P1 P2 P3:Nat→Value→Prop} {St1 St2 St3:Nat→Heap→Prop}
end
section
variable {prog:Program} {w:World} {A:Around} {E:Value→Shared→Prop} {s:Shared} {z TI TO i1 i2 i3 S:Addr} {fp1 fp2 fp3:List Addr} {n1 n2 n3 i:Nat} {P1 P2 P3:Nat→Value→Prop} {St1 St2 St3:Nat→Heap→Prop}
def Z3 (z TI TO i1 i2 i3 S:Addr) (St1 St2 St3:Nat→Heap→Prop) (i:Nat) (h:Heap):Prop:=IsTupOf3 h TI (.ref i1) (.ref i2) (.ref i3)∧St1 i h∧St2 i h∧St3 i h ∧
 ((IsZip h z TI TO .none∧∃ a b c,IsTupOf3 h TO a b c)∨∃ T f o,IsZipHeld h z TI TO T f∧h.get? T=some o∧S < T)
structure Z3Lo (z TI TO i1 i2 i3 S:Addr) (fp1 fp2 fp3:List Addr):Prop where
 z:z < S
 TI:TI < S
 TO:TO < S
 f1:∀ b∈fp1,b < S
 f2:∀ b∈fp2,b < S
 f3:∀ b∈fp3,b < S
structure Z3G (P1 P2 P3:Nat→Value→Prop) (lo:Addr) (h:Heap) (as:List Addr):Prop where
 rise:as.Pairwise (· < ·)
 above:∀ a∈as,lo < a
 tups:∀ (j:Nat) (a:Addr),as[j]? = some a→∃ x y u,P1 j x∧P2 j y∧P3 j u∧IsTupOf3 h a x y u
theorem Z3G.there{lo:Addr}{h:Heap}{as:List Addr}(g:Z3G P1 P2 P3 lo h as){a:Addr}(ha:a∈as):a < h.objs.size:=by
 obtain⟨j,hj⟩:=List.mem_iff_getElem?.mp ha
 obtain⟨_,_,_,_,_,_,e⟩:=g.tups j a hj
 exact Heap.lt_size e
theorem Z3.keep(D1:Draws prog w A i1 fp1 n1 P1 St1)(D2:Draws prog w A i2 fp2 n2 P2 St2)(D3:Draws prog w A i3 fp3 n3 P3 St3)(L:Z3Lo z TI TO i1 i2 i3 S fp1 fp2 fp3){h h':Heap}(x:Z3 z TI TO i1 i2 i3 S St1 St2 St3 i h)
  (hk:∀ b o,b≠S→h.get? b=some o→h'.get? b=some o):Z3 z TI TO i1 i2 i3 S St1 St2 St3 i h':=by
 obtain⟨a,b,c,d,e⟩:=x
 refine⟨hk _ _ (Nat.ne_of_lt L.TI) a,D1.frame _ _ _ b fun q hq o e=>hk q o (Nat.ne_of_lt (L.f1 q hq)) e,D2.frame _ _ _ c fun q hq o e=>hk q o (Nat.ne_of_lt (L.f2 q hq)) e,D3.frame _ _ _ d fun q hq o e=>hk q o (Nat.ne_of_lt (L.f3 q hq)) e, ?_⟩
 rcases e with ⟨e,a,b,c,e2⟩ | ⟨T,f,o,e,e2,e3⟩
 ·exact .inl ⟨hk _ _ (Nat.ne_of_lt L.z) e,a,b,c,hk _ _ (Nat.ne_of_lt L.TO) e2⟩
 ·exact .inr ⟨T,f,o,hk _ _ (Nat.ne_of_lt L.z) e,hk _ _ (Nat.ne_of_gt e3) e2,e3⟩
end
section
variable {prog:Program} {w:World} {A:Around} {s:Shared} {R:Result→Shared→Prop} {z TI TO i1 i2 i3 S:Addr} {fp1 fp2 fp3:List Addr} {n1 n2 n3:Nat} {P1 P2 P3:Nat→Value→Prop} {St1 St2 St3:Nat→Heap→Prop}
end
section
variable {prog:Program} {w:World} {A:Around} {E:Value→Shared→Prop} {s:Shared} {z TI TO i1 i2 i3:Addr} {fp1 fp2 fp3:List Addr} {n1 n2 n3:Nat} {P1 P2 P3:Nat→Value→Prop} {St1 St2 St3:Nat→Heap→Prop}
end
end Eg
set_option maxHeartbeats 2000000
namespace Eg
open PySem PySem.Spec PyProof.Rows L2
abbrev Z2b (h:Heap) (z TI TO:Addr) (v:Value) (f:Bool):Prop:=h.get? z=some { cls := .type "zip",dict:=none,data := .fields #[v, .bool f, .bool false, .ref TI, .ref TO],slots := #[] }
def ZcQ (v:Value):Prop:=v = .none∨∃ T:Addr,v=rawInt (T:Int)
section
variable {prog:Program} {w:World} {A:Around} {E:Value→Shared→Prop} {s:Shared} {z TI TO i1 i2:Addr} {fp1 fp2:List Addr} {n1 n2 i:Nat} {P1 P2:Nat→Value→Prop} {St1 St2:Nat→Heap→Prop} {a1 a2:Value}
theorem Zgo{a:Addr}{Q:Option Obj→Shared→Prop}(h:Q (s.heap.get? a) s):wpAny (model prog w) A (loadIfAlive a) Q E s:=fun _ _ _=>h
theorem ZeF{v:Value}{f:Bool}{Q:Bool→Shared→Prop}(hz:Z2b s.heap z TI TO v f)(hv:ZcQ v)(h1:Q true s)(h2:∀ h',Z2b h' z TI TO v true→Heap.SameBut z s.heap h'→Q false { s with heap:=h' }) :
  wpAny (model prog w) A (Builtin.SmallTypes.ownedTupleIsFree (.ref z)) Q E s:=by
 unfold Builtin.SmallTypes.ownedTupleIsFree
 rcases hv with rfl | ⟨T,rfl⟩
 ·exact wpAny_bind (wpAny_field hz rfl (x := .none) rfl (wpAny_pure h1))
 ·refine wpAny_bind (wpAny_field hz rfl (x:=rawInt T) rfl ?_)
  show wpAny _ _ (loadIfAlive ((T:Int).toNat) >>= _) _ _ _
  rw[Int.toNat_natCast]
  refine wpAny_bind (Zgo ?_)
  cases s.heap.get? T with
  | none =>
   simp only[Option.isNone_none,if_true]
   exact wpAny_pure h1
  | some oT =>
   simp only[Option.isNone_some,Bool.false_eq_true,if_false]
   refine wpAny_bind (wpAny_field hz rfl (x := .bool f) rfl ?_)
   cases f with
   | true =>
    rw[if_neg (show ¬ ((Value.bool true != Value.bool true)=true) from Bool.false_ne_true)]
    exact wpAny_pure (h2 s.heap hz (Heap.SameBut.refl _ _))
   | false =>
    rw[if_pos (show(Value.bool false != Value.bool true)=true from rfl)]
    exact wpAny_bind (wpAny_setField_rec hz (by simp) fun h₁ hz₁ hs₁ => wpAny_pure (h2 h₁ hz₁ hs₁))
theorem ZhK{v:Value}{f:Bool}{Q:Value→Shared→Prop}(S:ZipSep2 z TI TO i1 i2 fp1 fp2)(D1:Draws prog w A i1 fp1 n1 P1 St1)(D2:Draws prog w A i2 fp2 n2 P2 St2)
  (hz:Z2b s.heap z TI TO v f) (hv:ZcQ v) (hTI:IsTupOf2 s.heap TI (.ref i1) (.ref i2)) (hTO:IsTupOf2 s.heap TO a1 a2) (st1:St1 i s.heap) (st2:St2 i s.heap) (hlt1:i < n1) (hlt2:i < n2)
  (hQ:∀ x1 x2 h' tk v' f',P1 i x1→P2 i x2→Z2b h' z TI TO v' f'→ZcQ v'→(∃ b1 b2,IsTupOf2 h' TO b1 b2)→St1 (i+1) h'→St2 (i+1) h'→IsTupOf2 h' s.heap.objs.size x1 x2→h'.objs.size=s.heap.objs.size+1 →
    (∀ c o,c≠z→c≠TO→c≠i1→c≠i2→s.heap.get? c=some o→h'.get? c=some o)→Q (.ref s.heap.objs.size) { s with heap:=h',toks:=tk }) :
  wpAny (model prog w) A (Builtin.«zip.__next__» ⟨[.ref z],[]⟩) (fun fin s'=>∃ v,fin = .done (.ret v)∧Q v s') E s:=by
 obtain⟨hp,g,d,tk0,os⟩:=s
 show wpAny _ _ (field (.ref z) 2 >>= _) _ _ _
 refine wpAny_bind (wpAny_field hz rfl (x := .bool false) rfl ?_)
 show wpAny _ _ (field (.ref z) 3 >>= _) _ _ _
 refine wpAny_bind (wpAny_field hz rfl (x := .ref TI) rfl ?_)
 refine wpAny_bind (wpAny_seqItems hTI rfl ?_)
 show wpAny _ _ (Builtin.SmallTypes.ownedTupleIsFree (.ref z) >>= _) _ _ _
 refine wpAny_bind (ZeF hz hv ?_ fun g0 hz0 hs0 => ?_)
 ·simp only[if_true]
  refine wpAny_bind (wpAny_rule ?_)
  refine wpAny_bind (wpAny_field hz rfl (x := .ref TO) rfl ?_)
  refine wpAny_bind (wpAny_setField_rec hz (by simp) fun g0 hz0 hs0 => ?_)
  replace hz0:Z2b g0 z TI TO .ellipsis f:=hz0
  replace hs0:Heap.SameBut z hp g0:=hs0
  refine wpAny_bind ?_
  simp only[List.zipIdx_cons,List.zipIdx_nil,List.forIn_cons,List.forIn_nil]
  refine wpAny_bind (wpAny_bind (wpAny_onRaise ?_))
  show wpAny _ _ (Builtin.SmallTypes.nextOf (.ref i1) >>= _) _ _ ⟨g0,g,d,tk0,os⟩
  refine wpAny_bind (D1.item i _ _ _ hlt1 (D1.over st1 hs0 S.zf1) fun x1 p1 tk1 hx1 sn1 hp1=>wpAny_pure ?_)
  replace hp1:Heap.SameBut i1 g0 p1:=hp1
  have hU1:IsTupOf2 p1 TO a1 a2:=hp1.extBut _ _ S.Ti1 (hs0.extBut _ _ S.TOz hTO)
  refine wpAny_bind (wpAny_seqItems (s:=⟨p1,g,d,tk1,os⟩) hU1 rfl ?_)
  refine wpAny_bind (updateSeq_IsTupOf2 (s:=⟨p1,g,d,tk1,os⟩) hU1 fun g1 hT1 hs1 => ?_)
  replace hT1:IsTupOf2 g1 TO x1 a2:=hT1
  replace hs1:Heap.SameBut TO p1 g1:=hs1
  refine wpAny_bind (wpAny_letGo (wpAny_pure ?_))
  refine wpAny_bind (wpAny_bind (wpAny_onRaise ?_))
  show wpAny _ _ (Builtin.SmallTypes.nextOf (.ref i2) >>= _) _ _ ⟨g1,g,d,tk1,os⟩
  refine wpAny_bind (D2.item i _ _ _ hlt2 (D2.over (D2.over (D2.over st2 hs0 S.zf2) hp1 S.sep1_2) hs1 S.Tf2) fun x2 p2 tk2 hx2 sn2 hp2=>wpAny_pure ?_)
  replace hp2:Heap.SameBut i2 g1 p2:=hp2
  have hU2:IsTupOf2 p2 TO x1 a2:=hp2.extBut _ _ S.Ti2 hT1
  refine wpAny_bind (wpAny_seqItems (s:=⟨p2,g,d,tk2,os⟩) hU2 rfl ?_)
  refine wpAny_bind (updateSeq_IsTupOf2 (s:=⟨p2,g,d,tk2,os⟩) hU2 fun g2 hT2 hs2 => ?_)
  replace hT2:IsTupOf2 g2 TO x1 x2:=hT2
  replace hs2:Heap.SameBut TO p2 g2:=hs2
  refine wpAny_bind (wpAny_letGo (wpAny_pure (wpAny_pure ?_)))
  refine wpAny_bind (wpAny_seqItems (s:=⟨g2,g,d,tk2,os⟩) hT2 rfl ?_)
  refine wpAny_bind (wpAny_newTuple ?_)
  have hsz:g2.objs.size=hp.objs.size:=by rw[hs2.1,hp2.1,hs1.1,hp1.1,hs0.1]
  have hzz:Z2b g2 z TI TO .ellipsis f:=hs2.extBut _ _ S.TOz.symm (hp2.extBut _ _ S.zi2 (hs1.extBut _ _ S.TOz.symm (hp1.extBut _ _ S.zi1 hz0)))
  have hkk:∀ c o,c≠z→c≠TO→c≠i1→c≠i2→hp.get? c=some o→g2.get? c=some o:=fun c o cz cT c1 c2 e =>
   hs2.extBut _ _ cT (hp2.extBut _ _ c2 (hs1.extBut _ _ cT (hp1.extBut _ _ c1 (hs0.extBut _ _ cz e))))
  have hj1:St1 (i+1) g2:=D1.over (D1.over (D1.over sn1 hs1 S.Tf1) hp2 S.sep2_1) hs2 S.Tf1
  have hj2:St2 (i+1) g2:=D2.over sn2 hs2 S.Tf2
  have hzlt:z < g2.objs.size:=Heap.lt_size hzz
  show wpAny _ _ (Builtin.SmallTypes.ownedTupleHandOut (.ref z) (.ref g2.objs.size) >>= _) _ _ ⟨g2.push { cls := .type "tuple",data := .seq #[x1,x2] },g,d,tk2,os⟩
  refine wpAny_bind ?_
  unfold Builtin.SmallTypes.ownedTupleHandOut
  have hz6:Z2b (g2.push { cls := .type "tuple",data := .seq #[x1,x2] }) z TI TO .ellipsis f:=Heap.get?_push_of_some _ hzz
  refine wpAny_bind (wpAny_setField_rec hz6 (by simp) fun h7 hz7 hs7 => ?_)
  replace hz7:Z2b h7 z TI TO (rawInt g2.objs.size) f:=hz7
  refine wpAny_setField_rec hz7 (by simp) fun h8 hz8 hs8 => ?_
  replace hz8:Z2b h8 z TI TO (rawInt g2.objs.size) false:=hz8
  replace hs7:Heap.SameBut z (g2.push { cls := .type "tuple",data := .seq #[x1,x2] }) h7:=hs7
  replace hs8:Heap.SameBut z h7 h8:=hs8
  have up:∀ c o,c≠z→g2.get? c=some o→h8.get? c=some o:=fun c o c1 e=>hs8.extBut _ _ c1 (hs7.extBut _ _ c1 (Heap.get?_push_of_some _ e))
  have hT8:IsTupOf2 h8 g2.objs.size x1 x2:=hs8.extBut _ _ (Nat.ne_of_gt hzlt) (hs7.extBut _ _ (Nat.ne_of_gt hzlt) (Heap.get?_push_size _ rfl))
  have hsz8:h8.objs.size=g2.objs.size+1:=by rw[hs8.1,hs7.1,Heap.size_push]
  rw[hsz] at hz8 hT8 hsz8
  refine wpAny_pure ⟨_,rfl, ?_⟩
  show Q (.ref g2.objs.size) ⟨h8,g,d,tk2,os⟩
  rw[hsz]
  exact hQ x1 x2 h8 tk2 _ _ hx1 hx2 hz8 (.inr ⟨_,rfl⟩) ⟨_,_,up _ _ S.TOz hT2⟩ (D1.frame _ _ _ hj1 fun b hb o e=>up b o (fun q=>S.zf1 (q ▸ hb)) e) (D2.frame _ _ _ hj2 fun b hb o e=>up b o (fun q=>S.zf2 (q ▸ hb)) e) hT8 hsz8 fun c o cz cT c1 c2 e=>up c o cz (hkk c o cz cT c1 c2 e)
 ·replace hs0:Heap.SameBut z hp g0:=hs0
  simp only[Bool.false_eq_true,if_false]
  refine wpAny_bind ?_
  rw[← Array.forIn_toList]
  simp only[List.forIn_cons,List.forIn_nil]
  refine wpAny_bind (wpAny_bind (wpAny_holding ?_))
  show wpAny _ _ (Builtin.SmallTypes.nextOf (.ref i1) >>= _) _ _ ⟨g0,g,d,tk0,os⟩
  refine wpAny_bind (D1.item i _ _ _ hlt1 (D1.over st1 hs0 S.zf1) fun x1 p1 tk1 hx1 sn1 hp1=>wpAny_pure ?_)
  replace hp1:Heap.SameBut i1 g0 p1:=hp1
  refine wpAny_pure ?_
  refine wpAny_bind (wpAny_bind (wpAny_holding ?_))
  show wpAny _ _ (Builtin.SmallTypes.nextOf (.ref i2) >>= _) _ _ ⟨p1,g,d,tk1,os⟩
  refine wpAny_bind (D2.item i _ _ _ hlt2 (D2.over (D2.over st2 hs0 S.zf2) hp1 S.sep1_2) fun x2 p2 tk2 hx2 sn2 hp2=>wpAny_pure ?_)
  replace hp2:Heap.SameBut i2 p1 p2:=hp2
  refine wpAny_pure (wpAny_pure ?_)
  show wpAny _ _ (newTuple [x1,x2] >>= _) _ _ ⟨p2,g,d,tk2,os⟩
  refine wpAny_bind (wpAny_newTuple ?_)
  have hsz:p2.objs.size=hp.objs.size:=by rw[hp2.1,hp1.1,hs0.1]
  have hz3:Z2b p2 z TI TO v true:=hp2.extBut _ _ S.zi2 (hp1.extBut _ _ S.zi1 hz0)
  have hk:∀ c o,c≠z→c≠i1→c≠i2→hp.get? c=some o→p2.get? c=some o:=fun c o cz c1 c2 e=>hp2.extBut _ _ c2 (hp1.extBut _ _ c1 (hs0.extBut _ _ cz e))
  have hO:IsTupOf2 p2 TO a1 a2:=hk _ _ S.TOz S.Ti1 S.Ti2 hTO
  have hj1:St1 (i+1) p2:=D1.over sn1 hp2 S.sep2_1
  refine wpAny_pure ⟨_,rfl, ?_⟩
  show Q (.ref p2.objs.size) _
  have hpt:IsTupOf2 (p2.push { cls := .type "tuple",data := .seq #[x1,x2] }) p2.objs.size x1 x2:=Heap.get?_push_size _ rfl
  have hz4:(p2.push { cls := .type "tuple",data := .seq #[x1,x2] }).objs.size=p2.objs.size+1:=Heap.size_push ..
  rw[hsz] at hpt hz4 ⊢
  have up:∀ {b:Addr} {o:Obj},p2.get? b=some o→(p2.push { cls := .type "tuple",data := .seq #[x1,x2] }).get? b=some o:=fun e=>Heap.get?_push_of_some _ e
  exact hQ x1 x2 _ tk2 _ _ hx1 hx2 (up hz3) hv ⟨_,_,up hO⟩ (D1.frame _ _ _ hj1 fun b _ o e=>up e) (D2.frame _ _ _ sn2 fun b _ o e=>up e) hpt hz4 fun c o c1 _ c2 c3 e=>up (hk c o c1 c2 c3 e)
theorem Zj6{v:Value}{f:Bool}{Q:Fin→Shared→Prop}(S:ZipSep2 z TI TO i1 i2 fp1 fp2)(D1:Draws prog w A i1 fp1 n1 P1 St1)(D2:Draws prog w A i2 fp2 n2 P2 St2)
  (hz:Z2b s.heap z TI TO v f) (hv:ZcQ v) (hTI:IsTupOf2 s.heap TI (.ref i1) (.ref i2)) (hTO:IsTupOf2 s.heap TO a1 a2) (st1:St1 i s.heap) (st2:St2 i s.heap) (hle1:i≤n1) (hle2:i≤n2) (hend:i=n1∨i=n2)
  (hE:∀ h' tk e,(∀ c o,c≠z→c≠TO→c≠i1→c≠i2→s.heap.get? c=some o→h'.get? c=some o)→(∃ o,h'.get? e=some o∧o.cls = .type "StopIteration")→E (.ref e) { s with heap:=h',toks:=tk }) :
  wpAny (model prog w) A (Builtin.«zip.__next__» ⟨[.ref z],[]⟩) Q E s:=by
 obtain⟨hp,g,d,tk0,os⟩:=s
 show wpAny _ _ (field (.ref z) 2 >>= _) _ _ _
 refine wpAny_bind (wpAny_field hz rfl (x := .bool false) rfl ?_)
 show wpAny _ _ (field (.ref z) 3 >>= _) _ _ _
 refine wpAny_bind (wpAny_field hz rfl (x := .ref TI) rfl ?_)
 refine wpAny_bind (wpAny_seqItems hTI rfl ?_)
 show wpAny _ _ (Builtin.SmallTypes.ownedTupleIsFree (.ref z) >>= _) _ _ _
 refine wpAny_bind (ZeF hz hv ?_ fun g0 hz0 hs0 => ?_)
 ·simp only[if_true]
  refine wpAny_bind (wpAny_rule ?_)
  refine wpAny_bind (wpAny_field hz rfl (x := .ref TO) rfl ?_)
  refine wpAny_bind (wpAny_setField_rec hz (by simp) fun g0 hz0 hs0 => ?_)
  replace hz0:Z2b g0 z TI TO .ellipsis f:=hz0
  replace hs0:Heap.SameBut z hp g0:=hs0
  refine wpAny_bind ?_
  simp only[List.zipIdx_cons,List.zipIdx_nil,List.forIn_cons,List.forIn_nil]
  refine wpAny_bind (wpAny_bind (wpAny_onRaise ?_))
  show wpAny _ _ (Builtin.SmallTypes.nextOf (.ref i1) >>= _) _ _ ⟨g0,g,d,tk0,os⟩
  by_cases hlt1:i < n1
  ·refine wpAny_bind (D1.item i _ _ _ hlt1 (D1.over st1 hs0 S.zf1) fun x1 p1 tk1 hx1 sn1 hp1=>wpAny_pure ?_)
   replace hp1:Heap.SameBut i1 g0 p1:=hp1
   have hU1:IsTupOf2 p1 TO a1 a2:=hp1.extBut _ _ S.Ti1 (hs0.extBut _ _ S.TOz hTO)
   refine wpAny_bind (wpAny_seqItems (s:=⟨p1,g,d,tk1,os⟩) hU1 rfl ?_)
   refine wpAny_bind (updateSeq_IsTupOf2 (s:=⟨p1,g,d,tk1,os⟩) hU1 fun g1 hT1 hs1 => ?_)
   replace hT1:IsTupOf2 g1 TO x1 a2:=hT1
   replace hs1:Heap.SameBut TO p1 g1:=hs1
   refine wpAny_bind (wpAny_letGo (wpAny_pure ?_))
   have hi2:i=n2:=by omega
   refine wpAny_bind (wpAny_bind (wpAny_onRaise ?_))
   show wpAny _ _ (Builtin.SmallTypes.nextOf (.ref i2) >>= _) _ _ ⟨g1,g,d,tk1,os⟩
   refine wpAny_bind (D2.done ⟨g1,g,d,tk1,os⟩ _ _ (by rw[← hi2];exact D2.over (D2.over (D2.over st2 hs0 S.zf2) hp1 S.sep1_2) hs1 S.Tf2) fun q e hq he => ?_)
   replace hq:Heap.ExtBut i2 g1 q:=hq
   obtain⟨oe,hoe,hce⟩:=he
   replace hoe:q.get? e=some oe:=hoe
   have hzq:Z2b q z TI TO .ellipsis f:=hq _ _ S.zi2 (hs1.extBut _ _ S.TOz.symm (hp1.extBut _ _ S.zi1 hz0))
   have hez:e≠z:=fun x=>by subst x;rw[hzq] at hoe;cases hoe;simp at hce
   refine wpAny_setField_rec (s:=⟨q,g,d,tk1,os⟩) hzq (by simp) fun q' _ hq' => ?_
   replace hq':Heap.SameBut z q q':=hq'
   exact hE q' tk1 e (fun c o cz cT c1 c2 x=>hq'.extBut _ _ cz (hq _ _ c2 (hs1.extBut _ _ cT (hp1.extBut _ _ c1 (hs0.extBut _ _ cz x))))) ⟨oe,hq'.extBut _ _ hez hoe,hce⟩
  ·have hi1:i=n1:=by omega
   refine wpAny_bind (D1.done ⟨g0,g,d,tk0,os⟩ _ _ (by rw[← hi1];exact D1.over st1 hs0 S.zf1) fun q e hq he => ?_)
   replace hq:Heap.ExtBut i1 g0 q:=hq
   obtain⟨oe,hoe,hce⟩:=he
   replace hoe:q.get? e=some oe:=hoe
   have hzq:Z2b q z TI TO .ellipsis f:=hq _ _ S.zi1 hz0
   have hez:e≠z:=fun x=>by subst x;rw[hzq] at hoe;cases hoe;simp at hce
   refine wpAny_setField_rec (s:=⟨q,g,d,tk0,os⟩) hzq (by simp) fun q' _ hq' => ?_
   replace hq':Heap.SameBut z q q':=hq'
   exact hE q' tk0 e (fun c o cz cT c1 c2 x=>hq'.extBut _ _ cz (hq _ _ c1 (hs0.extBut _ _ cz x))) ⟨oe,hq'.extBut _ _ hez hoe,hce⟩
 ·replace hs0:Heap.SameBut z hp g0:=hs0
  simp only[Bool.false_eq_true,if_false]
  refine wpAny_bind ?_
  rw[← Array.forIn_toList]
  simp only[List.forIn_cons,List.forIn_nil]
  refine wpAny_bind (wpAny_bind (wpAny_holding ?_))
  show wpAny _ _ (Builtin.SmallTypes.nextOf (.ref i1) >>= _) _ _ ⟨g0,g,d,tk0,os⟩
  by_cases hlt1:i < n1
  ·refine wpAny_bind (D1.item i _ _ _ hlt1 (D1.over st1 hs0 S.zf1) fun x1 p1 tk1 hx1 sn1 hp1=>wpAny_pure ?_)
   replace hp1:Heap.SameBut i1 g0 p1:=hp1
   refine wpAny_pure ?_
   have hi2:i=n2:=by omega
   refine wpAny_bind (wpAny_bind (wpAny_holding ?_))
   show wpAny _ _ (Builtin.SmallTypes.nextOf (.ref i2) >>= _) _ _ ⟨p1,g,d,tk1,os⟩
   refine wpAny_bind (D2.done ⟨p1,g,d,tk1,os⟩ _ _ (by rw[← hi2];exact D2.over (D2.over st2 hs0 S.zf2) hp1 S.sep1_2) fun q e hq he => ?_)
   exact hE q tk1 e (fun c o cz _ c1 c2 x=>hq _ _ c2 (hp1.extBut _ _ c1 (hs0.extBut _ _ cz x))) he
  ·have hi1:i=n1:=by omega
   refine wpAny_bind (D1.done ⟨g0,g,d,tk0,os⟩ _ _ (by rw[← hi1];exact D1.over st1 hs0 S.zf1) fun q e hq he => ?_)
   exact hE q tk0 e (fun c o cz _ c1 c2 x=>hq _ _ c1 (hs0.extBut _ _ cz x)) he
abbrev ZSt (z TI TO i1 i2:Addr) (St1 St2:Nat→Heap→Prop) (i:Nat) (h:Heap):Prop:=(∃ v f,Z2b h z TI TO v f∧ZcQ v)∧IsTupOf2 h TI (.ref i1) (.ref i2)∧(∃ a1 a2,IsTupOf2 h TO a1 a2)∧St1 i h∧St2 i h
theorem ZfQ{Q:Value→Shared→Prop}(S:ZipSep2 z TI TO i1 i2 fp1 fp2)(D1:Draws prog w A.in1 i1 fp1 n1 P1 St1)(D2:Draws prog w A.in1 i2 fp2 n2 P2 St2)(st:ZSt z TI TO i1 i2 St1 St2 i s.heap)(hlt1:i < n1)(hlt2:i < n2)
  (hQ:∀ x1 x2 h' tk,P1 i x1→P2 i x2→ZSt z TI TO i1 i2 St1 St2 (i+1) h'→IsTupOf2 h' s.heap.objs.size x1 x2→h'.objs.size=s.heap.objs.size+1 →
    (∀ c o,c≠z→c≠TO→c≠i1→c≠i2→s.heap.get? c=some o→h'.get? c=some o)→Q (.ref s.heap.objs.size) { s with heap:=h',toks:=tk }) :
  wpAny (model prog w) A (Builtin.SmallTypes.nextOf (.ref z)) Q E s:=by
 obtain⟨⟨v,f,hz,hv⟩,hTI,⟨a1,a2,hTO⟩,st1,st2⟩:=st
 have hT:s.TypeIs (.ref z) "zip":=⟨_,hz,rfl⟩
 unfold Builtin.SmallTypes.nextOf
 refine wpAny_bind (wpAny_callSpecial?_slot (name:=Str.ofString "__next__") hT PySem.F.slot_zip_next
  (wpAny_call_entry PySem.F.slot_zip_next hT PySem.F.entry_zip_next (ZhK S D1 D2 hz hv hTI hTO st1 st2 hlt1 hlt2 fun x1 x2 h' tk v' f' y1 y2 b1 b2 b3 d1 d2 b5 b6 b7=>wpAny_pure ?_) (PySem.F.args_zip_next_1 _)))
 exact hQ x1 x2 h' tk y1 y2 ⟨⟨v',f',b1,b2⟩,b7 _ _ S.TIz S.TITO S.TIi1 S.TIi2 hTI,b3,d1,d2⟩ b5 b6 b7
theorem ZfK{Q:Value→Shared→Prop}(S:ZipSep2 z TI TO i1 i2 fp1 fp2)(D1:Draws prog w A.in1 i1 fp1 n1 P1 St1)(D2:Draws prog w A.in1 i2 fp2 n2 P2 St2)(st:ZSt z TI TO i1 i2 St1 St2 i s.heap)(hle1:i≤n1)(hle2:i≤n2)(hend:i=n1∨i=n2)
  (hE:∀ h' tk e,(∀ c o,c≠z→c≠TO→c≠i1→c≠i2→s.heap.get? c=some o→h'.get? c=some o)→(∃ o,h'.get? e=some o∧o.cls = .type "StopIteration")→E (.ref e) { s with heap:=h',toks:=tk }) :
  wpAny (model prog w) A (Builtin.SmallTypes.nextOf (.ref z)) Q E s:=by
 obtain⟨⟨v,f,hz,hv⟩,hTI,⟨a1,a2,hTO⟩,st1,st2⟩:=st
 have hT:s.TypeIs (.ref z) "zip":=⟨_,hz,rfl⟩
 unfold Builtin.SmallTypes.nextOf
 exact wpAny_bind (wpAny_callSpecial?_slot (name:=Str.ofString "__next__") hT PySem.F.slot_zip_next
  (wpAny_call_entry PySem.F.slot_zip_next hT PySem.F.entry_zip_next (Zj6 S D1 D2 hz hv hTI hTO st1 st2 hle1 hle2 hend hE) (PySem.F.args_zip_next_1 _)))
theorem ZhL{e:Addr}{c:Int}{old:Value}{Q:Value→Shared→Prop}(S:ZipSep2 z TI TO i1 i2 fp1 fp2)(D1:Draws prog w A.in1 i1 fp1 n1 P1 St1)(D2:Draws prog w A.in1 i2 fp2 n2 P2 St2)
  (he:IsEnum s.heap e z c old) (st:ZSt z TI TO i1 i2 St1 St2 i s.heap) (hlt1:i < n1) (hlt2:i < n2) (hez:e≠z) (heI:e≠TI) (heO:e≠TO) (he1:e ∉ fp1) (he2:e ∉ fp2)
  (hQ:∀ x1 x2 h' tk,P1 i x1→P2 i x2→IsEnumOut h' e z (c+1) (.ref s.heap.objs.size) (s.heap.objs.size+1)→ZSt z TI TO i1 i2 St1 St2 (i+1) h'→IsTupOf2 h' s.heap.objs.size x1 x2 →
    h'.get? (s.heap.objs.size+1)=some { cls := .type "tuple",data := .seq #[.int c tk, .ref s.heap.objs.size] } →
    (∀ b o,b≠e→b≠z→b≠TO→b≠i1→b≠i2→s.heap.get? b=some o→h'.get? b=some o)→Q (.ref (s.heap.objs.size+1)) { s with heap:=h',toks:=tk+1 }) :
  wpAny (model prog w) A (Builtin.«enumerate.__next__» ⟨[.ref e],[]⟩) (fun fin s'=>∃ v,fin = .done (.ret v)∧Q v s') E s:=by
 obtain⟨hp,g,d,tk0,os⟩:=s
 have hei1:e≠i1:=fun q=>he1 (by rw[q];exact S.mem1)
 have hei2:e≠i2:=fun q=>he2 (by rw[q];exact S.mem2)
 have over:∀ {j:Nat} {h h':Heap},ZSt z TI TO i1 i2 St1 St2 j h→(∀ b o,b≠e→h.get? b=some o→h'.get? b=some o)→ZSt z TI TO i1 i2 St1 St2 j h':=fun {j h h'} st k=>by
  obtain⟨⟨v,f,hz,hv⟩,hTI,⟨a1,a2,hTO⟩,st1,st2⟩:=st
  exact⟨⟨v,f,k _ _ hez.symm hz,hv⟩,k _ _ heI.symm hTI,⟨a1,a2,k _ _ heO.symm hTO⟩,D1.frame _ _ _ st1 fun b hb o y=>k b o (fun q=>he1 (q ▸ hb)) y,D2.frame _ _ _ st2 fun b hb o y=>k b o (fun q=>he2 (q ▸ hb)) y⟩
 show wpAny _ _ (field (.ref e) 2 >>= _) _ _ _
 refine wpAny_bind (wpAny_field he rfl (x := .ref z) rfl ?_)
 refine wpAny_bind (ZfQ S D1 D2 st hlt1 hlt2 fun x1 x2 h1 tk hx1 hx2 st' hT1 hz1 hk1 => ?_)
 replace hT1:IsTupOf2 h1 hp.objs.size x1 x2:=hT1
 replace hz1:h1.objs.size=hp.objs.size+1:=hz1
 have hel:e < hp.objs.size:=Heap.lt_size he
 have heT:hp.objs.size≠e:=Nat.ne_of_gt hel
 have hEe:hp.objs.size+1≠e:=Nat.ne_of_gt (Nat.lt_succ_of_lt hel)
 have e1:IsEnum h1 e z c old:=hk1 _ _ hez heO hei1 hei2 he
 show wpAny _ _ (field (.ref e) 3 >>= _) _ _ ⟨h1,g,d,tk,os⟩
 refine wpAny_bind (wpAny_field e1 rfl (x:=rawInt c) rfl ?_)
 show wpAny _ _ (field (.ref e) 4 >>= _) _ _ ⟨h1,g,d,tk,os⟩
 refine wpAny_bind (wpAny_field e1 rfl (x := .none) rfl ?_)
 show wpAny _ _ (mkInt c >>= _) _ _ ⟨h1,g,d,tk,os⟩
 refine wpAny_bind (wpAny_mkInt ?_)
 show wpAny _ _ (setField (.ref e) 3 (rawInt (c+1)) >>= _) _ _ ⟨h1,g,d,tk+1,os⟩
 refine wpAny_bind (wpAny_setField_rec e1 (by simp) fun h2 e2 s2 => ?_)
 replace s2:Heap.SameBut e h1 h2:=s2
 replace e2:IsEnum h2 e z (c+1) old:=e2
 show wpAny _ _ (setField (.ref e) 4 .none >>= _) _ _ ⟨h2,g,d,tk+1,os⟩
 refine wpAny_bind (wpAny_setField_rec e2 (by simp) fun h3 e3 s3 => ?_)
 replace s3:Heap.SameBut e h2 h3:=s3
 replace e3:IsEnum h3 e z (c+1) old:=e3
 show wpAny _ _ (newTuple [.int c tk, .ref hp.objs.size] >>= _) _ _ ⟨h3,g,d,tk+1,os⟩
 refine wpAny_bind (wpAny_newTuple ?_)
 have hsz:h3.objs.size=hp.objs.size+1:=by rw[s3.1,s2.1,hz1]
 have e4:IsEnum (h3.push { cls := .type "tuple",data := .seq #[.int c tk, .ref hp.objs.size] }) e z (c+1) old:=Heap.get?_push_of_some _ e3
 have t4:(h3.push { cls := .type "tuple",data := .seq #[.int c tk, .ref hp.objs.size] }).get? (hp.objs.size+1)=some { cls := .type "tuple",data := .seq #[.int c tk, .ref hp.objs.size] }:=by rw[← hsz];exact Heap.get?_push_size _ rfl
 have k4:∀ b o,b≠e→h1.get? b=some o→(h3.push { cls := .type "tuple",data := .seq #[.int c tk, .ref hp.objs.size] }).get? b=some o:=fun b o hb y=>Heap.get?_push_of_some _ (s3.extBut b o hb (s2.extBut b o hb y))
 generalize h3.push { cls := .type "tuple",data := .seq #[.int c tk, .ref hp.objs.size] }=h4 at e4 t4 k4 ⊢
 show wpAny _ _ (Builtin.SmallTypes.ownedTupleIsFree (.ref e) >>= _) _ _ ⟨h4,g,d,tk+1,os⟩
 rw[hsz]
 refine wpAny_bind ?_
 unfold Builtin.SmallTypes.ownedTupleIsFree
 refine wpAny_bind (wpAny_field e4 rfl (x := .none) rfl (wpAny_pure ?_))
 simp only[if_true]
 refine wpAny_bind (wpAny_rule ?_)
 refine wpAny_bind (wpAny_field e4 rfl (x:=old) rfl ?_)
 refine wpAny_bind (wpAny_setField_rec e4 (by simp) fun h5 e5 s5 => ?_)
 replace s5:Heap.SameBut e h4 h5:=s5
 replace e5:IsEnum h5 e z (c+1) (.ref hp.objs.size):=e5
 show wpAny _ _ (Builtin.SmallTypes.ownedTupleHandOut (.ref e) (.ref (hp.objs.size+1)) >>= _) _ _ ⟨h5,g,d,tk+1,os⟩
 refine wpAny_bind ?_
 unfold Builtin.SmallTypes.ownedTupleHandOut
 refine wpAny_bind (wpAny_setField_rec e5 (by simp) fun h6 e6 s6 => ?_)
 replace s6:Heap.SameBut e h5 h6:=s6
 replace e6:IsEnumOut h6 e z (c+1) (.ref hp.objs.size) (hp.objs.size+1):=e6
 refine wpAny_setField_rec e6 (by simp) fun h7 e7 s7 => ?_
 replace s7:Heap.SameBut e h6 h7:=s7
 replace e7:IsEnumOut h7 e z (c+1) (.ref hp.objs.size) (hp.objs.size+1):=e7
 have k7:∀ b o,b≠e→h4.get? b=some o→h7.get? b=some o:=fun b o hb y=>s7.extBut b o hb (s6.extBut b o hb (s5.extBut b o hb y))
 refine wpAny_bind (wpAny_letGo (wpAny_pure ⟨_,rfl,hQ x1 x2 h7 tk hx1 hx2 e7 (over st' fun b o hb y=>k7 b o hb (k4 b o hb y)) (k7 _ _ heT (k4 _ _ heT hT1)) (k7 _ _ hEe t4) fun b o b0 b1 b2 b3 b4 y=>k7 b o b0 (k4 b o b0 (hk1 b o b1 b2 b3 b4 y))⟩))
theorem ZgH{j:Nat}{h h':Heap}{e:Addr}(D1:Draws prog w A i1 fp1 n1 P1 St1)(D2:Draws prog w A i2 fp2 n2 P2 St2)(st:ZSt z TI TO i1 i2 St1 St2 j h)(hez:e≠z)(heI:e≠TI)(heO:e≠TO)(he1:e ∉ fp1)(he2:e ∉ fp2)
  (k:∀ b o,b≠e→h.get? b=some o→h'.get? b=some o):ZSt z TI TO i1 i2 St1 St2 j h':=by
 obtain⟨⟨v,f,hz,hv⟩,hTI,⟨a1,a2,hTO⟩,st1,st2⟩:=st
 exact⟨⟨v,f,k _ _ hez.symm hz,hv⟩,k _ _ heI.symm hTI,⟨a1,a2,k _ _ heO.symm hTO⟩,D1.frame _ _ _ st1 fun b hb o y=>k b o (fun q=>he1 (q ▸ hb)) y,D2.frame _ _ _ st2 fun b hb o y=>k b o (fun q=>he2 (q ▸ hb)) y⟩
theorem Zgr{e:Addr}{c:Int}{old:Value}{Q:Option Value→Shared→Prop}(S:ZipSep2 z TI TO i1 i2 fp1 fp2)(D1:Draws prog w A.in1.in1 i1 fp1 n1 P1 St1)(D2:Draws prog w A.in1.in1 i2 fp2 n2 P2 St2)
  (he:IsEnum s.heap e z c old) (st:ZSt z TI TO i1 i2 St1 St2 i s.heap) (hlt1:i < n1) (hlt2:i < n2) (hez:e≠z) (heI:e≠TI) (heO:e≠TO) (he1:e ∉ fp1) (he2:e ∉ fp2)
  (hQ:∀ x1 x2 h' tk,P1 i x1→P2 i x2→IsEnumOut h' e z (c+1) (.ref s.heap.objs.size) (s.heap.objs.size+1)→ZSt z TI TO i1 i2 St1 St2 (i+1) h'→IsTupOf2 h' s.heap.objs.size x1 x2 →
    h'.get? (s.heap.objs.size+1)=some { cls := .type "tuple",data := .seq #[.int c tk, .ref s.heap.objs.size] } →
    (∀ b o,b≠e→b≠z→b≠TO→b≠i1→b≠i2→s.heap.get? b=some o→h'.get? b=some o)→Q (some (.ref (s.heap.objs.size+1))) { s with heap:=h',toks:=tk+1 }) :
  wpAny (model prog w) A (pyNext (.ref e)) Q E s:=by
 have hT:s.TypeIs (.ref e) "enumerate":=⟨_,he,rfl⟩
 unfold pyNext
 exact wpAny_bind (wpAny_attempt (wpAny_callSpecial?_slot (name:=Str.ofString "__next__") hT PySem.F.slot_enumerate_next
  (wpAny_call_entry PySem.F.slot_enumerate_next hT PySem.F.entry_enumerate_next
    (ZhL S D1 D2 he st hlt1 hlt2 hez heI heO he1 he2 fun x1 x2 h' tk p1 p2 ho st' hT1 hT2 hk=>wpAny_pure (hQ x1 x2 h' tk p1 p2 ho st' hT1 hT2 hk)) (PySem.F.args_enumerate_next_1 _))))
theorem ZhJ{elts:List Expr}{kk:Nat}{pos:Pos}{e:Addr}{old:Value}{Q:Value→Shared→Prop}(S:ZipSep2 z TI TO i1 i2 fp1 fp2)(D1:Draws prog w A.in1.in1 i1 fp1 n1 P1 St1)(D2:Draws prog w A.in1.in1 i2 fp2 n2 P2 St2)
  (he:IsEnum s.heap e z (i:Int) old) (st:ZSt z TI TO i1 i2 St1 St2 i s.heap) (hlt1:i < n1) (hlt2:i < n2) (hez:e≠z) (heI:e≠TI) (heO:e≠TO) (he1:e ∉ fp1) (he2:e ∉ fp2)
  (hQ:∀ x1 x2 h' tk t,P1 i x1→P2 i x2→(∃ old,IsEnum h' e z ((i+1:Nat):Int) old)→ZSt z TI TO i1 i2 St1 St2 (i+1) h'→IsTupOf2 h' s.heap.objs.size x1 x2 →
    h'.get? (s.heap.objs.size+1)=some { cls := .type "tuple",data := .seq #[.int (i:Int) t, .ref s.heap.objs.size] } →
    (∀ b o,b≠e→b≠z→b≠TO→b≠i1→b≠i2→s.heap.get? b=some o→h'.get? b=some o)→Q (.ref (s.heap.objs.size+1)) { s with heap:=h',toks:=tk }) :
  wpAny (model prog w) A (pyNext (.ref e)) (fun r s₁ => ∃ v,r=some v∧wpAny (model prog w) A (letOwnedTupleGo (.Tuple elts kk pos) (.ref e) v) (fun _ s₂ => Q v s₂) E s₁) E s:=by
 have hel:e < s.heap.objs.size:=Heap.lt_size he
 refine Zgr S D1 D2 he st hlt1 hlt2 hez heI heO he1 he2 fun x1 x2 h' tk p1 p2 ho st' hT1 hT2 hk=>⟨_,rfl, ?_⟩
 refine wpAny_letOwnedTupleGo_enum ho fun h2 he2' hs2 => ?_
 have k2:∀ b o,b≠e→h'.get? b=some o→h2.get? b=some o:=fun b o hb y=>(hs2.2 b hb).trans y
 have e0:IsEnum h2 e z ((i+1:Nat):Int) (.ref s.heap.objs.size):=by
  have e1:(((i+1:Nat):Int))=(i:Int)+1:=by omega
  rw[e1]
  exact he2'
 exact hQ x1 x2 h2 (tk+1) tk p1 p2 ⟨_,e0⟩ (ZgH D1 D2 st' hez heI heO he1 he2 k2) (k2 _ _ (Nat.ne_of_gt hel) hT1) (k2 _ _ (Nat.ne_of_gt (Nat.lt_succ_of_lt hel)) hT2) fun b o b0 b1 b2 b3 b4 y=>k2 b o b0 (hk b o b0 b1 b2 b3 b4 y)
theorem ZgU{e:Addr}{c:Int}{old:Value}{Q:Shared→Prop}(S:ZipSep2 z TI TO i1 i2 fp1 fp2)(D1:Draws prog w A.in1.in1 i1 fp1 n1 P1 St1)(D2:Draws prog w A.in1.in1 i2 fp2 n2 P2 St2)
  (he:IsEnum s.heap e z c old) (st:ZSt z TI TO i1 i2 St1 St2 i s.heap) (hle1:i≤n1) (hle2:i≤n2) (hend:i=n1∨i=n2)
  (hQ:∀ h' tk,(∀ b o,b≠z→b≠TO→b≠i1→b≠i2→s.heap.get? b=some o→h'.get? b=some o)→Q { s with heap:=h',toks:=tk }) :
  wpAny (model prog w) A (pyNext (.ref e)) (fun r s₁ => r=none∧Q s₁) E s:=by
 have hT:s.TypeIs (.ref e) "enumerate":=⟨_,he,rfl⟩
 unfold pyNext
 refine wpAny_bind (wpAny_attempt (wpAny_callSpecial?_slot (name:=Str.ofString "__next__") hT PySem.F.slot_enumerate_next
  (wpAny_call_entry PySem.F.slot_enumerate_next hT PySem.F.entry_enumerate_next ?_ (PySem.F.args_enumerate_next_1 _))))
 show wpAny _ _ (field (.ref e) 2 >>= _) _ _ _
 refine wpAny_bind (wpAny_field he rfl (x := .ref z) rfl ?_)
 refine wpAny_bind (ZfK S D1 D2 st hle1 hle2 hend fun h' tk x hk hx' => ?_)
 obtain⟨o,ho,hc⟩:=hx'
 refine wpAny_bind (wpAny_isInstance (T := "StopIteration") (b:=true) ⟨o,ho,hc⟩ isSubtype_stop ?_)
 exact wpAny_pure ⟨rfl,hQ h' tk hk⟩
end
section
variable {X:Cx} {pins:List (Addr × Obj)} {σ : L2.St} {H:Hp} {s:Shared} {h':Heap}
theorem Zfi{t':Nat}{ch:List Addr}{T T2:Addr}{ob ob2:HO}(I:Inv X pins σ H s)(k:∀ b o,b ∉ ch→s.heap.get? b=some o→h'.get? b=some o)(hf:∀ b∈ch,FpOk X pins H b)(hT:s.heap.objs.size≤T)(hT2:s.heap.objs.size≤T2)(hne:T2≠T)
  (new:ObjOk X.prog X.w (upd (upd H T ob) T2 ob2) h' T ob) (new2:ObjOk X.prog X.w (upd (upd H T ob) T2 ob2) h' T2 ob2):Inv X pins σ (upd (upd H T ob) T2 ob2) { s with heap:=h',toks:=t' }:=by
 have hn:H T=none:=I.hok.fresh hT
 have hn2:H T2=none:=I.hok.fresh hT2
 have nit:∀ b u,H b=some u→b ∉ ch:=fun b u e z=>by
  have q:=(hf b z).1
  rw[q] at e;cases e
 have up:∀ {b:Addr} {u:HO},H b=some u→upd (upd H T ob) T2 ob2 b=some u:=fun {b u} e=>by
  rw[upd_ne (fun z=>by rw[z,hn2] at e;cases e),upd_ne (fun z=>by rw[z,hn] at e;cases e)];exact e
 refine I.step (g':=s.gens) (d':=s.drawn) (ch:=ch) (fun b hb=>⟨(hf b hb).2.2.2.1,(hf b hb).2.1,(hf b hb).2.2.2.2.1,(hf b hb).2.2.2.2.2⟩) (fun b o _ _ hc e _=>k b o hc e) (fun b o _ _ hc e _=>⟨o.slots,k b o hc e⟩)
  (fun b o _ e n => ?_) (fun b o hc e=>⟨o,k b o hc e⟩) (fun b xs e=>up e) (fun b o u e=>up e) (fun b ps e=>⟨#[], ?_⟩) (fun m hm => ?_) (fun b u e => ?_) I.bare
 ·have lt:=Heap.lt_size e
  rw[upd_ne (Nat.ne_of_lt (Nat.lt_of_lt_of_le lt hT2)),upd_ne (Nat.ne_of_lt (Nat.lt_of_lt_of_le lt hT))];exact n
 ·rw[up e];simp
 ·obtain⟨o,es,ep,ho,r⟩:=hm
  exact⟨o,es,ep,k _ o (fun z=>(hf _ z).2.1 rfl) ho,r⟩
 ·by_cases hb2:b=T2
  ·subst hb2
   rw[upd_same] at e
   cases e
   exact new2
  ·rw[upd_ne hb2] at e
   by_cases hb:b=T
   ·subst hb
    rw[upd_same] at e
    cases e
    exact new
   ·rw[upd_ne hb] at e
    refine(I.hok b u e).stay (fun c v hc q=>k c v ?_ q) (fun c q=>up q) fun c xs q=>up q
    rcases hc with z | z
    ·rw[z];exact nit b u e
    ·exact nit c _ z
end
def Zdk (K:PySem.W.Frag) (k1 k2:Sk) (a b:Addr):It :=
 ⟨fun i H=>∃ xs ys x y,sAt K k1 H a xs∧sAt K k2 H b ys∧xs[i]? = some x∧ys[i]? = some y,
   fun i H v H'=>∃ T T2 x y,v = .ref T2∧H T=none∧H T2=none∧T2≠T∧H'=upd (upd H T (.tup [x,y])) T2 (.tup [.int (i:Nat), .ref T])∧(∀ xs,sAt K k1 H a xs→xs[i]? = some x)∧∀ ys,sAt K k2 H b ys→ys[i]? = some y,
   fun i H=>∃ xs ys,sAt K k1 H a xs∧sAt K k2 H b ys∧min xs.length ys.length=i⟩
section
variable {P:Program} {w:World} {K:PySem.W.Frag} {elts:List Expr} {kk:Nat} {tpos:Pos}
theorem ZgG(k1 k2:Sk){a b e z TI TO i1 i2:Addr}(S:ZipSep2 z TI TO i1 i2 [i1,a] [i2,b])(hez:e≠z)(heI:e≠TI)(heO:e≠TO)(hei1:e≠i1)(hei2:e≠i2) :
  Turn P w K (.Tuple elts kk tpos) (Zdk K k1 k2 a b) [e,z,TI,TO,i1,i2] e (fun i h=>(∃ old,IsEnum h e z (i:Int) old)∧(∃ v f,Z2b h z TI TO v f∧ZcQ v)∧IsTupOf2 h TI (.ref i1) (.ref i2)∧(∃ x y,IsTupOf2 h TO x y)∧sIt k1 h i1 a i∧sIt k2 h i2 b i) where
 mem:=by simp
 obj:=fun i h st c hb=>by
  obtain⟨⟨old,h0⟩,⟨v,f,h1,_⟩,h2,⟨x,y,h3⟩,h4,h5⟩:=st
  simp only[List.mem_cons,List.not_mem_nil,or_false] at hb
  rcases hb with q | q | q | q | q | q
  ·subst q;exact⟨_,h0,fun v q=>nomatch q⟩
  ·subst q;exact⟨_,h1,fun v q=>nomatch q⟩
  ·subst q;exact⟨_,h2,fun v q=>nomatch q⟩
  ·subst q;exact⟨_,h3,fun v q=>nomatch q⟩
  ·subst q;exact Z3s h4
  ·subst q;exact Z3s h5
 keep:=fun i h h' st kp=>by
  obtain⟨⟨old,h0⟩,⟨v,f,h1,hv⟩,h2,⟨x,y,h3⟩,h4,h5⟩:=st
  exact⟨⟨old,kp e (by simp) _ h0⟩,⟨v,f,kp z (by simp) _ h1,hv⟩,kp TI (by simp) _ h2,⟨x,y,kp TO (by simp) _ h3⟩,Z7q h4 fun o q=>kp i1 (by simp) o q,Z7q h5 fun o q=>kp i2 (by simp) o q⟩
 item:=by
  intro X hP hw hK hc i pins s σ H E I hf st hg
  subst hP hw hK
  obtain⟨⟨old,h0⟩,h1,h2,h3,h4,h5⟩:=st
  obtain⟨xs,ys,x,y,hq,hq2,hx,hy⟩:=hg
  obtain⟨its,rv,hs⟩:=Z1e I hq
  obtain⟨its2,rv2,hs2⟩:=Z1e I hq2
  obtain⟨u,hu,ru⟩:=rv.get hx
  obtain⟨u2,hu2,ru2⟩:=rv2.get hy
  have hea:e≠a:=fun q=>by subst q;exact Z8y hs h0 rfl (by decide) (by decide)
  have heb:e≠b:=fun q=>by subst q;exact Z8y hs2 h0 rfl (by decide) (by decide)
  have D:=Z2f (prog:=X.prog) (w:=X.w) (A:=X.A.in1.in1) (k:=k1) (I.ok.hd hc) (Z4m hs h4) its.toArray
  have D2:=Z2f (prog:=X.prog) (w:=X.w) (A:=X.A.in1.in1) (k:=k2) (I.ok.hd hc) (Z4m hs2 h5) its2.toArray
  have l1:i < its.toArray.size:=by
   have:=(List.getElem?_eq_some_iff.mp hu).1
   simpa using this
  have l2:i < its2.toArray.size:=by
   have:=(List.getElem?_eq_some_iff.mp hu2).1
   simpa using this
  refine ZhJ (elts:=elts) (kk:=kk) (pos:=tpos) S D D2 h0 ⟨h1,h2,h3,⟨h4,hs⟩,⟨h5,hs2⟩⟩ l1 l2 hez heI heO (by simp[hei1,hea]) (by simp[hei2,heb]) fun p q h' tk t hp1 hp2 hen hst hT1 hT2 hk => ?_
  have e1:its[i]? = some p:=by simpa using hp1
  have e2:its2[i]? = some q:=by simpa using hp2
  rw[hu] at e1;cases e1
  rw[hu2] at e2;cases e2
  have hf':∀ c∈[e,z,TO,i1,i2],FpOk X pins H c:=fun c hc=>hf c (by
   simp only[List.mem_cons,List.not_mem_nil,or_false] at hc ⊢
   rcases hc with q | q | q | q | q
   ·exact .inl q
   ·exact .inr (.inl q)
   ·exact .inr (.inr (.inr (.inl q)))
   ·exact .inr (.inr (.inr (.inr (.inl q))))
   ·exact .inr (.inr (.inr (.inr (.inr q)))))
  have new:ObjOk X.prog X.w (upd (upd H s.heap.objs.size (.tup [x,y])) (s.heap.objs.size+1) (.tup [.int (i:Nat), .ref s.heap.objs.size])) h' s.heap.objs.size (.tup [x,y]):=⟨by show 2≤sizeLine;decide,[u,u2], .cons ru (.cons ru2 .nil),⟨_,hT1,rfl,_,rfl⟩⟩
  have new2:ObjOk X.prog X.w (upd (upd H s.heap.objs.size (.tup [x,y])) (s.heap.objs.size+1) (.tup [.int (i:Nat), .ref s.heap.objs.size])) h' (s.heap.objs.size+1) (.tup [.int (i:Nat), .ref s.heap.objs.size]):=⟨by show 2≤sizeLine;decide,[.int (i:Nat) t, .ref s.heap.objs.size], .cons ⟨_,rfl⟩ (.cons rfl .nil),⟨_,hT2,rfl,_,rfl⟩⟩
  have I1:=Zfi (t':=tk) (ch:=[e,z,TO,i1,i2]) I (fun c o hc e=>by
   simp only[List.mem_cons,List.not_mem_nil,or_false,not_or] at hc
   exact hk c o hc.1 hc.2.1 hc.2.2.1 hc.2.2.2.1 hc.2.2.2.2 e) hf' (Nat.le_refl _) (Nat.le_succ _) (Nat.succ_ne_self _) new new2
  refine⟨.ref (s.heap.objs.size+1),_,I1,rfl,⟨s.heap.objs.size,s.heap.objs.size+1,x,y,rfl,I.hok.fresh (Nat.le_refl _),I.hok.fresh (Nat.le_succ _),Nat.succ_ne_self _,rfl,fun ys hy=>by rw[Z8s I hy hq];exact hx,fun ys hy'=>by rw[Z8s I hy' hq2];exact hy⟩, ?_,fun c hb => ?_⟩
  ·obtain⟨g1,g2,g3,g4,g5⟩:=hst
   exact⟨hen,g1,g2,g3,g4.1,g5.1⟩
  ·have hb':c < s.heap.objs.size:=by
    obtain⟨v,f,hz,_⟩:=h1
    obtain⟨_,_,hO⟩:=h3
    simp only[List.mem_cons,List.not_mem_nil,or_false] at hb
    rcases hb with q | q | q | q | q | q
    ·subst q;exact Heap.lt_size h0
    ·subst q;exact Heap.lt_size hz
    ·subst q;exact Heap.lt_size h2
    ·subst q;exact Heap.lt_size hO
    ·subst q;obtain⟨o,q,_⟩:=Z3s h4;exact Heap.lt_size q
    ·subst q;obtain⟨o,q,_⟩:=Z3s h5;exact Heap.lt_size q
   rw[upd_ne (Nat.ne_of_lt (Nat.lt_succ_of_lt hb')),upd_ne (Nat.ne_of_lt hb')]
   exact(hf c hb).1
 done:=by
  intro X hP hw hK hc i pins s σ H E I hf st hg
  subst hP hw hK
  obtain⟨⟨old,h0⟩,h1,h2,h3,h4,h5⟩:=st
  obtain⟨xs,ys,hq,hq2,hx⟩:=hg
  obtain⟨its,rv,hs⟩:=Z1e I hq
  obtain⟨its2,rv2,hs2⟩:=Z1e I hq2
  have D:=Z2f (prog:=X.prog) (w:=X.w) (A:=X.A.in1.in1) (k:=k1) (I.ok.hd hc) (Z4m hs h4) its.toArray
  have D2:=Z2f (prog:=X.prog) (w:=X.w) (A:=X.A.in1.in1) (k:=k2) (I.ok.hd hc) (Z4m hs2 h5) its2.toArray
  have r1:=rv.length
  have r2:=rv2.length
  have hf':∀ c∈[z,TO,i1,i2],FpOk X pins H c:=fun c hc=>hf c (by
   simp only[List.mem_cons,List.not_mem_nil,or_false] at hc ⊢
   rcases hc with q | q | q | q
   ·exact .inr (.inl q)
   ·exact .inr (.inr (.inr (.inl q)))
   ·exact .inr (.inr (.inr (.inr (.inl q))))
   ·exact .inr (.inr (.inr (.inr (.inr q)))))
  refine ZgU S D D2 h0 ⟨h1,h2,h3,⟨h4,hs⟩,⟨h5,hs2⟩⟩ (by simp only[List.size_toArray];omega) (by simp only[List.size_toArray];omega) (by simp only[List.size_toArray];omega) fun h' tk hk=>I.turnedL (t':=tk) (ch:=[z,TO,i1,i2]) (fun c o hc e=>by
   simp only[List.mem_cons,List.not_mem_nil,or_false,not_or] at hc
   exact hk c o hc.1 hc.2.1 hc.2.2.1 hc.2.2.2 e) hf'
 self:=fun A i s Q E st h=>by
  obtain⟨⟨old,he⟩,_⟩:=st
  exact wpAny_pyIter_enum he h
end
section
open PySem.AutoSeq1 (wpAny_loadPart')
set_option maxHeartbeats 2000000 in
theorem ZhP{z TI TO:Addr} :
  Meets (Builtin.«enumerate.__new__» ⟨[.type "enumerate", .ref z],[]⟩) (fun _ Rq s0=>IsZip s0.heap z TI TO .none ∧
   Rq (.ok (.ret (.ref s0.heap.objs.size))) { s0 with heap:=s0.heap.push { cls := .type "enumerate",data := .fields #[.none, .bool false, .ref z,rawInt 0, .none, .none] } }) :=
 .of_wp fun prog w A Rq s0 hh=>by
  obtain⟨hp,gn,dr,tks,os⟩:=s0
  obtain⟨hv,hh⟩:=hh
  have hse:=sub_enumerate
  have go:∀ {A':Around} {E':Value→Shared→Prop} {Q':Value→Shared→Prop},Q' (.ref z) ⟨hp,gn,dr,tks,os⟩→wpAny (model prog w) A' (pyIter (.ref z)) Q' E' ⟨hp,gn,dr,tks,os⟩ :=
   fun q'=>wpAny_pyIter_zip (s:=⟨hp,gn,dr,tks,os⟩) hv q'
  wp_walk using go
  refine wpAny_stack_any fun stk=>wpAny_pure ?_
  split
  ·rename_i cc _ _ _ _ _
   cases (cc == Value.type "enumerate") <;> (wp_walk using go) <;> exact⟨_,rfl,hh⟩
  ·wp_walk using go
   exact⟨_,rfl,hh⟩
theorem ZgT{prog:Program}{w:World}{A:Around}{E:Value→Shared→Prop}{s:Shared}{z TI TO:Addr}{Q:Value→Shared→Prop}(hv:IsZip s.heap z TI TO .none)
  (q:∀ h',IsEnum h' s.heap.objs.size z 0 .none→(∀ c u,s.heap.get? c=some u→h'.get? c=some u)→Q (.ref s.heap.objs.size) { s with heap:=h' }) :
  wpAny (model prog w) A (call (.type "enumerate") [.ref z]) Q E s:=by
 refine callType_new F.called_enumerate (by decide) (F.typeCall_enumerate_1 _) (F.newCall_enumerate_1 _) (fun ob=>F.args_object_init_2 ob _) F.entry_enumerate_new ZhP ⟨hv, ?_⟩
 have e1:IsEnum (s.heap.push { cls := .type "enumerate",data := .fields #[.none, .bool false, .ref z,rawInt 0, .none, .none] }) s.heap.objs.size z 0 .none:=Heap.get?_push_size _ rfl
 exact⟨⟨_,e1,rfl⟩,q _ e1 fun c u x=>Heap.get?_push_of_some _ x⟩
end
section
variable {X:Cx} {e e2:Expr} {ta:TA}
def iEnz (K:PySem.W.Frag) (ta:TA):TI:=fun σ H R=>ta σ H fun vs H1=>∃ k1 k2 a b xs ys,vs=[.ref a, .ref b]∧sAt K k1 H1 a xs∧sAt K k2 H1 b ys∧R (Zdk K k1 k2 a b) H1
theorem Zjl{p p2 pos pos2 tpos:Pos}{elts:List Expr}{kk:Nat}(hg:Gl X "enumerate")(hm:X.mg "enumerate" = none)(hg2:Gl X "zip")(hm2:X.mg "zip" = none)(ha:PA X [e,e2] ta)
  (hs0:starEach [.Call (.Name "zip" p2) [e,e2] [] pos2] X.env=[(false,eval (.Call (.Name "zip" p2) [e,e2] [] pos2) X.env)])
  (hs:starEach [e,e2] X.env=(false,eval e X.env) :: starEach [e2] X.env) (hpl:(backTo pos2 (starEach [e2] X.env)).any (·.1)=false) :
  PI X (.Tuple elts kk tpos) (.Call (.Name "enumerate" p) [.Call (.Name "zip" p2) [e,e2] [] pos2] [] pos) (iEnz X.K ta):=by
 refine⟨fun pins s σ H R I h => ?_⟩
 refine Call_ (ld_blt I hg hm boot_enumerate (PyProof.Rows.callWith_type1 ?_ hs0 rfl))
 rw[hs0]
 show wpAny _ _ (spliced ((false,eval (.Call (.Name "zip" p2) [e,e2] [] pos2) X.env) :: backTo pos [])) _ _ s
 refine Calls.spliced_cons (Call_ (ld_blt I hg2 hm2 PyProof.Rows.boot_zip (PyProof.Rows.callWith_type1 (thn (ha.run pos2 pins s σ H _ I h) fun us s1 ⟨vs,H1,I1,r1,q1⟩ => ?_) hs hpl)))
 obtain⟨k1,k2,a,b,xs,ys,rfl,hq,hq2,q⟩:=q1
 cases r1 with
 | cons r rr =>
  cases rr with
  | cons r' rr =>
   cases rr
   cases r
   cases r'
   obtain⟨its,rv,hsr⟩:=Z1e I1 hq
   obtain⟨its2,rv2,hsr2⟩:=Z1e I1 hq2
   refine zip_begins2 (Z5h k1 a its.toArray) (Z5h k2 b its2.toArray) hsr hsr2 fun h' hz hT hO h1 h2 hsz hk=>Calls.spliced_nil (ZgT (s:={ s1 with heap:=h' }) hz fun h'' he hk2=>wpAny_pyIter_enum (s:={ s1 with heap:=h'' }) he ?_)
   have hsz':h'.objs.size=s1.heap.objs.size+5:=hsz
   have he:IsEnum h'' (s1.heap.objs.size+5) (s1.heap.objs.size+4) (((0:Nat)):Int) .none:=by rw[← hsz'];exact he
   have I2:Inv X pins σ H1 { s1 with heap:=h'' }:=I1.kept (t':=s1.toks) fun b o x=>hk2 b o (hk b o x)
   have S:=zip_sep2 (N:=s1.heap.objs.size) (fp1:=[a]) (fp2:=[b]) (fun c hc=>by simp only[List.mem_singleton] at hc;subst hc;exact ZbN hsr) (fun c hc=>by simp only[List.mem_singleton] at hc;subst hc;exact ZbN hsr2)
   show PIE X pins σ _ R (.ref h'.objs.size) _
   rw[hsz']
   refine⟨s1.heap.objs.size+5,[s1.heap.objs.size+5,s1.heap.objs.size+4,s1.heap.objs.size+2,s1.heap.objs.size+3,s1.heap.objs.size,s1.heap.objs.size+1],_,_,H1,rfl,I2,
    ZgG k1 k2 S (Nat.succ_ne_self _) (Nat.ne_of_gt (Nat.add_lt_add_left (by decide) _)) (Nat.ne_of_gt (Nat.add_lt_add_left (by decide) _)) (Nat.ne_of_gt (Nat.lt_add_of_pos_right (by decide))) (Nat.ne_of_gt (Nat.add_lt_add_left (by decide) _)),⟨⟨_,he⟩,⟨_,_,hk2 _ _ hz, .inl rfl⟩,hk2 _ _ hT,⟨_,_,hk2 _ _ hO⟩,Z6a (hk2 _ _ h1),Z6a (hk2 _ _ h2)⟩,fun c hb=>Zcc I1 I1 ?_,q⟩
   simp only[List.mem_cons,List.not_mem_nil,or_false] at hb
   rcases hb with z | z | z | z | z | z
   ·subst z;exact Nat.le_add_right _ _
   ·subst z;exact Nat.le_add_right _ _
   ·subst z;exact Nat.le_add_right _ _
   ·subst z;exact Nat.le_add_right _ _
   ·subst z;exact Nat.le_refl _
   ·subst z;exact Nat.le_add_right _ _
end
section
variable {G:Gh} {m:Mm} {H:Hp}
theorem Wk.enz{k1 k2:Sk}{t1 t2:T}{v1 v2:V}{xs ys:List T}(r1:Rp G m H t1 v1)(r2:Rp G m H t2 v2)(e1:sOf k1 t1=some xs)(e2:sOf k2 t2=some ys) :
  ∃ a b vs ws,v1 = .ref a∧v2 = .ref b∧sAt G.K k1 H a vs∧sAt G.K k2 H b ws∧Wk G m H (Zdk G.K k1 k2 a b) (Z1k 0 (Z1i xs ys)):=by
 obtain⟨a,vs,rfl,q1,sq1⟩:=Ze8 r1 e1
 obtain⟨b,ws,rfl,q2,sq2⟩:=Ze8 r2 e2
 refine⟨a,b,vs,ws,rfl,rfl,sq1 (Stp.refl m H).toMov.F,sq2 (Stp.refl m H).toMov.F,fun m' H' x i hi => ?_,fun m' H' x=>⟨vs,ws,sq1 x,sq2 x,by rw[Z2n,Z4b,q1.length,q2.length]⟩,fun m' H' st x rs i y H'' hi hy => ?_⟩
 ·rw[Z2n,Z4b] at hi
  obtain⟨t,v,_,e,_⟩:=Z1l q1 (i:=i) (by omega)
  obtain⟨t2,v2,_,e2,_⟩:=Z1l q2 (i:=i) (by omega)
  exact⟨vs,ws,v,v2,sq1 x,sq2 x,e,e2⟩
 ·rw[Z2n,Z4b] at hi
  obtain⟨T',T2,x',y',rfl,hT,hT2,hne,rfl,hx,hy⟩:=hy
  obtain⟨t,v,f1,f2,q1'⟩:=Z1l q1 (i:=i) (by omega)
  obtain⟨t2,v2,g1,g2,q2'⟩:=Z1l q2 (i:=i) (by omega)
  have z1:=hx vs (sq1 x)
  rw[f2] at z1;cases z1
  have z2:=hy ws (sq2 x)
  rw[g2] at z2;cases z2
  have hT2':upd H' T' (.tup [x',y']) T2=none:=by rw[upd_ne hne];exact hT2
  have M:Mov m' H' m' (upd (upd H' T' (.tup [x',y'])) T2 (.tup [.int (i:Nat), .ref T'])):=(Mov.fresh hT).trans (Mov.fresh hT2')
  refine⟨.new (.new .nil hT) hT2',_,Z7n _ 0 i _ (ZaJ xs ys i t t2 f1 g1),T2,_,rfl,⟨rs.free hT2,upd_same⟩,_,_,rfl, ?_,_,_,rfl,⟨T',[x',y'],rfl,⟨rs.free hT, ?_⟩,_,_,rfl, ?_,_,_,rfl, ?_,rfl⟩,rfl⟩
  ·show V.int _=V.int _
   rw[Nat.zero_add]
  ·rw[upd_ne (Ne.symm hne),upd_same]
  ·exact Rp.mov M _ _ (Rp.movF x t _ q1')
  ·exact Rp.mov M _ _ (Rp.movF x t2 _ q2')
end
section
variable {X:Cx} {G:Gh} {W:WX} {fa fb:Env→Sto→R T} {e e2:Expr} {pos:Pos}
def fEnz (fa fb:Env→Sto→R T):Env→Sto→R (List T):=fun env st=>(fa env st).bnd fun x st1=>(fb env st1).bnd fun y st2=>match x,y with
  | .lst xs, .lst ys => .ok (Z1k 0 (Z1i xs ys)) st2
  | .tup xs, .tup ys => .ok (Z1k 0 (Z1i xs ys)) st2
  | .lst xs, .tup ys => .ok (Z1k 0 (Z1i xs ys)) st2
  | .tup xs, .lst ys => .ok (Z1k 0 (Z1i xs ys)) st2
  | _,_ => .bad
theorem i_enz{elts:List Expr}{kk:Nat}{p p2 pos2 tpos:Pos}(hK:X.K=G.K)(hg:Gl X "enumerate")(hm:X.mg "enumerate" = none)(hg2:Gl X "zip")(hm2:X.mg "zip" = none)(he:PE X e (tE G W fa))(he2:PE X e2 (tE G W fb))
  (hs0:starEach [.Call (.Name "zip" p2) [e,e2] [] pos2] X.env=[(false,eval (.Call (.Name "zip" p2) [e,e2] [] pos2) X.env)])
  (hs:starEach [e,e2] X.env=(false,eval e X.env) :: starEach [e2] X.env) (hs2:starEach [e2] X.env=[(false,eval e2 X.env)]) :
  PI X (.Tuple elts kk tpos) (.Call (.Name "enumerate" p) [.Call (.Name "zip" p2) [e,e2] [] pos2] [] pos) (tI G W (fEnz fa fb)):=by
 refine PI.imp (Zjl hg hm hg2 hm2 (pa_cons he (pa_cons he2 pa_nil hs2) hs) hs0 hs (by rw[hs2];rfl)) fun σ H R h => ?_
 rw[hK]
 show tE G W fa σ H fun x H1=>tE G W fb σ H1 fun y H2=>∃ k1 k2 a b xs ys,[x,y]=[V.ref a,V.ref b]∧sAt G.K k1 H2 a xs∧sAt G.K k2 H2 b ys∧R (Zdk G.K k1 k2 a b) H2
 refine at2 h fun m env st t u v w H1 rs r1 r2 q => ?_
 have fin:∀ {k1 k2:Sk} {xs ys:List T},sOf k1 t=some xs→sOf k2 u=some ys→Rn G W σ env (fun _ _ _ (_:Unit)=>True) m H1 (.ok (Z1k 0 (Z1i xs ys)) st) (fun xs _ _ H' m'=>∀ J,Wk G m' H' J xs→R J H') →
   ∃ k1 k2 a b xs ys,[v,w]=[V.ref a,V.ref b]∧sAt G.K k1 H1 a xs∧sAt G.K k2 H1 b ys∧R (Zdk G.K k1 k2 a b) H1:=fun e1 e2 q=>by
  obtain⟨a,b,vs,ws,rfl,rfl,h1,h2,hw⟩:=Wk.enz r1 r2 e1 e2
  exact⟨_,_,a,b,vs,ws,rfl,h1,h2,Rn.here (b:=()) q rs trivial _ hw⟩
 cases t with
 | lst xs =>
  cases u with
  | lst ys=>exact fin (k1 := .l) (k2 := .l) rfl rfl q
  | tup ys=>exact fin (k1 := .l) (k2 := .t) rfl rfl q
  | _=>exact q.elim
 | tup xs =>
  cases u with
  | lst ys=>exact fin (k1 := .t) (k2 := .l) rfl rfl q
  | tup ys=>exact fin (k1 := .t) (k2 := .t) rfl rfl q
  | _=>exact q.elim
 | _=>exact q.elim
end
end Eg
set_option maxHeartbeats 2000000
namespace Eg
open PySem PySem.Spec PyProof.Rows L2
def ZfG (H:Hp):List Addr→List (List V)→Hp
 | p :: ps,c :: cs=>ZfG (upd H p (.tup c)) ps cs
 | _,_=>H
section
variable {X:Cx} {G:Gh} {W:WX} {σ : L2.St} {H:Hp} {m:Mm} {env:Env} {st:Sto} {pos pos2:Pos}
end
section
variable {X:Cx} {G:Gh} {W:WX} {σ : L2.St} {H:Hp} {m:Mm} {env:Env} {st:Sto} {pos pos2:Pos} {A B:Type} {rel:Mm→Hp→A→B→Prop}
theorem Rn.tups:∀ {cs:List (List T)} {ds:List (List V)} {ps:List Addr} {H:Hp},RS G m env st σ H→cs.length=ds.length→ps.length=ds.length→(∀ (j:Nat) (c:List T),cs[j]? = some c→∃ d,ds[j]? = some d∧Rps G m H c d)→ps.Nodup→(∀ p,p∈ps→H p=none) →
  RS G m env st σ (ZfG H ps ds)∧Stp m H m (ZfG H ps ds)∧Rps G m (ZfG H ps ds) (cs.map T.tup) (ps.map V.ref)
 | [],[],[],H,rs,h1,h2,h3,h4,h5=>⟨rs,Stp.refl m H,rfl⟩
 | [],[],_ :: _,H,rs,h1,h2,h3,h4,h5=>by cases h2
 | [],_ :: _,ps,H,rs,h1,h2,h3,h4,h5=>by cases h1
 | _ :: _,[],ps,H,rs,h1,h2,h3,h4,h5=>by cases h1
 | c :: cs,d :: ds,[],H,rs,h1,h2,h3,h4,h5=>by cases h2
 | c :: cs,d :: ds,p :: ps,H,rs,h1,h2,h3,h4,h5=>by
  have hp:=h5 p List.mem_cons_self
  obtain⟨d',e,r⟩:=h3 0 c rfl
  cases e
  obtain⟨n1,n2⟩:=List.nodup_cons.mp h4
  have sf:Stp m H m (upd H p (.tup d)):=Stp.fresh hp
  obtain⟨a1,a2,a3⟩:=Rn.tups (cs:=cs) (ds:=ds) (ps:=ps) (H:=upd H p (.tup d)) (rs.fresh hp) (by simpa using h1) (by simpa using h2) (fun j c e=>by
   obtain⟨d,e2,r⟩:=h3 (j+1) c e
   exact⟨d,e2,Rps.mov sf.toMov _ _ r⟩) n2 (fun q hq=>by rw[upd_ne (fun z=>n1 (by rw[← z];exact hq))];exact h5 q (List.mem_cons_of_mem _ hq))
  have r1:Rp G m (upd H p (.tup d)) (.tup c) (.ref p):=⟨p,d,rfl,⟨rs.sto.free hp,upd_same⟩,Rps.mov sf.toMov _ _ r⟩
  exact⟨a1,sf.trans a2,_,_,rfl,Rp.mov a2.toMov _ _ r1,a3⟩
end
end Eg
set_option maxHeartbeats 2000000
namespace Eg
open PySem PySem.Spec PyProof.Rows L2
def Spec (G:Gh) (F:List T→Sto→R T):Sp:=fun vs H Q E=>∃ m st ts,RS G m [] st [] H∧Rps G m H ts vs∧Rn G (fun cls d _ H'=>E cls d H') [] [] (Rp G) m H (F ts st) (Kq Q)
structure FnG (P:Program) (w:World) (K:PySem.W.Frag) (mg:Str→Option Value) (base:Heap) (lv:Nat) (f:Addr) (fd:FuncData) (ps:List Str) (sp:Sp):Prop where
 go:∀ (A:Around) (outer:List PySem.Env) (s:Shared) (H:Hp) (args:Args) (us:List Value) (vs:List V) (Q:VK) (E:XK),Room lv A→A.guards=some []→Env0 P w K mg base A outer s H →
  BindsTo s fd args (ps.zip us)→Vals vs us→vs.length=ps.length→sp vs H Q E→codeAny (model P w) A (.call (.ref f) args) (CR (L2.CX P w) outer P w H s Q E) s
def Cal (P:Program) (w:World) (K:PySem.W.Frag) (mg:Str→Option Value) (base:Heap) (lv:Nat) (G:Gh) (kn:List Str) (F:List T→Sto→R T) (f:Addr):Prop :=
 ∀ (A:Around) (outer:List PySem.Env) (s:Shared) (H:Hp) (us ws:List Value) (vs zs:List V) (Q:VK) (E:XK),Room lv A→A.guards=some []→Env0 P w K mg base A outer s H →
  Vals vs us→Vals zs ws→zs.length=kn.length→Spec G F (vs++zs) H Q E→codeAny (model P w) A (.call (.ref f) ⟨us,kn.zip ws⟩) (CR (L2.CX P w) outer P w H s Q E) s
section
variable {P:Program} {w:World} {K:PySem.W.Frag} {mg:Str→Option Value} {base:Heap} {lv j:Nat} {G:Gh} {kn ps:List Str} {F:List T→Sto→R T} {f:Addr} {fd:FuncData}
theorem Cal.mono(c:Cal P w K mg base j G kn F f)(h:j≤lv):Cal P w K mg base lv G kn F f:=fun A outer s H us ws vs zs Q E r g e v z l q=>c A outer s H us ws vs zs Q E (r.mono h) g e v z l q
theorem Spec.imp{F':List T→Sto→R T}{vs:List V}{H:Hp}{Q:VK}{E:XK}(h:Spec G F' vs H Q E)(e:∀ ts st,F' ts st = .bad∨F' ts st=F ts st):Spec G F vs H Q E:=by
 obtain⟨m,st,ts,rs,r,q⟩:=h
 refine⟨m,st,ts,rs,r, ?_⟩
 rcases e ts st with z | z
 ·rw[z] at q;exact q.elim
 ·rw[z] at q;exact q
def kTs:List T→Option (List V)
 | []=>some []
 | t :: ts=>match kT t,kTs ts with
  | some v,some vs=>some (v :: vs)
  | _,_=>none
theorem ZdV{m:Mm}{H:Hp}:∀ {ts:List T} {vs:List V},kTs ts=some vs→Rps G m H ts vs
 | [],_,h=>by cases h;rfl
 | t :: ts,vs,h=>by
  have h:(match kT t,kTs ts with
   | some v,some vs=>some (v :: vs)
   | _,_=>none)=some vs:=h
  cases e1:kT t with
  | none=>rw[e1] at h;cases h
  | some v =>
   cases e2:kTs ts with
   | none=>rw[e1,e2] at h;cases h
   | some r =>
    rw[e1,e2] at h
    cases h
    exact⟨v,r,rfl,Zfe e1,ZdV e2⟩
def Z0u (n:Nat) (dts:List T) (F:List T→Sto→R T):List T→Sto→R T:=fun ts st=>if ts.length=n then F (ts++dts) st else .bad
theorem Zim{n:Nat}{dts:List T}{dvs:List V}{ds:List Value}(c:FnG P w K mg base lv f fd ps (Spec G F))(hb:Binds K fd ps ds)(hd:Vals dvs ds)(hk:kTs dts=some dvs)(hn:n+dts.length=ps.length) :
  Cal P w K mg base lv G [] (Z0u n dts F) f:=fun A outer s H us ws vs zs Q E hr hg e0 rv rz lz q=>by
 have hz:zs=[]:=List.length_eq_zero_iff.mp lz
 subst hz
 obtain⟨m,st,ts,rs,r,q⟩:=q
 rw[List.append_nil] at r
 unfold Z0u at q
 by_cases hl:ts.length=n
 ·rw[if_pos hl] at q
  have r2:=rv.append hd
  have hkl:dts.length=dvs.length:=(ZdV (G:=G) (m:=m) (H:=H) hk).length
  have l1:(vs++dvs).length=ps.length:=by rw[List.length_append,← r.length,hl,← hkl];exact hn
  have kin:K.In s.heap:=e0.mod.kin.keeps fun b o z=>(e0.bs b o z).1
  exact c.go A outer s H ⟨us,[]⟩ (us++ds) (vs++dvs) Q E hr hg e0 (hb s us kin (by rw[← r2.length];exact l1)) r2 l1 ⟨m,st,ts++dts,rs,r.append (ZdV hk),q⟩
 ·rw[if_neg hl] at q;exact q.elim
def kwF (n k:Nat) (gT:List T→List T) (F:List T→Sto→R T):List T→Sto→R T:=fun ts st=>if ts.length=n+k then F (gT ts) st else .bad
end
section
variable {X:Cx} {G:Gh} {W:WX} {lv:Nat} {kn:List Str} {F:List T→Sto→R T} {f:Addr} {x:Str} {p pos:Pos} {e:Expr} {es:List Expr} {kws:List Keyword} {fs fk:Env→Sto→R (List T)}
theorem RS.bare{m:Mm}{env:Env}{st:Sto}{σ : L2.St}{H:Hp}(rs:RS G m env st σ H):RS G m [] st [] H:=⟨⟨rfl,fun i t e=>by simp at e⟩,rs.sto⟩
theorem ZeM{m:Mm}{env:Env}{st:Sto}{σ : L2.St}{H:Hp}{ts:List T}{vs:List V}{Q:VK}(rs:RS G m env st σ H)(r:Rps G m H ts vs)(q:Rn G W σ env (Rp G) m H (F ts st) (Kq Q)):Spec G F vs H Q (WE W σ):=by
 refine⟨m,st,ts,rs.bare,r, ?_⟩
 cases eF:F ts st with
 | ok a s2 =>
  rw[eF] at q
  exact fun b H' m' rs' y rr=>q b H' m' ⟨rs.env.mov y.toMov,rs'.sto⟩ y rr
 | exc a s2 =>
  rw[eF] at q
  exact fun cls d H' m' rs' y rr=>q cls d H' m' ⟨rs.env.mov y.toMov,rs'.sto⟩ y rr
 | bad=>rw[eF] at q;exact q.elim
theorem ZeC{pins:List (Addr × Obj)}{σ : L2.St}{H:Hp}{s:Shared}{Q:VK}{us ws:List Value}{vs zs:List V}(c:Cal X.prog X.w X.K X.mg X.base lv G kn F f)(hr:Room lv X.A)(hg:X.A.guards=some [])(tk:Takes X W)
  (I:Inv X pins σ H s) (rv:Vals vs us) (rz:Vals zs ws) (lz:zs.length=kn.length) (q:Spec G F (vs++zs) H Q (WE W σ)):wpAny (model X.prog X.w) X.A (call (.ref f) us (kn.zip ws)) (EP X pins σ Q) X.xe s:=by
 refine wpAny_call (codeAny_mono (c X.A X.stack s H us ws vs zs Q (WE W σ) hr hg I.env0 rv rz lz q) fun r s2 hr2 => ?_)
 match r,hr2 with
 | .error e,hr2=>exact passAt tk σ pins H s e s2 I hr2
 | .ok (.ret u),hr2=>exact I.after hr2
 | .ok .next,hr2=>exact hr2.elim
 | .ok .brk,hr2=>exact hr2.elim
 | .ok .cont,hr2=>exact hr2.elim
theorem PK.imp{t t':TA}(h:PK X kws t)(k:∀ σ H Q,t' σ H Q→t σ H Q):PK X kws t':=⟨fun p pins s σ H Q I q=>h.run p pins s σ H Q I (k σ H Q q)⟩
theorem k_nil:PK X [] (tA G W fun _ st => .ok [] st):=PK.imp pk_nil fun σ H Q ⟨m,env,st,rs,q⟩=>Rn.here (b:=[]) q rs rfl
theorem Zj4{nm:Option Str}{kp:Pos}{fa:Env→Sto→R T}(ha:PE X e (tE G W fa))(hr:PK X kws (tA G W fs)) :
  PK X (⟨nm,e,kp⟩ :: kws) (tA G W fun env st=>(fa env st).bnd fun x st1=>(fs env st1).bnd fun xs st2 => .ok (x :: xs) st2):=by
 refine PK.imp (pk_cons ha hr) fun σ H Q h => ?_
 show tE G W fa σ H fun x H1=>tA G W fs σ H1 fun xs H2=>Q (x :: xs) H2
 obtain⟨m,env,st,rs,h⟩:=h
 refine⟨m,env,st,rs,(Rn.bnd h).imp fun t st' v H' m' rs' _ r q=>⟨m',env,st',rs',(Rn.bnd q).imp fun ts st2 vs H2 m2 rs2 s2 r2 q2 => ?_⟩⟩
 exact Rn.here q2 rs2 ⟨v,vs,rfl,Rp.mov s2.toMov _ _ r,r2⟩
theorem tA2{g:Env→List T→List T→Sto→R T}{σ : L2.St}{H:Hp}{Q:VK}{Pp:List V→List V→Hp→Prop}(h:tE G W (fun env st=>(fs env st).bnd fun xs st1=>(fk env st1).bnd fun ys st2=>g env xs ys st2) σ H Q)
  (k:∀ m env st ts us vs ws H1,RS G m env st σ H1→Rps G m H1 ts vs→Rps G m H1 us ws→Rn G W σ env (Rp G) m H1 (g env ts us st) (Kq Q)→Pp vs ws H1) :
  tA G W fs σ H fun vs H1=>tA G W fk σ H1 fun ws H2=>Pp vs ws H2:=by
 obtain⟨m,env,st,rs,h⟩:=h
 refine⟨m,env,st,rs,(Rn.bnd h).imp fun ts st1 vs H1 m1 rs1 _ r q=>⟨m1,env,st1,rs1,(Rn.bnd q).imp fun us st2 ws H2 m2 rs2 s2 r2 q2 => ?_⟩⟩
 exact k m2 env st2 ts us vs ws H2 rs2 (Rps.mov s2.toMov _ _ r) r2 q2
end
end Eg
set_option maxHeartbeats 2000000
namespace Eg
open PySem PySem.Spec PyProof.Rows L2
inductive O where
 | nx (env:Env) (st:Sto) | rt (t:T) (st:Sto) | bk (env:Env) (st:Sto) | ct (env:Env) (st:Sto) | exc (e:T) (env:Env) (st:Sto) | bad
def O.seq (o:O) (f:Env→Sto→O):O:=match o with
 | .nx env st=>f env st
 | .rt t st => .rt t st
 | .bk env st => .bk env st
 | .ct env st => .ct env st
 | .exc e env st => .exc e env st
 | .bad => .bad
def R.go {A:Type} (r:R A) (env:Env) (f:A→Sto→O):O:=match r with
 | .ok a st=>f a st
 | .exc e st => .exc e env st
 | .bad => .bad
abbrev Fs:=Env→Sto→O
section
variable {G:Gh} {W:WX} {D D':Ends} {m m1 m':Mm} {H H1 H':Hp} {o:O} {σ : L2.St} {env:Env} {st:Sto}
def Out (G:Gh) (W:WX) (D:Ends) (m:Mm) (H:Hp):O→Prop
 | .nx env st=>∀ σ' H' m',RS G m' env st σ' H'→Stp m H m' H'→D.nx σ' H'
 | .bk env st=>∀ σ' H' m',RS G m' env st σ' H'→Stp m H m' H'→D.bk σ' H'
 | .ct env st=>∀ σ' H' m',RS G m' env st σ' H'→Stp m H m' H'→D.ct σ' H'
 | .rt t st=>∀ v H' m',RSto G m' H' st→Stp m H m' H'→Rp G m' H' t v→D.rt v H'
 | .exc e env st=>∀ cls d σ' H' m',RS G m' env st σ' H'→Stp m H m' H'→ZdM G m' H' e cls d→W cls d σ' H'
 | .bad=>False
theorem Out.base(x:Stp m H m1 H1)(h:Out G W D m H o):Out G W D m1 H1 o:=by
 cases o with
 | nx env st=>exact fun σ' H' m' rs y=>h σ' H' m' rs (x.trans y)
 | bk env st=>exact fun σ' H' m' rs y=>h σ' H' m' rs (x.trans y)
 | ct env st=>exact fun σ' H' m' rs y=>h σ' H' m' rs (x.trans y)
 | rt t st=>exact fun v H' m' rs y=>h v H' m' rs (x.trans y)
 | exc e env st=>exact fun cls d σ' H' m' rs y=>h cls d σ' H' m' rs (x.trans y)
 | bad=>exact h
theorem Out.imp(h:Out G W D m H o)(n:∀ σ H,D.nx σ H→D'.nx σ H)(r:∀ v H,D.rt v H→D'.rt v H)(b:∀ σ H,D.bk σ H→D'.bk σ H)(c:∀ σ H,D.ct σ H→D'.ct σ H):Out G W D' m H o:=by
 cases o with
 | nx env st=>exact fun σ' H' m' rs y=>n _ _ (h σ' H' m' rs y)
 | bk env st=>exact fun σ' H' m' rs y=>b _ _ (h σ' H' m' rs y)
 | ct env st=>exact fun σ' H' m' rs y=>c _ _ (h σ' H' m' rs y)
 | rt t st=>exact fun v H' m' rs y q=>r _ _ (h v H' m' rs y q)
 | exc e env st=>exact h
 | bad=>exact h
def tS (G:Gh) (W:WX) (f:Fs):TS:=fun D σ H=>∃ m env st,RS G m env st σ H∧Out G W D m H (f env st)
theorem PS.imp{X:Cx}{e:Stmt}{t t':TS}(h:PS X e t)(k:∀ D σ H,t' D σ H→t D σ H):PS X e t':=⟨fun pins s σ H D I q=>h.run pins s σ H D I (k D σ H q)⟩
theorem PSs.imp{X:Cx}{e:List Stmt}{t t':TS}(h:PSs X e t)(k:∀ D σ H,t' D σ H→t D σ H):PSs X e t':=⟨fun pins s σ H D I q=>h.run pins s σ H D I (k D σ H q)⟩
theorem Out.seq{f:Fs}(h:Out G W D m H (o.seq f)):Out G W { D with nx:=tS G W f D } m H o:=by
 cases o with
 | nx env st=>exact fun σ' H' m' rs y=>⟨m',env,st,rs,Out.base y h⟩
 | bk env st=>exact h
 | ct env st=>exact h
 | rt t st=>exact h
 | exc e env st=>exact h
 | bad=>exact h
theorem Out.go{A B:Type}{rel:Mm→Hp→A→B→Prop}{r:R A}{f:A→Sto→O}(h:Out G W D m H (r.go env f)):Rn G W σ env rel m H r fun a st' _ H' m'=>Out G W D m' H' (f a st'):=by
 cases r with
 | ok a s=>exact fun b H' m' rs y q=>Out.base y h
 | exc e s=>exact fun cls d H' m' rs y q=>h cls d σ H' m' rs y q
 | bad=>exact h
theorem go1{fa:Env→Sto→R T}{g:Env→T→Sto→O}{P:V→Hp→Prop}(h:tS G W (fun env st=>(fa env st).go env fun t st1=>g env t st1) D σ H)
  (k:∀ m env st t v H1,RS G m env st σ H1→Rp G m H1 t v→Out G W D m H1 (g env t st)→P v H1):tE G W fa σ H P:=by
 obtain⟨m,env,st,rs,h⟩:=h
 exact⟨m,env,st,rs,(Out.go h).imp fun a st' b H' m' rs' _ r q=>k m' env st' a b H' rs' r q⟩
end
section
variable {X:Cx} {G:Gh} {W:WX} {f g:Fs} {fa fb:Env→Sto→R T} {fs:Env→Sto→R (List T)} {a b e:Expr} {s1:Stmt} {rest:List Stmt} {pos:Pos}
def fNx:Fs:=fun env st => .nx env st
theorem S_nil:PSs X [] (tS G W fNx):=PSs.imp pss_nil fun D σ H ⟨m,env,st,rs,h⟩=>h σ H m rs (Stp.refl m H)
theorem Zj7(h1:PS X s1 (tS G W f))(h2:PSs X rest (tS G W g)):PSs X (s1 :: rest) (tS G W fun env st=>(f env st).seq g) :=
 PSs.imp (pss_cons h1 h2) fun D σ H ⟨m,env,st,rs,h⟩=>⟨m,env,st,rs,Out.seq h⟩
theorem Zix:PS X (.Pass pos) (tS G W fNx):=PS.imp ps_pass fun D σ H ⟨m,env,st,rs,h⟩=>h σ H m rs (Stp.refl m H)
theorem ZhB:PS X (.Break pos) (tS G W fun env st => .bk env st):=PS.imp ps_break fun D σ H ⟨m,env,st,rs,h⟩=>h σ H m rs (Stp.refl m H)
theorem ZiA:PS X (.Continue pos) (tS G W fun env st => .ct env st):=PS.imp ps_continue fun D σ H ⟨m,env,st,rs,h⟩=>h σ H m rs (Stp.refl m H)
theorem S_doc{x j p2}:PS X (.Expr (.Constant (.str x) j pos) p2) (tS G W fNx):=PS.imp ps_doc fun D σ H ⟨m,env,st,rs,h⟩=>h σ H m rs (Stp.refl m H)
def fExp (fa:Env→Sto→R T):Fs:=fun env st=>(fa env st).go env fun _ st1 => .nx env st1
theorem ZiV(he:PE X e (tE G W fa))(hs:swapsWith e none pos.line X.env=pure false):PS X (.Expr e pos) (tS G W (fExp fa)):=by
 refine PS.imp (ps_expr he hs) fun D σ H h => ?_
 refine go1 (g:=fun env _ st1 => .nx env st1) h fun m env st t v H1 rs r q=>q σ H1 m rs (Stp.refl m H1)
def fRet (fa:Env→Sto→R T):Fs:=fun env st=>(fa env st).go env fun t st1 => .rt t st1
theorem S_ret(he:PE X e (tE G W fa)):PS X (.Return (some e) pos) (tS G W (fRet fa)):=by
 refine PS.imp (ps_ret he) fun D σ H h => ?_
 refine go1 (g:=fun _ t st1 => .rt t st1) h fun m env st t v H1 rs r q=>q v H1 m rs.sto (Stp.refl m H1) r
theorem ZiP:PS X (.Return none pos) (tS G W fun _ st => .rt .non st):=PS.imp ps_retN fun D σ H ⟨m,env,st,rs,h⟩=>h .non H m rs.sto (Stp.refl m H) rfl
def fIf (fc:Env→Sto→R T) (f g:Fs):Fs:=fun env st=>(fc env st).go env fun t st1=>match t with
 | .bl true=>f env st1
 | .bl false=>g env st1
 | _ => .bad
theorem S_if{c:Expr}{x y:List Stmt}(hc:PT X c (tTest (tE G W fa)))(hx:PSs X x (tS G W f))(hy:PSs X y (tS G W g)):PS X (.If c x y pos) (tS G W (fIf fa f g)):=by
 refine PS.imp (ps_if hc hx hy) fun D σ H h => ?_
 show tE G W fa σ H fun v H1=>∃ k,v = .bl k∧(if k=true then tS G W f D σ H1 else tS G W g D σ H1)
 refine go1 (g:=fun env t st1=>match t with
  | .bl true=>f env st1
  | .bl false=>g env st1
  | _ => .bad) h fun m env st t v H1 rs r q => ?_
 cases t with
 | bl k =>
  cases k with
  | true=>exact⟨true,r,by rw[if_pos rfl];exact⟨m,env,st,rs,q⟩⟩
  | false=>exact⟨false,r,by rw[if_neg (by decide)];exact⟨m,env,st,rs,q⟩⟩
 | _=>exact q.elim
abbrev Ft:=T→Env→Sto→O
def Z2y (G:Gh) (W:WX) (Q:L2.St→Hp→Prop) (m:Mm) (H:Hp):O→Prop
 | .nx env st=>∀ σ' H' m',RS G m' env st σ' H'→Stp m H m' H'→Q σ' H'
 | .exc e env st=>∀ cls d σ' H' m',RS G m' env st σ' H'→Stp m H m' H'→ZdM G m' H' e cls d→W cls d σ' H'
 | _=>False
theorem Z2y.base{Q:L2.St→Hp→Prop}{m m1:Mm}{H H1:Hp}{o:O}(x:Stp m H m1 H1)(h:Z2y G W Q m H o):Z2y G W Q m1 H1 o:=by
 cases o with
 | nx env st=>exact fun σ' H' m' rs y=>h σ' H' m' rs (x.trans y)
 | exc e env st=>exact fun cls d σ' H' m' rs y=>h cls d σ' H' m' rs (x.trans y)
 | _=>exact h
theorem Z2y.go{A B:Type}{rel:Mm→Hp→A→B→Prop}{Q:L2.St→Hp→Prop}{m:Mm}{H:Hp}{σ : L2.St}{env:Env}{r:R A}{f:A→Sto→O}(h:Z2y G W Q m H (r.go env f)) :
  Rn G W σ env rel m H r fun a st' _ H' m'=>Z2y G W Q m' H' (f a st'):=by
 cases r with
 | ok a s=>exact fun b H' m' rs y q=>Z2y.base y h
 | exc e s=>exact fun cls d H' m' rs y q=>h cls d σ H' m' rs y q
 | bad=>exact h
def tT (G:Gh) (W:WX) (f:Ft):TG:=fun v σ H Q=>∃ m env st t,RS G m env st σ H∧Rp G m H t v∧Z2y G W Q m H (f t env st)
def tTs (G:Gh) (W:WX) (f:List T→Env→Sto→O):TGs:=fun vs σ H Q=>∃ m env st ts,RS G m env st σ H∧Rps G m H ts vs∧Z2y G W Q m H (f ts env st)
def fG (g:IG):Ft:=fun t env st=>match g.set t env with
 | some env' => .nx env' st
 | none => .bad
theorem T_g{g:IG}(h:PG X e (tG G g)):PG X e (tT G W (fG g)):=by
 refine PG.imp h fun v σ H Q ⟨m,env,st,t,rs,r,q⟩ => ?_
 unfold fG at q
 cases eg:g.set t env with
 | none=>rw[eg] at q;exact q.elim
 | some env'=>rw[eg] at q;exact⟨m,env,st,t,env',rs,r,eg,fun σ' rs' _ _=>q σ' H m rs' (Stp.refl m H)⟩
theorem RSto.setc{m:Mm}{H:Hp}{st:Sto}{l:Nat}{a:Addr}{vs:List V}{ts:List T}(s:RSto G m H st)(e:m.as[l]? = some a)(r:Rps G m H ts vs):RSto G m (L2.upd H a (.lst vs)) (st.set l (.lst ts))∧Stp m H m (L2.upd H a (.lst vs)):=by
 have ha:a∈m.as:=List.mem_of_getElem? e
 have S:Stp m H m (L2.upd H a (.lst vs)):=⟨⟨fun b o h _ hn=>by
  have hne:b≠a:=fun z=>hn (by rw[z];exact ha)
  rw[upd_ne hne];exact h,fun _ _ h=>Z3o h,fun _ h => .inl h,fun _ h => .inl (.inr h),⟨[],by simp⟩⟩,rfl⟩
 refine⟨⟨s.nd,s.fd,by rw[List.length_set];exact s.len,fun i b c h1 h2 => ?_,fun b h => ?_,s.tabs ha⟩,S⟩
 ·by_cases hi:i=l
  ·subst hi
   rw[e] at h1
   cases h1
   have hl:i < st.length:=by rw[← s.len];exact(List.getElem?_eq_some_iff.mp e).1
   rw[List.getElem?_set_self hl] at h2
   cases h2
   exact⟨vs,upd_same,Rps.mov S.toMov _ _ r⟩
  ·rw[List.getElem?_set_ne (Ne.symm hi)] at h2
   have hne:b≠a:=fun z=>by
    subst z
    exact hi ((List.getElem?_inj (List.getElem?_eq_some_iff.mp h1).1 s.nd).mp (h1.trans e.symm))
   exact Z1m.mov S.toMov (upd_ne hne) (s.cell i b c h1 h2)
 ·have hne:b≠a:=fun z=>s.fd a ha (z ▸ h)
  rw[upd_ne hne]
  exact s.foS b h
theorem Rps.setAt{m:Mm}{H:Hp}{t:T}{v:V}(h:Rp G m H t v):∀ {ts:List T} {vs:List V} (j:Nat),Rps G m H ts vs→Rps G m H (ts.set j t) (vs.set j v)
 | [],_,_,r=>by cases (show _=_ from r);exact rfl
 | x :: ts,_,0,⟨w,r,e,h1,q⟩=>by subst e;exact⟨v,r,rfl,h,q⟩
 | x :: ts,_,j+1,⟨w,r,e,h1,q⟩=>by subst e;exact⟨w,r.set j v,rfl,h1,Rps.setAt h j q⟩
def Z8a (st:Sto):T→Option (Nat × List T)
 | .loc l=>match st[l]? with
  | some (.lst xs)=>some (l,xs)
  | _=>none
 | _=>none
theorem Zh3{m:Mm}{H:Hp}{st:Sto}{t:T}{v:V}{l:Nat}{xs:List T}(s:RSto G m H st)(r:Rp G m H t v)(e:Z8a st t=some (l,xs)):∃ a vs,v = .ref a∧m.as[l]? = some a∧H a=some (.lst vs)∧Rps G m H xs vs:=by
 cases t with
 | loc k =>
  obtain⟨a,e1,h⟩:=r
  have e:(match st[k]? with
   | some (.lst xs)=>some (k,xs)
   | _=>none)=some (l,xs):=e
  cases e2:st[k]? with
  | none=>rw[e2] at e;cases e
  | some c =>
   cases c with
   | ins c ys=>rw[e2] at e;cases e
   | dt ys=>rw[e2] at e;cases e
   | dk ys=>rw[e2] at e;cases e
   | dn ys=>rw[e2] at e;cases e
   | lst ys =>
    rw[e2] at e
    cases e
    obtain⟨vs,h1,q⟩:=s.cell _ a _ h e2
    exact⟨a,vs,e1,h,h1,q⟩
 | _=>cases e
def fSub (fa fb:Env→Sto→R T):Ft:=fun t env st=>(fa env st).go env fun x st1=>(fb env st1).go env fun y st2=>match Z8a st2 x,y with
 | some (l,xs), .int k=>match ixN xs.length k with
  | some j => .nx env (st2.set l (.lst (xs.set j t)))
  | none => .bad
 | _,_ => .bad
theorem T_sub(ha:PE X a (tE G W fa))(hb:PE X b (tE G W fb))(hx:∀ v,assign (.Subscript a b pos) X.env v=(do
   let ov ← holding [v] (eval a X.env)
   let iv ← holding [v,ov] (eval b X.env)
   standAt pos
   holding [v,ov,iv] (setItem ov iv v)
   release [v,ov,iv] [])):PG X (.Subscript a b pos) (tT G W (fSub fa fb)):=by
 refine PG.imp (pg_sub ha hb set_list hx) fun v σ H Q ⟨m,env,st,t,rs,r,h⟩ => ?_
 refine⟨m,env,st,rs,(Z2y.go h).imp fun x st1 xv H1 m1 rs1 S1 r1 h=>⟨m1,env,st1,rs1,(Z2y.go h).imp fun y st2 yv H2 m2 rs2 S2 r2 h => ?_⟩⟩
 cases e1:Z8a st2 x with
 | none=>rw[e1] at h;exact h.elim
 | some p =>
  obtain⟨l,xs⟩:=p
  cases y with
  | int k =>
   cases (show yv=_ from r2)
   cases e2:ixN xs.length k with
   | none=>rw[e1] at h;simp only[e2] at h;exact h.elim
   | some j =>
    rw[e1] at h
    simp only[e2] at h
    obtain⟨p,vs,rfl,hp,hH,rq⟩:=Zh3 rs2.sto (Rp.mov S2.toMov _ _ r1) e1
    refine⟨p,vs,k,j,rfl,rfl,hH,by rw[← rq.length];exact e2, ?_⟩
    have rt:Rp G m2 H2 t v:=Rp.mov S2.toMov _ _ (Rp.mov S1.toMov _ _ r)
    obtain⟨s3,S3⟩:=rs2.sto.setc hp (rq.setAt rt j)
    exact h σ _ m2 ⟨rs2.env.mov S3.toMov,s3⟩ S3
  | _=>rw[e1] at h;exact h.elim
def fNo:List T→Env→Sto→O:=fun ts env st=>match ts with
 | [] => .nx env st
 | _ => .bad
def fCo (f:Ft) (g:List T→Env→Sto→O):List T→Env→Sto→O:=fun ts env st=>match ts with
 | t :: ts=>(f t env st).seq fun env1 st1=>g ts env1 st1
 | [] => .bad
def fTu (n:Nat) (g:List T→Env→Sto→O):Ft:=fun t env st=>match t with
 | .tup ts=>if ts.length=n then g ts env st else .bad
 | _ => .bad
theorem T_no:PGs X [] (tTs G W fNo):=PGs.imp pgs_nil fun vs σ H Q ⟨m,env,st,ts,rs,r,h⟩=>by
 cases ts with
 | nil=>exact⟨r,h σ H m rs (Stp.refl m H)⟩
 | cons t ts=>exact h.elim
theorem T_co{es:List Expr}{ft:Ft}{gt:List T→Env→Sto→O}(h1:PG X e (tT G W ft))(h2:PGs X es (tTs G W gt))(hs:(assignEach (e :: es) X.env).map (·.2)=assign e X.env :: (assignEach es X.env).map (·.2)):PGs X (e :: es) (tTs G W (fCo ft gt)):=by
 refine PGs.imp (pgs_cons h1 h2 hs) fun vs σ H Q ⟨m,env,st,ts,rs,r,h⟩ => ?_
 cases ts with
 | nil=>exact h.elim
 | cons t ts =>
  obtain⟨v,w,rfl,r1,r2⟩:=r
  refine⟨v,w,rfl,m,env,st,t,rs,r1, ?_⟩
  have h:Z2y G W Q m H ((ft t env st).seq fun env1 st1=>gt ts env1 st1):=h
  cases eo:ft t env st with
  | nx env1 st1 =>
   rw[eo] at h
   exact fun σ1 H1 m1 rs1 S1=>⟨m1,env1,st1,ts,rs1,Rps.mov S1.toMov _ _ r2,Z2y.base S1 h⟩
  | exc e1 env1 st1=>rw[eo] at h;exact h
  | _=>rw[eo] at h;exact h.elim
theorem T_tu{es:List Expr}{k n:Nat}{gt:List T→Env→Sto→O}(hc:X.calm=true)(h:PGs X es (tTs G W gt))(hn:(assignEach es X.env).length=n)(hst:(assignEach es X.env).findIdx? (·.1)=none):PG X (.Tuple es k pos) (tT G W (fTu n gt)):=by
 refine PG.imp (pg_tup hc h hn hst) fun v σ H Q ⟨m,env,st,t,rs,r,h⟩ => ?_
 cases t with
 | tup ts =>
  obtain⟨p,vs,rfl,hp,rr⟩:=r
  have h:Z2y G W Q m H (if ts.length=n then gt ts env st else .bad):=h
  by_cases hl:ts.length=n
  ·rw[if_pos hl] at h
   exact⟨p,vs,rfl, .inl (.inl hp.2),by rw[← rr.length];exact hl,m,env,st,ts,rs,rr,h⟩
  ·rw[if_neg hl] at h;exact h.elim
 | _=>exact h.elim
def Zfu (fa:Env→Sto→R T) (ft:Ft):Fs:=fun env st=>(fa env st).go env fun t st1=>match ft t env st1 with
 | .nx env' st' => .nx env' st'
 | .exc e env' st' => .exc e env' st'
 | _ => .bad
theorem Z2y.of{D:Ends}{m:Mm}{H:Hp}{o:O}(h:Out G W D m H (match o with
 | .nx env' st' => .nx env' st'
 | .exc e env' st' => .exc e env' st'
 | _ => .bad)):Z2y G W D.nx m H o:=by cases o <;> exact h
theorem Z8w{ft:Ft}{D:Ends}{σ : L2.St}{H:Hp}(h:tS G W (Zfu fa ft) D σ H):tAsg (tE G W fa) (tT G W ft) D σ H:=by
 show tE G W fa σ H fun v H1=>tT G W ft v σ H1 D.nx
 refine go1 (g:=fun env t st1=>match ft t env st1 with
  | .nx env' st' => .nx env' st'
  | .exc e env' st' => .exc e env' st'
  | _ => .bad) h fun m env st t v H1 rs r q=>⟨m,env,st,t,rs,r,Z2y.of q⟩
theorem S_asg{ft:Ft}{tg:Expr}(he:PE X e (tE G W fa))(hg:PG X tg (tT G W ft))(hs:swapsWithSole [tg] e pos.line X.env=pure false)(hw:swappedStores [tg] e X.env=pure none)
  (h1:(assignEach [tg] X.env).map (·.2)=[assign tg X.env]):PS X (.Assign [tg] e pos) (tS G W (Zfu fa ft)):=PS.imp (ps_asg he hg hs hw h1) fun D σ H h=>Z8w h
def ZfE (i j:Nat) (fs:Env→Sto→R (List T)):Fs:=fun env st=>(fs env st).go env fun ts st1=>match ts with
 | [t,u]=>if i < env.length∧j < env.length then .nx ((env.set i (some t)).set j (some u)) st1 else .bad
 | _ => .bad
def Zh7 (i j l:Nat) (fs:Env→Sto→R (List T)):Fs:=fun env st=>(fs env st).go env fun ts st1=>match ts with
 | [t,u,w]=>if i < env.length∧j < env.length∧l < env.length then .nx (((env.set i (some t)).set j (some u)).set l (some w)) st1 else .bad
 | _ => .bad
theorem goA{D:Ends}{σ : L2.St}{H:Hp}{g:Env→List T→Sto→O}{P:List V→Hp→Prop}(h:tS G W (fun env st=>(fs env st).go env fun t st1=>g env t st1) D σ H)
  (k:∀ m env st t v H1,RS G m env st σ H1→Rps G m H1 t v→Out G W D m H1 (g env t st)→P v H1):tA G W fs σ H P:=by
 obtain⟨m,env,st,rs,h⟩:=h
 exact⟨m,env,st,rs,(Out.go h).imp fun a st' b H' m' rs' _ r q=>k m' env st' a b H' rs' r q⟩
theorem Zgz{i j:Nat}{D:Ends}{σ : L2.St}{H:Hp}(h:tS G W (ZfE i j fs) D σ H):tPar i j (tA G W fs) D σ H:=by
 refine goA (g:=fun env ts st1=>match ts with
  | [t,u]=>if i < env.length∧j < env.length then .nx ((env.set i (some t)).set j (some u)) st1 else .bad
  | _ => .bad) h fun m env st ts vs H1 rs r q => ?_
 match ts,r,q with
 | [t,u],r,q =>
  obtain⟨v,w,rfl,h1,h2⟩:=Zas r
  have q:Out G W D m H1 (if i < env.length∧j < env.length then .nx ((env.set i (some t)).set j (some u)) st else .bad):=q
  by_cases c:i < env.length∧j < env.length
  ·rw[if_pos c] at q
   exact⟨v,w,rfl,q _ H1 m ((rs.set c.1 h1).set (by rw[List.length_set];exact c.2) h2) (Stp.refl m H1)⟩
  ·rw[if_neg c] at q;exact q.elim
 | [],_,q=>exact q.elim
 | [_],_,q=>exact q.elim
 | _ :: _ :: _ :: _,_,q=>exact q.elim
theorem Zh0{i j l:Nat}{D:Ends}{σ : L2.St}{H:Hp}(h:tS G W (Zh7 i j l fs) D σ H):tPar3 i j l (tA G W fs) D σ H:=by
 refine goA (g:=fun env ts st1=>match ts with
  | [t,u,w]=>if i < env.length∧j < env.length∧l < env.length then .nx (((env.set i (some t)).set j (some u)).set l (some w)) st1 else .bad
  | _ => .bad) h fun m env st ts vs H1 rs r q => ?_
 match ts,r,q with
 | [t,u,w],r,q =>
  obtain⟨v1,x,rfl,h1,r⟩:=r
  obtain⟨v2,v3,rfl,h2,h3⟩:=Zas r
  have q:Out G W D m H1 (if i < env.length∧j < env.length∧l < env.length then .nx (((env.set i (some t)).set j (some u)).set l (some w)) st else .bad):=q
  by_cases c:i < env.length∧j < env.length∧l < env.length
  ·rw[if_pos c] at q
   exact⟨v1,v2,v3,rfl,q _ H1 m (((rs.set c.1 h1).set (by rw[List.length_set];exact c.2.1) h2).set (by rw[List.length_set,List.length_set];exact c.2.2) h3) (Stp.refl m H1)⟩
  ·rw[if_neg c] at q;exact q.elim
 | [],_,q=>exact q.elim
 | [_],_,q=>exact q.elim
 | [_,_],_,q=>exact q.elim
 | _ :: _ :: _ :: _ :: _,_,q=>exact q.elim
end
end Eg
set_option maxHeartbeats 2000000
namespace Eg
open PySem PySem.Spec PyProof.Rows L2
mutual
inductive RdE (h:Heap):Value→PyData→Prop
 | non:RdE h .none .none
 | bl (b:Bool):RdE h (.bool b) (.bool b)
 | int (i:Int) (t:Tok):RdE h (.int i t) (.int i)
 | str (x:Str) (t:Tok):RdE h (.str x t) (.str x)
 | lst {a:Addr} {o:Obj} {vs:Array Value} {n:Nat} {xs:List PyData}:h.get? a=some o→o.cls = .type "list" → o.data = .seq vs n→RdEs h vs.toList xs→RdE h (.ref a) (.list xs)
 | tup {a:Addr} {o:Obj} {vs:Array Value} {n:Nat} {xs:List PyData}:h.get? a=some o→o.cls = .type "tuple" → o.data = .seq vs n→RdEs h vs.toList xs→RdE h (.ref a) (.tuple xs)
 | ed {a:Addr} {o:Obj} {es:Array DictEntry} {n:Nat}:h.get? a=some o→o.cls = .type "dict" → o.data = .dict es n→es.toList=[]→(a == sysModules)=false→RdE h (.ref a) (.dict [])
 | d1 {a:Addr} {o:Obj} {es:Array DictEntry} {n:Nat} {k:Str} {tk:Tok} {hs:Int} {v:Value} {d:PyData}:h.get? a=some o→o.cls = .type "dict" → o.data = .dict es n→es.toList=[{ hash:=hs,key := .str k tk,val:=v }]→(a == sysModules)=false→RdE h v d→RdE h (.ref a) (.dict [(.str k,d)])
inductive RdEs (h:Heap):List Value→List PyData→Prop
 | nil:RdEs h [] []
 | cons {v:Value} {vs:List Value} {d:PyData} {ds:List PyData}:RdE h v d→RdEs h vs ds→RdEs h (v :: vs) (d :: ds)
end
mutual
theorem RdE.reads{h:Heap}:∀ {v:Value} {d:PyData},RdE h v d→∃ as,Reads h v d as
 | _,_, .non=>⟨_, .none⟩
 | _,_, .bl b=>⟨_, .bool b⟩
 | _,_, .int i t=>⟨_, .int i t⟩
 | _,_, .str x t=>⟨_, .str x t⟩
 | _,_, .lst h1 h2 h3 h4=>let ⟨_,r⟩:=RdEs.reads h4; ⟨_, .list h1 h2 h3 r⟩
 | _,_, .tup h1 h2 h3 h4=>let ⟨_,r⟩:=RdEs.reads h4; ⟨_, .tuple h1 h2 h3 r⟩
 | _,_, .ed h1 h2 h3 h4 _=>⟨_, .dict h1 h2 h3 (by rw[h4];exact .nil) (by rw[h4];exact .nil)⟩
 | _,_, .d1 h1 h2 h3 h4 _ r=>let ⟨_,q⟩:=RdE.reads r; ⟨_, .dict h1 h2 h3 (by rw[h4];exact .cons (.str _ _) .nil) (by rw[h4];exact .cons q .nil)⟩
theorem RdEs.reads{h:Heap}:∀ {vs:List Value} {ds:List PyData},RdEs h vs ds→∃ as,ReadsAll h vs ds as
 | _,_, .nil=>⟨_, .nil⟩
 | _,_, .cons r q=>let ⟨_,r1⟩:=RdE.reads r;let ⟨_,q1⟩:=RdEs.reads q; ⟨_, .cons r1 q1⟩
end
theorem Zg1{k:Str}{d:PyData}(z:(PyData.dict [(.str k,d)]).shown.length≤sizeLine):(PyData.str k).shown.length≤sizeLine∧d.shown.length≤sizeLine:=by
 simp only[PyData.shown,PyData.shownKv] at z
 have h:=piled_le_dictText [(PyData.str k).shown ++ ": " ++ d.shown]
 simp only[PyData.shown] at h
 rw[piled_cons,piled_nil,strLen_append,strLen_append] at h
 simp only[PyData.shown]
 omega
section
variable {prog:Program} {w:World} {h:Heap}
mutual
theorem RdE.rep:∀ {v:Value} {d:PyData},RdE h v d→d.showable=true→d.shown.length≤sizeLine→∃ cs,ReadAtMost h d.depth cs∧ReprK prog w cs h d.depth v d.shown
 | _,_, .non,_,_=>⟨[],nofun,by simp only[PyData.shown];exact ReprK.of_is ReprIs.none [] h _⟩
 | _,_, .bl b,_,_=>⟨[],nofun,by simp only[PyData.shown];exact ReprK.of_is (ReprIs.bool b) [] h _⟩
 | _,_, .int i t,hs,_=>⟨[],nofun,by simp only[PyData.shown];exact ReprK.of_is (ReprIs.int t (by simpa [PyData.showable] using hs)) [] h _⟩
 | _,_, .str x t,_,z=>⟨[],nofun,by simp only[PyData.shown];exact ReprK.of_is (ReprIs.str x t (by simpa only [PyData.shown] using z)) [] h _⟩
 | _,_, .lst (a:=a) (vs:=vs) (xs:=xs) h1 h2 h3 h4,hs,z=>by
  have z1:(listText (PyData.shownAll xs)).length≤sizeLine:=by simpa only [PyData.shown] using z
  obtain⟨cs,m,k⟩:=RdEs.rep h4 (by simpa [PyData.showable] using hs) fun t ht=>Nat.le_trans (listText_mem_le ht) z1
  obtain⟨as,r⟩:=RdE.reads (.lst h1 h2 h3 h4)
  have na:a ∉ cs:=not_mem_of_deeper r (by simp only[PyData.depth];omega) m
  refine⟨a :: cs,ReadAtMost.cons r (by simp only[PyData.depth];omega) m, ?_⟩
  simp only[PyData.depth,PyData.shown]
  obtain⟨l⟩:=vs
  cases l with
  | nil =>
   have h5:RdEs h [] xs:=h4
   cases h5
   simp only[PyData.shownAll,listText_nil]
   exact ReprK.listEmpty h1 h2 h3
  | cons x l=>exact ReprK.list h1 h2 h3 na (by have:=k.length_eq;simpa using this) fun i y e=>k.item i y (by simpa using e)
 | _,_, .tup (a:=a) (xs:=xs) h1 h2 h3 h4,hs,z=>by
  have z1:(tupleText (PyData.shownAll xs)).length≤sizeLine:=by simpa only [PyData.shown] using z
  obtain⟨cs,m,k⟩:=RdEs.rep h4 (by simpa [PyData.showable] using hs) fun t ht=>Nat.le_trans (tupleText_mem_le ht) z1
  obtain⟨as,r⟩:=RdE.reads (.tup h1 h2 h3 h4)
  have na:a ∉ cs:=not_mem_of_deeper r (by simp only[PyData.depth];omega) m
  refine⟨a :: cs,ReadAtMost.cons r (by simp only[PyData.depth];omega) m, ?_⟩
  simp only[PyData.depth,PyData.shown]
  exact ReprK.tuple h1 h2 h3 na k
 | _,_, .ed (a:=a) (es:=es) h1 h2 h3 h4 h5,_,_=>by
  obtain⟨as,r⟩:=RdE.reads (.ed h1 h2 h3 h4 h5)
  have m:ReadAtMost h (PyData.depthKv []) []:=nofun
  refine⟨[a],ReadAtMost.cons r (by simp only[PyData.depth];omega) m, ?_⟩
  simp only[PyData.depth,PyData.shown,PyData.shownKv]
  exact ReprK.dict h1 h2 h3 h5 (by simp) (by rw[h4];exact .nil)
 | _,_, .d1 (a:=a) (es:=es) (k:=k) (tk:=tk) (d:=d) h1 h2 h3 h4 h5 q,hs,z=>by
  have hs2:d.showable=true:=by simpa [PyData.showable,PyData.showableKv] using hs
  obtain⟨z1,z2⟩:=Zg1 z
  obtain⟨cs,m,kk⟩:=RdE.rep q hs2 z2
  obtain⟨as,r⟩:=RdE.reads (.d1 h1 h2 h3 h4 h5 q)
  have m:ReadAtMost h (PyData.depthKv [(.str k,d)]) cs:=fun b hb=>by
   obtain⟨e,as,r1,l⟩:=m b hb
   exact⟨e,as,r1,by simp only[PyData.depthKv,PyData.depth];omega⟩
  have na:a ∉ cs:=not_mem_of_deeper r (by simp only[PyData.depth];omega) m
  refine⟨a :: cs,ReadAtMost.cons r (by simp only[PyData.depth];omega) m, ?_⟩
  simp only[PyData.depth,PyData.shown,PyData.shownKv]
  refine ReprK.dict h1 h2 h3 h5 na ?_
  rw[h4]
  exact .cons (ReprK.of_is (ReprIs.str k tk z1) _ _ _) (ReprK.level_le kk (by simp only[PyData.depthKv,PyData.depth];omega)) .nil
theorem RdEs.rep:∀ {vs:List Value} {ds:List PyData},RdEs h vs ds→PyData.showableAll ds=true→(∀ t∈PyData.shownAll ds,t.length≤sizeLine)→∃ cs,ReadAtMost h (PyData.depthAll ds) cs∧ReprAllK prog w cs h (PyData.depthAll ds) vs (PyData.shownAll ds)
 | _,_, .nil,_,_=>⟨[],nofun,by simp only[PyData.shownAll];exact .nil⟩
 | _,_, .cons (d:=d) (ds:=ds) r q,hs,z=>by
  have hs2:d.showable=true∧PyData.showableAll ds=true:=by simpa [PyData.showableAll] using hs
  obtain⟨c1,m1,k1⟩:=RdE.rep r hs2.1 (z _ (by simp only[PyData.shownAll];exact List.mem_cons_self))
  obtain⟨c2,m2,k2⟩:=RdEs.rep q hs2.2 fun t ht=>z t (by simp only[PyData.shownAll];exact List.mem_cons_of_mem _ ht)
  refine⟨c1++c2,fun b hb => ?_, ?_⟩
  ·simp only[PyData.depthAll]
   rcases List.mem_append.mp hb with hb | hb
   ·obtain⟨e,as,r1,l⟩:=m1 b hb
    exact⟨e,as,r1,by omega⟩
   ·obtain⟨e,as,r1,l⟩:=m2 b hb
    exact⟨e,as,r1,by omega⟩
  ·simp only[PyData.depthAll,PyData.shownAll]
   exact .cons (ReprK.level_le (ReprK.more k1 fun b hb=>List.mem_append_left _ hb) (by omega)) (ReprAllK.more_le (fun b hb=>List.mem_append_right _ hb) (by omega) k2)
end
theorem RdE.shows{a:Addr}{d:PyData}(r:RdE h (.ref a) d)(hs:d.showable=true)(z:d.shown.length≤sizeLine):∃ T idr,ShowsBy prog w h a d T idr:=by
 cases r with
 | lst h1 h2 h3 h4 =>
  rename_i o vs n xs
  have z1:(listText (PyData.shownAll xs)).length≤sizeLine:=by simpa only [PyData.shown] using z
  obtain⟨cs,m,k⟩:=RdEs.rep (prog:=prog) (w:=w) h4 (by simpa [PyData.showable] using hs) fun t ht=>Nat.le_trans (listText_mem_le ht) z1
  obtain⟨as,r⟩:=RdE.reads (.lst h1 h2 h3 h4)
  have na:a ∉ cs:=not_mem_of_deeper r (by simp only[PyData.depth];omega) m
  refine⟨"list", "list.__repr__",F.slot_list_repr.toG,F.slot_list_str,F.slot_list_format,fun s k0=>⟨o,k0 _ _ h1,h2⟩,fun A E s Q g u k0 q => ?_⟩
  simp only[PyData.depth] at u
  simp only[PyData.shown] at q
  obtain⟨l⟩:=vs
  cases l with
  | nil =>
   have h5:RdEs h [] xs:=h4
   cases h5
   simp only[PyData.shownAll,listText_nil] at q
   exact call_list_repr_empty ⟨o,k0 _ _ h1,h2⟩ (k0 _ _ h1) h3 (q s.heap _ _ fun _ _ e=>e)
  | cons x l=>exact call_list_reprK h1 h2 h3 na (by have:=k.length_eq;simpa using this) (fun i y e=>k.item i y (by simpa using e)) g (fun b _=>Clear.nil b) u k0 q z1
 | tup h1 h2 h3 h4 =>
  rename_i o vs n xs
  have z1:(tupleText (PyData.shownAll xs)).length≤sizeLine:=by simpa only [PyData.shown] using z
  obtain⟨cs,m,k⟩:=RdEs.rep (prog:=prog) (w:=w) h4 (by simpa [PyData.showable] using hs) fun t ht=>Nat.le_trans (tupleText_mem_le ht) z1
  obtain⟨as,r⟩:=RdE.reads (.tup h1 h2 h3 h4)
  have na:a ∉ cs:=not_mem_of_deeper r (by simp only[PyData.depth];omega) m
  refine⟨"tuple", "tuple.__repr__",F.slot_tuple_repr,F.slot_tuple_str,F.slot_tuple_format,fun s k0=>⟨o,k0 _ _ h1,h2⟩,fun A E s Q g u k0 q => ?_⟩
  simp only[PyData.depth] at u
  simp only[PyData.shown] at q
  exact call_tuple_reprK h1 h2 h3 na k g (fun b _=>Clear.nil b) u k0 q z1
 | ed h1 h2 h3 h4 h5 =>
  rename_i o es n
  refine⟨"dict", "dict.__repr__",F.slot_dict_repr,F.slot_dict_str,F.slot_dict_format,fun s k0=>⟨o,k0 _ _ h1,h2⟩,fun A E s Q g u k0 q => ?_⟩
  simp only[PyData.depth,PyData.depthKv] at u
  simp only[PyData.shown,PyData.shownKv] at q
  exact call_dict_reprK (as:=[]) (d:=0) h1 h2 h3 h5 (by simp) (by rw[h4];exact .nil) g (fun b _=>Clear.nil b) u k0 q (by simpa only [PyData.shown,PyData.shownKv] using z)
 | d1 h1 h2 h3 h4 h5 rv =>
  rename_i o es n k tk hsh v d
  have hs2:d.showable=true:=by simpa [PyData.showable,PyData.showableKv] using hs
  obtain⟨z1,z2⟩:=Zg1 z
  obtain⟨cs,m,kk⟩:=RdE.rep (prog:=prog) (w:=w) rv hs2 z2
  obtain⟨as,r⟩:=RdE.reads (.d1 h1 h2 h3 h4 h5 rv)
  have m:ReadAtMost h (PyData.depthKv [(.str k,d)]) cs:=fun b hb=>by
   obtain⟨e,as,r1,l⟩:=m b hb
   exact⟨e,as,r1,by simp only[PyData.depthKv,PyData.depth];omega⟩
  have na:a ∉ cs:=not_mem_of_deeper r (by simp only[PyData.depth];omega) m
  refine⟨"dict", "dict.__repr__",F.slot_dict_repr,F.slot_dict_str,F.slot_dict_format,fun s k0=>⟨o,k0 _ _ h1,h2⟩,fun A E s Q g u k0 q => ?_⟩
  simp only[PyData.depth] at u
  simp only[PyData.shown,PyData.shownKv] at q
  exact call_dict_reprK (d:=PyData.depthKv [(.str k,d)]) h1 h2 h3 h5 na (by rw[h4];exact .cons (ReprK.of_is (ReprIs.str k tk z1) _ _ _) (ReprK.level_le kk (by simp only[PyData.depthKv,PyData.depth];omega)) .nil) g (fun b _=>Clear.nil b) u k0 q (by simpa only [PyData.shown,PyData.shownKv] using z)
theorem RdE.repr_ref{A:Around}{E:Value→Shared→Prop}{s:Shared}{Q:Value→Shared→Prop}{a:Addr}{d:PyData}(r:RdE s.heap (.ref a) d)(hs:d.showable=true)(z:d.shown.length≤sizeLine)(g:A.guards=some [])(u:A.units+(d.depth+1) < cLine)
  (q:∀ h' t tk,(∀ b o,s.heap.get? b=some o→h'.get? b=some o)→Q (.str d.shown t) { s with heap:=h',toks:=tk }):wpAny (model prog w) A (call (.builtin "repr") [.ref a]) Q E s:=by
 obtain⟨T,idr,S⟩:=RdE.shows (prog:=prog) (w:=w) r hs z
 exact call_repr_slot (by omega) (S.typeIs s fun _ _ e=>e) S.slotRepr (S.call A.in1 E s _ g (by show A.units+1+d.depth < cLine;omega) (fun _ _ e=>e) fun h' t tk k=>⟨_,_,rfl,q h' t tk k⟩)
end
mutual
inductive DpE (K:PySem.W.Frag) (H:Hp):V→PyData→Prop
 | non:DpE K H .non .none
 | bl (b:Bool):DpE K H (.bl b) (.bool b)
 | int (i:Int):DpE K H (.int i) (.int i)
 | str (x:Str):DpE K H (.str x) (.str x)
 | lst {a:Addr} {xs:List V} {ds:List PyData}:SqL K H a xs→DpEs K H xs ds→DpE K H (.ref a) (.list ds)
 | tup {a:Addr} {xs:List V} {ds:List PyData}:SqT K H a xs→DpEs K H xs ds→DpE K H (.ref a) (.tuple ds)
 | ed {a:Addr}:H a=some (.dK [])→DpE K H (.ref a) (.dict [])
 | d1 {a:Addr} {k:Str} {w:V} {d:PyData}:H a=some (.dK [(Sum.inr k,w)])→DpE K H w d→DpE K H (.ref a) (.dict [(.str k,d)])
inductive DpEs (K:PySem.W.Frag) (H:Hp):List V→List PyData→Prop
 | nil:DpEs K H [] []
 | cons {v:V} {vs:List V} {d:PyData} {ds:List PyData}:DpE K H v d→DpEs K H vs ds→DpEs K H (v :: vs) (d :: ds)
end
section
variable {X:Cx} {pins:List (Addr × Obj)} {σ : L2.St} {H:Hp} {s:Shared}
mutual
theorem DpE.rd(I:Inv X pins σ H s):∀ {v:V} {d:PyData} {u:Value},DpE X.K H v d→RelV v u→RdE s.heap u d
 | _,_,_, .non,r=>by cases r;exact .non
 | _,_,_, .bl b,r=>by cases r;exact .bl b
 | _,_,_, .int i,r=>by obtain⟨t,rfl⟩:=r;exact .int i t
 | _,_,_, .str x,r=>by obtain⟨t,rfl⟩:=r;exact .str x t
 | _,_,_, .lst hs ha,r=>by
  cases r
  obtain⟨its,rv,⟨o,n,ho,hc,_,hd⟩,_⟩:=I.list hs
  exact .lst ho hc hd (by simpa using DpEs.rd I ha rv)
 | _,_,_, .tup hs ha,r=>by
  cases r
  obtain⟨its,rv,⟨o,ho,hc,n,hd⟩,_⟩:=I.tuple hs
  exact .tup ho hc hd (by simpa using DpEs.rd I ha rv)
 | _,_,_, .ed h,r=>by
  cases r
  obtain⟨_,hn,vs,kv,o,es,ep,h1,h2,h3,_,h5,_⟩:=dk_of I.hok h
  cases kv
  exact .ed h1 h2.1 h3 (by cases e:es.toList with
   | nil=>rfl
   | cons x l=>rw[e] at h5;cases h5) hn
 | _,_,_, .d1 h hd,r=>by
  cases r
  obtain⟨_,hn,vs,kv,o,es,ep,h1,h2,h3,_,h5,_⟩:=dk_of I.hok h
  obtain⟨l⟩:=es
  cases kv with
  | @cons _ q _ _ rp rr =>
   cases rr
   obtain⟨q1,q2⟩:=q
   obtain⟨rp1,rp2⟩:=rp
   cases h5 with
   | @cons e _ _ _ g1 g2 g3 =>
    cases g3
    obtain⟨eh,ek,ev⟩:=e
    cases (show Sum.inr _=q1 from rp1)
    obtain⟨t,e1⟩:=Value.isStrOf_shape (x:=_) (v:=ek) g1
    cases (show ev=q2 from g2)
    cases e1
    exact .d1 h1 h2.1 h3 rfl hn (DpE.rd I hd rp2)
theorem DpEs.rd(I:Inv X pins σ H s):∀ {vs:List V} {ds:List PyData} {us:List Value},DpEs X.K H vs ds→Vals vs us→RdEs s.heap us ds
 | _,_,_, .nil,r=>by cases r;exact .nil
 | _,_,_, .cons h1 h2,r=>by
  cases r with
  | cons r1 r2=>exact .cons (DpE.rd I h1 r1) (DpEs.rd I h2 r2)
end
end
section
variable {X:Cx} {G:Gh} {W:WX} {fa fb:Env→Sto→R T} {a b:Expr} {pos:Pos}
end
section
variable {prog:Program} {w:World} {A:Around} {E:Value→Shared→Prop} {s:Shared} {Q:Value→Shared→Prop} {l:Addr}
end
section
variable {X:Cx} {G:Gh} {W:WX} {fa:Env→Sto→R T} {a:Expr} {pos p:Pos}
end
end Eg
set_option maxHeartbeats 2000000
namespace Eg
open PySem PySem.Spec PyProof.Rows L2
def Z2p (g:IG) (f:Fs):List T→Env→Sto→O
 | [],env,st => .nx env st
 | x :: xs,env,st=>match g.set x env with
  | none => .bad
  | some env1=>match f env1 st with
   | .nx env2 st2=>Z2p g f xs env2 st2
   | .ct env2 st2=>Z2p g f xs env2 st2
   | .bk env2 st2 => .nx env2 st2
   | o=>o
def Zdj (fit:Env→Sto→R (List T)) (g:IG) (f:Fs):Fs:=fun env st=>(fit env st).go env fun xs st1=>Z2p g f xs env st1
section
variable {X:Cx} {G:Gh} {W:WX} {f:Fs} {fa fb:Env→Sto→R T} {fit:Env→Sto→R (List T)} {e tg iter:Expr} {body:List Stmt} {pos:Pos}
theorem Zi6{g:IG}{D:Ends}{σ : L2.St}{H:Hp}(h:tS G W (Zdj fit g f) D σ H):tFor (tI G W fit) (tG G g) (tS G W f) D σ H:=by
 obtain⟨m0,env0,st0,rs0,h⟩:=h
 refine⟨m0,env0,st0,rs0,(Out.go h).imp fun xs st1 _ H1 m1 rs1 _ _ q J hJ => ?_⟩
 let Pv:Nat→L2.St→Hp→Prop:=fun i σ Hx=>∃ m' env st',Mov m1 H1 m' Hx∧RS G m' env st' σ Hx∧Out G W D m' Hx (Z2p g f (xs.drop i) env st')
 refine⟨fun i n σ Hx=>i≤xs.length∧n=xs.length - i∧Pv i σ Hx,⟨xs.length,Nat.zero_le _,rfl,m1,env0,st1,(Stp.refl m1 H1).toMov,rs1,q⟩, ?_⟩
 rintro i n σ2 Hx ⟨hi,hn,m',env,st',x,rs,q⟩
 by_cases he:i=xs.length
 ·refine .inl ⟨by rw[he];exact hJ.stop m' Hx x.F, ?_⟩
  rw[he,List.drop_length] at q
  exact q σ2 Hx m' rs (Stp.refl m' Hx)
 ·have hlt:i < xs.length:=by omega
  refine .inr ⟨hJ.go m' Hx x.F i hlt,Pv (i+1),fun σ' H' p=>⟨xs.length - (i+1),by omega,by omega,rfl,p⟩,fun y H'' hy => ?_⟩
  obtain⟨hH,t,ht,hr⟩:=hJ.yld m' Hx st' x.F rs.sto i y H'' hlt hy
  have S2:Stp m' Hx m' H'':=by
   exact hH.stp _
  have rs2:RS G m' env st' σ2 H'':=by
   exact hH.rs rs
  have hdr:xs.drop i=t :: xs.drop (i+1):=by
   obtain⟨h1,h2⟩:=List.getElem?_eq_some_iff.mp ht
   rw[List.drop_eq_getElem_cons h1,h2]
  rw[hdr] at q
  unfold Z2p at q
  cases eg:g.set t env with
  | none=>rw[eg] at q;exact q.elim
  | some env1 =>
   rw[eg] at q
   refine⟨m',env,st',t,env1,rs2,hr,eg,fun σ3 rs3 _ _=>⟨m',env1,st',rs3, ?_⟩⟩
   have q:Out G W D m' Hx (match f env1 st' with
    | .nx env2 st2=>Z2p g f (xs.drop (i+1)) env2 st2
    | .ct env2 st2=>Z2p g f (xs.drop (i+1)) env2 st2
    | .bk env2 st2 => .nx env2 st2
    | o=>o):=q
   have go:∀ {env2:Env} {st2:Sto},Out G W D m' Hx (Z2p g f (xs.drop (i+1)) env2 st2)→∀ σ' H' m2,RS G m2 env2 st2 σ' H'→Stp m' H'' m2 H'→Pv (i+1) σ' H':=fun {env2 st2} q σ' H' m2 rs' S =>
    ⟨m2,env2,st2,x.trans (S2.trans S).toMov,rs',Out.base (S2.trans S) q⟩
   cases ef:f env1 st' with
   | nx env2 st2=>rw[ef] at q;exact go q
   | ct env2 st2=>rw[ef] at q;exact go q
   | bk env2 st2=>rw[ef] at q;exact fun σ' H' m2 rs' S=>q σ' H' m2 rs' (S2.trans S)
   | rt t2 st2=>rw[ef] at q;exact fun v H' m2 rs' S=>q v H' m2 rs' (S2.trans S)
   | exc e2 env2 st2=>rw[ef] at q;exact fun cls d σ' H' m2 rs' S=>q cls d σ' H' m2 rs' (S2.trans S)
   | bad=>rw[ef] at q;exact q.elim
theorem S_for{g:IG}(hp:PassesOwn (model X.prog X.w) X.A X.env X.xe)(hc:X.calm=true)(hi:PI X tg iter (tI G W fit))(hg:PG X tg (tG G g))(hb:PSs X body (tS G W f))(hs:∀ x,foldedSetIterable iter X.env x=pure x) :
  PS X (.For tg iter body [] pos) (tS G W (Zdj fit g f)):=PS.imp (ps_for hp hc hi hg hb hs) fun D σ H h=>Zi6 h
def whO (fc:Env→Sto→R T) (f:Fs):Nat→Env→Sto→O
 | 0,_,_ => .bad
 | n+1,env,st=>(fc env st).go env fun t st1=>match t with
  | .bl true=>match f env st1 with
   | .nx env2 st2=>whO fc f n env2 st2
   | .ct env2 st2=>whO fc f n env2 st2
   | .bk env2 st2 => .nx env2 st2
   | o=>o
  | .bl false => .nx env st1
  | _ => .bad
open Classical in
noncomputable def fWh (fc:Env→Sto→R T) (f:Fs):Fs:=fun env st=>if h:∃ n,whO fc f n env st ≠ .bad then whO fc f h.choose env st else .bad
theorem ZiZ{fc:Env→Sto→R T}{D:Ends}{σ : L2.St}{H:Hp}(h:tS G W (fWh fc f) D σ H):tWhile (tTest (tE G W fc)) (tS G W f) D σ H:=by
 obtain⟨m0,env0,st0,rs0,h⟩:=h
 refine⟨fun n σ Hx=>∃ m' env st',RS G m' env st' σ Hx∧Out G W D m' Hx (whO fc f n env st'), ?_, ?_⟩
 ·unfold fWh at h
  by_cases hx:∃ n,whO fc f n env0 st0 ≠ .bad
  ·rw[dif_pos hx] at h
   exact⟨hx.choose,m0,env0,st0,rs0,h⟩
  ·rw[dif_neg hx] at h;exact h.elim
 ·rintro n σ2 Hx ⟨m',env,st',rs,q⟩
  cases n with
  | zero=>exact q.elim
  | succ n =>
   unfold whO at q
   show tE G W fc σ2 Hx fun v H1=>∃ k,v = .bl k∧(if k=true then _ else D.nx σ2 H1)
   refine⟨m',env,st',rs,(Out.go q).imp fun t st1 v H1 m1 rs1 S1 r q => ?_⟩
   cases t with
   | bl k =>
    refine⟨k,r, ?_⟩
    cases k with
    | false=>rw[if_neg (by decide)];exact q σ2 H1 m1 rs1 (Stp.refl m1 H1)
    | true =>
     rw[if_pos rfl]
     refine⟨fun σ Hx=>∃ m' env st',RS G m' env st' σ Hx∧Out G W D m' Hx (whO fc f n env st'),fun σ' H' p=>⟨n,Nat.lt_succ_self n,p⟩,m1,env,st1,rs1, ?_⟩
     have q:Out G W D m1 H1 (match f env st1 with
      | .nx env2 st2=>whO fc f n env2 st2
      | .ct env2 st2=>whO fc f n env2 st2
      | .bk env2 st2 => .nx env2 st2
      | o=>o):=q
     cases ef:f env st1 with
     | nx env2 st2=>rw[ef] at q;exact fun σ' H' m2 rs' S=>⟨m2,env2,st2,rs',Out.base S q⟩
     | ct env2 st2=>rw[ef] at q;exact fun σ' H' m2 rs' S=>⟨m2,env2,st2,rs',Out.base S q⟩
     | bk env2 st2=>rw[ef] at q;exact q
     | rt t2 st2=>rw[ef] at q;exact q
     | exc e2 env2 st2=>rw[ef] at q;exact q
     | bad=>rw[ef] at q;exact q.elim
   | _=>exact q.elim
theorem Zib{c:Expr}(hp:PassesOwn (model X.prog X.w) X.A X.env X.xe)(hc:PT X c (tTest (tE G W fa)))(hb:PSs X body (tS G W f)):PS X (.While c body [] pos) (tS G W (fWh fa f)):=PS.imp (ps_while hp hc hb) fun D σ H h=>ZiZ h
end
section
variable {X:Cx} {G:Gh} {W:WX} {fa fb fc:Env→Sto→R T} {fl:Env→Sto→R (List T)} {a b e:Expr} {pos apos:Pos}
def Zfo (fl:Env→Sto→R (List T)):Env→Sto→R T:=fun env st=>(fl env st).bnd fun xs st1 => .ok (.loc st1.length) (st1++[.lst xs])
theorem RSto.push{m:Mm}{H:Hp}{st:Sto}{p:Addr}{vs:List V}{ts:List T}(s:RSto G m H st)(hp:H p=none)(r:Rps G m H ts vs) :
  RSto G ⟨m.as++[p],m.fo⟩ (L2.upd H p (.lst vs)) (st++[.lst ts])∧Stp m H ⟨m.as++[p],m.fo⟩ (L2.upd H p (.lst vs)):=by
 have hpa:p ∉ m.as:=fun z=>s.mem z hp
 have S:Stp m H ⟨m.as++[p],m.fo⟩ (L2.upd H p (.lst vs)):=⟨⟨fun b o h _ hn=>by rw[upd_ne (ne_of_none h hp)];exact h,fun _ _ h=>Z3o h,fun b h=>by
  rcases List.mem_append.mp h with h | h
  ·exact .inl h
  ·rw[List.mem_singleton.mp h];exact .inr hp,fun _ h => .inl (.inr h),⟨[p],rfl⟩⟩,rfl⟩
 refine⟨⟨?_,fun a h => ?_,by simp[s.len],fun i b c h1 h2 => ?_,fun b h => ?_,(s.fresh hp).tab⟩,S⟩
 ·rw[List.nodup_append]
  exact⟨s.nd,by simp,fun a ha b hb=>by rw[List.mem_singleton.mp hb];exact fun z=>hpa (z ▸ ha)⟩
 ·rcases List.mem_append.mp h with h | h
  ·exact s.fd a h
  ·rw[List.mem_singleton.mp h];exact fun z=>s.foS p z hp
 ·by_cases hi:i < st.length
  ·rw[List.getElem?_append_left (by rw[s.len];exact hi)] at h1
   rw[List.getElem?_append_left hi] at h2
   exact Z1m.mov S.toMov (upd_ne fun z=>hpa (z ▸ List.mem_of_getElem? h1)) (s.cell i b c h1 h2)
  ·have hi2:i=st.length:=by
    have:=(List.getElem?_eq_some_iff.mp h2).1
    simp at this
    omega
   subst hi2
   rw[List.getElem?_append_right (Nat.le_refl _)] at h2
   rw[List.getElem?_append_right (by rw[s.len];exact Nat.le_refl _)] at h1
   have e1:p=b:=by simpa [s.len] using h1
   have e2:Cell.lst ts=c:=by simpa using h2
   subst e1 e2
   exact⟨vs,upd_same,Rps.mov S.toMov _ _ r⟩
 ·have hne:b≠p:=fun z=>s.foS b h (by rw[z];exact hp)
  rw[upd_ne hne]
  exact s.foS b h
theorem s_new(h:PE X e (tL G W fl)):PE X e (tE G W (Zfo fl)):=by
 refine PE.imp h fun σ H Q ⟨m,env,st,rs,h⟩=>⟨m,env,st,rs,(Rn.bnd h).imp fun xs st' vs H' m' rs' _ r q p hp => ?_⟩
 obtain⟨s2,S2⟩:=rs'.sto.push hp r
 exact Rn.next (K:=Kq Q) q ⟨rs'.env.mov S2.toMov,s2⟩ S2 ⟨p,rfl,by show(m'.as++[p])[st'.length]? = some p;rw[← rs'.sto.len];simp⟩
end
end Eg
set_option maxHeartbeats 2000000
namespace Eg
open PySem PySem.Spec PyProof.Rows L2
inductive Mu where
 | append | insert | pop | extend
 deriving DecidableEq
def muT:Mu→List T→List T→Option (T × List T)
 | .append,xs,[y]=>if xs.length < lim then some (.non,xs++[y]) else none
 | .insert,xs,[.int i,y]=>if xs.length < lim∧0≤i∧i < 2 ^ 63 then some (.non,xs.take i.toNat++[y]++xs.drop i.toNat) else none
 | .pop,xs,[]=>match xs[xs.length - 1]? with
  | some y=>some (y,xs.dropLast)
  | none=>none
 | .extend,xs,[.lst ys]=>if xs.length+ys.length≤lim then some (.non,xs++ys) else none
 | _,_,_=>none
section
variable {X:Cx} {G:Gh} {W:WX} {fa fb fc:Env→Sto→R T} {fs:Env→Sto→R (List T)} {a b e:Expr} {es:List Expr} {pos apos p:Pos} {m:Mm} {H:Hp} {σ : L2.St} {env:Env} {st:Sto} {Q:VK}
theorem Rps.last{ts:List T}{vs:List V}(h:Rps G m H ts vs):Rps G m H ts.dropLast vs.dropLast:=by
 rw[List.dropLast_eq_take,List.dropLast_eq_take,h.length]
 exact h.take _
def Few (X:Cx) (es:List Expr) (cpos:Pos):Prop:=((backTo cpos (starEach es X.env)).all (fun x => !x.1) && (backToKw cpos (keywordEach [] X.env)).all (fun x=>x.1.isSome)
   && decide (es.length+([]:List Keyword).length+(if ([]:List Keyword).isEmpty then 0 else 1) < 30))=true
mutual
def Z0d:T→Bool
 | .edt=>true
 | .dk1 k t=>PyData.strOk k && Z0d t
 | .exh _ _=>false
 | .non=>true
 | .bl _=>true
 | .int _=>true
 | .str x=>PyData.strOk x
 | .tup xs=>Z1r xs
 | .lst xs=>Z1r xs
 | .obj _ _=>false
 | .exc _ _=>false
 | .loc _=>false
 | .scr _=>false
 | .cv _=>false
 | .ptp _=>false
def Z1r:List T→Bool
 | []=>true
 | x :: xs=>Z0d x && Z1r xs
end
mutual
theorem Zgi:∀ t:T,data t=true→Z0d t=true
 | .non,_=>rfl
 | .bl _,_=>rfl
 | .int _,_=>rfl
 | .str _,h=>by simpa only [data,Z0d] using h
 | .tup xs,h=>by simp only[Z0d];exact Zcw xs (by simpa [data] using h)
 | .lst xs,h=>by simp only[Z0d];exact Zcw xs (by simpa [data] using h)
 | .obj _ _,h=>by simp[data] at h
 | .exc _ _,h=>by simp[data] at h
 | .loc _,h=>by simp[data] at h
 | .scr _,h=>by simp[data] at h
 | .cv _,h=>by simp[data] at h
 | .ptp _,h=>by simp[data] at h
 | .edt,_=>rfl
 | .exh _ _,h=>by simp[data] at h
 | .dk1 _ _,h=>by simp[data] at h
theorem Zcw:∀ xs:List T,Z0l xs=true→Z1r xs=true
 | [],_=>rfl
 | x :: xs,h=>by
  simp only[Z0l,Bool.and_eq_true] at h
  simp only[Z1r,Zgi x h.1,Zcw xs h.2,Bool.and_self]
end
mutual
theorem ZdL{G:Gh}{m:Mm}{H:Hp}:∀ (t:T) (v:V),Z0d t=true→Rp G m H t v→DpE G.K H v (toD t)
 | .non,_,_,h=>by cases (show _=_ from h);exact .non
 | .bl b,_,_,h=>by cases (show _=_ from h);exact .bl b
 | .int i,_,_,h=>by cases (show _=_ from h);exact .int i
 | .str x,_,_,h=>by cases (show _=_ from h);exact .str x
 | .tup xs,_,h,⟨a,vs,e,p,r⟩=>by subst e;exact .tup (.inl (.inl p.2)) (Zb8 xs vs (by simpa [Z0d] using h) r)
 | .lst xs,_,h,⟨a,vs,e,p,r⟩=>by subst e;exact .lst (.inl (.inl p.2)) (Zb8 xs vs (by simpa [Z0d] using h) r)
 | .obj _ _,_,h,_=>by simp[Z0d] at h
 | .exc _ _,_,h,_=>by simp[Z0d] at h
 | .loc _,_,h,_=>by simp[Z0d] at h
 | .scr _,_,h,_=>by simp[Z0d] at h
 | .cv _,_,h,_=>by simp[Z0d] at h
 | .ptp _,_,h,_=>by simp[Z0d] at h
 | .edt,_,_,⟨a,e,_,p⟩=>by subst e;exact .ed p
 | .exh _ _,_,h,_=>by simp[Z0d] at h
 | .dk1 k t,_,h,⟨a,w,e,_,p,r⟩=>by
  subst e
  have z:(PyData.strOk k && Z0d t)=true:=by simpa only [Z0d] using h
  exact .d1 p (ZdL t w (Bool.and_eq_true_iff.mp z).2 r)
theorem Zb8{G:Gh}{m:Mm}{H:Hp}:∀ (ts:List T) (vs:List V),Z1r ts=true→Rps G m H ts vs→DpEs G.K H vs (Z0q ts)
 | [],_,_,h=>by cases (show _=_ from h);exact .nil
 | t :: ts,_,h,⟨v,r,e,p,q⟩=>by
  have h':Z0d t=true∧Z1r ts=true:=by simpa [Z1r] using h
  subst e
  exact .cons (ZdL t v h'.1 p) (Zb8 ts r h'.2 q)
end
theorem Zh4{G:Gh}{m:Mm}{H:Hp}{st:Sto}{t:T}{v:V}(s:RSto G m H st)(h:Z0d (Z0j st t)=true)(r:Rp G m H t v):DpE G.K H v (toD (Z0j st t)):=by
 unfold Z0j at h ⊢
 cases e:Z0p st t with
 | none=>rw[e] at h;exact ZdL t v h r
 | some xs =>
  rw[e] at h
  obtain⟨a,vs,rfl,hs,q⟩:=Rp.lst s r e
  exact .lst hs (Zb8 xs vs (by simpa [Z0d] using h) q)
def ZbX (t:T):Bool:=Z0d t && (toD t).showable && decide (dep t≤60) && decide ((toD t).shown.length≤lim)
def Z6y (st:Sto) (t:T):Option T:=if ZbX (Z0j st t) then some (.str (toD (Z0j st t)).shown) else none
def Zfh (fa:Env→Sto→R T):Env→Sto→R T:=fun env st=>(fa env st).bnd fun x st1=>R.opt (Z6y st1 x) st1
def Zht (K:PySem.W.Frag):List V→Hp→VK→Prop:=fun xs H Q=>∃ v d,xs=[v]∧DpE K H v d∧d.showable=true∧d.depth≤60∧d.shown.length≤sizeLine∧Q (.str d.shown) H
theorem Zgg(hg:X.A.guards=some [])(hu:X.A.units+65 < cLine):CallR X (.builtin "repr") (Zht X.K):=by
 intro pins s σ H xs us Q I r h
 obtain⟨v,d,rfl,hd,hs,hdep,hsz,q⟩:=h
 obtain⟨u,rfl,ru⟩:=vals1 r
 have rd:=DpE.rd I hd ru
 have go:∀ a,u = .ref a→wpAny (model X.prog X.w) X.A (call (.builtin "repr") [u]) (EP X pins σ Q) X.xe s:=fun a e=>by
  subst e
  exact RdE.repr_ref rd hs hsz hg (by omega) fun h' u tk hk=>⟨.str _,H,I.kept hk,⟨_,rfl⟩,q⟩
 cases rd with
 | non=>exact PySem.P.repr_of_none ⟨.str _,H,I.tok _,⟨_,rfl⟩,q⟩
 | bl b=>exact PySem.P.repr_of_bool ⟨.str _,H,I.tok _,⟨_,rfl⟩,q⟩
 | int i t=>exact PySem.P.repr_of_int (by simpa [PyData.showable] using hs) ⟨.str _,H,I.tok _,⟨_,rfl⟩,q⟩
 | str x t=>exact PySem.P.repr_of_str ⟨.str _,H,I.tok _,⟨_,rfl⟩,q⟩ hsz
 | lst=>exact go _ rfl
 | tup=>exact go _ rfl
 | ed=>exact go _ rfl
 | d1=>exact go _ rfl
theorem ZiQ(hK:X.K=G.K)(hG:X.A.guards=some [])(hu:X.A.units+65 < cLine)(hg:Gl X "repr")(hm:X.mg "repr" = none)(ha:PE X a (tE G W fa))(hs:starEach [a] X.env=[(false,eval a X.env)]) :
  PE X (.Call (.Name "repr" p) [a] [] pos) (tE G W (Zfh fa)):=by
 refine PE.imp (pe_callB (Zgg hG hu) hg hm (by decide +kernel) (pa_cons ha pa_nil hs) (by decide) (by decide) (by rw[hs];rfl) rfl) fun σ H Q h => ?_
 rw[hK]
 show tE G W fa σ H fun v H1=>Zht G.K [v] H1 Q
 refine at1 h fun m env st t v H1 rs r q => ?_
 cases e:Z6y st t with
 | none=>rw[e] at q;exact q.elim
 | some w =>
  rw[e] at q
  unfold Z6y at e
  split at e
  ·rename_i hk
   cases e
   unfold ZbX at hk
   simp only[Bool.and_eq_true,decide_eq_true_eq] at hk
   obtain⟨⟨⟨h1,h2⟩,h3⟩,h4⟩:=hk
   exact⟨v,_,rfl,Zh4 rs.sto h1 r,h2,by rw[Z7x];exact h3,Z1t ▸ h4,Rn.give q rs rfl⟩
  ·cases e
def ZcK:T→Option T
 | .int i=>if i.natAbs.log2 < 1920 then some (.str (toString i)) else none
 | .str x=>some (.str x)
 | _=>none
def fStr (fa:Env→Sto→R T):Env→Sto→R T:=fun env st=>(fa env st).bnd fun x st1=>R.opt (ZcK x) st1
theorem s_str(hg:Gl X "str")(hm:X.mg "str" = none)(ha:PE X a (tE G W fa))(hs:starEach [a] X.env=[(false,eval a X.env)]) :
  PE X (.Call (.Name "str" p) [a] [] pos) (tE G W (fStr fa)):=by
 refine PE.imp (pe_callTy (CallR.or call_str_int SkE.call_str_str) hg hm (by decide +kernel) (pa_cons ha pa_nil hs) (by decide) (by decide) (by rw[hs];rfl) rfl) fun σ H Q h => ?_
 show tE G W fa σ H fun v H1=>(∃ i,[v]=[V.int i]∧i.natAbs.log2 < 1920∧Q (.str (toString i)) H1)∨(∃ a,[v]=[V.str a]∧Q (.str a) H1)
 refine at1 h fun m env st t v H1 rs r q => ?_
 cases t with
 | int i =>
  cases (show v=_ from r)
  obtain⟨c,q⟩:=Z5b q
  exact .inl ⟨i,rfl,c,Rn.give (b := .str (toString i)) q rs rfl⟩
 | str x =>
  cases (show v=_ from r)
  exact .inr ⟨x,rfl,Rn.give (b := .str x) q rs rfl⟩
 | _=>exact q.elim
end
end Eg
set_option maxHeartbeats 2000000
namespace Eg
open PySem PySem.Spec PyProof.Rows L2
def Z2c:List Str→Str→Option Nat
 | [],_=>none
 | g :: gs,f=>if g=f then some 0 else(Z2c gs f).map (· + 1)
def Z8d (st:Sto):T→Option (Nat × List T)
 | .obj c vs=>some (c,vs)
 | .loc l=>match st[l]? with
  | some (.ins c vs)=>some (c,vs)
  | _=>none
 | _=>none
structure ClsOk (P:Program) (w:World) (K:PySem.W.Frag) (mg:Str→Option Value) (base:Heap) (lv:Nat) (G:Gh) (c:Nat) (ci:Ci):Prop where
 fl:G.fl c=ci.fl
 cls:Cls K (G.cl c)
 ha:PySem.W.findIn K (.ref (G.cl c)) "__class__" = some (some (.builtin "object.__class__"))
 hn:PySem.W.specialIn K (.builtin "object.__class__") "__get__" = some (some (.builtin "getset_descriptor.__get__"))
 htk:PySem.W.takesIn K (.builtin "object.__class__")=some true
 hm:PySem.W.mroIn K (G.cl c) (.type "object")=some true
 na:∀ f,f∈ci.fl→NoAttr K (G.cl c) f
 nd:ci.fl.Nodup
 few:ci.fl.length < 1000
 props:∀ (f:Str) F,ci.props.lookup f=some F→∃ p g,PropOf K (G.cl c) f p g∧Cal P w K mg base lv G [] F g
 meths:∀ (k:Str) fn,ci.meths.lookup k=some fn→fn.name ∉ ci.fl∧∃ g,Meth K (G.cl c) fn.name g∧Cal P w K mg base lv G fn.ks fn.F g
section
variable {G:Gh} {m:Mm} {H:Hp} {st:Sto}
theorem ZiX{t:T}{v:V}{c:Nat}{vs:List T}(s:RSto G m H st)(r:Rp G m H t v)(e:Z8d st t=some (c,vs)):∃ a dx fv,v = .ref a∧H a=some (.ins (G.cl c) dx fv)∧fv.map (·.1)=(G.fl c).take vs.length∧Rps G m H vs (fv.map (·.2)):=by
 cases t with
 | obj c2 ws =>
  cases (show some (c2,ws)=some (c,vs) from e)
  obtain⟨a,dx,fv,e1,_,h,hf,q⟩:=r
  refine⟨a,dx,fv,e1,h, ?_,q⟩
  have hl:vs.length=(G.fl c).length:=by
   have:=congrArg List.length hf
   rw[List.length_map] at this
   rw[q.length,List.length_map]
   exact this
  rw[hf,hl,List.take_length]
 | loc l =>
  obtain⟨a,e1,h⟩:=r
  have e:(match st[l]? with
   | some (.ins c vs)=>some (c,vs)
   | _=>none)=some (c,vs):=e
  cases e2:st[l]? with
  | none=>rw[e2] at e;cases e
  | some cc =>
   cases cc with
   | lst xs=>rw[e2] at e;cases e
   | dt xs=>rw[e2] at e;cases e
   | dk xs=>rw[e2] at e;cases e
   | dn xs=>rw[e2] at e;cases e
   | ins c2 ws =>
    rw[e2] at e
    cases e
    obtain⟨dx,fv,h1,h2,_,q⟩:=s.cell l a _ h e2
    exact⟨a,dx,fv,e1,h1,h2,q⟩
 | _=>cases e
theorem ZcW:∀ {fl:List Str} {i:Nat} {f:Str},Z2c fl f=some i→f∈fl
 | [],_,_,e=>by cases e
 | g :: gs,i,f,e=>by
  have e:(if g=f then some 0 else(Z2c gs f).map (· + 1))=some i:=e
  by_cases hk:g=f
  ·subst hk;exact List.mem_cons_self
  ·rw[if_neg hk] at e
   cases e2:Z2c gs f with
   | none=>rw[e2] at e;cases e
   | some j=>exact List.mem_cons_of_mem _ (ZcW e2)
end
section
variable {X:Cx} {G:Gh} {W:WX} {lv:Nat} {cs:List Ci} {fa fb:Env→Sto→R T} {fs:Env→Sto→R (List T)} {a b e:Expr} {es:List Expr} {f:Str} {pos apos p:Pos}
def fAttr (cs:List Ci) (f:Str) (fa:Env→Sto→R T):Env→Sto→R T:=fun env st=>(fa env st).bnd fun x st1=>match Z8d st1 x with
 | some (c,vs)=>match cs[c]? with
  | some ci=>match Z2c ci.fl f with
   | some i=>R.opt vs[i]? st1
   | none=>match ci.props.lookup f with
    | some F=>(F [x] st1).nox
    | none => .bad
  | none => .bad
 | none => .bad
def Zfv (G:Gh):Ty→Value
 | .non => .type "NoneType" | .bl => .type "bool" | .int => .type "int" | .str => .type "str" | .tup => .type "tuple" | .lst => .type "list" | .cls c => .ref (G.cl c) | .dct => .type "dict"
def Z6w (G:Gh):Tg→Value
 | .ty n => .type n | .cls c => .ref (G.cl c)
def tgV (G:Gh):Tg→V
 | .ty n => .ty n | .cls c => .ref (G.cl c)
end
end Eg
set_option maxHeartbeats 2000000
namespace Eg
open PySem PySem.Spec PyProof.Rows L2
mutual
def Z0h (f:Nat→Option T):T→Option T
 | .loc l=>f l
 | .tup xs=>(Z0f f xs).map .tup
 | .lst xs=>(Z0f f xs).map .lst
 | .obj c xs=>(Z0f f xs).map (.obj c)
 | .exc c xs=>(Z0f f xs).map (.exc c)
 | .non=>some .non
 | .bl b=>some (.bl b)
 | .int i=>some (.int i)
 | .str x=>some (.str x)
 | .scr ns=>some (.scr ns)
 | .cv c=>some (.cv c)
 | .ptp xs=>(Z0f f xs).map .ptp
 | .edt=>some .edt
 | .exh c xs=>(Z0f f xs).map (.exh c)
 | .dk1 k t=>(Z0h f t).map (.dk1 k)
def Z0f (f:Nat→Option T):List T→Option (List T)
 | []=>some []
 | x :: xs=>match Z0h f x,Z0f f xs with
  | some y,some ys=>some (y :: ys)
  | _,_=>none
end
def Z5m (cs:List Ci) (c n:Nat):Bool:=match cs[c]? with
 | some ci=>decide (ci.fl.length=n)
 | none=>false
def Za5 (cs:List Ci) (st:Sto) (ren:Nat→Option Nat):Nat→Nat→Option T
 | 0,l=>(ren l).map .loc
 | k+1,l=>match ren l with
  | some i=>some (.loc i)
  | none=>match st[l]? with
   | some (.lst xs)=>(Z0f (Za5 cs st ren k) xs).map .lst
   | some (.ins c vs)=>if Z5m cs c vs.length=true then(Z0f (Za5 cs st ren k) vs).map (.obj c) else none
   | _=>none
def Z7e (f:Nat→Option T):Cell→Option Cell
 | .lst xs=>(Z0f f xs).map .lst
 | .ins c xs=>(Z0f f xs).map (.ins c)
 | .dt kvs=>(Z0f f (kvs.map (·.2))).map fun us => .dt ((kvs.map (·.1)).zip us)
 | .dk kvs=>(Z0f f (kvs.map (·.2))).map fun us => .dk ((kvs.map (·.1)).zip us)
 | .dn ks=>some (.dn ks)
def Z1x (f:Nat→Option T):List Cell→Option (List Cell)
 | []=>some []
 | c :: cs=>match Z7e f c,Z1x f cs with
  | some d,some ds=>some (d :: ds)
  | _,_=>none
abbrev frz (cs:List Ci) (st:Sto) (ren:Nat→Option Nat):Nat→Option T:=Za5 cs st ren 3
def kept (md:Bool) (n:Nat):T→Option Nat
 | .loc l=>if md=true∧n≤l then some l else none
 | _=>none
def ren (n:Nat) (kp:Option Nat) (i:Nat):Option Nat:=if i < n then some i else if kp=some i then some n else none
def more {A:Type} (xs:List A):Option Nat→List A
 | some l=>xs[l]?.toList
 | none=>[]
def Z5w (cs:List Ci) (md:Bool) (n:Nat) (t:T) (st:Sto):R T :=
 match Z1x (frz cs st (ren n (kept md n t))) (st.take n++more st (kept md n t)),Z0h (frz cs st (ren n (kept md n t))) t with
 | some st',some t' => .ok t' st'
 | _,_ => .bad
def Zdr (cs:List Ci) (md:Bool) (n:Nat):O→R T
 | .nx _ st=>Z5w cs false n .non st
 | .rt t st=>Z5w cs md n t st
 | .exc (.exc c ts) _ st=>match Z1x (frz cs st (ren n none)) (st.take n++more st none),Z0f (frz cs st (ren n none)) ts with
  | some st',some us => .exc (.exc c us) st'
  | _,_ => .bad
 | _ => .bad
section
variable {G:Gh} {m m' m2:Mm} {H H':Hp} {st:Sto} {f:Nat→Option T} {cs:List Ci}
mutual
theorem Z7a(hw:∀ a,m2.w a→m'.w a)(hf:∀ l t v,f l=some t→Rp G m' H (.loc l) v→Rp G m2 H t v):∀ (t t':T) (v:V),Z0h f t=some t'→Rp G m' H t v→Rp G m2 H t' v
 | .loc l,t',v,e,r=>hf l t' v (by rw[Z0h] at e;exact e) r
 | .tup xs,t',v,e,r=>by
  rw[Z0h] at e
  obtain⟨ys,e1,rfl⟩:=Option.map_eq_some_iff.mp e
  obtain⟨a,vs,rfl,h,q⟩:=r
  exact⟨a,vs,rfl,⟨fun z=>h.1 (hw a z),h.2⟩,Z1z hw hf xs ys vs e1 q⟩
 | .lst xs,t',v,e,r=>by
  rw[Z0h] at e
  obtain⟨ys,e1,rfl⟩:=Option.map_eq_some_iff.mp e
  obtain⟨a,vs,rfl,h,q⟩:=r
  exact⟨a,vs,rfl,⟨fun z=>h.1 (hw a z),h.2⟩,Z1z hw hf xs ys vs e1 q⟩
 | .obj c xs,t',v,e,r=>by
  rw[Z0h] at e
  obtain⟨ys,e1,rfl⟩:=Option.map_eq_some_iff.mp e
  obtain⟨a,dx,fv,rfl,hn,h,hl,q⟩:=r
  exact⟨a,dx,fv,rfl,fun z=>hn (hw a z),h,hl,Z1z hw hf xs ys _ e1 q⟩
 | .exc c xs,t',v,e,r=>by
  rw[Z0h] at e
  obtain⟨ys,e1,rfl⟩:=Option.map_eq_some_iff.mp e
  obtain⟨y,vs,h1,h2,h3,q,h4⟩:=r
  exact⟨y,vs,h1,h2,h3,Z1z hw hf xs ys vs e1 q,h4.imp id fun⟨dx,f,w',k1,k2,k3,k4,k5⟩=>⟨dx,f,w',k1,k2,fun z=>k3 (hw dx z),k4,k5⟩⟩
 | .non,t',v,e,r=>by rw[Z0h] at e;cases e;exact r
 | .bl b,t',v,e,r=>by rw[Z0h] at e;cases e;exact r
 | .int b,t',v,e,r=>by rw[Z0h] at e;cases e;exact r
 | .str b,t',v,e,r=>by rw[Z0h] at e;cases e;exact r
 | .cv b,t',v,e,r=>by rw[Z0h] at e;cases e;exact r
 | .edt,t',v,e,r=>by
  rw[Z0h] at e;cases e
  obtain⟨a,rfl,hn,h⟩:=r
  exact⟨a,rfl,fun z=>hn (hw a z),h⟩
 | .exh c xs,t',v,e,r=>by
  rw[Z0h] at e
  obtain⟨ys,e1,rfl⟩:=Option.map_eq_some_iff.mp e
  obtain⟨a,vs,h1,hn,q,h4⟩:=r
  exact⟨a,vs,h1,fun z=>hn (hw a z),Z1z hw hf xs ys vs e1 q,h4.imp id fun⟨dx,f,w',k1,k2,k3,k4,k5⟩=>⟨dx,f,w',k1,k2,fun z=>k3 (hw dx z),k4,k5⟩⟩
 | .dk1 k t,t',v,e,r=>by
  rw[Z0h] at e
  obtain⟨t2,e1,rfl⟩:=Option.map_eq_some_iff.mp e
  obtain⟨a,w,rfl,hn,h,q⟩:=r
  exact⟨a,w,rfl,fun z=>hn (hw a z),h,Z7a hw hf t t2 w e1 q⟩
 | .ptp xs,t',v,e,r=>by
  rw[Z0h] at e
  obtain⟨ys,e1,rfl⟩:=Option.map_eq_some_iff.mp e
  obtain⟨a,vs,rfl,⟨hn,o,h,hd⟩,q⟩:=r
  exact⟨a,vs,rfl,⟨fun z=>hn (hw a z),o,h,hd⟩,Z1z hw hf xs ys vs e1 q⟩
 | .scr ns,t',v,e,r=>by
  rw[Z0h] at e;cases e
  obtain⟨a,rfl,h⟩:=r
  refine⟨a,rfl, ?_⟩
  rcases h with ⟨hn,h⟩ | h
  ·exact .inl ⟨fun z=>hn (hw a z),h⟩
  ·exact .inr h
theorem Z1z(hw:∀ a,m2.w a→m'.w a)(hf:∀ l t v,f l=some t→Rp G m' H (.loc l) v→Rp G m2 H t v):∀ (ts ts':List T) (vs:List V),Z0f f ts=some ts'→Rps G m' H ts vs→Rps G m2 H ts' vs
 | [],ts',vs,e,r=>by rw[Z0f] at e;cases e;exact r
 | x :: xs,ts',vs,e,r=>by
  rw[Z0f] at e
  obtain⟨v,w,rfl,h,q⟩:=r
  cases e1:Z0h f x with
  | none=>rw[e1] at e;cases e
  | some y =>
   cases e2:Z0f f xs with
   | none=>rw[e1,e2] at e;cases e
   | some ys =>
    rw[e1,e2] at e
    cases e
    exact⟨v,w,rfl,Z7a hw hf x y v e1 h,Z1z hw hf xs ys w e2 q⟩
end
def Z6v (G:Gh) (cs:List Ci):Prop:=∀ c ci,cs[c]? = some ci→G.fl c=ci.fl
theorem Zd0{f:Nat→Option T}:∀ {ts us:List T},Z0f f ts=some us→us.length=ts.length
 | [],us,e=>by rw[Z0f] at e;cases e;rfl
 | x :: xs,us,e=>by
  rw[Z0f] at e
  cases e1:Z0h f x with
  | none=>rw[e1] at e;cases e
  | some y =>
   cases e2:Z0f f xs with
   | none=>rw[e1,e2] at e;cases e
   | some ys=>rw[e1,e2] at e;cases e;simp[Zd0 e2]
theorem Zct(kc:Z6v G cs){rn:Nat→Option Nat}(s:RSto G m' H st)(hw:∀ a,m2.w a→m'.w a)(hlt:∀ l i a,rn l=some i→m'.as[l]? = some a→m2.as[i]? = some a)(hge:∀ l a,rn l=none→m'.as[l]? = some a→¬ m2.w a) :
  ∀ (k l:Nat) (t:T) (v:V),Za5 cs st rn k l=some t→Rp G m' H (.loc l) v→Rp G m2 H t v
 | 0,l,t,v,e,⟨a,ev,h⟩=>by
  unfold Za5 at e
  obtain⟨i,e1,rfl⟩:=Option.map_eq_some_iff.mp e
  exact⟨a,ev,hlt l i a e1 h⟩
 | k+1,l,t,v,e,⟨a,ev,h⟩=>by
  unfold Za5 at e
  cases er:rn l with
  | some i=>rw[er] at e;cases e;exact⟨a,ev,hlt l i a er h⟩
  | none =>
   rw[er] at e
   simp only at e
   cases e2:st[l]? with
   | none=>rw[e2] at e;cases e
   | some c =>
    rw[e2] at e
    cases c with
    | lst xs =>
     obtain⟨ys,e3,rfl⟩:=Option.map_eq_some_iff.mp e
     obtain⟨vs,h1,q⟩:=s.cell l a _ h e2
     exact⟨a,vs,ev,⟨hge l a er h,h1⟩,Z1z hw (Zct kc s hw hlt hge k) xs ys vs e3 q⟩
    | ins c vs =>
     have e:(if Z5m cs c vs.length=true then(Z0f (Za5 cs st rn k) vs).map (T.obj c) else none)=some t:=e
     by_cases hwh:Z5m cs c vs.length=true
     ·rw[if_pos hwh] at e
      obtain⟨ys,e3,rfl⟩:=Option.map_eq_some_iff.mp e
      obtain⟨dx,fv,h1,h2,_,q⟩:=s.cell l a _ h e2
      refine⟨a,dx,fv,ev,hge l a er h,h1, ?_,Z1z hw (Zct kc s hw hlt hge k) vs ys _ e3 q⟩
      unfold Z5m at hwh
      cases e4:cs[c]? with
      | none=>rw[e4] at hwh;cases hwh
      | some ci =>
       rw[e4] at hwh
       have:ci.fl.length=vs.length:=by simpa using hwh
       rw[h2,kc c ci e4,← this,List.take_length]
     ·rw[if_neg hwh] at e;cases e
    | dt kvs=>cases e
    | dk kvs=>cases e
    | dn ks=>cases e
theorem ZcC{κ : Type}(hw:∀ a,m2.w a→m'.w a)(hf:∀ l t v,f l=some t→Rp G m' H (.loc l) v→Rp G m2 H t v):∀ (kvs:List (κ × T)) (us:List T) (vs:List (κ × V)),Z0f f (kvs.map (·.2))=some us→RKs G m' H kvs vs→RKs G m2 H ((kvs.map (·.1)).zip us) vs
 | [],us,vs,e,r=>by rw[List.map_nil,Z0f] at e;cases e;exact r
 | p :: kvs,us,vs,e,r=>by
  obtain⟨v,w,rfl,h,q⟩:=r
  rw[List.map_cons,Z0f] at e
  cases e1:Z0h f p.2 with
  | none=>rw[e1] at e;cases e
  | some y =>
   cases e2:Z0f f (kvs.map (·.2)) with
   | none=>rw[e1,e2] at e;cases e
   | some ys =>
    rw[e1,e2] at e
    cases e
    exact⟨v,w,rfl,Z7a hw hf p.2 y v e1 h,ZcC hw hf kvs ys w e2 q⟩
theorem Zdv(f:Nat→Option T):∀ r:List Int,Z0f f (r.map T.int)=some (r.map T.int)
 | []=>rfl
 | i :: r=>by rw[List.map_cons,Z0f,Z0h,Zdv f r]
theorem Zdz(f:Nat→Option T):∀ k:List (List Int),Z0f f (k.map fun r=>T.tup (r.map T.int))=some (k.map fun r=>T.tup (r.map T.int))
 | []=>rfl
 | r :: k=>by rw[List.map_cons,Z0f,Z0h,Zdv f r,Zdz f k];rfl
theorem ZdD(f:Nat→Option T):∀ ks:List (List (List Int)),Z0f f (ks.map Z7v)=some (ks.map Z7v)
 | []=>rfl
 | k :: ks=>by
  rw[List.map_cons,Z0f,ZdD f ks]
  show(match Z0h f (.tup (k.map fun r=>T.tup (r.map T.int))),some (ks.map Z7v) with
   | some y,some ys=>some (y :: ys)
   | _,_=>none)=_
  rw[Z0h,Zdz f k];rfl
theorem Zi5(hw:∀ a,m2.w a→m'.w a)(hf:∀ l t v,f l=some t→Rp G m' H (.loc l) v→Rp G m2 H t v){c d:Cell}{a:Addr}(e:Z7e f c=some d)(r:Z1m G m' H a c):Z1m G m2 H a d:=by
 cases c with
 | lst xs =>
  obtain⟨ys,e1,rfl⟩:=Option.map_eq_some_iff.mp (show(Z0f f xs).map Cell.lst=some d from e)
  obtain⟨vs,h,q⟩:=r
  exact⟨vs,h,Z1z hw hf xs ys vs e1 q⟩
 | ins c xs =>
  obtain⟨ys,e1,rfl⟩:=Option.map_eq_some_iff.mp (show(Z0f f xs).map (Cell.ins c)=some d from e)
  obtain⟨dx,fv,h,h1,h2,q⟩:=r
  have hl:=Zd0 e1
  exact⟨dx,fv,h,by rw[hl];exact h1,by rw[hl];exact h2,Z1z hw hf xs ys _ e1 q⟩
 | dt kvs =>
  obtain⟨us,e1,rfl⟩:=Option.map_eq_some_iff.mp (show(Z0f f (kvs.map (·.2))).map (fun us=>Cell.dt ((kvs.map (·.1)).zip us))=some d from e)
  obtain⟨vs,h,q⟩:=r
  exact⟨vs,h,ZcC hw hf kvs us vs e1 q⟩
 | dk kvs =>
  obtain⟨us,e1,rfl⟩:=Option.map_eq_some_iff.mp (show(Z0f f (kvs.map (·.2))).map (fun us=>Cell.dk ((kvs.map (·.1)).zip us))=some d from e)
  obtain⟨vs,h,q⟩:=r
  exact⟨vs,h,ZcC hw hf kvs us vs e1 q⟩
 | dn ks =>
  cases e
  obtain⟨bs,h,q⟩:=r
  exact⟨bs,h,Z1z hw hf _ _ _ (ZdD f ks) q⟩
theorem Zd4{f:Nat→Option T}:∀ {cs ds:List Cell},Z1x f cs=some ds→ds.length=cs.length∧∀ (i:Nat) c,cs[i]? = some c→∃ d,ds[i]? = some d∧Z7e f c=some d
 | [],ds,e=>by cases e;exact⟨rfl,fun i c h=>by simp at h⟩
 | c :: cs,ds,e=>by
  have e:(match Z7e f c,Z1x f cs with
   | some d,some ds=>some (d :: ds)
   | _,_=>none)=some ds:=e
  cases e1:Z7e f c with
  | none=>rw[e1] at e;cases e
  | some d =>
   cases e2:Z1x f cs with
   | none=>rw[e1,e2] at e;cases e
   | some r =>
    rw[e1,e2] at e
    cases e
    obtain⟨h1,h2⟩:=Zd4 e2
    refine⟨by simp[h1],fun i c' h => ?_⟩
    cases i with
    | zero=>simp at h;subst h;exact⟨d,rfl,e1⟩
    | succ i=>obtain⟨d',h3,h4⟩:=h2 i c' (by simpa using h);exact⟨d',by simpa using h3,h4⟩
theorem ZgQ{A B:Type}{xs:List A}{ys:List B}(h:xs.length=ys.length):∀ kp:Option Nat,(more xs kp).length=(more ys kp).length
 | none=>rfl
 | some l=>by
  show(xs[l]?.toList).length=(ys[l]?.toList).length
  by_cases hl:l < xs.length
  ·rw[List.getElem?_eq_getElem hl,List.getElem?_eq_getElem (by omega)];rfl
  ·rw[List.getElem?_eq_none (by omega),List.getElem?_eq_none (by omega)];rfl
structure FinOk (G:Gh) (m:Mm) (H:Hp) (m':Mm) (H':Hp) (m2:Mm) (st':Sto) (f:Nat→Option T):Prop where
 hw:∀ a,m2.w a→m'.w a
 hf:∀ l t v,f l=some t→Rp G m' H' (.loc l) v→Rp G m2 H' t v
 sto:RSto G m2 H' st'
 stp:Stp m H m2 H'
theorem Zdw(kc:Z6v G cs){n:Nat}{st':Sto}(kp:Option Nat)(hkp:∀ l,kp=some l→n≤l)(x:Stp m H m' H')(hn:m.as.length=n)(s:RSto G m' H' st)
  (e:Z1x (frz cs st (ren n kp)) (st.take n++more st kp)=some st'):FinOk G m H m' H' ⟨m.as++more m'.as kp,m.fo⟩ st' (frz cs st (ren n kp)):=by
 obtain⟨nw,hpre⟩:=x.pre
 have sub:∀ a,a∈m.as++more m'.as kp→a∈m'.as:=fun a h=>by
  rcases List.mem_append.mp h with h | h
  ·rw[hpre];exact List.mem_append_left _ h
  ·cases kp with
   | none=>cases h
   | some l =>
    cases e1:m'.as[l]? with
    | none=>simp[more,e1] at h
    | some b=>simp[more,e1] at h;rw[h];exact List.mem_of_getElem? e1
 have hw:∀ a,(⟨m.as++more m'.as kp,m.fo⟩:Mm).w a→m'.w a:=fun a h=>by
  rcases h with h | h
  ·exact .inl (sub a h)
  ·exact .inr (by rw[x.fo];exact h)
 have inj:∀ {i l a},m'.as[i]? = some a→m'.as[l]? = some a→i=l:=fun {i l a} h1 h2=>(List.getElem?_inj (List.getElem?_eq_some_iff.mp h1).1 s.nd).mp (h1.trans h2.symm)
 have old:∀ i a,m.as[i]? = some a→m'.as[i]? = some a:=fun i a h=>by rw[hpre,List.getElem?_append_left (List.getElem?_eq_some_iff.mp h).1];exact h
 have hlt:∀ l i a,ren n kp l=some i→m'.as[l]? = some a→(m.as++more m'.as kp)[i]? = some a:=fun l i a hr h=>by
  unfold ren at hr
  by_cases h1:l < n
  ·rw[if_pos h1] at hr;cases hr
   rw[hpre,List.getElem?_append_left (by rw[hn];exact h1)] at h
   rw[List.getElem?_append_left (by rw[hn];exact h1)]
   exact h
  ·rw[if_neg h1] at hr
   by_cases h2:kp=some l
   ·rw[if_pos h2] at hr;cases hr
    rw[List.getElem?_append_right (by rw[hn];exact Nat.le_refl _),hn,h2]
    simp[more,h]
   ·rw[if_neg h2] at hr;cases hr
 have hge:∀ l a,ren n kp l=none→m'.as[l]? = some a→¬ (⟨m.as++more m'.as kp,m.fo⟩:Mm).w a:=fun l a hr h z=>by
  unfold ren at hr
  by_cases h1:l < n
  ·rw[if_pos h1] at hr;cases hr
  ·rw[if_neg h1] at hr
   by_cases h2:kp=some l
   ·rw[if_pos h2] at hr;cases hr
   ·rcases z with z | z
    ·rcases List.mem_append.mp z with z | z
     ·obtain⟨i,hi,hia⟩:=List.mem_iff_getElem.mp z
      have:=inj (old i a (by rw[List.getElem?_eq_getElem hi,hia])) h
      omega
     ·cases kp with
      | none=>cases z
      | some j =>
       cases e1:m'.as[j]? with
       | none=>simp[more,e1] at z
       | some b =>
        simp[more,e1] at z
        subst z
        exact h2 (by rw[inj e1 h])
    ·exact s.fd a (List.mem_of_getElem? h) (by rw[x.fo];exact z)
 have hf:=Zct kc s hw hlt hge 3
 obtain⟨hl,hg⟩:=Zd4 e
 have hle:n≤st.length:=by rw[← s.len,hpre,List.length_append,hn];omega
 refine⟨hw,hf,⟨?_,fun a h z=>s.fd a (sub a h) (by rw[x.fo];exact z), ?_,fun i a c h1 h2 => ?_,fun a h=>s.foS a (by rw[x.fo];exact h),s.tab⟩,⟨⟨x.keep,x.stay,fun a h => ?_,fun a h => .inl (.inr h),⟨_,rfl⟩⟩,rfl⟩⟩
 ·have nd:=s.nd
  rw[List.nodup_append]
  refine⟨?_, ?_,fun a ha b hb z => ?_⟩
  ·rw[hpre,List.nodup_append] at nd;exact nd.1
  ·cases kp with
   | none=>simp[more]
   | some l=>cases e1:m'.as[l]? <;> simp[more,e1]
  ·cases kp with
   | none=>cases hb
   | some l =>
    cases e1:m'.as[l]? with
    | none=>simp[more,e1] at hb
    | some b' =>
     simp[more,e1] at hb
     subst hb z
     obtain⟨i,hi,hia⟩:=List.mem_iff_getElem.mp ha
     have:=inj (old i a (by rw[List.getElem?_eq_getElem hi,hia])) e1
     have:=hkp l rfl
     omega
 ·rw[hl,List.length_append,List.length_append,hn,List.length_take,ZgQ s.len kp];omega
 ·have key:∃ j:Nat,(st.take n++more st kp)[i]? = st[j]? ∧ m'.as[j]? = some a:=by
   by_cases hi:i < n
   ·refine⟨i, ?_, ?_⟩
    ·rw[List.getElem?_append_left (by rw[List.length_take];omega)]
     exact List.getElem?_take_of_lt hi
    ·rw[List.getElem?_append_left (by rw[hn];exact hi)] at h1
     exact old i a h1
   ·rw[List.getElem?_append_right (by rw[hn];omega),hn] at h1
    cases kp with
    | none=>simp[more] at h1
    | some l =>
     cases e1:m'.as[l]? with
     | none=>simp[more,e1] at h1
     | some b =>
      have h3:i - n=0:=by
       rcases Nat.eq_zero_or_pos (i - n) with z | z
       ·exact z
       ·rw[List.getElem?_eq_none (by simp[more,e1];omega)] at h1;cases h1
      rw[h3] at h1
      have:b=a:=by simpa [more,e1] using h1
      subst this
      refine⟨l, ?_,e1⟩
      rw[List.getElem?_append_right (by rw[List.length_take];omega),List.length_take,Nat.min_eq_left hle,h3]
      have hlt2:l < st.length:=by rw[← s.len];exact(List.getElem?_eq_some_iff.mp e1).1
      simp[more,List.getElem?_eq_getElem hlt2]
  obtain⟨j,h3,h4⟩:=key
  have hj:j < st.length:=by rw[← s.len];exact(List.getElem?_eq_some_iff.mp h4).1
  obtain⟨d,h5,h6⟩:=hg i st[j] (by rw[h3];exact List.getElem?_eq_getElem hj)
  rw[h2] at h5
  cases h5
  exact Zi5 hw hf h6 (s.cell j a _ h4 (List.getElem?_eq_getElem hj))
 ·rcases x.newA a (sub a h) with z | z
  ·exact .inl z
  ·exact .inr z
theorem Zet{Q:VK}{W:WX}{md:Bool}{n:Nat}{t:T}{v:V}(kc:Z6v G cs)(x:Stp m H m' H')(hn:m.as.length=n)(s:RSto G m' H' st)(r:Rp G m' H' t v)(q:Rn G W [] [] (Rp G) m H (Z5w cs md n t st) (Kq Q)):Q v H':=by
 unfold Z5w at q
 cases e1:Z1x (frz cs st (ren n (kept md n t))) (st.take n++more st (kept md n t)) with
 | none=>rw[e1] at q;exact q.elim
 | some st' =>
  cases e2:Z0h (frz cs st (ren n (kept md n t))) t with
  | none=>rw[e1,e2] at q;exact q.elim
  | some t' =>
   rw[e1,e2] at q
   have F:=Zdw kc (kept md n t) (fun l h=>by
    unfold kept at h
    split at h
    ·split at h
     ·rename_i z;cases h;exact z.2
     ·cases h
    ·cases h) x hn s e1
   exact q v H' _ ⟨⟨rfl,fun i t e=>by simp at e⟩,F.sto⟩ F.stp (Z7a F.hw F.hf t t' v e2 r)
theorem ZhT{n:Nat}{c:Nat}{ts us:List T}{st':Sto}{cls:Value}{d:Option Addr}(kc:Z6v G cs)(x:Stp m H m' H')(hn:m.as.length=n)(s:RSto G m' H' st)(e1:Z1x (frz cs st (ren n none)) (st.take n++more st none)=some st')
  (e2:Z0f (frz cs st (ren n none)) ts=some us) (r:ZdM G m' H' (.exc c ts) cls d):∃ m2,RSto G m2 H' st'∧Stp m H m2 H'∧ZdM G m2 H' (.exc c us) cls d:=by
 have F:=Zdw kc none (fun l h=>by cases h) x hn s e1
 refine⟨_,F.sto,F.stp, ?_⟩
 match ts,e2,r with
 | [],e2,r=>rw[Z0f] at e2;cases e2;exact r
 | [t],e2,r =>
  rw[Z0f] at e2
  cases e3:Z0h (frz cs st (ren n none)) t with
  | none=>rw[e3] at e2;cases e2
  | some y =>
   rw[e3] at e2
   simp only[Z0f] at e2
   cases e2
   obtain⟨h1,a,v,f,h2,h3,h4,h5,h6⟩:=r
   exact⟨h1,a,v,f,h2,fun z=>h3 (F.hw a z),h4,h5,Z7a F.hw F.hf t y v e3 h6⟩
 | _ :: _ :: _,_,r=>exact r.elim
end
end Eg
set_option maxHeartbeats 2000000
namespace Eg
open PySem PySem.Spec PyProof.Rows L2
def env0 (n:Nat) (ts:List T):Env:=ts.map some++List.replicate (n - ts.length) none
def den (cs:List Ci) (md:Bool) (k n:Nat) (f:Fs):List T→Sto→R T:=fun ts st=>if ts.length=k then Zdr cs md st.length (f (env0 n ts) st) else .bad
section
variable {G:Gh} {m:Mm} {H:Hp} {cs:List Ci}
theorem ZhE{N:List Str}{ts:List T}{vs:List V}(r:Rps G m H ts vs):Z0z G m H (env0 N.length ts) (L2.start N vs):=by
 have hl:=r.length
 refine⟨by unfold env0 L2.start;simp[hl],fun i t e => ?_⟩
 unfold env0 at e
 by_cases hi:i < ts.length
 ·rw[List.getElem?_append_left (by simpa using hi),List.getElem?_map,List.getElem?_eq_getElem hi] at e
  have e2:ts[i]=t:=by simpa using e
  obtain⟨v,hv,rv⟩:=r.get (List.getElem?_eq_getElem hi)
  rw[e2] at rv
  refine⟨v, ?_,rv⟩
  unfold L2.start
  rw[List.getElem?_append_left (by rw[List.length_map,← hl];exact hi),List.getElem?_map,hv]
  rfl
 ·rw[List.getElem?_append_right (by rw[List.length_map];omega),List.getElem?_replicate] at e
  split at e <;> cases e
theorem Zik{fb:Fs}{md:Bool}{k:Nat}{N:List Str}{vs:List V}{Q:VK}{E:XK}(kc:Z6v G cs)(h:Spec G (den cs md k N.length fb) vs H Q E) :
  vs.length=k∧tS G (fun cls d _ H=>E cls d H) fb { nx:=fun _ H'=>Q .non H',rt:=Q } (L2.start N vs) H:=by
 obtain⟨m,st,ts,rs,r,q⟩:=h
 unfold den at q
 by_cases hl:ts.length=k
 ·rw[if_pos hl] at q
  refine⟨r.length.symm.trans hl,m,env0 N.length ts,st,⟨ZhE r,rs.sto⟩, ?_⟩
  have hn:m.as.length=st.length:=rs.sto.len
  generalize fb (env0 N.length ts) st=o at q ⊢
  cases o with
  | nx env' st'=>exact fun σ' H' m' rs' S=>Zet (t := .non) (v := .non) kc S hn rs'.sto rfl q
  | rt t st'=>exact fun v H' m' s' S rv=>Zet kc S hn s' rv q
  | bk env' st'=>exact q.elim
  | ct env' st'=>exact q.elim
  | bad=>exact q.elim
  | exc e env' st' =>
   intro cls d σ' H' m' rs' S re
   cases e with
   | exc c us =>
    have q:Rn G (fun cls d _ H=>E cls d H) [] [] (Rp G) m H (match Z1x (frz cs st' (ren st.length none)) (st'.take st.length++more st' none),Z0f (frz cs st' (ren st.length none)) us with
     | some st',some us => .exc (.exc c us) st'
     | _,_ => .bad) (Kq Q):=q
    cases e1:Z1x (frz cs st' (ren st.length none)) (st'.take st.length++more st' none) with
    | none=>rw[e1] at q;exact q.elim
    | some st2 =>
     cases e2:Z0f (frz cs st' (ren st.length none)) us with
     | none=>rw[e1,e2] at q;exact q.elim
     | some us2 =>
      rw[e1,e2] at q
      obtain⟨m2,s2,S2,r2⟩:=ZhT kc S hn rs'.sto e1 e2 re
      exact q cls d H' m2 ⟨⟨rfl,fun i t e=>by simp at e⟩,s2⟩ S2 r2
   | _=>exact re.elim
 ·rw[if_neg hl] at q;exact q.elim
end
section
variable {P:Program} {w:World} {K:PySem.W.Frag} {mg:Str→Option Value} {base:Heap} {lv:Nat} {G:Gh} {cs:List Ci}
theorem ZiG{fp:Addr}{nm qual:Str}{prm:Arguments}{body:List Stmt}{sc:Scope}{dV kV doc pm cdv ct oc:Value}{an od:Option Addr}{osl:Array (Option Value)}{N ps:List Str}{fb:Fs}{md:Bool}(kc:Z6v G cs)
  (look:K.lookup fp=some ⟨oc,od, .func (PySem.W.fnOf nm qual prm body sc dV kV doc pm an cdv ct),osl⟩) (code:PySem.W.codeIn K cdv qual=true) (S:FnScope N ps sc)
  (walk:∀ (A:Around) (outer:List PySem.Env) (s:Shared) (H:Hp) (E:XK),Room lv (A.deeper (envOfC qual sc s.heap.objs.size fp cdv))→A.guards=some [] →
    PSs (cxOf (L2.CX P w) P w K mg base N qual sc fp cdv A outer s H E) body (tS G (fun cls d _ H=>E cls d H) fb)) :
  FnG P w K mg base (lv+1) fp (PySem.W.fnOf nm qual prm body sc dV kV doc pm an cdv ct) ps (Spec G (den cs md ps.length N.length fb)):=by
 refine⟨fun A outer s H args us vs Q E room grd e0 bnd rv lenv spec => ?_⟩
 obtain⟨_,wish⟩:=Zik (N:=N) kc spec
 have inH:K.In s.heap:=e0.mod.kin.keeps fun b o z=>(e0.bs b o z).1
 have unl:s.heap.NoLimit:=e0.mod.nolimit.keeps fun b o z=>(e0.bs b o z).1
 have kinds:∀ y∈ps.zip us,sc.names.lookup y.1=some .local∨(sc.names.lookup y.1=some .cell∧((cellsFrom (s.heap.objs.size+1) sc.names []).lookup y.1).isSome=true):=fun y hy=>by
  rcases S.par y.1 (List.of_mem_zip (a:=y.1) (b:=y.2) hy).1 with z | z
  ·exact .inl z
  ·exact .inr ⟨z,PySem.W.cellsFrom_some sc.names _ _ (.inl z)⟩
 refine codeAny_call_function room.depth (inH fp _ look) rfl S.co S.gen rfl (PySem.W.codeRec_of inH code) (bnd _ _ _ _ ?_)
 refine wpAny_newFunctionEnv_cells S.kind kinds fun env same s1 inC => ?_
 subst same
 refine⟨unl.keeps inC.toInCall.keep,codeAny_func ?_⟩
 have J:Inv (cxOf (L2.CX P w) P w K mg base N qual sc fp cdv A outer s H E) [] (L2.start N vs) H s1:=inv_start S room.hd e0 lenv rv inC
 refine wpAny_mono ((walk A outer s H E (room.deeper _) grd).run [] s1 (L2.start N vs) H _ J wish) (fun fl s2 z => ?_) fun _ _ z=>z
 have out:∀ {σ2:L2.St} {H2:Hp} {v:V} {u:Value},Inv (cxOf (L2.CX P w) P w K mg base N qual sc fp cdv A outer s H E) [] σ2 H2 s2→RelV v u→Q v H2→CE outer P w H s Q u s2 :=
  fun {σ2 H2 v u} J2 r2 q2=>⟨v,H2,J2.os,J2.bare,J2.base,J2.hok,r2,q2⟩
 match fl,z with
 | .ret u,⟨v,_,_,J2,r2,q2⟩=>exact out J2 r2 q2
 | .next,⟨_,_,J2,q2⟩=>exact out (v:=V.non) (u:=Value.none) J2 rfl q2
 | .brk,⟨_,_,_,q2⟩=>exact q2.elim
 | .cont,⟨_,_,_,q2⟩=>exact q2.elim
end
end Eg
set_option maxHeartbeats 4000000
namespace Eg
open PySem PySem.Spec PyProof.Rows L2
inductive XB where
 | val | look | arith
def XB.nm:XB→String
 | .val => "ValueError"
 | .look => "LookupError"
 | .arith => "ArithmeticError"
def XB.newId:XB→String
 | .val => "ValueError.__new__"
 | .look => "LookupError.__new__"
 | .arith => "ArithmeticError.__new__"
def XB.initId:XB→String
 | .val => "ValueError.__init__"
 | .look => "LookupError.__init__"
 | .arith => "ArithmeticError.__init__"
def XB.tl:XB→List Value
 | .val=>[.type "ValueError", .type "Exception", .type "BaseException", .type "object"]
 | .look=>[.type "LookupError", .type "Exception", .type "BaseException", .type "object"]
 | .arith=>[.type "ArithmeticError", .type "Exception", .type "BaseException", .type "object"]
theorem XB.base:∀ b:XB,ExcBaseFacts b.nm b.newId b.initId b.tl
 | .val=>PySem.F.excBase_ValueError
 | .look=>PySem.F.excBase_LookupError
 | .arith=>PySem.F.excBase_ArithmeticError
theorem XB.pass(self:Value):∀ b:XB,refuseLoop self "__setattr__" b.tl=pure ()
 | .val=>PySem.F.store_ValueError.passes self
 | .look=>PySem.F.store_LookupError.passes self
 | .arith=>PySem.F.store_ArithmeticError.passes self
theorem XB.obj:∀ b:XB,b.tl.contains (.type "object")=true
 | .val=>by decide +kernel
 | .look=>by decide +kernel
 | .arith=>by decide +kernel
def Z4s (b:XB):List Value→Bool
 | .ref _ :: r=>Z4s b r
 | l=>l == b.tl
theorem Zbq{b:XB}:∀ l:List Value,Z4s b l=true→(∃ c r,l = .ref c :: r∧Z4s b r=true)∨l=b.tl
 | [],e => .inr (beq_iff_eq.mp e)
 | .ref c :: r,e => .inl ⟨c,r,rfl,e⟩
 | .none :: _,e => .inr (beq_iff_eq.mp e)
 | .ellipsis :: _,e => .inr (beq_iff_eq.mp e)
 | .notImplemented :: _,e => .inr (beq_iff_eq.mp e)
 | .bool _ :: _,e => .inr (beq_iff_eq.mp e)
 | .int _ _ :: _,e => .inr (beq_iff_eq.mp e)
 | .float _ _ :: _,e => .inr (beq_iff_eq.mp e)
 | .str _ _ :: _,e => .inr (beq_iff_eq.mp e)
 | .bytes _ _ :: _,e => .inr (beq_iff_eq.mp e)
 | .type _ :: _,e => .inr (beq_iff_eq.mp e)
 | .builtin _ :: _,e => .inr (beq_iff_eq.mp e)
theorem Zax{b:XB}:Z4s b []=true→False:=fun e=>by
 have:=beq_iff_eq.mp (show(([]:List Value) == b.tl)=true from e)
 cases b <;> cases this
theorem ZfI{b:XB}(self:Value):∀ l:List Value,Z4s b l=true→refuseLoop self "__setattr__" l=pure ():=by
 intro l
 induction l with
 | nil=>intro e;exact(Zax e).elim
 | cons a r ih =>
  intro e
  rcases Zbq (a :: r) e with ⟨c,r',q,h⟩ | q
  ·obtain⟨rfl,rfl⟩:=List.cons.inj q
   rw[PySem.refuseLoop_ref];exact ih h
  ·rw[q];exact XB.pass self b
theorem Z5u{b:XB}(X:String):∀ l:List Value,Z4s b l=true→l.contains (.type X)=b.tl.contains (.type X):=by
 intro l
 induction l with
 | nil=>intro e;exact(Zax e).elim
 | cons a r ih =>
  intro e
  rcases Zbq (a :: r) e with ⟨c,r',q,h⟩ | q
  ·obtain⟨rfl,rfl⟩:=List.cons.inj q
   rw[List.contains_cons,ih h];rfl
  ·rw[q]
theorem ZgX{b:XB}{l:List Value}(e:Z4s b l=true):l.isEmpty=false:=by
 cases l with
 | nil=>exact(Zax e).elim
 | cons _ _=>rfl
end Eg
namespace Eg
open PySem PySem.W PySem.Calls PyProof.Rows PySem.HandSPX
section
open Builtin Builtin.ObjectAttr
variable {prog:Program} {w:World} {A:Around} {E:Value→Shared→Prop} {R:Result→Shared→Prop} {hp:Heap} {g:Array GenState} {d:Drawn} {t:Nat} {os:OsState}
theorem Zh2{K:W.Frag}{b:XB}{name:Str}{tk:Tok}{v:Value}{x C:Addr}{fv:Array Value}{cd:ClassData}
  (X:K.In hp) (hx:hp.get? x=some { cls := .ref C,data := .fields fv }) (hcd:W.clsIn K C=some cd) (hm:Z4s b cd.mro=true) (hh:cd.hasDict=true) (ha:W.findIn K (.ref C) name=some none)
  (hq:∀ h' tk' dx,(∀ b o,b≠x→hp.get? b=some o→h'.get? b=some o)→hp.objs.size≤dx→dx≠x→h'.get? x=some { cls := .ref C,dict:=some dx,data := .fields fv } →
    h'.Ns1 dx (fun y=>if y=name then some v else none)→R (.ok (.ret .none)) ⟨h',g,d,tk',os⟩) :
  codeAny (model prog w) A (.call (.builtin "object.__setattr__") ⟨[.ref x, .str name tk,v],[]⟩) R ⟨hp,g,d,t,os⟩:=by
 have I:W.InstAt hp x { cls := .ref C,data := .fields fv } C none:=⟨hx,rfl,rfl,trivial⟩
 have SF:=F.store_object
 have ne:=ZgX hm
 have hob:cd.mro.contains (.type "object")=true:=(Z5u "object" _ hm).trans (XB.obj b)
 have hxs:x≠hp.objs.size:=Nat.ne_of_lt (Heap.lt_size hx)
 have sub:W.Looks (model prog w) hp (isInstance (.ref x) (.type "object")) true:=I.type.andThen (W.looks_mroIn X (by unfold W.mroIn;rw[hcd,Option.bind_some,if_neg (by rw[ne];decide),hob]))
 refine codeAny_call_builtin SF.slot.plain SF.entry (@W.check_slot (model prog w) _ _ ⟨hp,g,d,t,os⟩ "object.__setattr__" "object" "__setattr__" (.ref x) [.str name tk,v] [] _ SF.kind SF.split sub (SF.args (.ref x) (.str name tk) v) ?_)
 have hmr:W.Looks (model prog w) hp (mroOf (.ref C)) cd.mro:=(W.looks_clsIn X hcd).andThen .now
 have L3:W.Looks (model prog w) hp (storeTaker? none) none := .now
 have hcls:W.Looks (model prog w) hp (classData C) cd:=W.looks_clsIn X hcd
 rw[W.osa_eq,refuse_eq]
 refine wpAny_bind (wpAny_bind (I.type.at (wpAny_bind (hmr.at ?_))))
 rw[ZfI _ _ hm]
 refine wpAny_pure (wpAny_bind (I.type.at (wpAny_bind ((W.looks_findIn X ha).at (wpAny_bind (L3.at ?_))))))
 show wpAny _ _ (storeInOwnDict (.ref x) (.ref C) (.str name tk) name v false) _ _ _
 obtain⟨nm,bs,mro,ns,qn,hd,sn,sb,ab,col,del⟩:=cd
 dsimp only at hh
 subst hh
 unfold storeInOwnDict ownDictForStores
 repeat (first | with_reducible refine store_in_new ?_ ?_ | with_reducible refine wpAny_loadPart_at hx ?_ | with_reducible refine hcls.at ?_ | wp_step)
 ·exact⟨_, #[],_,(Heap.get?_update_ne _ _ _ _ hxs.symm).trans (Heap.get?_push_at rfl rfl),rfl,fun e he=>absurd he (by simp),fun _=>rfl⟩
 ·intro h' tk' hn' hs
  have hx₁ : (hp.push { cls := .type "dict",data := .dict #[] }).get? x=some { cls := .ref C,data := .fields fv }:=Heap.get?_push_of_some _ hx
  refine hq h' tk' hp.objs.size (fun b o hb ho => ?_) (Nat.le_refl _) hxs.symm ?_ hn'
  ·exact(hs.2 b (Nat.ne_of_lt (Heap.lt_size ho))).trans ((Heap.get?_update_ne _ _ _ _ hb).trans (Heap.get?_push_of_some _ ho))
  ·exact(hs.2 x hxs).trans (Heap.get?_update_self _ hx₁ rfl)
end
end Eg
namespace Eg
open PySem PySem.Spec PyProof.Rows L2
structure OexX (K:PySem.W.Frag) (C:Addr):Prop where
 cls:∃ (b:XB) (nm q:Str) (N:Addr) (bs bm:List Value) (sn:List Str) (sub:List Value) (ab:Bool) (col:Option Bool) (dd:Option Addr) (k0 k1 k2 k3 k5:Option Value),K.lookup C=some (excClassObj nm q C N bs bm true sn sub ab col dd k0 k1 k2 k3 k5 b.newId)∧Z4s b bm=true
 sa:PySem.W.findIn K (.ref C) "__setattr__" = some (some (.builtin "object.__setattr__"))
 exC:PySem.W.subIn K (.ref C) (.type "BaseException")=some true
 tyC:PySem.W.typeIn K (.ref C)=some (.type "type")
 kC:PySem.W.keepIn K (.ref C)=true
section
variable {X:Cx} {pins:List (Addr × Obj)} {σ : L2.St} {H:Hp} {s:Shared} {a C dx:Addr} {f:Str} {y:V} {u:Value} {Q:Unit→Shared→Prop} {E:Value→Shared→Prop} {A:Around}
theorem ZgW(T:OexX X.K C)(I:Inv X pins σ H s)(e:H a=some (exo a C none))(hno:PySem.W.findIn X.K (.ref C) f=some none)(ry:RelV y u)
  (h:∀ dx s',H dx=none→dx≠a→Inv X pins σ (upd (upd H dx (exd dx [(f,y)])) a (exo a C (some dx))) s'→Q () s'):wpAny (model X.prog X.w) A (setAttr (.ref a) f u) Q E s:=by
 obtain⟨b0,nm,q,N,bs,bm,sn,sub,ab,col,dd,k0,k1,k2,k3,k5,hC,hbm⟩:=T.cls
 have hcl:PySem.W.clsIn X.K C=some { name:=nm,bases:=bs,mro := .ref C :: bm,ns:=N,qualname:=q,hasDict:=true,slotNames:=sn,subclasses:=sub,abstract:=ab,collection:=col,hasDel:=false }:=by unfold PySem.W.clsIn;rw[hC] <;> rfl
 obtain⟨t1,ho⟩:=exo_at I.hok e
 obtain⟨hp,g,d,t,os⟩:=s
 refine PySem.W.set_plain I.kIn (ox:={ cls := .ref C,dict:=none,data := .fields #[.ref t1, .none, .none, .none, .bool false, .none] }) (od:=none) ⟨ho,rfl,rfl,trivial⟩ T.sa ?_
 refine Zh2 I.kIn ho hcl (show Z4s b0 (.ref C :: bm)=true from hbm) rfl hno (fun h' tk' dx k dn dne hx hn => ?_)
 have hnd:H dx=none:=I.hok.fresh dn
 have nd:∀ {b:Addr} {o:Obj},hp.get? b=some o→b≠dx:=fun {b o} q=>Nat.ne_of_lt (Nat.lt_of_lt_of_le (Heap.lt_size q) dn)
 have na:∀ {b:Addr},H b=none→b≠a:=fun {b} n z=>by
  rw[z,e] at n
  cases n
 have Un1:Un X.fs [] H (upd (upd H dx (exd dx [(f,y)])) a (exo a C (some dx))) hp h':={
  keep:=fun b o q n _ _=>k b o (na n) q
  slot:=fun b o q n _ _=>⟨o.slots,k b o (na n) q⟩
  free:=fun b o q n _=>by rw[upd_ne (na n),upd_ne (nd q)];exact n
  there:=fun b o q _=>by
   by_cases hb:b=a
   ·exact⟨_,by rw[hb];exact hx⟩
   ·exact⟨o,k b o hb q⟩
  tups:=fun b xs q=>by rw[upd_ne (at_ne e q exo_tup),upd_ne (ne_of_none q hnd)];exact q
  frzs:=fun b o v q=>by rw[upd_ne (at_ne e q exo_frz),upd_ne (ne_of_none q hnd)];exact q
  tbls:=fun b ps q=>⟨#[],by rw[upd_ne (at_ne e q exo_tbl),upd_ne (ne_of_none q hnd),q];simp⟩ }
 refine h dx _ hnd dne (I.un (t':=tk') Un1 fun b o q => ?_)
 by_cases hb:b=a
 ·subst hb
  rw[upd_same] at q
  cases q
  exact exo_ok hx
 ·rw[upd_ne hb] at q
  by_cases hd:b=dx
  ·subst hd
   rw[upd_same] at q
   cases q
   exact exd_ok hn (relO_put (fs:=[]) ry fun g=>True.intro)
  ·rw[upd_ne hd] at q
   exact(I.hok b o q).stay (fun c v hc z=>k c v (by
     rcases hc with hc | hc
     ·rw[hc]
      exact hb
     ·exact at_ne e hc exo_own) z)
    (fun c hc=>by rw[upd_ne (at_ne e hc exo_own),upd_ne (ne_of_none hc hnd)];exact hc) (fun c xs hc=>by rw[upd_ne (at_ne e hc exo_tup),upd_ne (ne_of_none hc hnd)];exact hc)
end
def tOstX (K:PySem.W.Frag) (f:Str) (to te:TE):TS:=fun D σ H=>te σ H fun y H1=>to σ H1 fun x H2=>∃ a C:Addr,x = .ref a∧OexX K C∧PySem.W.findIn K (.ref C) f=some none ∧
 H2 a=some (exo a C none)∧∀ dx,H2 dx=none→dx≠a→D.nx σ (upd (upd H2 dx (exd dx [(f,y)])) a (exo a C (some dx)))
section
variable {X:Cx} {o e:Expr} {es:List Expr} {to te:TE} {ta:TA} {f:Str} {p p' p1 p2 pos:Pos}
theorem Zio(ho:PE X o to)(he:PE X e te)(hs:swapsWith e (some (.Attribute o f p')) pos.line X.env=pure false:=by rfl):PS X (.Assign [.Attribute o f p'] e pos) (tOstX X.K f to te):=by
 refine⟨fun pins s σ H D I h => ?_⟩
 refine plainObj_wpAny_Assign_Attribute (thn (he.run pins s σ H _ I h) fun v s1 ⟨y,H1,I1,r1,q1⟩=>thn (ho.run pins s1 σ H1 _ I1 q1) fun u s2 ⟨x,H2,I2,r2,a,C,ex,T,hno,ea,q⟩ => ?_) hs
 subst ex
 obtain rfl:u=Value.ref a:=r2
 exact ZgW T I2 ea hno r1 fun dx s' n ne J=>⟨σ,_,J,q dx n ne⟩
theorem ZgV{CX:CXT}{x:Str}{C fI:Addr}{k:Nat}{fd:FuncData}{ps:List Str}{sp:Sp}{ds:List Value}{dvs:List V}(T:OexX X.K C)(iC:PySem.W.findIn X.K (.ref C) "__init__" = some (some (.ref fI)))(tI:PySem.W.typeIn X.K (.ref fI)=some (.type "function"))
  (F1:FnOk X.prog X.w X.K X.mg X.base CX k fI fd ps sp) (hr:Room (k+1) X.A) (hb:Binds X.K fd ps ds) (hd:Vals dvs ds) (hx:Passes CX X (fun _ _ _=>False)) (hg:Gl X x) (hm:X.mg x=some (.ref C)) (ha:PA X (e :: es) ta)
  (hdb:(x == ("__debug__" : Str))=false:=by decide) (he:starEach (e :: es) X.env=(false,eval e X.env) :: starEach es X.env:=by rfl) (hpl:(backTo pos (starEach es X.env)).any (·.1)=false:=by rfl) :
  PMk X (.Call (.Name x p) (e :: es) [] pos) (tMkO C sp dvs ta):=by
 intro pins s σ H Q I h
 obtain⟨b0,nm,q,N,bs,bm,sn,sub,ab,col,dd,k0,k1,k2,k3,k5,hC,hbm⟩:=T.cls
 refine wpAny_Call_Name_kw (ld_glob I hg hm ?_ hdb)
 refine PySem.W.callWith_K (h₀:=X.base) I.ok.mod.kin T.kC (thn (ha.run pos pins s σ H _ I h) fun us s1 ⟨vs,H1,I1,r1,hz,q1⟩=>⟨I1.kIn, ?_⟩) he hpl
 show wpAny _ _ (call (.ref C) us) _ _ _
 obtain⟨hp,g,dr,tk,os⟩:=s1
 have hsz:hp.objs.size≤hp.objs.size+1:=Nat.le_succ _
 have hn:H1 (hp.objs.size+1)=none:=I1.hok.fresh hsz
 have hq:=q1 (hp.objs.size+1) hn
 have kk:∀ b o,hp.get? b=some o→((hp.push (PySem.W.kdv_tup us)).push (PySem.HandSPX.excO C hp.objs.size)).get? b=some o:=fun b o e=>Heap.get?_push_of_some _ (Heap.get?_push_of_some _ e)
 have hget:((hp.push (PySem.W.kdv_tup us)).push (PySem.HandSPX.excO C hp.objs.size)).get? (hp.objs.size+1)=some (PySem.HandSPX.excO C hp.objs.size):=by heap_get
 have I2:Inv X pins σ (upd H1 (hp.objs.size+1) (exo (hp.objs.size+1) C none)) ⟨(hp.push (PySem.W.kdv_tup us)).push (PySem.HandSPX.excO C hp.objs.size),g,dr,tk,os⟩ :=
  I1.laid (t':=tk) (a:=hp.objs.size+1) (o:=exo (hp.objs.size+1) C none) (h':=(hp.push (PySem.W.kdv_tup us)).push (PySem.HandSPX.excO C hp.objs.size)) kk hsz (exo_ok hget)
 have r2:Vals (V.ref (hp.objs.size+1) :: (vs++dvs)) (Value.ref (hp.objs.size+1) :: (us++ds)) := .cons rfl (r1.append hd)
 have hl:(Value.ref (hp.objs.size+1) :: us++ds).length=ps.length:=by
  have e:=r2.length
  rw[F1.len _ _ _ _ hq] at e
  exact e.symm
 have hus:us.length≤sizeLine:=by
  rw[← Paired.length r1,sizeLine_eq]
  omega
 refine wpAny_call (PySem.HandSPX.call_own (XB.base b0) (fun Y=>Z5u Y bm hbm) (I1.kIn _ _ hC) (PySem.W.looks_findIn I1.kIn iC) (fun self=>PySem.W.bind_fn I1.kIn self tI) hus
  (codeAny_mono (F1.run _ X.stack _ _ ⟨Value.ref (hp.objs.size+1) :: us,[]⟩ (Value.ref (hp.objs.size+1) :: (us++ds)) _ _ (fun _ _ _=>False) (hr.make C us []) (I2.env0.make C us []) (hb _ (Value.ref (hp.objs.size+1) :: us) I2.kIn hl) r2 hq) fun r s' hq' => ?_))
 cases r with
 | error er=>exact hx pins σ _ _ er s' I2 hq'
 | ok fl =>
  cases fl with
  | ret u =>
   obtain⟨v,H2,os2,bare2,un2,hok2,rv,ev,d,fs,ea,ed,hd1,q2⟩:=hq'
   subst ev
   obtain⟨h2,g2,d2,t2,os'⟩:=s'
   exact⟨rv,mk_end (raises_own T.exC T.tyC) I1 hsz kk un2 hok2 os2 bare2 ea ed hd1 q2⟩
  | next=>exact False.elim hq'
  | brk=>exact False.elim hq'
  | cont=>exact False.elim hq'
theorem ZgK{C:Addr}{b:XB}{x:Str}(q:PySem.W.excIn X.K C b.tl b.newId=true)(gC:X.mg x=some (.ref C))(kC:PySem.W.keepIn X.K (.ref C)=true)(r:Raises X (.ref C))(hg:Gl X x)
  (hdb:(x == ("__debug__" : Str))=false:=by decide):PMk X (.Call (.Name x p) [] [] pos) (fun _ H Q=>Q (.ref C) none H):=by
 intro pins s σ H Q I h
 refine wpAny_Call_Name_kw (ld_glob I hg gC ?_ hdb)
 refine PySem.W.callWith_K0 I.kIn kC ?_
 show wpAny _ _ (call (.ref C) []) _ _ _
 obtain⟨bm,N,nm,qn,bs,hdct,sn,sub,ab,col,dd,k0,k1,k2,k3,k5,mN,hC,hN,hni,T⟩:=exc_obj I.kIn q
 refine wpAny_call_exc_subT (XB.base b) T hC hN hni (fun h' e hm => ?_) (Nat.zero_le _)
 exact mk_of I hm r h (I.hok.gone hm.new)
end
end Eg
set_option maxHeartbeats 2000000
namespace Eg
open PySem PySem.Spec PyProof.Rows L2
def ZdH (G:Gh) (X:Cx):Prop:=∀ y,G.xa=some y→(y.a,y.oe)∈X.pn∧Zc y.cls y.d y.oe∧∃ vs,y.oe.data = .fields vs
section
variable {X:Cx} {G:Gh} {W:WX} {lv:Nat} {fa fe:Env→Sto→R T} {fs:Env→Sto→R (List T)} {a e:Expr} {es:List Expr} {f x:Str} {pos pos' p:Pos}
theorem ZhR{pins:List (Addr × Obj)}{σ : L2.St}{H:Hp}{s:Shared}{m:Mm}{c:Nat}{ts:List T}{v:V}(hx:ZdH G X)(I:Inv X pins σ H s)(r:Rp G m H (.exc c ts) v) :
  ∃ y od,G.xa=some y∧v = .ref y.a∧PySem.W.InstAt s.heap y.a y.oe (G.cl c) od:=by
 obtain⟨y,vs,e1,e2,e3,_,q⟩:=r
 obtain⟨hm,hz,us,hd⟩:=hx y e1
 have hget:=(I.pin (y.a,y.oe) (List.mem_append_left _ hm)).1
 have hnc:PySem.W.notCls y.oe=true:=by unfold PySem.W.notCls;rw[hd] <;> rfl
 rcases q with ⟨_,hn⟩ | ⟨dx,f,w,_,hn,_,hH,_⟩
 ·exact⟨y,none,e1,e2,hget,by rw[hz.1,e3],hnc,by rw[hz.2,hn];trivial⟩
 ·have ok:ObjOk X.prog X.w H s.heap dx (.xd [(f,w)]):=I.hok dx _ hH
  obtain⟨mA,hns,_⟩:=ok
  obtain⟨od,ho,_⟩:=lookIn_ns hns
  exact⟨y,some od,e1,e2,hget,by rw[hz.1,e3],hnc,by rw[hz.2,hn];exact ho⟩
theorem Zi1{pins:List (Addr × Obj)}{σ : L2.St}{H:Hp}{s:Shared}{m:Mm}{c:Nat}{ts:List T}{v:V}(I:Inv X pins σ H s)(r:Rp G m H (.exh c ts) v) :
  ∃ a oe od,v = .ref a∧PySem.W.InstAt s.heap a oe (G.cl c) od:=by
 obtain⟨a,vs,rfl,hn,_,q⟩:=r
 rcases q with ⟨_,h⟩ | ⟨dx,f,w,_,_,_,h,hd⟩
 ·obtain⟨oe,us,e,z,hd,_⟩:=(show ObjOk X.prog X.w H s.heap a (ExO (.ref (G.cl c)) a) from I.hok a _ h).1
  exact⟨a,oe,none,rfl,e,z.1,by unfold PySem.W.notCls;rw[hd] <;> rfl,by rw[z.2];trivial⟩
 ·obtain⟨t1,e⟩:=exo_at I.hok h
  obtain⟨mA,hns,_⟩:=exd_at I.hok hd
  obtain⟨od,ho,_⟩:=lookIn_ns hns
  exact⟨a,_,some od,rfl,e,rfl,rfl,ho⟩
def rIsx (G:Gh) (K:PySem.W.Frag):List V→Hp→VK→Prop:=fun xs H Q=>∃ (m:Mm) (c:Nat) (ts:List T) (v t:V) (cv:Value) (b:Bool),xs=[v,t]∧(Rp G m H (.exc c ts) v∨Rp G m H (.exh c ts) v)∧ExcC K (G.cl c)∧(∀ u,RelV t u→u=cv) ∧
 PySem.W.kitOne K (.ref (G.cl c)) cv=some b∧Q (.bl b) H
theorem ZgY(hx:ZdH G X):CallR X (.builtin "isinstance") (rIsx G X.K):=by
 intro pins s σ H xs us Q I r h
 obtain⟨m,c,ts,v,t,cv,b,rfl,rv,C,hcv,ek,q⟩:=h
 cases r with
 | cons rx rr =>
  cases rr with
  | cons rt rr =>
   cases rr
   obtain⟨y,oe,od,rfl,J⟩:∃ y oe od,v = .ref y∧PySem.W.InstAt s.heap y oe (G.cl c) od:=by
    rcases rv with rv | rv
    ·obtain⟨y,od,_,e,J⟩:=ZhR hx I rv
     exact⟨_,_,od,e,J⟩
    ·exact Zi1 I rv
   cases rx
   have ec:=hcv _ rt
   subst ec
   obtain⟨cd,hc,_⟩:=PySem.W.any_some C.hd
   exact PySem.W.kia_one (PySem.W.kitx_exc (by rw[hc];rfl) C.hg C.hk C.hs C.ha C.hn C.ht C.hm) I.kIn J ek (fun z=>nomatch z) fun tk=>⟨.bl b,H,I.kept (t':=tk) fun _ _ z=>z,rfl,q⟩
def fIsx (tb:List ((Nat × Tg) × Bool)) (g:Tg) (fa:Env→Sto→R T):Env→Sto→R T:=fun env st=>(fa env st).bnd fun x st1=>match x with
 | .exc c _=>R.opt ((tb.lookup (c,g)).map .bl) st1
 | .exh c _=>R.opt ((tb.lookup (c,g)).map .bl) st1
 | _ => .bad
theorem s_isx{tb:List ((Nat × Tg) × Bool)}{g:Tg}{c:Expr}(hx:ZdH G X)(htb:∀ c g k,tb.lookup (c,g)=some k→ExcC X.K (G.cl c)∧PySem.W.kitOne X.K (.ref (G.cl c)) (Z6w G g)=some k)
  (hg:Gl X "isinstance") (hm:X.mg "isinstance" = none) (ha:PE X a (tE G W fa)) (hc:PE X c (tC (tgV G g))) (hs:starEach [a,c] X.env=(false,eval a X.env) :: starEach [c] X.env) (hs2:starEach [c] X.env=[(false,eval c X.env)]) :
  PE X (.Call (.Name "isinstance" p) [a,c] [] pos) (tE G W (fIsx tb g fa)):=by
 refine PE.imp (pe_callB (ZgY hx) hg hm (by decide +kernel) (pa_cons ha (pa_cons hc pa_nil hs2) hs) (by decide) (by decide) hs (by rw[hs2];rfl)) fun σ H Q h => ?_
 show tE G W fa σ H fun v H1=>rIsx G X.K [v,tgV G g] H1 Q
 refine at1 h fun m env st t v H1 rs r q => ?_
 have go:∀ (c:Nat) (ts:List T),(Rp G m H1 (.exc c ts) v∨Rp G m H1 (.exh c ts) v)→Rn G W σ env (Rp G) m H1 (R.opt ((tb.lookup (c,g)).map .bl) st) (Kq Q)→rIsx G X.K [v,tgV G g] H1 Q:=fun c ts r q=>by
  cases ek:tb.lookup (c,g) with
  | none=>rw[ek] at q;exact q.elim
  | some k =>
   rw[ek] at q
   obtain⟨C,hk⟩:=htb c g k ek
   refine⟨m,c,ts,v,tgV G g,Z6w G g,k,rfl,r,C, ?_,hk,Rn.give (b := .bl k) q rs rfl⟩
   cases g with
   | ty n=>exact fun u z=>z
   | cls c=>exact fun u z=>z
 cases t with
 | exc c ts=>exact go c ts (.inl r) q
 | exh c ts=>exact go c ts (.inr r) q
 | _=>exact q.elim
def fXat (xf:List (Nat × Str)) (f:Str) (fa:Env→Sto→R T):Env→Sto→R T:=fun env st=>(fa env st).bnd fun x st1=>match x with
 | .exc c [t]=>if xf.lookup c=some f then .ok t st1 else .bad
 | .exh c [t]=>if xf.lookup c=some f then .ok t st1 else .bad
 | _ => .bad
theorem s_xat{xf:List (Nat × Str)}(hx:ZdH G X)(hxf:∀ c f,xf.lookup c=some f→XfC X.K (G.cl c)∧PySem.W.findIn X.K (.ref (G.cl c)) f=some none∧G.fl c=[f])(he:PE X e (tE G W fa))(hb:attributeBase e f X.env (eval e X.env)=eval e X.env) :
  PE X (.Attribute e f pos) (tE G W (fXat xf f fa)):=by
 refine⟨fun pins s σ H Q I h => ?_⟩
 have h2:tE G W fa σ H fun v H1=>∃ m c t,(Rp G m H1 (.exc c [t]) v∨Rp G m H1 (.exh c [t]) v)∧xf.lookup c=some f∧∀ w,Rp G m H1 t w→Q w H1:=by
  refine at1 (g:=fun _ x st1=>match x with
   | T.exc c [t]=>if xf.lookup c=some f then R.ok t st1 else R.bad
   | T.exh c [t]=>if xf.lookup c=some f then R.ok t st1 else R.bad
   | _=>R.bad) h fun m env st t v H1 rs r q => ?_
  match t,r,q with
  | .exc c [t],r,q =>
   have q:Rn G W σ env (Rp G) m H1 (if xf.lookup c=some f then R.ok t st else R.bad) (Kq Q):=q
   by_cases hl:xf.lookup c=some f
   ·rw[if_pos hl] at q
    exact⟨m,c,t, .inl r,hl,fun w rw=>Rn.give q rs rw⟩
   ·rw[if_neg hl] at q;exact q.elim
  | .exh c [t],r,q =>
   have q:Rn G W σ env (Rp G) m H1 (if xf.lookup c=some f then R.ok t st else R.bad) (Kq Q):=q
   by_cases hl:xf.lookup c=some f
   ·rw[if_pos hl] at q
    exact⟨m,c,t, .inr r,hl,fun w rw=>Rn.give q rs rw⟩
   ·rw[if_neg hl] at q;exact q.elim
  | .exc c [],r,q=>exact q.elim
  | .exc c (_ :: _ :: _),r,q=>exact q.elim
  | .non,r,q=>exact q.elim
  | .bl _,r,q=>exact q.elim
  | .int _,r,q=>exact q.elim
  | .str _,r,q=>exact q.elim
  | .tup _,r,q=>exact q.elim
  | .lst _,r,q=>exact q.elim
  | .obj _ _,r,q=>exact q.elim
  | .loc _,r,q=>exact q.elim
  | .scr _,r,q=>exact q.elim
  | .cv _,r,q=>exact q.elim
  | .ptp _,r,q=>exact q.elim
  | .edt,r,q=>exact q.elim
  | .exh c [],r,q=>exact q.elim
  | .exh c (_ :: _ :: _),r,q=>exact q.elim
  | .dk1 _ _,r,q=>exact q.elim
 refine attr_of hb (thn (he.run pins s σ H _ I h2) fun u s1 ⟨v,H1,I1,rv,m,c,t,r,hl,q⟩ => ?_)
 obtain⟨C,hno,hfl⟩:=hxf c f hl
 rcases r with r | r
 rotate_left
 ·obtain⟨a,vs,rfl,hn,⟨w,r0,rfl,rw0,hr0⟩,qd⟩:=r
  cases (show r0=[] from hr0)
  obtain rfl:u=Value.ref a:=rv
  rcases qd with ⟨z,_⟩ | ⟨dx,f',w',hvs,hfl',_,hH,hD⟩
  ·cases z
  ·have e4:w=w':=by simpa using hvs
   have e5:f=f':=by rw[hfl] at hfl';simpa using hfl'
   subst e4 e5
   obtain⟨t1,hget⟩:=exo_at I1.hok hH
   obtain⟨mA,hns,hr⟩:=exd_at I1.hok hD
   obtain⟨od,ho,hlk⟩:=lookIn_ns hns
   obtain⟨u,hu,ru⟩:=RelO.some_of (v:=w) (o:=mA f) (by
    have z:=hr f
    have e6:([(f,w)]:List (Str × V)).lookup f=some w:=by simp[List.lookup_cons]
    rw[e6] at z
    exact z)
   exact HandSPX.exc_get I1.kIn ⟨hget,rfl,rfl,ho⟩ C.ga C.gg C.exC (PySem.W.findObj_own C.hdC hno rfl (by rw[hlk,hu])) (handed_of ru) ⟨w,H1,I1.tok _,ru,q w rw0⟩
 obtain⟨y,vs,e1,rfl,e3,⟨w,r0,rfl,rw0,hr0⟩,qd⟩:=r
 cases (show r0=[] from hr0)
 obtain rfl:u=Value.ref y.a:=rv
 rcases qd with ⟨z,_⟩ | ⟨dx,f',w',hvs,hn,_,hH,hfl'⟩
 ·cases z
 ·have e4:w=w':=by simpa using hvs
  have e5:f=f':=by rw[hfl] at hfl';simpa using hfl'
  subst e4 e5
  obtain⟨hm,hz,us,hd⟩:=hx y e1
  have hget:=(I1.pin (y.a,y.oe) (List.mem_append_left _ hm)).1
  have ok:ObjOk X.prog X.w H1 s1.heap dx (.xd [(f,w)]):=I1.hok dx _ hH
  obtain⟨mA,hns,hr⟩:=ok
  obtain⟨od,ho,hlk⟩:=lookIn_ns hns
  obtain⟨u,hu,ru⟩:=RelO.some_of (v:=w) (o:=mA f) (by
   have z:=hr f
   have e6:([(f,w)]:List (Str × V)).lookup f=some w:=by simp[List.lookup_cons]
   rw[e6] at z
   exact z)
  have J:PySem.W.InstAt s1.heap y.a y.oe (G.cl c) (some od):=⟨hget,by rw[hz.1,e3],by unfold PySem.W.notCls;rw[hd] <;> rfl,by rw[hz.2,hn];exact ho⟩
  exact HandSPX.exc_get I1.kIn J C.ga C.gg C.exC (PySem.W.findObj_own C.hdC hno rfl (by rw[hlk,hu])) (handed_of ru) ⟨w,H1,I1.tok _,ru,q w rw0⟩
end
def spI (C:Addr) (f:Str):Sp:=fun vs H Q _=>∃ a v,vs=[.ref a,v]∧H a=some (exo a C none)∧∀ dx,H dx=none→dx≠a→Q .non (upd (upd H dx (exd dx [(f,v)])) a (exo a C (some dx)))
structure XcOk (P:Program) (w:World) (K:PySem.W.Frag) (mg:Str→Option Value) (base:Heap) (lv:Nat) (G:Gh) (c:Nat) (f:Str):Prop where
 ox:OexX K (G.cl c)
 fl:G.fl c=[f]
 lv1:1≤lv
 init:∃ fI fd ps,PySem.W.findIn K (.ref (G.cl c)) "__init__" = some (some (.ref fI))∧PySem.W.typeIn K (.ref fI)=some (.type "function")∧FnOk P w K mg base (L2.CX P w) 1 fI fd ps (spI (G.cl c) f)∧L2.Binds K fd ps []
section
variable {P:Program} {w:World} {K:PySem.W.Frag} {mg:Str→Option Value} {base:Heap} {C f:Addr}
theorem Zia{d:Str}{qual y:Str}{params:Arguments}{scope:Scope}{dvs:List V}{p1 p2 p3 p4:Pos}{a fI:Addr}{fd:FuncData}(F:FunD K d qual params [.Assign [.Attribute (.Name "self" p1) y p2] (.Name y p3) p4] scope dvs [] fI fd)
  (S:FnScope ["self",y] ["self",y] scope) (hs:L2.Vis scope "self") (hv:L2.Vis scope y) (hd:(y == ("__debug__" : Str))=false) (hcd:(y == ("__classdict__" : Str))=false) (T:OexX K C) (hno:PySem.W.findIn K (.ref C) y=some none) :
  FnOk P w K mg base (L2.CX P w) 1 fI fd ["self",y] (spI C y):=by
 refine FunD.ok F S (fun vs H Q E ⟨a,v,e,_⟩=>by rw[e];rfl) fun cdv A outer s H vs Q E hr hsp => ?_
 obtain⟨a,v,rfl,ea,q⟩:=hsp
 refine⟨_,pss_one (Zio (pe_var (i:=0) rfl hs) (pe_var (i:=1) rfl hv hd hcd)), ?_⟩
 exact⟨v,rfl, .ref a,rfl,a,C,rfl,T,hno,ea,q⟩
end
section
variable {X:Cx} {G:Gh} {W:WX} {lv:Nat} {fe:Env→Sto→R T} {e:Expr} {f x:Str} {pos pos' p:Pos}
def fRse (c:Nat) (fe:Env→Sto→R T):Fs:=fun env st=>(fe env st).go env fun t st1 => .exc (.exc c [t]) env st1
theorem S_rse{c:Nat}(hc:X.calm=true)(hr:Room (lv+1) X.A)(tk:Takes X W)(xc:XcOk X.prog X.w X.K X.mg X.base lv G c f)(hg:Gl X x)(hm:X.mg x=some (.ref (G.cl c)))(hdb:(x == ("__debug__" : Str))=false)(ha:PE X e (tE G W fe))
  (hs:starEach [e] X.env=[(false,eval e X.env)]):PS X (.Raise (some (.Call (.Name x p) [e] [] pos)) none pos') (tS G W (fRse c fe)):=by
 obtain⟨fI,fd,ps,i1,i2,i3,i4⟩:=xc.init
 have pas:Passes (L2.CX X.prog X.w) X (fun _ _ _=>False):=passes_call tk fun _ _ _ _ z=>z.elim
 refine PS.imp (ps_raise hc tk (ZgV (k:=1) (dvs:=[]) (ds:=[]) xc.ox i1 i2 i3 (hr.mono (by have:=xc.lv1;omega)) i4 .nil pas hg hm (pa_cons ha pa_nil hs) hdb hs rfl)) fun D σ H h => ?_
 obtain⟨m,env,st,rs,h⟩:=h
 show tE G W fe σ H fun v H1=>[v].length≤1000∧∀ a,H1 a=none→spI (G.cl c) f (.ref a :: ([v]++[])) (upd H1 a (exo a (G.cl c) none)) (fun v H2=>v = .non∧∃ (d:Addr) (fs:List (Str × V)),H2 a=some (exo a (G.cl c) (some d))∧H2 d=some (exd d fs)∧H1 d=none∧W (.ref (G.cl c)) (some d) σ (upd (del H2 a) d (.xd fs))) (fun _ _ _=>False)
 refine⟨m,env,st,rs,(Out.go h).imp fun t st1 v H1 m1 rs1 S1 r1 h=>⟨by simp,fun a ha=>⟨a,v,rfl,upd_same,fun dx hdx hne=>⟨rfl,dx,[(f,v)],upd_same, ?_, ?_, ?_⟩⟩⟩⟩
 ·rw[upd_ne hne,upd_same]
 ·rw[upd_ne hne] at hdx;exact hdx
 ·have hdx:H1 dx=none:=by rw[upd_ne hne] at hdx;exact hdx
  have eH:upd (del (upd (upd (upd H1 a (exo a (G.cl c) none)) dx (exd dx [(f,v)])) a (exo a (G.cl c) (some dx))) a) dx (.xd [(f,v)])=upd H1 dx (.xd [(f,v)]):=by
   funext b
   by_cases hb:b=dx
   ·rw[hb,upd_same,upd_same]
   ·rw[upd_ne hb,upd_ne hb]
    by_cases hb2:b=a
    ·rw[hb2,del_same,ha]
    ·rw[del_ne hb2,upd_ne hb2,upd_ne hb,upd_ne hb2]
  rw[eH]
  exact h (.ref (G.cl c)) (some dx) σ _ m1 (rs1.fresh hdx) (Stp.fresh hdx) ⟨rfl,dx,v,f,rfl,rs1.sto.free hdx,upd_same,xc.fl,Rp.mov (Stp.fresh hdx).toMov _ _ r1⟩
end
structure XnOk (K:PySem.W.Frag) (G:Gh) (c:Nat):Prop where
 ex:∃ b:XB,PySem.W.excIn K (G.cl c) b.tl b.newId=true
 kC:PySem.W.keepIn K (.ref (G.cl c))=true
 exC:PySem.W.subIn K (.ref (G.cl c)) (.type "BaseException")=some true
 tyC:PySem.W.typeIn K (.ref (G.cl c))=some (.type "type")
def Zh9 (P:Program) (w:World) (K:PySem.W.Frag) (mg:Str→Option Value) (base:Heap) (lv:Nat) (G:Gh) (c:Nat) (f:Str):Prop:=(f≠("" : Str)→XcOk P w K mg base lv G c f)∧(f=("" : Str)→XnOk K G c)
def fRs0 (c:Nat):Fs:=fun env st => .exc (.exc c []) env st
section
variable {X:Cx} {G:Gh} {W:WX} {x:Str} {p pos pos':Pos}
theorem S_rs0{c:Nat}(hc:X.calm=true)(tk:Takes X W)(xn:XnOk X.K G c)(hg:Gl X x)(hm:X.mg x=some (.ref (G.cl c)))(hdb:(x == ("__debug__" : Str))=false) :
  PS X (.Raise (some (.Call (.Name x p) [] [] pos)) none pos') (tS G W (fRs0 c)):=by
 obtain⟨b,q⟩:=xn.ex
 refine PS.imp (ps_raise hc tk (ZgK q hm xn.kC (raises_own xn.exC xn.tyC) hg hdb)) fun D σ H h => ?_
 obtain⟨m,env,st,rs,h⟩:=h
 exact h (.ref (G.cl c)) none σ H m rs (Stp.refl m H) ⟨rfl,rfl⟩
end
def HCal (P:Program) (w:World) (K:PySem.W.Frag) (mg:Str→Option Value) (base:Heap) (lv:Nat) (G:Gh) (F:List T→Sto→R T) (f:Addr):Prop :=
 ∀ (y:XA) (A:Around) (outer:List PySem.Env) (s:Shared) (H:Hp) (us:List Value) (vs:List V) (Q:VK) (E:XK),L2H.RoomH lv A→A.guards=some []→L2H.PinOk outer H s (y.a,y.oe)→Zc y.cls y.d y.oe→(∃ ws,y.oe.data = .fields ws) →
  Env0 P w K mg base A outer s H→Vals vs us→Spec { G with xa:=some y } F vs H Q E→codeAny (model P w) A (.call (.ref f) ⟨us,[]⟩) (CR (L2.CX P w) outer P w H s Q E) s
section
variable {X:Cx} {G:Gh} {W:WX} {lv:Nat} {fs:Env→Sto→R (List T)} {e:Expr} {es:List Expr} {x:Str} {pos p:Pos} {F:List T→Sto→R T} {f:Addr}
end
end Eg
set_option maxHeartbeats 2000000
namespace Eg
open PySem PySem.Spec PyProof.Rows L2
theorem ZgI{B h h':Heap}{l:List PySem.Env}{e:Addr}{Z:Obj→Prop}(F:HandSPX.FlyingZ B l e Z h)(k:∀ b o,h.get? b=some o→h'.get? b=some o):HandSPX.FlyingZ B l e Z h':=by
 obtain⟨f1,f2,f3,oe,vs,T,oT,ts,he,hz,hd,h1,hn,hne,hT,hdT,h3⟩:=F
 exact⟨fun b o q=>k b o (f1 b o q),f2,f3.of_keeps fun b o q _=>⟨o,k b o q,rfl⟩,oe,vs,T,oT,ts,k _ _ he,hz,hd,h1,hn,hne,k _ _ hT,hdT,h3⟩
def gone (i:Nat) (D:Ends):Ends:={ nx:=fun σ' H'=>D.nx (σ'.set i none) H',rt:=D.rt,bk:=fun σ' H'=>D.bk (σ'.set i none) H',ct:=fun σ' H'=>D.ct (σ'.set i none) H' }
def wAs3 (K:PySem.W.Frag) (cs:List Value) (i:Nat) (ts:Addr→Obj→Value→Option Addr→TS) (D:Ends):WX:=fun cls d σ H =>
 PySem.W.exmAny K cls cs=some true∧∀ a oe,Zc cls d oe→H a=none→ts a oe cls d (gone i D) (σ.set i (some (.ref a))) H
section
variable {X:Cx} {x1 x2 x3 n:Str} {c1 c2 c3:Value} {i kk:Nat} {body suite:List Stmt} {b0:Stmt} {p1 p2 p3 tp pos pos':Pos} {tb:WX→TS} {ts:Addr→Obj→Value→Option Addr→TS}
theorem Zfw(hs:X.stack=X.env :: X.outer)(hf:X.env.frame=some X.env.locals)(hN:X.N.Nodup)(hi:X.N[i]? = some n)(hln:X.env.kindOf n=some .local)(n1:Names X x1 c1)(n2:Names X x2 c2)(n3:Names X x3 c3)
  (hb:∀ (W:WX) (pn:List (Addr × Obj)) (xe:Value→Shared→Prop),Takes (X.tr pn xe) W→PassesOwn (model X.prog X.w) X.A X.env xe→PSs (X.tr pn xe) body (tb W))
  (hsu:∀ (a:Addr) (oe:Obj) (cls:Value) (d:Option Addr) (pn:List (Addr × Obj)),Zc cls d oe→(∃ vs,oe.data = .fields vs)→PSs (X.suite a ((a,oe) :: pn)) (b0 :: suite) (ts a oe cls d)) :
  PS X (.Try body [.ExceptHandler (some (.Tuple [.Name x1 p1, .Name x2 p2, .Name x3 p3] kk tp)) (some n) (b0 :: suite) pos'] [] [] pos) (fun D σ H=>tb (wAs3 X.K [c1,c2,c3] i ts D) D σ H):=by
 refine⟨fun pins s σ H D I wish => ?_⟩
 have okX:=I.ok
 have frm:X.A.frames=some (X.env :: X.outer):=by rw[okX.frames,hs]
 have lcl:L2.Loc X.env.scope n := .inl hln
 refine wpAny_Try_except ?_
 have run:=(hb (wAs3 X.K [c1,c2,c3] i ts D) (X.pn++pins) (fun e t1=>wpAny (model X.prog X.w) X.A (noteFrame e X.env) (fun _ t2=>wpAny (model X.prog X.w) X.A (setFlight e none) (fun _ t3 =>
  wpAny (model X.prog X.w) X.A (handleBy e X.env [.ExceptHandler (some (.Tuple [.Name x1 p1, .Name x2 p2, .Name x3 p3] kk tp)) (some n) (b0 :: suite) pos']) (SP X pins D) X.xe t3) X.xe t2) X.xe t1) (fun u z xx => ?_) PassesOwn.looking).run [] s σ H D (I.toTry _) wish
 ·refine wpAny_mono run (fun f s1 ends => ?_) (fun e s1 he=>he)
  cases f with
  | next =>
   obtain⟨σ2,H2,J2,q⟩:=ends
   exact wpAny_execs_nil ⟨σ2,H2,J2.ofTry okX,q⟩
  | brk =>
   obtain⟨σ2,H2,J2,q⟩:=ends
   exact⟨σ2,H2,J2.ofTry okX,q⟩
  | cont =>
   obtain⟨σ2,H2,J2,q⟩:=ends
   exact⟨σ2,H2,J2.ofTry okX,q⟩
  | ret u =>
   obtain⟨v,σ2,H2,J2,r,q⟩:=ends
   exact⟨v,σ2,H2,J2.ofTry okX,r,q⟩
 ·obtain⟨a,B,sI,pins2,σ2,H2,cls,d,rfl,J0,nb,up,sky0,na,os,ag,any,hyes⟩:=xx
  have J:Inv X pins σ2 H2 sI:=J0.ofTry okX
  have sky:Sky B (X.env :: X.outer) a (Zc cls d) X.env.locals z.heap:=by rw[← hs];exact sky0
  show wpAny (model X.prog X.w) X.A (noteFrame (.ref a) X.env) _ _ _
  refine Sky.land Zc.steady frm hf sky fun g3 fl3 up3 => ?_
  have J3:Inv X pins σ2 H2 { z with heap:=g3 }:=J.landed nb fl3.1 (up.trans up3) os ag
  obtain⟨oe3,vs3,he3,hz3,hd3⟩:=fl3.there
  have out:∀ {g:Heap} {o:Obj} {vs:Array Value},g.FunFrames B (X.env :: X.outer)→g.get? a=some o→o.data = .fields vs→a ∉ frs (X.env :: X.outer):=fun {g o vs} ff e1 e2 hm=>by
   obtain⟨_,o2,e3,no⟩:=ff.mem hm
   rw[e1] at e3
   cases e3
   exact no _ e2
  have apart:=out fl3.2.2.1 he3 hd3
  have nL:a≠X.env.locals:=fun y=>apart (List.mem_filterMap.mpr ⟨X.env,List.mem_cons_self,by rw[hf,y]⟩)
  have nF:a ∉ X.fs:=fun hm=>by
   obtain⟨e,h1,h2⟩:=List.mem_filterMap.mp hm
   exact apart (List.mem_filterMap.mpr ⟨e,List.mem_cons_of_mem _ h1,h2⟩)
  have S3:=J3.suite he3 hd3 na nL nF
  refine wpAny_handleBy_cons (codeAny_handlers_test ?_) (by intro q;cases q)
  have LT:PySem.W.Looks (model X.prog X.w) g3 (typeOf (.ref a)) cls:=fun A Q E s k q=>wpAny_typeOf_ref (k _ _ he3) (by rw[hz3.1];exact q)
  have nm:∀ {x:Str} {c:Value} {np:Pos} {Q:Value→Shared→Prop} {E:Value→Shared→Prop},Names X x c→Q c { z with heap:=g3 }→wpAny (model X.prog X.w) (X.A.mark (some (.ref a))) (eval (.Name x np) X.env) Q E { z with heap:=g3 }:=fun {x c np Q E} hc q=>by
   obtain⟨hg,hdbg,hm | ⟨hm,hv,hnn⟩⟩:=hc
   ·exact ld_glob (X:=X.suite a ((a,oe3) :: (X.pn++pins))) S3 hg hm q hdbg
   ·exact ld_blt (X:=X.suite a ((a,oe3) :: (X.pn++pins))) S3 hg hm hv q hnn hdbg
  refine wpAny_Tuple ?_
  refine wpAny_items_cons (nm n1 ?_)
  refine wpAny_items_cons (nm n2 ?_)
  refine wpAny_items_cons (nm n3 ?_)
  refine wpAny_items_nil ⟨by size_fits, ?_⟩
  have kp:∀ b o,g3.get? b=some o→(g3.push { cls := .type "tuple",data := .seq [c1,c2,c3].toArray }).get? b=some o:=fun _ _ y=>Heap.get?_push_of_some _ y
  refine(PySem.W.exm_tup3 ((J3.kIn).keeps kp) (LT.keeps kp) (Heap.get?_push_size g3 rfl) any).here ?_
  have fl4:=ZgI fl3 kp
  have up4:=up3.trans (Heap.UpToSlots.of_keeps kp)
  refine codeAny_handlers_suite_as ?_
  refine HandSPX.lands_againZ fl4 fun g5 fl5 up5 => ?_
  have J5:Inv X pins σ2 H2 { z with heap:=g5 }:=J.landed nb fl5.1 ((up.trans up4).trans up5) os ag
  obtain⟨oe5,vs5,he5,hz5,hd5⟩:=fl5.there
  have S5:=J5.suite he5 hd5 na nL nF
  refine store_ok (X:=X.suite a ((a,oe5) :: (X.pn++pins))) (v := .ref a) S5 hN hi lcl rfl (fun s6 S6 => ?_) (.inr hln)
  refine wpAny_mono ((hsu a oe5 cls d (X.pn++pins) hz5 ⟨_,hd5⟩).run [] s6 _ H2 _ S6 (hyes a oe5 hz5 na)) (fun f s7 ends => ?_) (fun _ _ no=>False.elim no)
  have fin:∀ {σ7:L2.St} {H7:Hp} {Q:Shared→Prop},Inv (X.suite a ((a,oe5) :: (X.pn++pins))) [] σ7 H7 s7→(∀ s8,Inv X pins (σ7.set i none) H7 s8→Q s8) →
    wpAny (model X.prog X.w) X.A (do bindName X.env n .none;unbindBehindTheSuite X.env n pos') (fun _ s8=>Q s8) X.xe s7:=fun {σ7 H7 Q} S7 hq=>gone_ok (S7.unsuite okX) hN hi hln hq
  cases f with
  | next =>
   obtain⟨σ7,H7,S7,q7⟩:=ends
   exact fin S7 fun s8 J8=>⟨_,_,J8,q7⟩
  | brk =>
   obtain⟨σ7,H7,S7,q7⟩:=ends
   exact fin S7 fun s8 J8=>⟨_,_,J8,q7⟩
  | cont =>
   obtain⟨σ7,H7,S7,q7⟩:=ends
   exact fin S7 fun s8 J8=>⟨_,_,J8,q7⟩
  | ret u =>
   obtain⟨v7,σ7,H7,S7,r7,q7⟩:=ends
   exact fin S7 fun s8 J8=>⟨_,_,_,J8,r7,q7⟩
end
end Eg
set_option maxHeartbeats 2000000
namespace Eg
open PySem PySem.Spec PyProof.Rows L2 LamX
section
variable {X:Cx} {pins:List (Addr × Obj)} {σ : L2.St} {H:Hp} {s:Shared}
def ActOk (P:Program) (w:World) (K:PySem.W.Frag) (mg:Str→Option Value) (base:Heap) (lv:Nat) (A:Around) (outer:List PySem.Env) (s:Shared) (H:Hp) (fl co:Addr) (q:Str) (tl:XK→Hp→VK→Prop):Prop :=
 ∀ (Ng:List Str) (qg:Str) (sg:Scope) (g:Addr) (cdg:Value) (a:Str) (W:WX) (pn:List (Addr × Obj)) (xe:Value→Shared→Prop) (p1 p2:Pos),Ng[0]? = some a→L2.Vis sg a→(a == ("__debug__" : Str))=false→(a == ("__classdict__" : Str))=false →
  Room (lv+1) (A.deeper (envOfC qg sg s.heap.objs.size g cdg))→Takes ((cxOf C8.CX0 P w K mg base Ng qg sg g cdg A outer s H C8.E0).tr pn xe) W →
  PE ((cxOf C8.CX0 P w K mg base Ng qg sg g cdg A outer s H C8.E0).tr pn xe) (.Call (.Name a p1) [] [] p2) (fun σZ HZ Q => σZ[0]? = some (some (.ref fl))∧HZ co=some (CodeO co q)∧tl (WE W σZ) HZ Q)
end
def TSpec (G:Gh) (FT:(Sto→R T)→Sto→R T) (tl:XK→Hp→VK→Prop) (H:Hp) (Q:VK):Prop :=
 ∃ m st act,RS G m [] st [] H∧(∀ E H1 m1 st1 Q1,RS G m1 [] st1 [] H1→Stp m H m1 H1→Rn G (fun cls d _ H'=>E cls d H') [] [] (Rp G) m1 H1 (act st1) (Kq Q1)→tl E H1 Q1)∧Rn G W0 [] [] (Rp G) m H (FT act st) (Kq Q)
def TCal (P:Program) (w:World) (K:PySem.W.Frag) (mg:Str→Option Value) (base:Heap) (lv:Nat) (G:Gh) (FT:(Sto→R T)→Sto→R T) (f:Addr):Prop :=
 ∀ (A:Around) (outer:List PySem.Env) (s:Shared) (H:Hp) (fl co:Addr) (q:Str) (Q:VK) (tl:XK→Hp→VK→Prop) (l:Nat),lv≤l→Room (l+2) A→A.guards=some []→Env0 P w K mg base A outer s H→H co=some (CodeO co q) →
  ActOk P w K mg base l A outer s H fl co q tl→TSpec G FT tl H Q→codeAny (model P w) A (.call (.ref f) ⟨[.ref fl],[]⟩) (CR C8.CX0 outer P w H s Q C8.E0) s
section
variable {X:Cx} {G:Gh} {W:WX} {lv j:Nat} {fb:Env→Sto→R T} {e:Expr} {x:Str} {p lpos pos:Pos} {FT:(Sto→R T)→Sto→R T}
end
end Eg
set_option maxHeartbeats 2000000
namespace Eg
open PySem PySem.Spec PyProof.Rows L2
def Z6q (n:Bool) (st:Sto) (x y:T):Option T:=match Z0p st x with
 | some xs=>if data y && Z0l xs && decide (dep y≤60) && decide (Z2s xs≤60) then(if n then some (.int (xs.countP fun z=>eqv z y:Nat)) else(xs.findIdx? fun z=>eqv z y).map fun j => .int (j:Nat)) else none
 | none=>none
def ZdG (n:Bool):Str:=if n then "count" else "index"
def fLk (n:Bool) (fa:Env→Sto→R T) (fs:Env→Sto→R (List T)):Env→Sto→R T:=fun env st=>(fa env st).bnd fun x st1=>if (Z0p st1 x).isSome then(fs env st1).bnd fun ys st2=>match ys with
 | [y]=>R.opt (Z6q n st2 x y) st2
 | _ => .bad else .bad
section
variable {X:Cx} {G:Gh} {W:WX} {fa:Env→Sto→R T} {fs:Env→Sto→R (List T)} {a e:Expr} {es:List Expr} {pos apos:Pos} {m:Mm} {H:Hp} {σ : L2.St} {env:Env} {st:Sto} {Q:VK}
def Zdo (K:PySem.W.Frag):V→List V→Hp→VK→Prop:=fun x xs H Q=>∃ (l:Addr) (y:V) (d:PyData) (ds:List PyData),x = .ref l∧xs=[y]∧Dp K H (.ref l) (.list ds)∧Dp K H y d ∧
 SeqAt.shaped (.list ds)=true∧SeqAt.shaped d=true∧Q (.int (ds.countP fun z=>PyData.eqv z d:Nat)) H
theorem ZfX(hu:X.A.units+65 < cLine):MtR X "list.count" (Zdo X.K):=by
 intro pins s σ H x xs v us Q I rx rxs h
 obtain⟨l,y,d,ds,rfl,rfl,hl,hy,sl,sd,q⟩:=h
 cases rx
 obtain⟨uy,rfl,ry⟩:=vals1 rxs
 obtain⟨bs,r1⟩:=Dp.reads I d y uy hy ry
 have hroom:X.A.units+1+min (PyData.depthAll ds) d.depth < cLine:=room_in_shaped sd hu
 cases hl with
 | lst hs ha =>
  obtain⟨its,rv,⟨ob,n,ho,hc,hdn,hdt⟩,_⟩:=I.list hs
  have isl:s.heap.IsList l its.toArray:=⟨ob,ho,hc,n,hdt⟩
  obtain⟨as,h4⟩:=Dp.readsAll I ds _ its ha rv
  exact SeqAt.count_list_data (vs:=its.toArray) isl (by simpa using h4) r1 (PyData.plainAll_of_canLay0 ds (SeqAt.canLay_of_shaped sl)) (PyData.plain_of_canLay0 d (SeqAt.canLay_of_shaped sd)) hroom ⟨.int _,H,I.tok _,⟨_,rfl⟩,q⟩
def rLk (K:PySem.W.Frag) (n:Bool):V→List V→Hp→VK→Prop:=if n then Zdo K else rIndexD K
theorem ZeO{y:T}(hy:data y=true):∀ {xs:List T} {j:Nat},Z0l xs=true→(xs.findIdx? fun z=>eqv z y)=some j →
  (∃ z,(Z0q xs)[j]? = some z∧PyData.eqv z (toD y)=true)∧∀ (k:Nat) (z:PyData),k < j→(Z0q xs)[k]? = some z→PyData.eqv z (toD y)=false
 | [],j,_,e=>by simp at e
 | x :: xs,j,h,e=>by
  have h':data x=true∧Z0l xs=true:=by simpa [Z0l] using h
  rw[List.findIdx?_cons] at e
  cases c:eqv x y with
  | true =>
   rw[c] at e
   cases e
   exact⟨⟨toD x,by simp[Z0q],by rw[Z7d x y h'.1 hy];exact c⟩,fun k z hk=>absurd hk (Nat.not_lt_zero k)⟩
  | false =>
   rw[c] at e
   simp only[Bool.false_eq_true,if_false] at e
   obtain⟨i,e1,rfl⟩:=Option.map_eq_some_iff.mp e
   obtain⟨⟨z,z1,z2⟩,n⟩:=ZeO hy h'.2 e1
   refine⟨⟨z,by simpa [Z0q] using z1,z2⟩,fun k w hk hw => ?_⟩
   cases k with
   | zero =>
    have e2:toD x=w:=by simpa [Z0q] using hw
    rw[← e2,Z7d x y h'.1 hy];exact c
   | succ k=>exact n k w (by omega) (by simpa [Z0q] using hw)
theorem ZcU{y:T}(hy:data y=true):∀ {xs:List T},Z0l xs=true→((Z0q xs).countP fun z=>PyData.eqv z (toD y))=xs.countP fun z=>eqv z y
 | [],_=>rfl
 | x :: xs,h=>by
  have h':data x=true∧Z0l xs=true:=by simpa [Z0l] using h
  simp only[Z0q,List.countP_cons]
  rw[Z7d x y h'.1 hy,ZcU hy h'.2]
theorem Zg3{n:Bool}(h:tE G W (fLk n fa fs) σ H Q):tE G W fa σ H fun x H1=>tyV G.K "list" x H1∧tA G W fs σ H1 fun xs H2=>rLk G.K n x xs H2 Q:=by
 obtain⟨m,env,st,rs,h⟩:=h
 refine⟨m,env,st,rs,(Rn.bnd h).imp fun x st1 v H1 m1 rs1 S1 r1 q => ?_⟩
 cases e1:Z0p st1 x with
 | none=>rw[e1] at q;exact q.elim
 | some xs =>
  rw[e1] at q
  have q:=(if_pos (c:=(some xs).isSome=true) rfl) ▸ q
  obtain⟨p,vs,rfl,hs,_⟩:=Rp.lst rs1.sto r1 e1
  refine⟨.inl ⟨rfl,vs,hs⟩,m1,env,st1,rs1,(Rn.bnd q).imp fun us st2 ws H2 m2 rs2 S2 r2 q => ?_⟩
  match us,r2,q with
  | [],_,q=>exact q.elim
  | _ :: _ :: _,_,q=>exact q.elim
  | [y],r2,q =>
   obtain⟨w,rfl,hw⟩:=Z2x (ts:=[]) r2
   have q:Rn G W σ env (Rp G) m2 H2 (R.opt (Z6q n st2 x y) st2) (Kq Q):=q
   have r3:=Rp.mov S2.toMov _ _ r1
   unfold Z6q at q
   cases e2:Z0p st2 x with
   | none=>rw[e2] at q;exact q.elim
   | some ys =>
    rw[e2] at q
    obtain⟨c,q⟩:(data y && Z0l ys && decide (dep y≤60) && decide (Z2s ys≤60))=true∧Rn G W σ env (Rp G) m2 H2 (R.opt (if n then some (.int (ys.countP fun z=>eqv z y:Nat)) else(ys.findIdx? fun z=>eqv z y).map fun j => .int (j:Nat)) st2) (Kq Q):=by
     by_cases c:(data y && Z0l ys && decide (dep y≤60) && decide (Z2s ys≤60))=true
     ·exact⟨c,by simpa [c] using q⟩
     ·simp[c] at q;exact q.elim
    simp only[Bool.and_eq_true,decide_eq_true_eq] at c
    obtain⟨⟨⟨h1,h2⟩,h3⟩,h4⟩:=c
    obtain⟨p2,zs,e3,hs2,rz⟩:=Rp.lst rs2.sto r3 e2
    cases e3
    have D1:Dp G.K H2 (.ref p) (.list (Z0q ys)) := .lst hs2 (Z7u ys zs h2 rz)
    have D2:=Zdg y w h1 hw
    have s1:SeqAt.shaped (.list (Z0q ys))=true:=by
     show((PyData.list (Z0q ys)).canLay0 && decide ((PyData.list (Z0q ys)).depth≤64))=true
     have z1:(PyData.list (Z0q ys)).canLay0=true:=by simpa [PyData.canLay0] using Z4o ys h2
     have z2:(PyData.list (Z0q ys)).depth=Z2s ys+1:=by simp[PyData.depth,Z6z ys]
     rw[z1,z2,Bool.true_and]
     exact decide_eq_true (by omega)
    have s2:=Z6p h1 h3
    cases n with
    | true =>
     refine⟨p,w,_,_,rfl,rfl,D1,D2,s1,s2, ?_⟩
     rw[ZcU h1 h2]
     exact Rn.give (b := .int _) q rs2 rfl
    | false =>
     have q:Rn G W σ env (Rp G) m2 H2 (R.opt ((ys.findIdx? fun z=>eqv z y).map fun j => .int (j:Nat)) st2) (Kq Q):=q
     cases e4:ys.findIdx? fun z=>eqv z y with
     | none=>rw[e4] at q;exact q.elim
     | some j =>
      rw[e4] at q
      obtain⟨⟨z,z1,z2⟩,no⟩:=ZeO h1 h2 e4
      exact⟨p,w,_,_,j,z,rfl,rfl,D1,D2,s1,s2,z1,z2,no,Rn.give (b := .int _) q rs2 rfl⟩
theorem s_lk{n:Bool}(hK:X.K=G.K)(hu:X.A.units+65 < cLine)(ha:PE X a (tE G W fa))(hes:PA X (e :: es) (tA G W fs))(hbase:attributeBase a (ZdG n) X.env (eval a X.env)=eval a X.env)(hfew:Few X (e :: es) pos)
  (hline:(apos.endLine == pos.line)=true) (he:starEach (e :: es) X.env=(false,eval e X.env) :: starEach es X.env) (hpl:(starEach es X.env).all (fun x => !x.1)=true) :
  PE X (.Call (.Attribute a (ZdG n) apos) (e :: es) [] pos) (tE G W (fLk n fa fs)):=by
 have hp:=Zhi (e:=e) (pos:=pos) hpl
 cases n with
 | true=>exact PE.imp (pe_bm (r:=Zdo X.K) PySem.F.plainAttrs_list PySem.F.slot_list_count PySem.F.type_list_count (ZfX hu) ha hes hbase hfew hline he hp) fun σ H Q h=>by rw[hK];exact Zg3 h
 | false=>exact PE.imp (pe_bm (r:=rIndexD X.K) PySem.F.plainAttrs_list PySem.F.slot_list_index PySem.F.type_list_index (mt_indexD hu) ha hes hbase hfew hline he hp) fun σ H Q h=>by rw[hK];exact Zg3 h
end
end Eg
set_option maxHeartbeats 4000000
namespace Eg
open PySem PySem.Spec PyProof.Rows L2
section
variable {X:Cx} {G:Gh} {W:WX} {lv:Nat} {cs:List Ci} {fa:Env→Sto→R T} {fs fk:Env→Sto→R (List T)} {a e:Expr} {es:List Expr} {kws:List Keyword} {m k:Str} {kn:List Str} {pos apos:Pos}
end
end Eg
set_option maxHeartbeats 4000000
namespace Eg
open PySem PySem.Spec PyProof.Rows L2
abbrev Du:=List ((Nat × Str) × (List T→Sto→R T))
def Zhh (x:Str):Bool:=x == ("__getitem__" : Str) || x == ("__setitem__" : Str)
def ZfD (P:Program) (w:World) (K:PySem.W.Frag) (mg:Str→Option Value) (base:Heap) (lv:Nat) (G:Gh) (du:Du):Prop :=
 ∀ c x F,du.lookup (c,x)=some F→∃ g j,j+1≤lv∧Meth K (G.cl c) x g∧Cal P w K mg base j G [] F g∧(Zhh x=true→PySem.W.noSeq K (G.cl c)=true∧PySem.W.fnIn K g=true)
def duAt (du:Du) (st:Sto) (x:T) (m:Str):Option (List T→Sto→R T):=(Z8d st x).bind fun p=>du.lookup (p.1,m)
section
variable {X:Cx} {G:Gh} {W:WX} {lv j:Nat} {cs:List Ci} {du:Du} {fa fb:Env→Sto→R T} {a b e:Expr} {p pos:Pos} {F:List T→Sto→R T} {g C dx:Addr} {fv:List (Str × V)}
end
end Eg
set_option maxHeartbeats 4000000
namespace EgNe
open PySem PySem.Spec PyProof.Rows
section
variable {prog:Program} {w:World} {A:Around} {E:Value→Shared→Prop} {s:Shared} {K:PySem.W.Frag} {x C f L:Addr} {h₀ : Heap} {m:Str→Option Value} {ox:Obj} {od:Option Obj} {b tb:Value}
end
end EgNe
namespace Eg
open PySem PySem.Spec PyProof.Rows L2
def NeOk (K:PySem.W.Frag) (C:Addr):Prop:=PySem.W.findIn K (.ref C) "__ne__" = some (some (.builtin "object.__ne__"))∧PySem.W.mroIn K C (.type "object")=some true
section
variable {X:Cx} {G:Gh} {W:WX} {lv j:Nat} {cs:List Ci} {du:Du} {isi:List ((Ty × Tg) × Bool)} {nes:List Nat} {fa fb:Env→Sto→R T} {a b e:Expr} {p pos:Pos} {F:List T→Sto→R T} {g C dx:Addr} {fv:List (Str × V)}
end
end Eg
set_option maxHeartbeats 2000000
namespace Eg
open PySem PySem.Spec PyProof.Rows L2
section
variable {X:Cx} {G:Gh} {W:WX} {fa:Env→Sto→R T}
end
end Eg
set_option maxHeartbeats 2000000
namespace Eg
open PySem PySem.Spec PyProof.Rows L2
section
variable {X:Cx} {G:Gh} {W:WX} {fa fb:Env→Sto→R T} {fs:Env→Sto→R (List T)} {a b e:Expr} {es:List Expr} {p pos apos:Pos} {m:Mm} {H:Hp} {σ : L2.St} {env:Env} {st:Sto} {Q:VK}
end
end Eg
set_option maxHeartbeats 4000000
namespace Eg
open PySem PySem.Spec PyProof.Rows L2
section
variable {X:Cx} {G:Gh} {W:WX} {lv j:Nat} {fa fb:Env→Sto→R T} {fs fk:Env→Sto→R (List T)} {a b e:Expr} {es:List Expr} {kws:List Keyword} {p pos apos:Pos} {x:Str} {m:Str} {kn:List Str} {F:List T→Sto→R T}
def CmOk (P:Program) (w:World) (K:PySem.W.Frag) (mg:Str→Option Value) (base:Heap) (lv:Nat) (G:Gh) (c:Nat) (fn:Fn):Prop :=
 ∃ mc p g,ClX.CRead K (G.cl c) mc∧ClX.CMet K (G.cl c) mc fn.name p g∧Cal P w K mg base lv G fn.ks fn.F g
end
end Eg
set_option maxHeartbeats 4000000
namespace Eg
open PySem PySem.Spec PyProof.Rows L2
def fRpl (fa:Env→Sto→R T) (y z:Str):Env→Sto→R T:=fun env st=>(fa env st).bnd fun x st1=>match x with
 | .str a=>if a.length+(a.length+1) * z.length≤lim then .ok (.str (Txt.replace a y z)) st1 else .bad
 | _ => .bad
section
variable {X:Cx} {G:Gh} {W:WX} {fa fb:Env→Sto→R T} {fs:Env→Sto→R (List T)} {a o e:Expr} {es:List Expr} {te:TE} {ta:TA} {y z:Str} {j k:Nat} {c0 c1 apos pos:Pos} {op:Operator}
theorem Zic(ha:PE X o (tE G W fa))(hyz:(y == z)=false)(hst:starEach [.Constant (.str y) j c0, .Constant (.str z) k c1] X.env=[(false,eval (.Constant (.str y) j c0) X.env),(false,eval (.Constant (.str z) k c1) X.env)])
  (hbase:attributeBase o "replace" X.env (eval o X.env)=eval o X.env) (hline:(apos.endLine == pos.line)=true) :
  PET X (.Call (.Attribute o "replace" apos) [.Constant (.str y) j c0, .Constant (.str z) k c1] [] pos) (tE G W (fRpl fa y z)):=by
 intro pins s σ H Q h0 I h
 refine CwR.pet_replC ha hyz hst hbase hline pins s σ H Q h0 I ?_
 show tE G W fa σ H fun v H1=>∃ x,v = .str x∧x.length+(x.length+1) * z.length≤16777216∧Q (.str (Txt.replace x y z)) H1
 refine at1 h fun m env st t v H1 rs r q => ?_
 cases t with
 | str a =>
  have ev:v=V.str a:=r
  subst ev
  by_cases c:a.length+(a.length+1) * z.length≤lim
  ·simp only[if_pos c] at q
   exact⟨a,rfl,c,Rn.give (b := .str _) q rs rfl⟩
  ·simp only[if_neg c] at q;exact q.elim
 | _=>exact q.elim
theorem ZgS{σ : L2.St}{H:Hp}{Q:List V→Hp→Prop}(h:tA G W (fun env st=>(fa env st).bnd fun x st1=>(fs env st1).bnd fun xs st2 => .ok (x :: xs) st2) σ H Q):tE G W fa σ H fun x H1=>tA G W fs σ H1 fun xs H2=>Q (x :: xs) H2:=by
 obtain⟨m,env,st,rs,h⟩:=h
 refine⟨m,env,st,rs,(Rn.bnd h).imp fun t st' v H' m' rs' _ r q=>⟨m',env,st',rs',(Rn.bnd q).imp fun ts st2 vs H2 m2 rs2 s2 r2 q2 => ?_⟩⟩
 exact Rn.here q2 rs2 ⟨v,vs,rfl,Rp.mov s2.toMov _ _ r,r2⟩
theorem ZgO:PAT X [] (tA G W fun _ st => .ok [] st):=fun pos pins s σ H Q h0 I ⟨m,env,st,rs,q⟩=>pat_nil pos pins s σ H Q h0 I (Rn.here (b:=[]) q rs rfl)
theorem Zd6(ha:PET X e (tE G W fa))(hr:PAT X es (tA G W fs))(hs:starEach (e :: es) X.env=(false,eval e X.env) :: starEach es X.env) :
  PAT X (e :: es) (tA G W fun env st=>(fa env st).bnd fun x st1=>(fs env st1).bnd fun xs st2 => .ok (x :: xs) st2):=fun pos pins s σ H Q h0 I h=>pat_cons ha hr hs pos pins s σ H Q h0 I (ZgS h)
end
end Eg
set_option maxHeartbeats 4000000
namespace Eg
open PySem PySem.Spec PyProof.Rows L2
def ZbH:T→Option L2.Key
 | .int i=>some (.inl i)
 | .str x=>some (.inr x)
 | _=>none
def Zbi:List T→Option (List L2.Key)
 | []=>some []
 | t :: ts=>match ZbH t,Zbi ts with
  | some k,some ks=>some (k :: ks)
  | _,_=>none
def tkey:T→Option (List L2.Key)
 | .tup xs=>Zbi xs
 | _=>none
def ZfC (st:Sto):T→Option (Nat × List (List L2.Key × T))
 | .loc l=>match st[l]? with
  | some (.dt kvs)=>some (l,kvs)
  | _=>none
 | _=>none
def ZbL {κ : Type} [DecidableEq κ] (kvs:List (κ × T)) (k : κ):Option T:=(kvs.find? fun p=>decide (p.1=k)).map (·.2)
def dput {κ : Type} [DecidableEq κ] (kvs:List (κ × T)) (k : κ) (v:T):List (κ × T) :=
 if (kvs.any fun kv=>decide (kv.1=k))=true then kvs.map (fun kv=>if kv.1=k then(kv.1,v) else kv) else kvs++[(k,v)]
section
variable {G:Gh} {m m':Mm} {H H':Hp}
mutual
theorem Rp.subA(k:∀ a,¬ m.w a→H' a=H a)(w:∀ a,m'.w a→m.w a)(e:∃ n,m'.as=m.as++n):∀ (t:T) (v:V),Rp G m H t v→Rp G m' H' t v
 | .non,_,h=>h
 | .bl _,_,h=>h
 | .int _,_,h=>h
 | .str _,_,h=>h
 | .tup xs,_,⟨a,vs,e1,h,r⟩=>⟨a,vs,e1,⟨fun z=>h.1 (w a z),by rw[k a h.1];exact h.2⟩,Rps.subA k w e xs vs r⟩
 | .lst xs,_,⟨a,vs,e1,h,r⟩=>⟨a,vs,e1,⟨fun z=>h.1 (w a z),by rw[k a h.1];exact h.2⟩,Rps.subA k w e xs vs r⟩
 | .obj c xs,_,⟨a,dx,fv,e1,hn,h,hf,r⟩=>⟨a,dx,fv,e1,fun z=>hn (w a z),by rw[k a hn];exact h,hf,Rps.subA k w e xs _ r⟩
 | .exc c ts,_,⟨y,vs,e1,e2,e3,r,q⟩=>⟨y,vs,e1,e2,e3,Rps.subA k w e ts vs r,q.imp id fun⟨dx,f,w',h1,h2,h3,h4,h5⟩=>⟨dx,f,w',h1,h2,fun z=>h3 (w dx z),by rw[k dx h3];exact h4,h5⟩⟩
 | .loc l,_,⟨a,e1,h⟩=>⟨a,e1,by
  obtain⟨n,e⟩:=e
  rw[e,List.getElem?_append_left (List.getElem?_eq_some_iff.mp h).1];exact h⟩
 | .scr ns,_,⟨a,e1,h⟩=>⟨a,e1,by
  rcases h with ⟨hn,h⟩ | h
  ·refine .inl ⟨fun z=>hn (w a z), ?_⟩
   unfold Rd at h ⊢
   rw[k a hn]
   exact h
  ·exact .inr h⟩
 | .cv _,_,h=>h
 | .ptp xs,_,⟨a,vs,e1,⟨hn,o,h,hd⟩,r⟩=>⟨a,vs,e1,⟨fun z=>hn (w a z),o,by rw[k a hn];exact h,hd⟩,Rps.subA k w e xs vs r⟩
 | .edt,_,⟨a,e1,hn,h⟩=>⟨a,e1,fun z=>hn (w a z),by rw[k a hn];exact h⟩
 | .exh c ts,_,⟨a,vs,e1,hn,r,q⟩=>⟨a,vs,e1,fun z=>hn (w a z),Rps.subA k w e ts vs r,q.imp (fun⟨h1,h2⟩=>⟨h1,by rw[k a hn];exact h2⟩) fun⟨dx,f,w',h1,h2,h3,h4,h5⟩=>⟨dx,f,w',h1,h2,fun z=>h3 (w dx z),by rw[k a hn];exact h4,by rw[k dx h3];exact h5⟩⟩
 | .dk1 _ t,_,⟨a,w',e1,hn,h,r⟩=>⟨a,w',e1,fun z=>hn (w a z),by rw[k a hn];exact h,Rp.subA k w e t w' r⟩
theorem Rps.subA(k:∀ a,¬ m.w a→H' a=H a)(w:∀ a,m'.w a→m.w a)(e:∃ n,m'.as=m.as++n):∀ (ts:List T) (vs:List V),Rps G m H ts vs→Rps G m' H' ts vs
 | [],_,h=>h
 | t :: ts,_,⟨v,r,e1,h,q⟩=>⟨v,r,e1,Rp.subA k w e t v h,Rps.subA k w e ts r q⟩
end
theorem RKs.subA{κ : Type}(k:∀ a,¬ m.w a→H' a=H a)(w:∀ a,m'.w a→m.w a)(e:∃ n,m'.as=m.as++n):∀ (ts:List (κ × T)) (vs:List (κ × V)),RKs G m H ts vs→RKs G m' H' ts vs
 | [],_,h=>h
 | p :: ts,_,⟨v,r,e1,h,q⟩=>⟨v,r,e1,Rp.subA k w e p.2 v h,RKs.subA k w e ts r q⟩
theorem Z1m.subA{a:Addr}{c:Cell}(k:∀ a,¬ m.w a→H' a=H a)(w:∀ a,m'.w a→m.w a)(e:∃ n,m'.as=m.as++n)(ha:H' a=H a)(h:Z1m G m H a c):Z1m G m' H' a c:=by
 cases c with
 | lst xs=>obtain⟨vs,e1,r⟩:=h;exact⟨vs,by rw[ha];exact e1,Rps.subA k w e xs vs r⟩
 | ins c xs=>obtain⟨dx,fv,e1,e2,e3,r⟩:=h;exact⟨dx,fv,by rw[ha];exact e1,e2,e3,Rps.subA k w e xs _ r⟩
 | dt kvs=>obtain⟨vs,e1,r⟩:=h;exact⟨vs,by rw[ha];exact e1,RKs.subA k w e kvs vs r⟩
 | dk kvs=>obtain⟨vs,e1,r⟩:=h;exact⟨vs,by rw[ha];exact e1,RKs.subA k w e kvs vs r⟩
 | dn ks=>obtain⟨bs,e1,r⟩:=h;exact⟨bs,by rw[ha];exact e1,Rps.subA k w e _ _ r⟩
end
section
variable {G:Gh} {m:Mm} {H:Hp} {st:Sto}
theorem ZcP{t:T}{v:V}{k:L2.Key}(e:ZbH t=some k)(r:Rp G m H t v):v=kV k:=by
 cases t with
 | int i=>cases e;exact r
 | str x=>cases e;exact r
 | _=>cases e
theorem ZeK:∀ {ts:List T} {vs:List V} {ks:List L2.Key},Zbi ts=some ks→Rps G m H ts vs→vs=ks.map kV
 | [],vs,ks,e,r=>by cases e;exact r
 | t :: ts,vs,ks,e,⟨v,r,e1,h,q⟩=>by
  have e:(match ZbH t,Zbi ts with
   | some k,some ks=>some (k :: ks)
   | _,_=>none)=some ks:=e
  cases e2:ZbH t with
  | none=>rw[e2] at e;cases e
  | some k =>
   cases e3:Zbi ts with
   | none=>rw[e2,e3] at e;cases e
   | some ks' =>
    rw[e2,e3] at e
    cases e
    rw[e1,ZcP e2 h,ZeK e3 q]
    rfl
theorem ZhF{t:T}{v:V}{ks:List L2.Key}(e:tkey t=some ks)(r:Rp G m H t v):∃ b,v = .ref b∧H b=some (.tup (ks.map kV)):=by
 cases t with
 | tup xs =>
  obtain⟨a,vs,rfl,h,q⟩:=r
  have:=ZeK (show Zbi xs=some ks from e) q
  subst this
  exact⟨a,rfl,h.2⟩
 | _=>cases e
theorem Zjm{t:T}{v:V}{l:Nat}{kvs:List (List L2.Key × T)}(s:RSto G m H st)(r:Rp G m H t v)(e:ZfC st t=some (l,kvs)):∃ a vs,v = .ref a∧m.as[l]? = some a∧st[l]? = some (.dt kvs)∧H a=some (.dT vs)∧RKs G m H kvs vs:=by
 cases t with
 | loc k =>
  obtain⟨a,e1,h⟩:=r
  have e:(match st[k]? with
   | some (.dt kvs)=>some (k,kvs)
   | _=>none)=some (l,kvs):=e
  cases e2:st[k]? with
  | none=>rw[e2] at e;cases e
  | some c =>
   cases c with
   | lst ys=>rw[e2] at e;cases e
   | ins c ys=>rw[e2] at e;cases e
   | dk ys=>rw[e2] at e;cases e
   | dn ys=>rw[e2] at e;cases e
   | dt ys =>
    rw[e2] at e
    cases e
    obtain⟨vs,h1,q⟩:=s.cell _ a _ h e2
    exact⟨a,vs,e1,h,e2,h1,q⟩
 | _=>cases e
section
variable {κ : Type} [DecidableEq κ]
theorem Zd5{p : κ × T}{r:List (κ × T)}{k : κ}:ZbL (p :: r) k=if p.1=k then some p.2 else ZbL r k:=by
 unfold ZbL
 rw[List.find?_cons]
 by_cases e:p.1=k
 ·simp[e]
 ·simp[e]
theorem Zey:∀ {kvs:List (κ × T)} {vs:List (κ × V)} (k : κ),RKs G m H kvs vs→(∀ t,ZbL kvs k=some t→∃ v,valV vs k=some v∧Rp G m H t v)∧(ZbL kvs k=none→valV vs k=none)
 | [],vs,k,h=>by
  cases (show vs=[] from h)
  exact⟨(fun t e=>by cases e),fun _=>rfl⟩
 | p :: kvs,vs,k,⟨v,s,e,h,q⟩=>by
  subst e
  obtain⟨i1,i2⟩:=Zey k q
  rw[Zd5]
  by_cases c:p.1=k
  ·rw[if_pos c,valV_pos (p:=(p.1,v)) c]
   exact⟨fun t e=>⟨v,rfl,by rw[← Option.some.inj e];exact h⟩,fun e=>by cases e⟩
  ·rw[if_neg c,valV_neg (p:=(p.1,v)) c]
   exact⟨i1,i2⟩
theorem ZdT(k : κ):∀ kvs:List (κ × T),(kvs.any fun kv=>decide (kv.1=k))=(ZbL kvs k).isSome
 | []=>rfl
 | p :: r=>by
  rw[List.any_cons,Zd5]
  by_cases e:p.1=k
  ·simp[e]
  ·simp only[e,decide_false,Bool.false_or,if_false];exact ZdT k r
theorem Zeu{k : κ}{t:T}{v:V}(rt:Rp G m H t v):∀ {kvs:List (κ × T)} {vs:List (κ × V)},RKs G m H kvs vs→RKs G m H (kvs.map fun kv=>if kv.1=k then(kv.1,t) else kv) (vs.map fun kv=>if kv.1=k then(kv.1,v) else kv)
 | [],vs,h=>by cases (show vs=[] from h);exact rfl
 | p :: kvs,vs,⟨w,s,e,h,q⟩=>by
  subst e
  have i:=Zeu (k:=k) rt q
  rw[List.map_cons,List.map_cons]
  by_cases c:p.1=k
  ·rw[if_pos c,if_pos (show(p.1,w).1=k from c)];exact⟨v,_,rfl,rt,i⟩
  ·rw[if_neg c,if_neg (show ¬ (p.1,w).1=k from c)];exact⟨w,_,rfl,h,i⟩
theorem ZdX{k : κ}{t:T}{v:V}(rt:Rp G m H t v):∀ {kvs:List (κ × T)} {vs:List (κ × V)},RKs G m H kvs vs→RKs G m H (kvs++[(k,t)]) (vs++[(k,v)])
 | [],vs,h=>by cases (show vs=[] from h);exact⟨v,[],rfl,rt,rfl⟩
 | p :: kvs,vs,⟨w,s,e,h,q⟩=>by subst e;exact⟨w,_,rfl,h,ZdX rt q⟩
theorem ZcJ{k : κ}{t:T}{v:V}{kvs:List (κ × T)}{vs:List (κ × V)}(h:RKs G m H kvs vs)(rt:Rp G m H t v):RKs G m H (dput kvs k t) (putK vs k v):=by
 unfold dput putK
 rw[ZdT,valV_any]
 obtain⟨h1,h2⟩:=Zey k h
 cases e:ZbL kvs k with
 | none=>rw[h2 e];exact ZdX rt h
 | some t' =>
  obtain⟨v',e',_⟩:=h1 t' e
  rw[e']
  exact Zeu rt h
end
end
section
variable {X:Cx} {G:Gh} {W:WX} {fa fb:Env→Sto→R T} {a b:Expr} {pos:Pos}
end
end Eg
set_option maxHeartbeats 4000000
namespace Eg
open PySem PySem.Spec PyProof.Rows L2
section
variable {X:Cx} {G:Gh} {W:WX} {fa:Env→Sto→R T} {a:Expr} {p p2 pos pos2:Pos}
section
variable {P:Program} {w:World} {A:Around} {E:Value→Shared→Prop} {s:Shared}
set_option maxHeartbeats 6400000 in
end
end
end Eg
set_option maxHeartbeats 4000000
namespace Eg
open PySem PySem.Spec PyProof.Rows L2
def Zfp (st:Sto):T→Option (Nat × List (L2.Key × T))
 | .loc l=>match st[l]? with
  | some (.dk kvs)=>some (l,kvs)
  | _=>none
 | _=>none
section
variable {G:Gh} {m m':Mm} {H H':Hp} {st:Sto}
theorem Zgk{t:T}{v:V}{l:Nat}{kvs:List (L2.Key × T)}(s:RSto G m H st)(r:Rp G m H t v)(e:Zfp st t=some (l,kvs)):∃ a vs,v = .ref a∧m.as[l]? = some a∧H a=some (.dK vs)∧RKs G m H kvs vs:=by
 cases t with
 | loc k =>
  obtain⟨a,e1,h⟩:=r
  have e:(match st[k]? with
   | some (.dk kvs)=>some (k,kvs)
   | _=>none)=some (l,kvs):=e
  cases e2:st[k]? with
  | none=>rw[e2] at e;cases e
  | some c =>
   cases c with
   | lst ys=>rw[e2] at e;cases e
   | ins c ys=>rw[e2] at e;cases e
   | dt ys=>rw[e2] at e;cases e
   | dn ys=>rw[e2] at e;cases e
   | dk ys =>
    rw[e2] at e
    cases e
    obtain⟨vs,h1,q⟩:=s.cell _ a _ h e2
    exact⟨a,vs,e1,h,h1,q⟩
 | _=>cases e
theorem RSto.pushC{o:HO}{cl:Cell}{p:Addr}(s:RSto G m H st)(hp:H p=none)(r:∀ m',Stp m H m' (L2.upd H p o)→Z1m G m' (L2.upd H p o) p cl) :
  RSto G ⟨m.as++[p],m.fo⟩ (L2.upd H p o) (st++[cl])∧Stp m H ⟨m.as++[p],m.fo⟩ (L2.upd H p o):=by
 have hpa:p ∉ m.as:=fun z=>s.mem z hp
 have S:Stp m H ⟨m.as++[p],m.fo⟩ (L2.upd H p o):=⟨⟨fun b o h _ hn=>by rw[upd_ne (ne_of_none h hp)];exact h,fun _ _ h=>Z3o h,fun b h=>by
  rcases List.mem_append.mp h with h | h
  ·exact .inl h
  ·rw[List.mem_singleton.mp h];exact .inr hp,fun _ h => .inl (.inr h),⟨[p],rfl⟩⟩,rfl⟩
 refine⟨⟨?_,fun a h => ?_,by simp[s.len],fun i b c h1 h2 => ?_,fun b h => ?_,(s.fresh hp).tab⟩,S⟩
 ·rw[List.nodup_append]
  exact⟨s.nd,by simp,fun a ha b hb=>by rw[List.mem_singleton.mp hb];exact fun z=>hpa (z ▸ ha)⟩
 ·rcases List.mem_append.mp h with h | h
  ·exact s.fd a h
  ·rw[List.mem_singleton.mp h];exact fun z=>s.foS p z hp
 ·by_cases hi:i < st.length
  ·rw[List.getElem?_append_left (by rw[s.len];exact hi)] at h1
   rw[List.getElem?_append_left hi] at h2
   exact Z1m.mov S.toMov (upd_ne fun z=>hpa (z ▸ List.mem_of_getElem? h1)) (s.cell i b c h1 h2)
  ·have hi2:i=st.length:=by
    have:=(List.getElem?_eq_some_iff.mp h2).1
    simp at this
    omega
   subst hi2
   rw[List.getElem?_append_right (Nat.le_refl _)] at h2
   rw[List.getElem?_append_right (by rw[s.len];exact Nat.le_refl _)] at h1
   have e1:p=b:=by simpa [s.len] using h1
   have e2:cl=c:=by simpa using h2
   subst e1 e2
   exact r _ S
 ·have hne:b≠p:=fun z=>s.foS b h (by rw[z];exact hp)
  rw[upd_ne hne]
  exact s.foS b h
end
section
variable {X:Cx} {G:Gh} {W:WX} {fa fb:Env→Sto→R T} {a b:Expr} {pos:Pos}
def fEd:Env→Sto→R T:=fun _ st => .ok .edt st
theorem s_ed:PE X (.Dict [] [] pos) (tE G W fEd) :=
 PE.imp pe_dnewK fun σ H Q ⟨m,env,st,rs,h⟩ p hp=>by
  have S:Stp m H m (L2.upd H p (.dK [])):=Stp.fresh hp
  have hn:¬ m.w p:=fun z=>by
   rcases z with z | z
   ·exact rs.sto.mem z hp
   ·exact rs.sto.foS p z hp
  exact Rn.next (K:=Kq Q) (show Rn G W σ env (Rp G) m H (.ok .edt st) (Kq Q) from h) ⟨rs.env.mov S.toMov,rs.sto.fresh hp⟩ S ⟨p,rfl,hn,upd_same⟩
end
end Eg
set_option maxHeartbeats 4000000
namespace Eg
open PySem PySem.Spec PyProof.Rows L2
section
variable {P:Program} {w:World} {A:Around} {s:Shared}
variable {E:Value→Shared→Prop}
set_option maxHeartbeats 6400000 in
set_option maxHeartbeats 6400000 in
end
theorem Rps.strs{G:Gh}{m:Mm}{H:Hp}:∀ {ts:List T} {vs:List V} {ss:List Str},Rps G m H ts vs→Z9b ts=some ss→vs=ss.map V.str
 | [],vs,ss,h,e=>by cases (show _=_ from h);cases (show some []=some ss from e);rfl
 | t :: ts,vs,ss,⟨v,r,e,h,q⟩,e1=>by
  cases t with
  | str x =>
   cases e2:Z9b ts with
   | none=>simp[Z9b,e2] at e1
   | some ms =>
    have e3:x :: ms=ss:=by simpa [Z9b,e2] using e1
    subst e3 e
    rw[Rps.strs q e2,show v = .str x from h]
    rfl
  | _=>simp[Z9b] at e1
section
variable {X:Cx} {G:Gh} {W:WX} {fa:Env→Sto→R T} {a:Expr} {p p2 pos pos2:Pos}
end
end Eg
set_option maxHeartbeats 8000000
namespace Eg
open PySem PySem.Spec PyProof.Rows L2 LamX
open PySem.W (dataLe dataLt alike AllAlike Sortable sorted_data sorted_key_data KeyPure)
inductive KF where
 | fst | len
 deriving DecidableEq
section
variable {X:Cx} {G:Gh} {W:WX} {fa:Env→Sto→R T} {a:Expr} {p p2 p3 pos pos2:Pos} {m:Mm} {H:Hp} {st:Sto}
end
section
variable {P:Program} {w:World} {A:Around} {s:Shared} {q:Str} {prm:Arguments} {body:Expr} {sc:Scope} {pm ctv v:Value} {co f:Addr} {d:PyData} {k:KF} {cl:List (Str × Addr)}
end
section
variable {X:Cx} {G:Gh} {W:WX} {fa:Env→Sto→R T} {a:Expr} {p p2 p3 kp pos pos2 lpos:Pos} {m:Mm} {H:Hp} {st:Sto} {k:KF} {prm:Arguments} {body:Expr} {sc:Scope} {cd tab:Addr} {lv:Nat}
end
end Eg
set_option maxHeartbeats 4000000
namespace Eg
open PySem PySem.Spec PyProof.Rows L2
section
variable {prog:Program} {w:World} {A:Around} {E:Value→Shared→Prop} {s:Shared}
end
section
variable {X:Cx} {G:Gh} {W:WX} {a:Expr} {fa:Env→Sto→R T}
end
end Eg
set_option maxHeartbeats 4000000
namespace Eg
open PySem PySem.Spec PyProof.Rows L2
def Zhn (du:Du) (v x y:T) (env:Env) (st:Sto):O:=match duAt du st x "__setitem__" with
 | some F=>(F [x,y,v] st).go env fun _ st2 => .nx env st2
 | none => .bad
def Zhu (du:Du) (fo fi fv:Env→Sto→R T):Fs:=fun env st=>(fv env st).go env fun v st1=>(fo env st1).go env fun x st2=>(fi env st2).go env fun y st3=>Zhn du v x y env st3
def fLrg (fa:Env→Sto→R T):Env→Sto→R (List T):=fun env st=>(fa env st).bnd fun x st1=>match x with
 | .int n=>if 0≤n∧n≤16777216 then .ok (Z2m 0 n) st1 else .bad
 | _ => .bad
section
variable {G:Gh} {m:Mm} {H:Hp}
theorem Zfj{lo hi:Int}:Rps G m H (Z2m lo hi) (rgV lo hi):=by
 unfold Z2m rgV
 induction List.range (hi - lo).toNat with
 | nil=>exact rfl
 | cons a r ih=>exact⟨_,_,rfl,rfl,ih⟩
end
section
variable {X:Cx} {G:Gh} {W:WX} {lv:Nat} {du:Du} {fa fb:Env→Sto→R T} {a b e:Expr} {pos:Pos}
theorem ZfZ{k v:Expr}{tk tv:TE}(hk:PE X k tk)(hv:PE X v tv):PE X (.Dict [some k] [v] pos) (fun σ H Q=>∀ p,H p=none→tk σ (upd H p (.dK [])) fun x H1=>tv σ H1 fun y H2 =>
  H2 p=some (.dK [])∧∃ q:L2.Key,x=kV q∧Q (.ref p) (upd H2 p (.dK [(q,y)]))) :=
 PE.imp (pe_disp (pps_cons hk hv pps_nil) rfl rfl (by simp) (by simp)) fun σ H Q h p hp=>by
  refine cast (congrArg (tk σ _) (funext fun x=>funext fun H1=>congrArg (tv σ H1) (funext fun y=>funext fun H2=>propext ⟨fun⟨e,q,ex,z⟩ => ?_,fun⟨e,kvs,ek,_,z⟩ => ?_⟩))) (h p hp)
  ·exact⟨e,[(q,y)],by rw[ex];rfl,by simp,z⟩
  ·match kvs,ek,z with
   | [(q,w)],ek,z =>
    have ek:=List.cons.inj ek
    have e1:=(Prod.mk.inj ek.1).1
    have e2:=(Prod.mk.inj ek.1).2
    exact⟨e,q,e1,by rw[e2];exact z⟩
   | [],ek,_=>cases ek
   | _ :: _ :: _,ek,_=>cases (List.cons.inj ek).2
theorem l_lrg{p p2 pos2:Pos}(hc:X.calm=true)(hg:Gl X "list")(hm:X.mg "list" = none)(hg2:Gl X "range")(hm2:X.mg "range" = none)(ha:PE X a (tE G W fa))(hs:starEach [a] X.env=[(false,eval a X.env)]) :
  PE X (.Call (.Name "list" p) [.Call (.Name "range" p2) [a] [] pos2] [] pos) (tL G W (fLrg fa)):=by
 refine PE.imp (pe_listRg hc hg hm (prg_1 hg2 hm2 ha hs)) fun σ H Q h => ?_
 show tE G W fa σ H fun x H1=>∃ n,x = .int n∧(L2.RgOk 0 n∧∀ q,H1 q=none→Q (.ref q) (upd H1 q (.lst (rgV 0 n))))
 refine at1 h fun m env st t v H1 rs r q => ?_
 cases t with
 | int n =>
  have q:Rn G W σ env (Rps G) m H1 (if 0≤n∧n≤16777216 then .ok (Z2m 0 n) st else .bad) _:=q
  by_cases hn:0≤n∧n≤16777216
  ·rw[if_pos hn] at q
   exact⟨n,r,L2.RgOk.of_le (Int.le_refl _) hn.2 (by decide) hn.1,fun l hl=>Rn.here q rs Zfj l hl⟩
  ·rw[if_neg hn] at q;exact q.elim
 | _=>exact q.elim
theorem ZhN{A:Around}{pins:List (Addr × Obj)}{σ : L2.St}{H:Hp}{s:Shared}{Q:VK}{us:List Value}{vs:List V}{j:Nat}{F:List T→Sto→R T}{g:Addr}(tk:Takes X W)(c:Cal X.prog X.w X.K X.mg X.base j G [] F g)(hr:Room j A)(hg:A.guards=some [])
  (e0:Env0 X.prog X.w X.K X.mg X.base A X.stack s H) (I:Inv X pins σ H s) (r:Vals vs us) (q:Spec G F vs H Q (WE W σ)):wpAny (model X.prog X.w) A (call (.ref g) us) (EP X pins σ Q) X.xe s:=by
 refine wpAny_call (codeAny_mono (c A X.stack s H us [] vs [] Q _ hr hg e0 r .nil rfl (by rw[List.append_nil];exact q)) fun r s2 hr2 => ?_)
 match r,hr2 with
 | .error e,hr2=>exact passAt tk σ pins H s e s2 I hr2
 | .ok (.ret u),hr2=>exact I.after hr2
 | .ok .next,hr2=>exact hr2.elim
 | .ok .brk,hr2=>exact hr2.elim
 | .ok .cont,hr2=>exact hr2.elim
theorem Zjf{fo fi fv:Env→Sto→R T}{o i value:Expr}{pos':Pos}(hdu:ZfD X.prog X.w X.K X.mg X.base lv G du)(hr:Room (lv+1) X.A)(hG:X.A.guards=some [])(tk:Takes X W)(ho:PE X o (tE G W fo))(hi:PE X i (tE G W fi))(hv:PE X value (tE G W fv))
  (hs:swapsWith value (some (.Subscript o i pos')) pos.line X.env=pure false):PS X (.Assign [.Subscript o i pos'] value pos) (tS G W (Zhu du fo fi fv)):=by
 refine⟨fun pins s σ H D I ⟨m,env,st,rs,h⟩ => ?_⟩
 have h2:tE G W fv σ H fun vv H1=>tE G W fo σ H1 fun xv H2=>tE G W fi σ H2 fun yv H3=>∃ (p:Addr) (dx:Addr) (C:Addr) (fvs:List (Str × V)) (g:Addr) (F:List T→Sto→R T) (j:Nat),xv = .ref p∧H3 p=some (.ins C dx fvs)∧Meth X.K C "__setitem__" g∧j+1≤lv ∧
   Cal X.prog X.w X.K X.mg X.base j G [] F g∧PySem.W.noSeq X.K C=true∧Spec G F [xv,yv,vv] H3 (fun _ H4=>D.nx σ H4) (WE W σ):=by
  refine⟨m,env,st,rs,(Out.go h).imp fun v st1 vv H1 m1 rs1 S1 r1 h=>⟨m1,env,st1,rs1,(Out.go h).imp fun x st2 xv H2 m2 rs2 S2 r2 h=>⟨m2,env,st2,rs2,(Out.go h).imp fun y st3 yv H3 m3 rs3 S3 r3 h => ?_⟩⟩⟩
  unfold Zhn at h
  cases e:duAt du st3 x "__setitem__" with
  | none=>rw[e] at h;exact h.elim
  | some F =>
   rw[e] at h
   have r2':=Rp.mov S3.toMov _ _ r2
   have r1':=Rp.mov (S2.trans S3).toMov _ _ r1
   obtain⟨⟨c,vs⟩,e1,e2⟩:=Option.bind_eq_some_iff.mp e
   obtain⟨g,j,hj,hme,cal,hi⟩:=hdu c _ F e2
   obtain⟨p,dx,fvs,rfl,hH,_,_⟩:=ZiX rs3.sto r2' e1
   exact⟨p,dx,_,fvs,g,F,j,rfl,hH,hme,hj,cal,(hi rfl).1,ZeM (ts:=[x,y,v]) rs3 ⟨.ref p,[yv,vv],rfl,r2',yv,[vv],rfl,r3,vv,[],rfl,r1',rfl⟩
    ((Out.go h).imp fun t st4 w H4 m4 rs4 S4 r4 z=>z σ H4 m4 rs4 (Stp.refl m4 H4))⟩
 refine wpAny_Assign_Subscript (thn (hv.run pins s σ H _ I h2) fun r s1 ⟨v,H1,I1,rv,q1⟩=>thn (ho.run pins s1 σ H1 _ I1 q1) fun u s2 ⟨x,H2,I2,rx,q2⟩=>thn (hi.run pins s2 σ H2 _ I2 q2) fun iv s3 ⟨y,H3,I3,ry,p,dx,C,fvs,g,F,j,ex,ea,hm,hj,cal,hq,sp⟩ => ?_) hs
 subst ex
 obtain rfl:u=Value.ref p:=rx
 obtain⟨mA,O,_⟩:=ins_get I3.hok ea
 obtain⟨od,J,_⟩:=O.look
 obtain⟨m',hF⟩:=I3.fr
 exact PySem.W.ksp_setItem hF I3.ok.mod.kin J hq hm.at_ hm.fn (wpAny_mono (ZhN (us:=[.ref p,iv,r]) (vs:=[.ref p,y,v]) tk cal (hr.mono (by omega:j≤lv+1)) hG I3.env0 I3 (.cons rfl (.cons ry (.cons rv .nil))) sp) (fun _ s4 ⟨_,H4,I4,_,q⟩=>⟨σ,H4,I4,q⟩) fun _ _ z=>z)
end
end Eg
set_option maxHeartbeats 2000000
namespace PySem.SeqAt
open AutoSeq1 (wpAny_loadPart')
open MeetsSeq MeetsSeq2 MeetsSeq3
theorem Z5f(b:Str)(u:Tok)(l:Addr)(es:Array DictEntry)(n:Nat)(dd:Option Addr)(sl:Array (Option Value)) :
  Meets (Builtin.«str.__eq__» ⟨[.str b u, .ref l],[]⟩) (fun _ R s=>s.heap.get? l=some { cls := .type "dict",dict:=dd,data := .dict es n,slots:=sl }∧R (.ok (.ret .notImplemented)) s) :=
 .of_wp fun prog w A R s h=>by obtain⟨hp,g,d,tk,os⟩:=s;obtain⟨hl,h⟩:=h;wp_walk using wpAny_loadPart' hl,wpAny_load hl;exact⟨_,rfl,h⟩
theorem Z5g(b:Str)(u:Tok)(l:Addr)(es:Array DictEntry)(n:Nat)(dd:Option Addr)(sl:Array (Option Value)) :
  Meets (Builtin.«str.__ne__» ⟨[.str b u, .ref l],[]⟩) (fun _ R s=>s.heap.get? l=some { cls := .type "dict",dict:=dd,data := .dict es n,slots:=sl }∧R (.ok (.ret .notImplemented)) s) :=
 .of_wp fun prog w A R s h=>by obtain⟨hp,g,d,tk,os⟩:=s;obtain⟨hl,h⟩:=h;wp_walk using wpAny_loadPart' hl,wpAny_load hl;exact⟨_,rfl,h⟩
section
variable {prog:Program} {w:World} {A:Around} {E:Value→Shared→Prop} {s:Shared}
theorem Zbo{a:Addr}{b:Str}{u:Tok}{Q:Value→Shared→Prop}(hT:s.TypeIs (.ref a) "dict")(h:Q .notImplemented s):wpAny (model prog w) A (call (.builtin "dict.__eq__") [.ref a, .str b u]) Q E s:=by
 refine wpAny_call_entry PySem.F.slot_dict_eq_refl hT PySem.F.entry_dict_eq ?_ (PySem.F.args_dict_eq_2 _ _)
 show wpAny _ _ (Builtin.Dict.dictSlotArgs "__eq__" ⟨[.ref a, .str b u],[]⟩ >>= _) _ _ s
 refine wpAny_bind ?_
 unfold Builtin.Dict.dictSlotArgs
 refine wpAny_bind (wpAny_notOrdered_dict hT ?_)
 show wpAny _ _ (pure (Value.ref a,Value.str b u)) _ _ s
 refine wpAny_pure ?_
 refine wpAny_bind (wpAny_isInstance (T := "str") (typeIs_str s b u) PySem.F.sub_str_dict ?_)
 simp only[Bool.not_false,if_true]
 refine wpAny_bind (wpAny_bind (wpAny_rule ?_))
 exact wpAny_pure (wpAny_pure ⟨_,rfl,h⟩)
theorem Zbm{a:Addr}{b:Str}{u:Tok}{Q:Value→Shared→Prop}(hT:s.TypeIs (.ref a) "dict")(h:Q .notImplemented s):wpAny (model prog w) A (call (.builtin "dict.__ne__") [.ref a, .str b u]) Q E s:=by
 refine wpAny_call_entry PySem.F.slot_dict_ne_refl hT PySem.F.entry_dict_ne ?_ (PySem.F.args_dict_ne_2 _ _)
 show wpAny _ _ (Builtin.Dict.dictSlotArgs "__ne__" ⟨[.ref a, .str b u],[]⟩ >>= _) _ _ s
 refine wpAny_bind ?_
 unfold Builtin.Dict.dictSlotArgs
 refine wpAny_bind (wpAny_notOrdered_dict hT ?_)
 show wpAny _ _ (pure (Value.ref a,Value.str b u)) _ _ s
 refine wpAny_pure ?_
 refine wpAny_bind (wpAny_isInstance (T := "str") (typeIs_str s b u) PySem.F.sub_str_dict ?_)
 simp only[Bool.not_false,if_true]
 refine wpAny_bind (wpAny_bind (wpAny_rule ?_))
 exact wpAny_pure (wpAny_pure ⟨_,rfl,h⟩)
end
section
variable {A:Around} {s:Shared}
theorem RcAt.str_dict{a:Addr}{o:Obj}{es:Array DictEntry}{n:Nat}(b:Str)(u:Tok)(ho:s.heap.get? a=some o)(hc:o.cls = .type "dict")(hd:o.data = .dict es n)(hu:A.units < cLine):RcAt A s (.str b u) (.ref a) false:=fun prog w E Q h=>by
 obtain⟨cls,dd,data,sl⟩:=o
 simp only at hc hd
 subst hc hd
 exact rc_eq_decline_or (k:=false) (typeIs_str s b u) ⟨_,ho,rfl⟩ (by decide) F.sub_dict_str F.slot_str_eq F.slot_dict_eq_refl
  (fun _ hq=>call_meets F.slot_str_eq (typeIs_str s b u) F.entry_str_eq (F.args_str_eq_2 _ _) (Z5f b u a es n dd sl) ⟨ho,hq⟩)
  (fun _ hq=>Zbo ⟨_,ho,rfl⟩ hq)
  (fun _ hq=>wpAny_of_eq (rfl:isSame (.str b u) (.ref a)=pure false) hq) (.inr hu) h
theorem RcNeAt.str_dict{a:Addr}{o:Obj}{es:Array DictEntry}{n:Nat}(b:Str)(u:Tok)(ho:s.heap.get? a=some o)(hc:o.cls = .type "dict")(hd:o.data = .dict es n)(hu:A.units < cLine):RcNeAt A s (.str b u) (.ref a) true:=fun prog w E Q h=>by
 obtain⟨cls,dd,data,sl⟩:=o
 simp only at hc hd
 subst hc hd
 exact rc_ne_decline_or (k:=false) (typeIs_str s b u) ⟨_,ho,rfl⟩ (by decide) F.sub_dict_str F.slot_str_ne F.slot_dict_ne_refl
  (fun _ hq=>call_meets F.slot_str_ne (typeIs_str s b u) F.entry_str_ne (F.args_str_ne_2 _ _) (Z5g b u a es n dd sl) ⟨ho,hq⟩)
  (fun _ hq=>Zbm ⟨_,ho,rfl⟩ hq)
  (fun _ hq=>wpAny_of_eq (rfl:isSame (.str b u) (.ref a)=pure false) hq) (.inr hu) h
theorem EqAt.str_dict{a:Addr}{o:Obj}{es:Array DictEntry}{n:Nat}(b:Str)(u:Tok)(ho:s.heap.get? a=some o)(hc:o.cls = .type "dict")(hd:o.data = .dict es n)(hu:A.units < cLine):EqAt A s (.str b u) (.ref a) false:=fun prog w E Q h=>by
 unfold eqBool
 refine wpAny_holding ?_
 refine wpAny_ite_split (fun hab=>absurd (eq_of_beq hab) nofun) (fun _ => ?_)
 exact wpAny_bind (RcAt.str_dict b u ho hc hd hu prog w E _ (wpAny_truthy_bool h))
end
theorem Z8k(l b:Addr)(items:Array Value)(n:Nat)(dd dd2:Option Addr)(sl sl2:Array (Option Value))(es:Array DictEntry)(n2:Nat) :
  Meets (Builtin.«tuple.__eq__» ⟨[.ref l, .ref b],[]⟩) (fun _ R s=>s.heap.get? l=some { cls := .type "tuple",dict:=dd,data := .seq items n,slots:=sl }∧s.heap.get? b=some { cls := .type "dict",dict:=dd2,data := .dict es n2,slots:=sl2 }∧R (.ok (.ret .notImplemented)) s) :=
 .of_wp fun prog w A R s h=>by obtain⟨hp,g,d,tk,os⟩:=s;obtain⟨hl,hb,h⟩:=h;have f1:=PySem.F.sub_dict_tuple;wp_walk using wpAny_loadPart' hl,wpAny_loadPart' hb;exact⟨_,rfl,h⟩
section
variable {prog:Program} {w:World} {A:Around} {E:Value→Shared→Prop} {s:Shared}
theorem Zd9{a l:Addr}{Q:Value→Shared→Prop}(hT:s.TypeIs (.ref a) "dict")(hL:s.TypeIs (.ref l) "tuple")(h:Q .notImplemented s):wpAny (model prog w) A (call (.builtin "dict.__eq__") [.ref a, .ref l]) Q E s:=by
 refine wpAny_call_entry PySem.F.slot_dict_eq_refl hT PySem.F.entry_dict_eq ?_ (PySem.F.args_dict_eq_2 _ _)
 show wpAny _ _ (Builtin.Dict.dictSlotArgs "__eq__" ⟨[.ref a, .ref l],[]⟩ >>= _) _ _ s
 refine wpAny_bind ?_
 unfold Builtin.Dict.dictSlotArgs
 refine wpAny_bind (wpAny_notOrdered_dict hT ?_)
 show wpAny _ _ (pure (Value.ref a,Value.ref l)) _ _ s
 refine wpAny_pure ?_
 refine wpAny_bind (wpAny_isInstance (T := "tuple") hL PySem.F.sub_tuple_dict ?_)
 simp only[Bool.not_false,if_true]
 refine wpAny_bind (wpAny_bind (wpAny_rule ?_))
 exact wpAny_pure (wpAny_pure ⟨_,rfl,h⟩)
end
section
variable {A:Around} {s:Shared}
theorem RcAt.tuple_dict{l b:Addr}{items:Array Value}{o:Obj}{es:Array DictEntry}{n2:Nat}(hl:s.heap.IsTuple l items)(ho2:s.heap.get? b=some o)(hc2:o.cls = .type "dict")(hd2:o.data = .dict es n2)(hu:A.units < cLine):RcAt A s (.ref l) (.ref b) false:=fun prog w E Q h=>by
 obtain⟨⟨cls,dd,data,sl⟩,ho,hc,n,hd⟩:=id hl
 obtain⟨cls2,dd2,data2,sl2⟩:=o
 simp only at hc hd hc2 hd2
 subst hc hd hc2 hd2
 have hne:l≠b:=fun e=>by subst e;rw[ho] at ho2;exact absurd (congrArg Obj.cls (Option.some.inj ho2)) (by simp)
 exact(rc_eq_decline_or (k:=false) ⟨_,ho,rfl⟩ ⟨_,ho2,rfl⟩ (by decide) F.sub_dict_tuple F.slot_tuple_eq F.slot_dict_eq_refl
  (fun _ hq=>call_meets F.slot_tuple_eq ⟨_,ho,rfl⟩ F.entry_tuple_eq (F.args_tuple_eq_2 _ _) (Z8k l b items n dd dd2 sl sl2 es n2) ⟨ho,ho2,hq⟩)
  (fun _ hq=>Zd9 ⟨_,ho2,rfl⟩ ⟨_,ho,rfl⟩ hq)
  (fun _ hq=>wpAny_isSame_ref_other' hne ho ho2 (by simp) hq) (.inr hu) h)
end
end PySem.SeqAt
namespace Eg
open PySem PySem.Spec PyProof.Rows L2
section
variable {X:Cx} {pins:List (Addr × Obj)} {σ : L2.St} {H:Hp} {s:Shared}
end
section
variable {X:Cx} {G:Gh} {W:WX} {fa fb:Env→Sto→R T} {a b:Expr} {pos:Pos}
end
end Eg
set_option maxHeartbeats 4000000
namespace Eg
open PySem PySem.Spec PyProof.Rows L2
abbrev Tb:=List (List Int)
def Z9i:List T→Option Tb
 | []=>some []
 | .tup xs :: r=>match Z0v xs,Z9i r with
  | some a,some b=>some (a :: b)
  | _,_=>none
 | _ :: _=>none
def Zf9:T→Option Tb
 | .tup xs=>Z9i xs
 | _=>none
theorem ZcY:∀ {xs:List T} {r:List Int},Z0v xs=some r→xs=r.map T.int
 | [],r,e=>by cases e;rfl
 | .int i :: xs,r,e=>by
  obtain⟨r',e1,rfl⟩:=Option.map_eq_some_iff.mp (show(Z0v xs).map (i :: ·)=some r from e)
  rw[ZcY e1];rfl
 | .non :: _,_,e=>by cases e
 | .bl _ :: _,_,e=>by cases e
 | .str _ :: _,_,e=>by cases e
 | .tup _ :: _,_,e=>by cases e
 | .lst _ :: _,_,e=>by cases e
 | .obj _ _ :: _,_,e=>by cases e
 | .exc _ _ :: _,_,e=>by cases e
 | .loc _ :: _,_,e=>by cases e
 | .scr _ :: _,_,e=>by cases e
 | .cv _ :: _,_,e=>by cases e
 | .ptp _ :: _,_,e=>by cases e
 | .edt :: _,_,e=>by cases e
 | .exh _ _ :: _,_,e=>by cases e
 | .dk1 _ _ :: _,_,e=>by cases e
theorem ZcV:∀ {xs:List T} {k:Tb},Z9i xs=some k→xs=k.map fun r=>T.tup (r.map T.int)
 | [],k,e=>by cases e;rfl
 | .tup ys :: xs,k,e=>by
  have e:(match Z0v ys,Z9i xs with
   | some a,some b=>some (a :: b)
   | _,_=>none)=some k:=e
  cases e1:Z0v ys with
  | none=>rw[e1] at e;cases e
  | some a =>
   cases e2:Z9i xs with
   | none=>rw[e1,e2] at e;cases e
   | some b =>
    rw[e1,e2] at e
    cases e
    rw[ZcY e1,ZcV e2];rfl
 | .int _ :: _,_,e=>by cases e
 | .non :: _,_,e=>by cases e
 | .bl _ :: _,_,e=>by cases e
 | .str _ :: _,_,e=>by cases e
 | .lst _ :: _,_,e=>by cases e
 | .obj _ _ :: _,_,e=>by cases e
 | .exc _ _ :: _,_,e=>by cases e
 | .loc _ :: _,_,e=>by cases e
 | .scr _ :: _,_,e=>by cases e
 | .cv _ :: _,_,e=>by cases e
 | .ptp _ :: _,_,e=>by cases e
 | .edt :: _,_,e=>by cases e
 | .exh _ _ :: _,_,e=>by cases e
 | .dk1 _ _ :: _,_,e=>by cases e
theorem ZgA{t:T}{k:Tb}(e:Zf9 t=some k):t=Z7v k:=by
 cases t with
 | tup xs=>rw[ZcV (show Z9i xs=some k from e)];rfl
 | _=>cases e
def dnAt (st:Sto):T→Option (Nat × List Tb)
 | .loc l=>match st[l]? with
  | some (.dn ks)=>some (l,ks)
  | _=>none
 | _=>none
def nput (ks:List Tb) (k:Tb):List Tb:=if k∈ks then ks else ks++[k]
def KAt (H:Hp) (k:Tb) (b:Addr):Prop:=∃ rs:List Addr,H b=some (.tup (rs.map V.ref))∧Paired (fun r c=>H c=some (.tup (r.map V.int))) k rs
section
variable {G:Gh} {m:Mm} {H:Hp} {st:Sto}
theorem Zev:∀ {r:List Int} {vs:List V},Rps G m H (r.map T.int) vs→vs=r.map V.int
 | [],vs,h=>h
 | i :: r,vs,⟨v,s,e,h,q⟩=>by rw[e,Zev q,show v=V.int i from h];rfl
theorem ZeJ:∀ {k:Tb} {vs:List V},Rps G m H (k.map fun r=>T.tup (r.map T.int)) vs→∃ rs:List Addr,vs=rs.map V.ref∧Paired (fun r c=>H c=some (.tup (r.map V.int))) k rs
 | [],vs,h=>⟨[],h, .nil⟩
 | r :: k,vs,⟨v,s,e,⟨c,ws,e1,h1,q1⟩,q⟩=>by
  obtain⟨rs,e2,p⟩:=ZeJ q
  refine⟨c :: rs,by rw[e,e1,e2];rfl, .cons ?_ p⟩
  rw[← Zev q1];exact h1.2
theorem Zg7{k:Tb}{v:V}(h:Rp G m H (Z7v k) v):∃ b,v = .ref b∧KAt H k b:=by
 obtain⟨b,ws,e,h1,q⟩:=h
 obtain⟨rs,e2,p⟩:=ZeJ q
 subst e2
 exact⟨b,e,rs,h1.2,p⟩
theorem ZeZ:∀ {ks:List Tb} {bs:List Addr},Rps G m H (ks.map Z7v) (bs.map V.ref)→Paired (KAt H) ks bs
 | [],bs,h=>by
  cases bs with
  | nil=>exact .nil
  | cons b bs=>cases (show _=_ from h)
 | k :: ks,bs,⟨v,s,e,h,q⟩=>by
  cases bs with
  | nil=>cases e
  | cons b bs =>
   have e1:V.ref b=v:=(List.cons.inj e).1
   have e2:bs.map V.ref=s:=(List.cons.inj e).2
   subst e1 e2
   obtain⟨b',e3,h'⟩:=Zg7 h
   cases e3
   exact .cons h' (ZeZ q)
theorem dn_at{t:T}{v:V}{l:Nat}{ks:List Tb}(s:RSto G m H st)(r:Rp G m H t v)(e:dnAt st t=some (l,ks)):∃ a bs,v = .ref a∧m.as[l]? = some a∧H a=some (.ext (DnP a ks bs))∧Rps G m H (ks.map Z7v) (bs.map V.ref):=by
 cases t with
 | loc k =>
  obtain⟨a,e1,h⟩:=r
  have e:(match st[k]? with
   | some (.dn ks)=>some (k,ks)
   | _=>none)=some (l,ks):=e
  cases e2:st[k]? with
  | none=>rw[e2] at e;cases e
  | some c =>
   cases c with
   | lst ys=>rw[e2] at e;cases e
   | ins c ys=>rw[e2] at e;cases e
   | dt ys=>rw[e2] at e;cases e
   | dk ys=>rw[e2] at e;cases e
   | dn ys =>
    rw[e2] at e
    cases e
    obtain⟨bs,h1,q⟩:=s.cell _ a _ h e2
    exact⟨a,bs,e1,h,h1,q⟩
 | _=>cases e
end
def Z2q (k:Tb):NestedKey := .tup (k.map fun r => .tup (r.map .num))
theorem Zdp:∀ {a b:List Int},a.map NestedKey.num=b.map NestedKey.num→a=b
 | [],[],_=>rfl
 | [],_ :: _,e=>by simp at e
 | _ :: _,[],e=>by simp at e
 | x :: xs,y :: ys,e=>by
  rw[List.map_cons,List.map_cons] at e
  injection e with e1 e2
  injection e1 with e1
  rw[e1,Zdp e2]
theorem ZdP{a b:Tb}(e:Z2q a=Z2q b):a=b:=by
 unfold Z2q at e
 injection e with e
 induction a generalizing b with
 | nil=>cases b with
  | nil=>rfl
  | cons _ _=>simp at e
 | cons x xs ih=>cases b with
  | nil=>simp at e
  | cons y ys =>
   rw[List.map_cons,List.map_cons] at e
   injection e with e1 e2
   injection e1 with e1
   rw[Zdp e1,ih e2]
theorem Zfb(k:Tb):(Z2q k).depth≤8:=by
 have h1:∀ r:List Int,NestedKey.depthAll (r.map .num)=0:=fun r=>by
  induction r with
  | nil=>rfl
  | cons i r ih=>show max (NestedKey.depth (.num i)) (NestedKey.depthAll (r.map .num))=0;rw[ih];rfl
 have h2:∀ k:Tb,NestedKey.depthAll (k.map fun r => .tup (r.map .num))≤1:=fun k=>by
  induction k with
  | nil=>exact Nat.zero_le _
  | cons r k ih =>
   show max (NestedKey.depthAll (r.map .num)+1) (NestedKey.depthAll (k.map fun r => .tup (r.map .num)))≤1
   rw[h1];omega
 have:=h2 k
 show NestedKey.depthAll (k.map fun r => .tup (r.map .num))+1≤8
 omega
theorem ZbP(w:World):∀ r:List Int,NestedKey.hashes w (r.map .num)=r.map hashInt
 | []=>rfl
 | i :: r=>by show NestedKey.hash w (.num i) :: NestedKey.hashes w (r.map .num)=_;rw[ZbP w r];rfl
theorem Zc9(w:World):∀ k:Tb,NestedKey.hashes w (k.map fun r => .tup (r.map .num))=k.map fun r=>reduceHash (Builtin.Tuple.tupleHashOf (r.map hashInt))
 | []=>rfl
 | r :: k=>by
  show reduceHash (Builtin.Tuple.tupleHashOf (NestedKey.hashes w (r.map .num))) :: NestedKey.hashes w (k.map fun r => .tup (r.map .num))=_
  rw[Zc9 w k,ZbP w r];rfl
theorem Zgu(w:World)(k:Tb):(Z2q k).hash w=HN k:=by
 show reduceHash (Builtin.Tuple.tupleHashOf (NestedKey.hashes w (k.map fun r => .tup (r.map .num))))=HN k
 rw[Zc9];rfl
section
variable {P:Program} {w:World} {H:Hp} {h:Heap}
theorem ZeE{h:Heap}:∀ {r:List Int} {us:List Value},Vals (r.map V.int) us→NestedAll h (r.map .num) us
 | [],us,v=>by cases v;exact .nil
 | i :: r,us,v=>by
  rw[List.map_cons] at v
  cases v with
  | cons h t =>
   obtain⟨k,e⟩:=(show ∃ t,_=Value.int i t from h)
   subst e
   exact .cons (.int i k) (ZeE t)
theorem Zj5(ok:HOk P w H h){r:List Int}{c:Addr}(e:H c=some (.tup (r.map V.int))):NestedIs h (.tup (r.map .num)) (.ref c):=by
 obtain⟨_,its,v,o,h1,h2,n,h3⟩:=(show ObjOk P w H h c (.tup (r.map V.int)) from ok c _ e)
 exact .tup h1 h2 h3 (by simpa using ZeE v)
theorem Zex(ok:HOk P w H h):∀ {k:Tb} {rs:List Addr},Paired (fun r c=>H c=some (.tup (r.map V.int))) k rs→NestedAll h (k.map fun r => .tup (r.map .num)) (rs.map Value.ref)
 | _,_, .nil => .nil
 | _,_, .cons e t => .cons (Zj5 ok e) (Zex ok t)
theorem Zgm(ok:HOk P w H h){k:Tb}{b:Addr}(e:KAt H k b):(nestedKind P w).is h (Z2q k) b:=by
 obtain⟨rs,e1,p⟩:=e
 obtain⟨_,its,v,o,h1,h2,n,h3⟩:=(show ObjOk P w H h b (.tup (rs.map V.ref)) from ok b _ e1)
 have ei:=refs_at v
 subst ei
 exact⟨.tup h1 h2 h3 (by simpa using Zex ok p),Zfb k⟩
def Z2v (ks:List Tb) (bs:List Addr):List (NestedKey × Addr × Value):=(ks.zip bs).map fun x=>(Z2q x.1,x.2,Value.bool true)
theorem Za9:∀ {ks:List Tb} {bs:List Addr},bs.length=ks.length→(Z2v ks bs).map (·.1)=ks.map Z2q
 | [],bs,_=>rfl
 | k :: ks,[],e=>by simp at e
 | k :: ks,b :: bs,e=>by
  show Z2q k :: (Z2v ks bs).map (·.1)=Z2q k :: ks.map Z2q
  rw[Za9 (by simpa using e)]
theorem ZcZ(w:World)(P:Program)(ks:List Tb)(bs:List Addr):(ks.zip bs).map entN=(Z2v ks bs).map (entryOfKey (nestedKind P w)):=by
 unfold Z2v
 rw[List.map_map]
 refine List.map_congr_left fun x _ => ?_
 show DictEntry.mk (HN x.1) (.ref x.2) (.bool true)=DictEntry.mk ((Z2q x.1).hash w) (.ref x.2) (.bool true)
 rw[Zgu]
theorem ZbT{ks:List Tb}:(ks.map Z2q).Nodup↔ks.Nodup:=by
 constructor
 ·exact fun h=>(List.pairwise_map.mp h).imp fun ne e=>ne (congrArg Z2q e)
 ·exact fun h=>List.Pairwise.map _ (fun a b ne e=>ne (ZdP e)) h
theorem Ze2(ok:HOk P w H h):∀ {ks:List Tb} {bs:List Addr},Paired (KAt H) ks bs→∀ x∈Z2v ks bs,(nestedKind P w).is h x.1 x.2.1
 | _,_, .nil,x,hx=>by cases hx
 | _,_, .cons e t,x,hx=>by
  rcases List.mem_cons.mp hx with e1 | hx
  ·subst e1;exact Zgm ok e
  ·exact Ze2 ok t x hx
theorem dn_of{a:Addr}{ks:List Tb}{bs:List Addr}(ok:HOk P w H h)(d:DnP a ks bs h)(p:Paired (KAt H) ks bs):h.DictOfH (nestedKind P w) a (Z2v ks bs):=by
 obtain⟨_,_,hl,nd,o,es,ep,h1,h2,h3,h4⟩:=d
 exact⟨o,es,ep,h1,h2,h3,by rw[h4,ZcZ w P],Ze2 ok p,by rw[Za9 hl];exact ZbT.mpr nd⟩
theorem to_dn{a:Addr}{ks:List Tb}{bs:List Addr}{h':Heap}(d:h'.DictOfH (nestedKind P w) a (Z2v ks bs))(hs:(a == sysModules)=false)(hz:ks.length≤sizeLine)(hl:bs.length=ks.length):DnP a ks bs h':=by
 obtain⟨o,es,ep,h1,h2,h3,h4,_,nd⟩:=d
 rw[Za9 hl] at nd
 exact⟨hs,hz,hl,ZbT.mp nd,o,es,ep,h1,h2,h3,by rw[h4,ZcZ w P]⟩
theorem dn_ok{a:Addr}{ks:List Tb}{bs:List Addr}{H':Hp}{h':Heap}(d:DnP a ks bs h'):ObjOk P w H' h' a (.ext (DnP a ks bs)):=by
 obtain⟨x1,x2,x3,x4,o,es,ep,h1,h2,h3,h4⟩:=d
 exact⟨⟨x1,x2,x3,x4,o,es,ep,h1,h2,h3,h4⟩,⟨o,h1⟩,fun g1 g2 ⟨y1,y2,y3,y4,o,es,ep,h1,h2,h3,h4⟩ k=>⟨y1,y2,y3,y4,o,es,ep,k o h1,h2,h3,h4⟩⟩
theorem dn_rd{a:Addr}{ks:List Tb}{bs:List Addr}(ok:HOk P w H h)(e:H a=some (.ext (DnP a ks bs))):DnP a ks bs h :=
 (show ObjOk P w H h a (.ext (DnP a ks bs)) from ok a _ e).1
theorem Zdt{k:Tb}:∀ {ks:List Tb} {bs:List Addr},bs.length=ks.length→(atKey (Z2v ks bs) (Z2q k)).isSome=decide (k∈ks)
 | [],bs,_=>by simp[Z2v,atKey]
 | q :: ks,[],e=>by simp at e
 | q :: ks,b :: bs,e=>by
  have ih:=Zdt (k:=k) (ks:=ks) (bs:=bs) (by simpa using e)
  have e1:Z2v (q :: ks) (b :: bs)=(Z2q q,b,Value.bool true) :: Z2v ks bs:=rfl
  rw[e1]
  unfold atKey at ih ⊢
  rw[List.find?_cons]
  by_cases c:q=k
  ·subst c;simp
  ·have c2:¬ Z2q q=Z2q k:=fun z=>c (ZdP z)
   simp only[decide_eq_false c2]
   rw[ih]
   have:(k∈q :: ks)↔k∈ks:=by simp[Ne.symm c]
   simp[this]
theorem Zg5{k:Tb}{ks:List Tb}{bs:List Addr}{b:Addr}(hl:bs.length=ks.length):storedH (Z2v ks bs) (Z2q k) b (.bool true)=Z2v (nput ks k) (if k∈ks then bs else bs++[b]):=by
 unfold storedH nput
 rw[Zdt hl]
 by_cases c:k∈ks
 ·simp only[decide_eq_true c,if_true,if_pos c]
  have:∀ x∈Z2v ks bs,putAt (Z2q k) (.bool true) x=x:=fun x hx=>by
   obtain⟨y,_,rfl⟩:=List.mem_map.mp hx
   unfold putAt
   by_cases c:Z2q y.1=Z2q k
   ·rw[if_pos c]
   ·rw[if_neg c]
  exact(List.map_congr_left this).trans (List.map_id _)
 ·simp only[decide_eq_false c,if_neg c]
  unfold Z2v
  rw[List.zip_append hl.symm,List.map_append]
  rfl
theorem Zec(ks:List Tb)(k:Tb):(nput ks k).length≤ks.length+1:=by
 unfold nput
 split
 ·omega
 ·simp
end
section
variable {X:Cx} {o i e value:Expr} {pos pos' tpos:Pos} {td ty tv:TE}
theorem Zjc{A:Around}(hu:A.units+10 < cLine):A.in1.units+8 < cLine:=by simp only[Around.in1_units];omega
def Zhp (td ty:TE):TS:=fun D σ H=>td σ H fun x H1=>ty σ H1 fun y H2=>∃ a k ks b bs,x = .ref a∧y = .ref b∧KAt H2 k b∧H2 a=some (.ext (DnP a ks bs))∧Paired (KAt H2) ks bs∧ks.length < sizeLine ∧
 D.nx σ (upd H2 a (.ext (DnP a (nput ks k) (if k∈ks then bs else bs++[b]))))
theorem Zis(hu:X.A.units+10 < cLine)(ho:PE X o td)(hi:PE X i ty)(hv:PE X value fun σ H Q=>Q (.bl true) H)(hs:swapsWith value (some (.Subscript o i pos')) pos.line X.env=pure false) :
  PS X (.Assign [.Subscript o i pos'] value pos) (Zhp td ty):=by
 refine⟨fun pins s σ H D I h => ?_⟩
 refine wpAny_Assign_Subscript (thn (hv.run pins s σ H (fun v H1=>v = .bl true∧Zhp td ty D σ H1) I ⟨rfl,h⟩) fun r s1 ⟨v,H1,I1,rv,ev,q1⟩=>thn (ho.run pins s1 σ H1 _ I1 q1) fun u s2 ⟨x,H2,I2,rx,q2⟩=>thn (hi.run pins s2 σ H2 _ I2 q2) fun iv s3 ⟨y,H3,I3,ry,a,k,ks,b,bs,ex,ey,hk,ha,hp,hz,q3⟩ => ?_) hs
 subst ex ey ev
 obtain rfl:u=Value.ref a:=rx
 obtain rfl:iv=Value.ref b:=ry
 obtain rfl:r=Value.bool true:=rv
 have dd:=dn_rd I3.hok ha
 have hsz:(Z2v ks bs).length≤sizeLine:=by
  have:=dd.2.2.1
  unfold Z2v
  rw[List.length_map,List.length_zip]
  omega
 refine wpAny_setItem_heap (knd:=nestedKind X.prog X.w) (hsz:=hsz) (Zjc hu) (Zgm I3.hok hk) (dn_of I3.hok dd hp) fun h' dd' hs=>⟨σ,_, ?_,q3⟩
 rw[Zg5 dd.2.2.1] at dd'
 have hl2:(if k∈ks then bs else bs++[b]).length=(nput ks k).length:=by
  have:=dd.2.2.1
  unfold nput
  split
  ·exact this
  ·simp[this]
 have hn:=Zec ks k
 have new:=to_dn dd' dd.1 (by omega) hl2
 obtain⟨_,_,_,_,q,_,_,hq,_⟩:=id new
 exact d_write I3 (by rw[ha];exact True.intro) hs ⟨q,hq⟩ (dn_ok new)
end
section
variable {X:Cx} {G:Gh} {W:WX} {fa fb:Env→Sto→R T} {a b:Expr} {pos p:Pos}
end
end Eg
set_option maxHeartbeats 4000000
namespace PySem.SeqAt
open AutoSeq1 (wpAny_loadPart')
open MeetsSeq MeetsSeq2 MeetsSeq3
section
variable {prog:Program} {w:World} {A:Around} {E:Value→Shared→Prop} {s:Shared}
end
section
variable {A:Around} {s:Shared}
theorem RcAt.dict_str{a:Addr}{o:Obj}{es:Array DictEntry}{n:Nat}(b:Str)(u:Tok)(ho:s.heap.get? a=some o)(hc:o.cls = .type "dict")(hd:o.data = .dict es n)(hu:A.units < cLine):RcAt A s (.ref a) (.str b u) false:=fun prog w E Q h=>by
 obtain⟨cls,dd,data,sl⟩:=o
 simp only at hc hd
 subst hc hd
 exact rc_eq_decline_or (k:=false) ⟨_,ho,rfl⟩ (typeIs_str s b u) (by decide) F.sub_str_dict F.slot_dict_eq F.slot_str_eq_refl
  (fun _ hq=>Zbo ⟨_,ho,rfl⟩ hq)
  (fun _ hq=>call_meets F.slot_str_eq_refl (typeIs_str s b u) F.entry_str_eq (F.args_str_eq_2 _ _) (Z5f b u a es n dd sl) ⟨ho,hq⟩)
  (fun _ hq=>wpAny_of_eq (rfl:isSame (.ref a) (.str b u)=pure false) hq) (.inr hu) h
theorem RcNeAt.dict_str{a:Addr}{o:Obj}{es:Array DictEntry}{n:Nat}(b:Str)(u:Tok)(ho:s.heap.get? a=some o)(hc:o.cls = .type "dict")(hd:o.data = .dict es n)(hu:A.units < cLine):RcNeAt A s (.ref a) (.str b u) true:=fun prog w E Q h=>by
 obtain⟨cls,dd,data,sl⟩:=o
 simp only at hc hd
 subst hc hd
 exact rc_ne_decline_or (k:=false) ⟨_,ho,rfl⟩ (typeIs_str s b u) (by decide) F.sub_str_dict F.slot_dict_ne F.slot_str_ne_refl
  (fun _ hq=>Zbm ⟨_,ho,rfl⟩ hq)
  (fun _ hq=>call_meets F.slot_str_ne_refl (typeIs_str s b u) F.entry_str_ne (F.args_str_ne_2 _ _) (Z5g b u a es n dd sl) ⟨ho,hq⟩)
  (fun _ hq=>wpAny_of_eq (rfl:isSame (.ref a) (.str b u)=pure false) hq) (.inr hu) h
end
theorem ZcB(l b:Addr)(items items2:Array Value)(n n2:Nat)(dd dd2:Option Addr)(sl sl2:Array (Option Value)) :
  Meets (Builtin.«tuple.__eq__» ⟨[.ref l, .ref b],[]⟩)
   (fun A R s=>s.heap.get? l=some { cls := .type "tuple",dict:=dd,data := .seq items n,slots:=sl }∧s.heap.get? b=some { cls := .type "tuple",dict:=dd2,data := .seq items2 n2,slots:=sl2 } ∧
     (∃ (h1:0 < items.size) (h2:0 < items2.size),EqAt A.in1 s items[0] items2[0] false) ∧
     R (.ok (.ret (.bool false))) s) :=
 .of_wp fun prog w A R s h=>by
  obtain⟨hp,g,d,tk,os⟩:=s;obtain⟨hl,hb,⟨z1,z2,he⟩,h⟩:=h
  have f2:=AutoSeq1.sub_tuple_tuple
  have hZ:0 < (items.toList.zip items2.toList).length:=by simp;omega
  wp_walk using wpAny_loadPart' hl,wpAny_loadPart' hb,wpAny_forIn_list _ (fun rest b s'=>b.1=none∧s'=⟨hp,g,d,tk,os⟩∧rest=items.toList.zip items2.toList ∧
   R (.ok (.ret (.bool false))) ⟨hp,g,d,tk,os⟩) _
  case turn =>
   rintro⟨y,x⟩ rest b s' ⟨hb',rfl,hz,hR⟩
   have hlt:0 < (items.toList.zip items2.toList).length:=hZ
   have hz2:=hz
   rw[← List.drop_zero (l:=items.toList.zip items2.toList),List.drop_eq_getElem_cons hlt] at hz2
   injection hz2 with hyx hrest
   have hy:y=items[0]:=by have:=congrArg Prod.fst hyx;simpa using this
   have hx:x=items2[0]:=by have:=congrArg Prod.snd hyx;simpa using this
   subst hy hx
   refine wpAny_bind (he prog w _ _ ?_)
   wp_walk
   exact⟨_,rfl,by simpa using hR⟩
  case fin =>
   rintro⟨b1,b2⟩ s' ⟨hb',rfl,hz,hR⟩
   rw[← hz] at hZ
   exact absurd hZ (by simp)
  case h =>
   exact⟨rfl,rfl,rfl,by simpa using h⟩
theorem RcAt.tuples_first{A:Around}{s:Shared}{l b:Addr}{items items2:Array Value}(hl:s.heap.IsTuple l items)(hb:s.heap.IsTuple b items2)(hu:A.units < cLine)
  (he:∃ (h1:0 < items.size) (h2:0 < items2.size),EqAt A.in1 s items[0] items2[0] false):RcAt A s (.ref l) (.ref b) false:=fun prog w E Q h=>by
 obtain⟨⟨cls,dd,data,sl⟩,ho,hc,n,hd⟩:=id hl
 obtain⟨⟨cls2,dd2,data2,sl2⟩,ho2,hc2,n2,hd2⟩:=id hb
 simp only at hc hd hc2 hd2
 subst hc hd hc2 hd2
 exact richCompare_meets_room (op := .Eq) ⟨_,ho,rfl⟩ ⟨_,ho2,rfl⟩ F.slot_tuple_eq F.entry_tuple_eq (F.args_tuple_eq_2 _ _) (ZcB l b items items2 n n2 dd dd2 sl sl2)
  ⟨ho,ho2,he,show Value.bool false≠Value.notImplemented∧Q (.bool false) s from⟨(fun x=>nomatch x),h⟩⟩ hu
end PySem.SeqAt
namespace Eg
open PySem PySem.Spec PyProof.Rows L2
section
variable {X:Cx} {pins:List (Addr × Obj)} {σ : L2.St} {H:Hp} {s:Shared}
end
section
variable {X:Cx} {G:Gh} {W:WX} {fa fb:Env→Sto→R T} {a b:Expr} {pos:Pos}
end
section
variable {G:Gh} {m:Mm} {H H':Hp} {env:Env} {st:Sto} {σ : L2.St}
theorem Stp.ext(e:∀ b o,H b=some o→H' b=some o):Stp m H m H':=by
 refine⟨⟨fun a u h _ _=>e a u h,fun a _ h z => ?_,fun _ h => .inl h,fun _ h => .inl (.inr h),⟨[],by simp⟩⟩,rfl⟩
 cases q:H a with
 | none=>exact h q
 | some o=>rw[e a o q] at z;cases z
theorem RSto.ext(s:RSto G m H st)(e:∀ b o,H b=some o→H' b=some o):RSto G m H' st:=by
 refine⟨s.nd,s.fd,s.len,fun i a c h1 h2=>Z1m.mov (Stp.ext e).toMov ?_ (s.cell i a c h1 h2),fun a h z => ?_,fun x hx=>LamX.TabS.ext (s.tab x hx) e⟩
 ·cases q:H a with
  | none=>exact absurd q (s.mem (List.mem_of_getElem? h1))
  | some o=>exact e a o q
 ·cases q:H a with
  | none=>exact s.foS a h q
  | some o=>rw[e a o q] at z;cases z
theorem RS.ext(s:RS G m env st σ H)(e:∀ b o,H b=some o→H' b=some o):RS G m env st σ H':=⟨s.env.mov (Stp.ext e).toMov,s.sto.ext e⟩
end
section
variable {X:Cx} {G:Gh} {W:WX} {fa:Env→Sto→R T} {a:Expr} {p apos cpos pos:Pos}
end
end Eg
set_option maxHeartbeats 4000000
namespace EgId
open PySem PySem.Spec PyProof.Rows PySem.SeqAt
section
variable {M:Model} {prog:Program} {w:World} {A:Around} {E:Value→Shared→Prop} {s:Shared} {K:PySem.W.Frag} {x y C l:Addr} {ox oy:Obj} {od:Option Obj} {b:Value}
structure IdC (K:PySem.W.Frag) (C:Addr):Prop where
 eq:PySem.W.findIn K (.ref C) "__eq__" = some (some (.builtin "object.__eq__"))
 ne:PySem.W.findIn K (.ref C) "__ne__" = some (some (.builtin "object.__ne__"))
 ob:PySem.W.mroIn K C (.type "object")=some true
 tu:PySem.W.mroIn K C (.type "tuple")=some false
end
end EgId
namespace Eg
open PySem PySem.Spec PyProof.Rows L2
abbrev IdC:=EgId.IdC
section
variable {X:Cx} {G:Gh} {W:WX} {cs:List Ci} {ids:List Nat} {fa fb:Env→Sto→R T} {a b e:Expr} {pos:Pos}
end
end Eg
set_option maxHeartbeats 4000000
namespace Eg
open PySem PySem.Spec PyProof.Rows L2
section
variable {X:Cx} {G:Gh} {W:WX}
end
end Eg
set_option maxHeartbeats 2000000
namespace Eg
open PySem PySem.Spec PyProof.Rows L2
def ZfJ (k:Str) (i:Nat):Env→Sto→R T:=fun env st=>match env[i]? with
 | some (some t) => .ok (.dk1 k t) st
 | _ => .bad
section
variable {X:Cx} {G:Gh} {W:WX} {i:Nat} {x k:Str} {j:Nat} {pos p1 p2:Pos}
theorem s_dk1(hN:X.N[i]? = some x)(hv:Vis X.env.scope x)(hd:(x == ("__debug__" : Str))=false)(hcd:(x == ("__classdict__" : Str))=false) :
  PE X (.Dict [some (.Constant (.str k) j p1)] [.Name x p2] pos) (tE G W (ZfJ k i)) :=
 PE.imp (ZfZ pe_str (pe_var hN hv hd hcd)) fun σ H Q ⟨m,env,st,rs,h⟩ p hp=>by
  show tVar i σ (upd H p (.dK [])) (fun y H2=>H2 p=some (.dK [])∧∃ q:L2.Key,V.str k=kV q∧Q (.ref p) (upd H2 p (.dK [(q,y)])))
  unfold ZfJ at h
  cases e:env[i]? with
  | none=>rw[e] at h;exact h.elim
  | some o =>
   rw[e] at h
   cases o with
   | none=>exact h.elim
   | some t =>
    obtain⟨v,e1,r⟩:=rs.env.2 i t e
    refine⟨v,e1,upd_same, .inr k,rfl, ?_⟩
    have eH:upd (upd H p (.dK [])) p (.dK [(Sum.inr k,v)])=upd H p (.dK [(Sum.inr k,v)]):=by
     funext b
     by_cases hb:b=p
     ·rw[hb,upd_same,upd_same]
     ·rw[upd_ne hb,upd_ne hb,upd_ne hb]
    rw[eH]
    have S:Stp m H m (L2.upd H p (.dK [(Sum.inr k,v)])):=Stp.fresh hp
    exact Rn.next (K:=Kq Q) (show Rn G W σ env (Rp G) m H (.ok (.dk1 k t) st) (Kq Q) from h) ⟨rs.env.mov S.toMov,rs.sto.fresh hp⟩ S ⟨p,v,rfl,rs.sto.free hp,upd_same,Rp.mov S.toMov _ _ r⟩
end
end Eg
set_option maxHeartbeats 4000000
namespace Eg
open PySem PySem.Spec PyProof.Rows L2
mutual
inductive IE where
 | never
 | k (c:T)
 | v (i:Nat)
 | g (j:Nat)
 | bin (op:Operator) (a b:IE)
 | neg (a:IE)
 | not (a:IE)
 | cmp (op:CmpOp) (a b:IE)
 | chain (o1 o2:CmpOp) (a b c:IE)
 | or (a b:IE)
 | ite (c a b:IE)
 | tup (es:IEs)
 | ix (a b:IE)
 | sl (a:IE) (lo hi:IO)
 | fz (l:IL)
 | new (l:IL)
 | call (f:Nat) (es ks:IEs)
 | bi (b:Bi) (es:IEs)
 | str (a:IE)
 | repr (a:IE)
 | xat (f:Str) (a:IE)
 | isx (g:Tg) (a:IE)
 | lk (n:Bool) (a:IE) (es:IEs)
 | ed
 | dk1 (k:Str) (i:Nat)
inductive IL where
 | lst (es:IEs)
 | lc (own:List Nat) (e:IE) (g:IG) (it:II) (c:IO)
 | lc2 (own vs1:List Nat) (e:IE) (g:IG) (it:II) (c:IO) (g1:IG) (it1:II) (c1:IO)
 | cat (a b:IE)
 | rep (a b:IE)
 | sl (a:IE) (lo hi:IO)
 | lrg (a:IE)
inductive IEs where
 | nil | cons (e:IE) (es:IEs)
inductive IO where
 | none | some (e:IE)
inductive II where
 | seq (e:IE) | rng1 (a:IE) | rng2 (a b:IE) | enum (e:IE) | zip (a b:IE) | enz (a b:IE)
inductive IRs where
 | nil | cons (e:IE) (es:IRs) | rpl (a:IE) (y z:Str) (es:IRs)
end
def ZfW:Env→Sto→R T:=fun _ _ => .bad
def fK (c:T):Env→Sto→R T:=fun _ st => .ok c st
def fGl (tb:Tab) (j:Nat):Env→Sto→R T:=fun _ st=>match tb.cons[j]? with
 | some p => .ok p.2 st
 | none => .bad
def fBin (op:Operator) (fa fb:Env→Sto→R T):Env→Sto→R T:=fun env st=>(fa env st).bnd fun x st1=>(fb env st1).bnd fun y st2=>R.opt (Z5i op x y) st2
def fNeg (fa:Env→Sto→R T):Env→Sto→R T:=fun env st=>(fa env st).bnd fun x st1=>match x with
 | .int i => .ok (.int (-i)) st1
 | _ => .bad
def fCmp (op:CmpOp) (fa fb:Env→Sto→R T):Env→Sto→R T:=fun env st=>(fa env st).bnd fun x st1=>(fb env st1).bnd fun y st2=>R.opt ((Z1h st2 op x y).map .bl) st2
def fIsN (n:Bool) (fa:Env→Sto→R T):Env→Sto→R T:=fun env st=>(fa env st).bnd fun x st1 => .ok (.bl (ZcS n x)) st1
def fTup (fs:Env→Sto→R (List T)):Env→Sto→R T:=fun env st=>(fs env st).bnd fun xs st1=>if xs.length≤lim then .ok (.tup xs) st1 else .bad
def fIx (fa fb:Env→Sto→R T):Env→Sto→R T:=fun env st=>(fa env st).bnd fun x st1=>(fb env st1).bnd fun y st2=>R.opt (ixT st2 x y) st2
def fSl (fa:Env→Sto→R T) (fl fh:Env→Sto→R (Option Int)):Env→Sto→R T:=fun env st=>(fa env st).bnd fun x st1=>(fl env st1).bnd fun l st2=>(fh env st2).bnd fun u st3=>match x with
 | .tup xs => .ok (.tup (cut xs l u)) st3
 | .str z=>if z.length≤lim then .ok (.str (cutS z l u)) st3 else .bad
 | _ => .bad
def fFz (fl:Env→Sto→R (List T)):Env→Sto→R T:=fun env st=>(fl env st).bnd fun xs st1 => .ok (.lst xs) st1
def fFn (o:Option Fn) (fs fk:Env→Sto→R (List T)):Env→Sto→R T:=fun env st=>match o with
 | some fn=>(fs env st).bnd fun xs st1=>(fk env st1).bnd fun ys st2=>if ys.length=fn.ks.length then fn.F (xs++ys) st2 else .bad
 | none => .bad
def fBi (b:Bi) (fs:Env→Sto→R (List T)):Env→Sto→R T:=fun env st=>(fs env st).bnd fun xs st1=>R.opt (biT st1 b xs) st1
def Za7:Env→Sto→R (List T):=fun _ st => .ok [] st
def Z3x (fa:Env→Sto→R T) (fs:Env→Sto→R (List T)):Env→Sto→R (List T):=fun env st=>(fa env st).bnd fun x st1=>(fs env st1).bnd fun xs st2 => .ok (x :: xs) st2
def fNo':Env→Sto→R (Option Int):=fun _ st => .ok none st
def fSo (fa:Env→Sto→R T):Env→Sto→R (Option Int):=fun env st=>(fa env st).bnd fun x st1=>match x with
 | .int i => .ok (some i) st1
 | _ => .bad
mutual
def IE.ev (tb:Tab):IE→Env→Sto→R T
 | .never=>ZfW
 | .k c=>fK c
 | .v i=>evV i
 | .g j=>fGl tb j
 | .bin op a b=>fBin op (a.ev tb) (b.ev tb)
 | .neg a=>fNeg (a.ev tb)
 | .not a=>Zfm (a.ev tb)
 | .cmp op a b=>fCmp op (a.ev tb) (b.ev tb)
 | .chain o1 o2 a b c=>ZaA o1 o2 (a.ev tb) (b.ev tb) (c.ev tb)
 | .or a b=>fOr (a.ev tb) (b.ev tb)
 | .ite c a b=>ZfM (c.ev tb) (a.ev tb) (b.ev tb)
 | .tup es=>fTup (es.ev tb)
 | .ix a b=>fIx (a.ev tb) (b.ev tb)
 | .sl a lo hi=>fSl (a.ev tb) (lo.ev tb) (hi.ev tb)
 | .fz l=>fFz (l.ev tb)
 | .new l=>Zfo (l.ev tb)
 | .call f es ks=>fFn tb.funs[f]? (es.ev tb) (ks.ev tb)
 | .bi b es=>fBi b (es.ev tb)
 | .str a=>fStr (a.ev tb)
 | .repr a=>Zfh (a.ev tb)
 | .xat f a=>fXat tb.xfl f (a.ev tb)
 | .isx g a=>fIsx tb.xis g (a.ev tb)
 | .lk n a es=>fLk n (a.ev tb) (es.ev tb)
 | .ed=>fEd
 | .dk1 k i=>ZfJ k i
def IL.ev (tb:Tab):IL→Env→Sto→R (List T)
 | .lst es=>fDl (es.ev tb)
 | .lc own e g it c=>fLc own (e.ev tb) g (it.ev tb) (c.test tb)
 | .lc2 own vs1 e g it c g1 it1 c1=>fLc2 own vs1 (e.ev tb) g (it.ev tb) (c.test tb) g1 (it1.ev tb) (c1.test tb)
 | .cat a b=>fCat (a.ev tb) (b.ev tb)
 | .rep a b=>fRep (a.ev tb) (b.ev tb)
 | .sl a lo hi=>fSlL (a.ev tb) (lo.ev tb) (hi.ev tb)
 | .lrg a=>fLrg (a.ev tb)
def IEs.ev (tb:Tab):IEs→Env→Sto→R (List T)
 | .nil=>Za7
 | .cons e es=>Z3x (e.ev tb) (es.ev tb)
def IEs.js (tb:Tab):IEs→Str→Env→Sto→R T
 | .nil,acc=>fun _ st => .ok (.str acc) st
 | .cons e es,acc=>fun env st=>(e.ev tb env st).bnd fun x st1=>match x with
  | .str y=>if (acc++y).length≤lim then es.js tb (acc++y) env st1 else .bad
  | _ => .bad
def IO.ev (tb:Tab):IO→Env→Sto→R (Option Int)
 | .none=>fNo'
 | .some e=>fSo (e.ev tb)
def IO.test (tb:Tab):IO→Env→Sto→R Bool
 | .none=>Ze0
 | .some e=>fTst (e.ev tb)
def II.ev (tb:Tab):II→Env→Sto→R (List T)
 | .seq e=>Zfr (e.ev tb)
 | .rng1 a=>ZaM (a.ev tb)
 | .rng2 a b=>fRg2 (a.ev tb) (b.ev tb)
 | .enum e=>fEn (e.ev tb)
 | .zip a b=>fPr (a.ev tb) (b.ev tb)
 | .enz a b=>fEnz (a.ev tb) (b.ev tb)
def IRs.ev (tb:Tab):IRs→Env→Sto→R (List T)
 | .nil=>Za7
 | .cons e es=>Z3x (e.ev tb) (es.ev tb)
 | .rpl a y z es=>Z3x (fRpl (a.ev tb) y z) (es.ev tb)
end
def kC:T→Const→Bool
 | .non, .none=>true
 | .bl b, .bool c=>b == c
 | .int i, .int j=>decide (i=j)
 | .str x, .str y=>decide (x=y)
 | _,_=>false
def glC (c:CC) (x:Str):Bool:=match c.sc.names.lookup x with
 | some .globalImplicit => !(x == ("__debug__" : Str)) && !(x == ("__name__" : Str))
 | _=>false
def plIx:Expr→Bool
 | .Slice .. => false
 | _=>true
def Z0y:Expr→Bool
 | .Starred .. => false
 | _=>true
def ZbO:Expr→Bool
 | .Set .. => false
 | _=>true
def plO:Expr→Bool
 | .Call (.Name _ _) [] [] _=>false
 | _=>true
def IE.tst:IE→Bool
 | .not a=>a.tst
 | .or a b=>a.tst && b.tst
 | .ite _ _ _=>false
 | .never=>false
 | .ed=>false
 | .dk1 _ _=>false
 | _=>true
def tgC (c:CC) (tb:Tab) (g:Tg) (x:Str):Bool:=glC c x && decide (tb.tgs.lookup x=some g)
def ksC (kn:List Str) (kws:List Keyword):Bool:=decide (kws.map (·.arg)=kn.map some)
def Z5y (c:CC) (scope:Scope):CC:=⟨c.N,relS scope c.sc,fun x=>scope.names.lookup x == some .cell,c.hot,false⟩
def Zav (c:CC) (own:List Nat):List (Str × Nat):=own.filterMap fun i=>c.N[i]?.map fun x=>(x,i)
mutual
def Z0b (c:CC) (tb:Tab):IE→Expr→Bool
 | .never,_=>true
 | .k t,e=>match e with
  | .Constant q _ _=>kC t q
  | _=>false
 | .v i,e=>match e with
  | .Name x _=>Zfs c i x
  | _=>false
 | .g j,e=>match e with
  | .Name x _=>glC c x && decide (tb.cons[j]?.map (·.1)=some x)
  | _=>false
 | .bin op a b,e=>match e with
  | .BinOp x o y _=>decide (o=op) && Z0b c tb a x && Z0b c tb b y
  | _=>false
 | .neg a,e=>match e with
  | .UnaryOp o x _=>decide (o = .USub) && Z0b c tb a x
  | _=>false
 | .not a,e=>match e with
  | .UnaryOp o x _=>decide (o = .Not) && a.tst && Z0b c tb a x
  | _=>false
 | .cmp op a b,e=>match e with
  | .Compare x [o] [y] _=>decide (o=op) && !behindInMarks op y && Z0b c tb a x && Z0b c tb b y
  | _=>false
 | .chain o1 o2 a b d,e=>match e with
  | .Compare x [p1,p2] [y,z] _=>decide (p1=o1) && decide (p2=o2) && !lastMarks [o1,o2] [y,z] && Z0b c tb a x && Z0b c tb b y && Z0b c tb d z
  | _=>false
 | .or a b,e=>match e with
  | .BoolOp .Or (x :: y :: r) p=>a.tst && b.tst && Z0b c tb a x && Z0b c tb b (match r with
   | []=>y
   | _ :: _ => .BoolOp .Or (y :: r) p)
  | _=>false
 | .ite d a b,e=>match e with
  | .IfExp z x y _=>d.tst && Z0b c tb d z && Z0b c tb a x && Z0b c tb b y
  | _=>false
 | .tup es,e=>match e with
  | .Tuple xs _ _=>Z1d c tb es xs
  | _=>false
 | .ix a b,e=>match e with
  | .Subscript x y _=>plIx y && Z0b c tb a x && Z0b c tb b y
  | _=>false
 | .sl a lo hi,e=>match e with
  | .Subscript x (.Slice l h none _) _=>Z0b c tb a x && ZbA c tb lo l && ZbA c tb hi h
  | _=>false
 | .fz l,e=>Z5e c tb l e
 | .new l,e=>Z5e c tb l e
 | .call f es ks,e=>match e with
  | .Call (.Name x _) xs kws _=>glC c x && (match tb.funs[f]? with
   | some fn=>decide (fn.name=x) && ksC fn.ks kws
   | none=>false) && Z1d c tb es xs && Zdm c tb ks kws && Z3f c
  | _=>false
 | .bi b es,e=>match e with
  | .Call (.Name x _) (y :: xs) [] _=>decide (x=Z6d b) && glC c x && Z1d c tb es (y :: xs) && Z3f c
  | _=>false
 | .str a,e=>match e with
  | .Call (.Name x _) [y] [] _=>decide (x = "str") && glC c x && Z0y y && Z0b c tb a y
  | _=>false
 | .repr a,e=>match e with
  | .Call (.Name x _) [y] [] _=>decide (x = "repr") && glC c x && Z0y y && Z0b c tb a y
  | _=>false
 | .xat f a,e=>match e with
  | .Attribute x m _=>decide (m=f) && plO x && Z0b c tb a x
  | _=>false
 | .isx g a,e=>match e with
  | .Call (.Name x _) [y, .Name z _] [] _=>decide (x = "isinstance") && glC c x && tgC c tb g z && Z0y y && Z0b c tb a y
  | _=>false
 | .lk n a es,e=>match e with
  | .Call (.Attribute x m ap) (y :: xs) [] p=>decide (m=ZdG n) && (ap.endLine == p.line) && plO x && decide (xs.length < 20) && Z0b c tb a x && Z1d c tb es (y :: xs)
  | _=>false
 | .ed,e=>match e with
  | .Dict [] [] _=>true
  | _=>false
 | .dk1 k i,e=>match e with
  | .Dict [some (.Constant (.str s) _ _)] [.Name x _] _=>decide (s=k) && Zfs c i x
  | _=>false
def Z5e (c:CC) (tb:Tab):IL→Expr→Bool
 | .lst es,e=>match e with
  | .List xs _=>Z1d c tb es xs
  | _=>false
 | .lc own d g it t,e=>match e with
  | .ListComp elt [⟨tg,iter,ifs,0⟩] scope _=>Z7t c tb it tg iter && blkC c.N c.sc scope (Zav c own) && decide ((Zav c own).map (·.2)=own) && decide (∀ i,i∈g.slots→i∈own) && ZbO iter &&
    Z3q (Z5y c scope) g tg && Z0b (Z5y c scope) tb d elt && Zb3 (Z5y c scope) tb t ifs && Z3f c
  | _=>false
 | .lc2 own vs1 d g it t g1 it1 t1,e=>match e with
  | .ListComp elt [⟨tg,iter,ifs,0⟩,⟨tg1,iter1,ifs1,0⟩] scope _=>Z7t c tb it tg iter && blkC c.N c.sc scope (Zav c own) && decide ((Zav c own).map (·.2)=own) && decide (∀ i,i∈g.slots→i∈own) && decide (∀ i,i∈g1.slots→i∈vs1) && decide (∀ i,i∈vs1→i∈own) && ZbO iter && ZbO iter1 &&
    Z3q (Z5y c scope) g tg && Z0b (Z5y c scope) tb d elt && Zb3 (Z5y c scope) tb t ifs && Z7t (Z5y c scope) tb it1 tg1 iter1 && Z3q (Z5y c scope) g1 tg1 && Zb3 (Z5y c scope) tb t1 ifs1 && Z3f c
  | _=>false
 | .cat a b,e=>match e with
  | .BinOp x o y _=>decide (o = .Add) && Z0b c tb a x && Z0b c tb b y
  | _=>false
 | .rep a b,e=>match e with
  | .BinOp x o y _=>decide (o = .Mult) && Z0b c tb a x && Z0b c tb b y
  | _=>false
 | .sl a lo hi,e=>match e with
  | .Subscript x (.Slice l h none _) _=>Z0b c tb a x && ZbA c tb lo l && ZbA c tb hi h
  | _=>false
 | .lrg a,e=>match e with
  | .Call (.Name x _) [.Call (.Name z _) [y] [] _] [] _=>decide (x = "list") && decide (z = "range") && glC c x && glC c z && Z0y y && Z0b c tb a y && Z3f c
  | _=>false
def Z1d (c:CC) (tb:Tab):IEs→List Expr→Bool
 | .nil,xs=>match xs with
  | []=>true
  | _=>false
 | .cons e es,xs=>match xs with
  | x :: r=>Z0y x && Z0b c tb e x && Z1d c tb es r
  | _=>false
def Zdm (c:CC) (tb:Tab):IEs→List Keyword→Bool
 | .nil,xs=>match xs with
  | []=>true
  | _=>false
 | .cons e es,xs=>match xs with
  | ⟨_,x,_⟩ :: r=>Z0b c tb e x && Zdm c tb es r
  | _=>false
def ZbA (c:CC) (tb:Tab):IO→Option Expr→Bool
 | .none,o=>match o with
  | .none=>true
  | _=>false
 | .some e,o=>match o with
  | .some x=>Z0b c tb e x
  | _=>false
def Zb3 (c:CC) (tb:Tab):IO→List Expr→Bool
 | .none,o=>match o with
  | []=>true
  | _=>false
 | .some e,o=>match o with
  | [x]=>e.tst && Z0b c tb e x
  | _=>false
def Z7t (c:CC) (tb:Tab):II→Expr→Expr→Bool
 | .seq d,_,e=>Z0b c tb d e
 | .rng1 a,_,e=>match e with
  | .Call (.Name x _) [y] [] _=>decide (x = "range") && glC c x && Z0y y && Z0b c tb a y
  | _=>false
 | .rng2 a b,_,e=>match e with
  | .Call (.Name x _) [y,z] [] _=>decide (x = "range") && glC c x && Z0y y && Z0y z && Z0b c tb a y && Z0b c tb b z
  | _=>false
 | .enum d,tg,e=>match tg,e with
  | .Tuple _ _ _, .Call (.Name x _) [y] [] _=>decide (x = "enumerate") && glC c x && Z0y y && Z0b c tb d y
  | _,_=>false
 | .zip a b,tg,e=>match tg,e with
  | .Tuple _ _ _, .Call (.Name x _) [y,z] [] _=>decide (x = "zip") && glC c x && Z0y y && Z0y z && Z0b c tb a y && Z0b c tb b z
  | _,_=>false
 | .enz a b,tg,e=>match tg,e with
  | .Tuple _ _ _, .Call (.Name x _) [.Call (.Name x2 _) [y,z] [] _] [] _=>decide (x = "enumerate") && decide (x2 = "zip") && glC c x && glC c x2 && Z0y y && Z0y z && Z0b c tb a y && Z0b c tb b z
  | _,_=>false
def Zb7 (c:CC) (tb:Tab):IRs→List Expr→Bool
 | .nil,xs=>match xs with
  | []=>true
  | _=>false
 | .cons e es,xs=>match xs with
  | x :: r=>Z0y x && Z0b c tb e x && Zb7 c tb es r
  | _=>false
 | .rpl a y z es,xs=>match xs with
  | .Call (.Attribute x m ap) [.Constant (.str u) _ _, .Constant (.str w) _ _] [] p :: r=>decide (m = "replace") && decide (u=y) && decide (w=z) && !(y == z) && (ap.endLine == p.line) && plO x && Z0b c tb a x && Zb7 c tb es r
  | _=>false
end
end Eg
set_option maxHeartbeats 4000000
namespace Eg
open PySem PySem.Spec PyProof.Rows L2
def Z6r:List Str:=["len", "sum", "max", "min", "abs", "int", "tuple", "all", "any", "divmod", "list", "range", "enumerate", "zip", "str", "repr", "isinstance", "bool", "sorted", "set", "dict"]
structure TabOk (P:Program) (w:World) (K:PySem.W.Frag) (mg:Str→Option Value) (base:Heap) (lv:Nat) (G:Gh) (tb:Tab):Prop where
 no:∀ x,x∈Z6r→mg x=none
 cons:∀ (j:Nat) p,tb.cons[j]? = some p→∃ u v,mg p.1=some u∧RelV v u∧kT p.2=some v
 funs:∀ (j:Nat) fn,tb.funs[j]? = some fn→∃ f,mg fn.name=some (.ref f)∧PySem.W.keepIn K (.ref f)=true∧Cal P w K mg base lv G fn.ks fn.F f
 cls:∀ (k:Nat) ci,tb.cls[k]? = some ci→ClsOk P w K mg base lv G k ci
 isi:∀ ty g k,tb.isi.lookup (ty,g)=some k→PySem.W.kitOne K (Zfv G ty) (Z6w G g)=some k
 hfuns:∀ (j:Nat) fn,tb.hfuns[j]? = some fn→∃ f,mg fn.name=some (.ref f)∧PySem.W.keepIn K (.ref f)=true∧HCal P w K mg base lv G fn.F f
 xis:∀ c g k,tb.xis.lookup (c,g)=some k→ExcC K (G.cl c)∧PySem.W.kitOne K (.ref (G.cl c)) (Z6w G g)=some k
 xfl:∀ c f,tb.xfl.lookup c=some f→XfC K (G.cl c)∧PySem.W.findIn K (.ref (G.cl c)) f=some none∧G.fl c=[f]
 xcs:∀ c f,tb.xcs.lookup c=some f→Zh9 P w K mg base lv G c f
 hds:∀ (j:Nat) h,tb.hds[j]? = some h→∃ f,mg h.name=some (.ref f)∧PySem.W.keepIn K (.ref f)=true∧TCal P w K mg base (lv+1) G h.FT f
 dun:ZfD P w K mg base lv G tb.dun
 nes:∀ c,c∈tb.nes→NeOk K (G.cl c)
 ids:∀ c,c∈tb.ids→IdC K (G.cl c)
 xm:∀ c,c∈tb.xm→PySem.W.exmAny K (.ref (G.cl c)) [.ref (G.cl 100), .ref (G.cl 117), .ref (G.cl 119)]=some true
 cmf:∀ (j:Nat) q,tb.cmf[j]? = some q→CmOk P w K mg base lv G q.1 q.2
 tgs:∀ x g,tb.tgs.lookup x=some g→(∃ n,g = .ty n∧mg x=none∧bootBuiltins x=some (.type n))∨(∃ k,g = .cls k∧mg x=some (.ref (G.cl k)))
theorem TabOk.hotT{P:Program}{w:World}{K:PySem.W.Frag}{mg:Str→Option Value}{base:Heap}{lv:Nat}{G:Gh}{tb:Tab}(t:TabOk P w K mg base lv G tb)(y:XA):TabOk P w K mg base lv { G with xa:=some y } tb.hot where
 no:=t.no
 cons:=t.cons
 funs:=fun j fn e=>by have e:([]:List Fn)[j]? = some fn:=e;simp at e
 cls:=fun k ci e=>by have e:([]:List Ci)[k]? = some ci:=e;simp at e
 isi:=t.isi
 hfuns:=t.hfuns
 xis:=t.xis
 xfl:=t.xfl
 xcs:=fun c f e=>by have e:([]:List (Nat × Str)).lookup c=some f:=e;simp at e
 hds:=fun j h e=>by have e:([]:List Hd)[j]? = some h:=e;simp at e
 dun:=fun c x F e=>by have e:([]:Du).lookup (c,x)=some F:=e;simp at e
 nes:=t.nes
 ids:=t.ids
 xm:=t.xm
 cmf:=fun j q e=>by have e:([]:List (Nat × Fn))[j]? = some q:=e;simp at e
 tgs:=t.tgs
structure Okx (X:Cx) (c:CC) (G:Gh) (tb:Tab) (lv:Nat):Prop where
 hN:X.N=c.N
 hs:X.env.scope=c.sc
 hf:X.fn=c.fn
 nd:X.N.Nodup
 hK:X.K=G.K
 calm:Z3f c=true→X.calm=true
 room:Z3f c=true→Room (lv+1) X.A
 roomH:L2H.RoomH (lv+1) X.A
 xin:ZdH G X
 isHot:c.hot=true→∃ y,G.xa=some y
 cool:Z3f c=true→G.xa=none
 lam:c.lam=true→Room (lv+3) X.A∧∃ cd t,X.env.code = .ref cd∧LamX.TabB X.base X.mg cd t∧(t,X.env.qual ++ "<lambda>")∈G.tb∧∀ y∈G.tb,y.1=t→y.2=X.env.qual ++ "<lambda>"
 gd:X.A.guards=some []
 tab:TabOk X.prog X.w X.K X.mg X.base lv G tb
section
variable {X:Cx} {c:CC} {G:Gh} {W:WX} {tb:Tab} {lv:Nat} {e:Expr} {es:List Expr} {x:Str} {i:Nat} {fa:Env→Sto→R T}
theorem Okx.units(ok:Okx X c G tb lv):X.A.units+65 < cLine:=by have:=ok.roomH.un;omega
theorem Okx.gl(ok:Okx X c G tb lv)(h:glC c x=true):Gl X x∧(x == ("__debug__" : Str))=false∧x ≠ "__name__":=by
 unfold glC at h
 split at h
 ·rename_i e
  simp only[Bool.and_eq_true,Bool.not_eq_true'] at h
  exact⟨by unfold Gl PySem.Env.kindOf;rw[ok.hs];exact e,h.1,fun z=>by rw[z] at h;simp at h⟩
 ·cases h
theorem Okx.vis(ok:Okx X c G tb lv)(h:Zfs c i x=true):X.N[i]? = some x∧Vis X.env.scope x∧(x == ("__debug__" : Str))=false∧(x == ("__classdict__" : Str))=false:=by
 unfold Zfs at h
 simp only[Bool.and_eq_true,decide_eq_true_eq,Bool.not_eq_true'] at h
 obtain⟨⟨⟨h1,h2⟩,h3⟩,h4⟩:=h
 refine⟨by rw[ok.hN];exact h1, ?_,h3,h4⟩
 unfold Vis
 rw[ok.hs]
 split at h2
 ·rename_i z;exact .inl z
 ·rename_i z;exact .inr (.inl z)
 ·rename_i z;exact .inr (.inr z)
 ·cases h2
theorem Okx.blk(ok:Okx X c G tb lv)(hh:Z3f c=true)(s:Shared)(H:Hp)(scope:Scope)(C:Addr)(cl:List (Str × Addr))(fp:List Addr):Okx (X.blk s H scope (compEnvC scope cl C X.env) fp) (Z5y c scope) G tb lv:=by
 refine⟨ok.hN, ?_,rfl,ok.nd,ok.hK,ok.calm,ok.room,ok.roomH,(fun y z=>by rw[ok.cool hh] at z;cases z),ok.isHot,ok.cool,(fun z=>by cases z),ok.gd,ok.tab⟩
 show relabel scope X.env=relS scope c.sc
 rw[← ok.hs]
 rfl
theorem Z3l{X:Cx}:Takes X W0:=fun u s' ⟨_,_,_,_,_,_,_,_,_,_,_,_,_,_,_,_,z⟩=>z.elim
theorem Z5o(h:Z0y e=true)(env:PySem.Env):starEach [e] env=[(false,eval e env)]:=by cases e <;> first | rfl | cases h
theorem Z5z(h:Z0y e=true)(env:PySem.Env):starEach (e :: es) env=(false,eval e env) :: starEach es env:=by cases e <;> first | rfl | cases h
theorem Z6x(env:PySem.Env):∀ {is:IEs} {es:List Expr},Z1d c tb is es=true→(starEach es env).all (fun x => !x.1)=true
 | .nil,[],_=>rfl
 | .nil,_ :: _,h=>by simp[Z1d] at h
 | .cons _ _,[],h=>by simp[Z1d] at h
 | .cons i is,e :: es,h=>by
  simp only[Z1d,Bool.and_eq_true] at h
  rw[Z5z h.1.1]
  simp only[List.all_cons,Bool.not_false,Bool.true_and]
  exact Z6x env h.2
theorem Z0r{i:IE}(h:PE X e (tE G W fa))(he:∀ Z5m,isTrue e X.env Z5m=(do let v ← Z5m;standAt e.pos;holding [v] (truthy v))):PE X e (tE G W fa)∧(i.tst=true→PT X e (tTest (tE G W fa))) :=
 ⟨h,fun _=>pt_val h he⟩
theorem kC_ok{t:T}{q:Const}{k:Nat}{p:Pos}(h:kC t q=true):PE X (.Constant q k p) (tE G W (fK t)):=by
 cases t with
 | non=>cases q <;> first | (cases h;done) | exact s_k (v := .non) rfl pe_non
 | bl b=>cases q <;> first | (cases h;done) | (rename_i z;have:b=z:=by simpa [kC] using h
                                               subst this;exact s_k (v := .bl b) rfl pe_bl)
 | int b=>cases q <;> first | (cases h;done) | (rename_i z;have:b=z:=by simpa [kC] using h
                                                subst this;exact s_k (v := .int b) rfl pe_int)
 | str b=>cases q <;> first | (cases h;done) | (rename_i z;have:b=z:=by simpa [kC] using h
                                                subst this;exact s_k (v := .str b) rfl pe_str)
 | _=>cases q <;> cases h
theorem ZgD:PE X e (tE G W ZfW):=⟨fun pins s σ H Q I ⟨m,env,st,rs,q⟩=>q.elim⟩
theorem s_neg{p:Pos}(h:PE X e (tE G W fa)):PE X (.UnaryOp .USub e p) (tE G W (fNeg fa)):=by
 refine PE.imp (pe_un un_neg h) fun σ H Q h => ?_
 show tE G W fa σ H fun v H1=>∃ i,v = .int i∧Q (.int (-i)) H1
 refine at1 (g:=fun _ x st1=>match x with
  | T.int i=>R.ok (T.int (-i)) st1
  | _=>R.bad) (rel:=Rp G) (K:=Kq Q) h fun m env st t v H1 rs r q => ?_
 cases t with
 | int i=>exact⟨i,r,Rn.give (b := .int (-i)) q rs rfl⟩
 | _=>exact q.elim
theorem gl_ok(ok:Okx X c G tb lv){j:Nat}{p:Pos}(h:glC c x=true)(h2:tb.cons[j]?.map (·.1)=some x):PE X (.Name x p) (tE G W (fGl tb j)):=by
 obtain⟨g,hd,_⟩:=ok.gl h
 cases e:tb.cons[j]? with
 | none=>rw[e] at h2;cases h2
 | some q =>
  obtain⟨u,v,hm,rv,hk⟩:=ok.tab.cons j q e
  rw[e] at h2
  have:q.1=x:=by simpa using h2
  rw[this] at hm
  refine PE.imp (pe_glob g hm rv hd) fun σ H Q ⟨m,env,st,rs,q2⟩ => ?_
  unfold fGl at q2
  rw[e] at q2
  exact Rn.give q2 rs (Zfe hk)
theorem tg_ok(ok:Okx X c G tb lv){g:Tg}{p:Pos}(h:tgC c tb g x=true):PE X (.Name x p) (tC (tgV G g)):=by
 unfold tgC at h
 rw[Bool.and_eq_true,decide_eq_true_eq] at h
 obtain⟨gg,hd,hn⟩:=ok.gl h.1
 rcases ok.tab.tgs x g h.2 with ⟨n,rfl,hm,hb⟩ | ⟨k,rfl,hm⟩
 ·exact pe_bltn gg hm hb rfl hn hd
 ·exact pe_glob gg hm rfl hd
theorem Zfg{m:Str}(h:plO e=true):attributeBase e m X.env (eval e X.env)=eval e X.env:=by
 unfold attributeBase
 cases e with
 | Call f a k p =>
  cases f with
  | Name id q =>
   cases a with
   | nil=>cases k with
    | nil=>cases h
    | cons _ _=>rfl
   | cons _ _=>rfl
  | _=>rfl
 | _=>rfl
theorem Zjb(b:Bi):Z6d b∈Z6r:=by cases b <;> decide
end
end Eg
set_option maxHeartbeats 8000000
namespace Eg
open PySem PySem.Spec PyProof.Rows L2
section
variable {G:Gh} {tb:Tab} {lv:Nat}
theorem Zij{X:Cx}{op:BoolOp}{vs:List Expr}{p:Pos}{t:TT}(h:PT X (.BoolOp op vs p) t):PW X (.BoolOp op vs p) t:=⟨fun Z5m pins s σ H Q I q=>h.run pins s σ H Q I q⟩
theorem Ziw{X:Cx}{es:List Expr}{p:Pos}(h:(starEach es X.env).all (fun x => !x.1)=true)(hl:es.length < 25):Few X es p:=by
 unfold Few
 have h1:(backTo p (starEach es X.env)).all (fun x => !x.1)=true:=by
  unfold backTo
  rw[List.all_map]
  exact h
 rw[h1]
 simp[keywordEach,backToKw]
 omega
mutual
theorem Z0e:∀ (i:IE) {X:Cx} {c:CC} {W:WX} {e:Expr},Okx X c G tb lv→Takes X W→Z0b c tb i e=true→PE X e (tE G W (i.ev tb))∧(i.tst=true→PT X e (tTest (tE G W (i.ev tb))))
 | .never,X,c,W,e,ok,tk,h=>⟨by rw[IE.ev];exact ZgD,fun z=>by simp[IE.tst] at z⟩
 | .k t,X,c,W,e,ok,tk,h=>by
  unfold Z0b at h;rw[IE.ev]
  split at h
  ·exact Z0r (kC_ok h) fun _=>rfl
  ·cases h
 | .v i,X,c,W,e,ok,tk,h=>by
  unfold Z0b at h;rw[IE.ev]
  split at h
  ·obtain⟨h1,h2,h3,h4⟩:=ok.vis h
   exact Z0r (s_v h1 h2 h3 h4) fun _=>rfl
  ·cases h
 | .g j,X,c,W,e,ok,tk,h=>by
  unfold Z0b at h;rw[IE.ev]
  split at h
  ·rw[Bool.and_eq_true,decide_eq_true_eq] at h
   exact Z0r (gl_ok ok h.1 h.2) fun _=>rfl
  ·cases h
 | .bin op a b,X,c,W,e,ok,tk,h=>by
  unfold Z0b at h;rw[IE.ev]
  split at h
  ·simp only[Bool.and_eq_true,decide_eq_true_eq] at h
   obtain⟨⟨rfl,h1⟩,h2⟩:=h
   exact Z0r (s_bin ok.hK (Z0e a ok tk h1).1 (Z0e b ok tk h2).1) fun _=>rfl
  ·cases h
 | .neg a,X,c,W,e,ok,tk,h=>by
  unfold Z0b at h;rw[IE.ev]
  split at h
  ·simp only[Bool.and_eq_true,decide_eq_true_eq] at h
   obtain⟨rfl,h1⟩:=h
   exact Z0r (s_neg (Z0e a ok tk h1).1) fun _=>rfl
  ·cases h
 | .not a,X,c,W,e,ok,tk,h=>by
  unfold Z0b at h;rw[IE.ev]
  split at h
  ·simp only[Bool.and_eq_true,decide_eq_true_eq] at h
   obtain⟨⟨rfl,h1⟩,h2⟩:=h
   have z:=Z0e a ok tk h2
   exact⟨s_not z.1,fun _=>t_not (z.2 h1)⟩
  ·cases h
 | .cmp op a b,X,c,W,e,ok,tk,h=>by
  unfold Z0b at h;rw[IE.ev]
  split at h
  ·simp only[Bool.and_eq_true,decide_eq_true_eq,Bool.not_eq_true'] at h
   obtain⟨⟨⟨rfl,h1⟩,h2⟩,h3⟩:=h
   have za:=(Z0e a ok tk h2).1
   have zb:=(Z0e b ok tk h3).1
   exact⟨s_cmp ok.hK ok.units h1 za zb,fun _=>t_cmp ok.hK ok.units h1 za zb⟩
  ·cases h
 | .chain o1 o2 a b d,X,c,W,e,ok,tk,h=>by
  unfold Z0b at h;rw[IE.ev]
  split at h
  ·simp only[Bool.and_eq_true,decide_eq_true_eq,Bool.not_eq_true'] at h
   obtain⟨⟨⟨⟨⟨rfl,rfl⟩,h0⟩,h1⟩,h2⟩,h3⟩:=h
   have za:=(Z0e a ok tk h1).1
   have zb:=(Z0e b ok tk h2).1
   have zd:=(Z0e d ok tk h3).1
   exact⟨Zid ok.hK ok.units h0 za zb zd,fun _=>Zit ok.hK ok.units h0 za zb zd⟩
  ·cases h
 | .or a b,X,c,W,e,ok,tk,h=>by
  unfold Z0b at h;rw[IE.ev]
  split at h
  ·rename_i x y r p
   simp only[Bool.and_eq_true] at h
   obtain⟨⟨⟨t1,t2⟩,h1⟩,h2⟩:=h
   have za:=Z0e a ok tk h1
   cases r with
   | nil =>
    have zb:=Z0e b ok tk (show Z0b c tb b y=true from h2)
    exact⟨PE.imp (pe_or za.1 (pe_one zb.1)) fun σ H Q q=>Zgn q,fun _=>PT.imp (PW.pt (pw_or (za.2 t1) (pw_or1 (zb.2 t2)))) fun σ H Q q=>ZeR q⟩
   | cons w r =>
    have zb:=Z0e b ok tk (show Z0b c tb b (.BoolOp .Or (y :: w :: r) p)=true from h2)
    exact⟨PE.imp (pe_or za.1 zb.1) fun σ H Q q=>Zgn q,fun _=>PT.imp (PW.pt (pw_or (za.2 t1) (Zij (zb.2 t2)))) fun σ H Q q=>ZeR q⟩
  ·cases h
 | .ite d a b,X,c,W,e,ok,tk,h=>by
  unfold Z0b at h;rw[IE.ev]
  split at h
  ·simp only[Bool.and_eq_true] at h
   obtain⟨⟨⟨t1,h1⟩,h2⟩,h3⟩:=h
   exact⟨s_ite ((Z0e d ok tk h1).2 t1) (Z0e a ok tk h2).1 (Z0e b ok tk h3).1,fun z=>by simp[IE.tst] at z⟩
  ·cases h
 | .tup es,X,c,W,e,ok,tk,h=>by
  unfold Z0b at h;rw[IE.ev]
  split at h
  ·exact Z0r (s_tup (Z8b es ok tk h)) fun _=>rfl
  ·cases h
 | .ix a b,X,c,W,e,ok,tk,h=>by
  unfold Z0b at h;rw[IE.ev]
  split at h
  ·rename_i x y p
   simp only[Bool.and_eq_true] at h
   obtain⟨⟨h0,h1⟩,h2⟩:=h
   have hp:PlainIx y:=fun o i=>by cases y <;> first | rfl | cases h0
   exact Z0r (s_ix ok.hK hp (Z0e a ok tk h1).1 (Z0e b ok tk h2).1) fun _=>rfl
  ·cases h
 | .sl a lo hi,X,c,W,e,ok,tk,h=>by
  unfold Z0b at h;rw[IE.ev]
  split at h
  ·simp only[Bool.and_eq_true] at h
   obtain⟨⟨h1,h2⟩,h3⟩:=h
   exact Z0r (s_sl ok.hK (Z0e a ok tk h1).1 (Zfl lo ok tk h2) (Zfl hi ok tk h3)) fun _=>rfl
  ·cases h
 | .fz l,X,c,W,e,ok,tk,h=>by
  unfold Z0b at h;rw[IE.ev]
  have z:=l_ok l ok tk h
  exact Z0r (s_fz z.1) z.2
 | .new l,X,c,W,e,ok,tk,h=>by
  unfold Z0b at h;rw[IE.ev]
  have z:=l_ok l ok tk h
  exact Z0r (s_new z.1) z.2
 | .call f es ks,X,c,W,e,ok,tk,h=>by
  unfold Z0b at h;rw[IE.ev]
  split at h
  ·rename_i x p xs kws pos
   simp only[Bool.and_eq_true] at h
   obtain⟨⟨⟨⟨h1,h2⟩,h3⟩,h4⟩,hh⟩:=h
   obtain⟨gg,hd,_⟩:=ok.gl h1
   cases ef:tb.funs[f]? with
   | none=>rw[ef] at h2;cases h2
   | some fn =>
    rw[ef] at h2
    simp only[Bool.and_eq_true,decide_eq_true_eq] at h2
    obtain⟨hx,hks⟩:=h2
    obtain⟨fa,hm,hk,cal⟩:=ok.tab.funs f fn ef
    rw[hx] at hm
    have hA:=Z8b es ok tk h3
    have hK:=k_ok ks ok tk h4
    have hst:=Z6x (tb:=tb) (c:=c) X.env h3
    unfold ksC at hks
    rw[decide_eq_true_eq] at hks
    refine Z0r ?_ fun _=>rfl
    have ekw:(backToKw pos (keywordEach kws X.env)).map (·.1)=kws.map (·.arg):=by
     unfold backToKw
     rw[List.map_map]
     clear hK h4 hks
     induction kws with
     | nil=>rfl
     | cons k kws ih=>obtain⟨nm,v,kp⟩:=k;exact congrArg (List.cons nm) ih
    have hall:(backToKw pos (keywordEach kws X.env)).all (·.1.isSome)=true:=by
     have:(backToKw pos (keywordEach kws X.env)).all (·.1.isSome)=((backToKw pos (keywordEach kws X.env)).map (·.1)).all (·.isSome):=by rw[List.all_map];rfl
     rw[this,ekw,hks,List.all_map]
     simp
    have hfm:(backToKw pos (keywordEach kws X.env)).filterMap (·.1)=fn.ks:=by
     have:(backToKw pos (keywordEach kws X.env)).filterMap (·.1)=((backToKw pos (keywordEach kws X.env)).map (·.1)).filterMap id:=by rw[List.filterMap_map];rfl
     rw[this,ekw,hks,List.filterMap_map]
     simp
    have hpl:((backTo pos (starEach xs X.env)).any (·.1) || (backToKw pos (keywordEach kws X.env)).any (·.1.isNone))=false:=by
     have h5:(backTo pos (starEach xs X.env)).any (·.1)=false:=by
      unfold backTo
      rw[List.any_map,List.any_eq_false]
      intro y hy
      have:=List.all_eq_true.mp hst y hy
      simpa using this
     have h6:(backToKw pos (keywordEach kws X.env)).any (·.1.isNone)=false:=by
      rw[List.any_eq_false]
      intro y hy
      have:=List.all_eq_true.mp hall y hy
      cases hq:y.1 with
      | none=>rw[hq] at this;cases this
      | some _=>simp
     rw[h5,h6];rfl
    refine⟨fun pins s σ H Q I h => ?_⟩
    have h7:tA G W (es.ev tb) σ H fun vs H1=>tA G W (ks.ev tb) σ H1 fun zs H2=>zs.length=fn.ks.length∧Spec G fn.F (vs++zs) H2 Q (WE W σ):=by
     refine tA2 (g:=fun _ xs ys st2=>if ys.length=fn.ks.length then fn.F (xs++ys) st2 else .bad) h fun m env st ts us vs ws H1 rs r1 r2 q => ?_
     by_cases hl:us.length=fn.ks.length
     ·rw[if_pos hl] at q
      exact⟨by rw[← r2.length];exact hl,ZeM rs (r1.append r2) q⟩
     ·rw[if_neg hl] at q;exact q.elim
    refine wpAny_Call_Name_kw (ld_glob I gg hm ?_ hd)
    have room:=(ok.room hh).mono (Nat.le_succ lv)
    cases xs with
    | nil =>
     refine PySem.W.callWith_KW0 (h₀:=X.base) I.ok.mod.kin hk hall ?_ hpl
     have h8:tA G W (ks.ev tb) σ H fun zs H2=>zs.length=fn.ks.length∧Spec G fn.F zs H2 Q (WE W σ):=by
      cases es with
      | cons _ _=>simp[Z1d] at h3
      | nil =>
       rw[IEs.ev] at h7
       obtain⟨m,env,st,rs,q⟩:=h7
       exact Rn.here (K:=fun _ _ vs H1 _=>tA G W (ks.ev tb) σ H1 fun zs H2=>zs.length=fn.ks.length∧Spec G fn.F (vs++zs) H2 Q (WE W σ)) (b:=[]) q rs rfl
     refine thn (hK.run pos pins s σ H _ I h8) fun ws s2 ⟨zs,H2,I2,rz,l,q2⟩=>⟨I2.kIn, ?_⟩
     rw[hfm]
     exact ZeC (us:=[]) (vs:=[]) cal room ok.gd tk I2 .nil rz l q2
    | cons y ys =>
     have hy:starEach (y :: ys) X.env=(false,eval y X.env) :: starEach ys X.env:=by
      cases es with
      | nil=>simp[Z1d] at h3
      | cons e es=>simp only[Z1d,Bool.and_eq_true] at h3;exact Z5z h3.1.1 X.env
     refine PySem.W.callWith_KW (h₀:=X.base) I.ok.mod.kin hk hall (thn (hA.run pos pins s σ H _ I h7) fun us s1 ⟨vs,H1,I1,r,q⟩ => ?_) hpl hy
     refine thn (hK.run pos pins s1 σ H1 _ I1 q) fun ws s2 ⟨zs,H2,I2,rz,l,q2⟩=>⟨I2.kIn, ?_⟩
     rw[hfm]
     exact ZeC cal room ok.gd tk I2 r rz l q2
  ·cases h
 | .bi b es,X,c,W,e,ok,tk,h=>by
  unfold Z0b at h;rw[IE.ev]
  split at h
  ·rename_i x p y xs pos
   simp only[Bool.and_eq_true,decide_eq_true_eq] at h
   obtain⟨⟨⟨rfl,h1⟩,h2⟩,hh⟩:=h
   obtain⟨gg,_,_⟩:=ok.gl h1
   have hA:=Z8b es ok tk h2
   have hst:=Z6x (tb:=tb) (c:=c) X.env h2
   cases es with
   | nil=>simp[Z1d] at h2
   | cons d es =>
    simp only[Z1d,Bool.and_eq_true] at h2
    have hy:=Z5z (es:=xs) h2.1.1 X.env
    rw[hy] at hst
    simp only[List.all_cons,Bool.not_false,Bool.true_and] at hst
    exact Z0r (s_bi ok.hK (ok.calm hh) gg (ok.tab.no _ (Zjb b)) hA hy hst) fun _=>rfl
  ·cases h
 | .str a,X,c,W,e,ok,tk,h=>by
  unfold Z0b at h;rw[IE.ev]
  split at h
  ·simp only[Bool.and_eq_true,decide_eq_true_eq] at h
   obtain⟨⟨⟨rfl,h1⟩,h2⟩,h3⟩:=h
   exact Z0r (s_str (ok.gl h1).1 (ok.tab.no _ (by decide)) (Z0e a ok tk h3).1 (Z5o h2 X.env)) fun _=>rfl
  ·cases h
 | .repr a,X,c,W,e,ok,tk,h=>by
  unfold Z0b at h;rw[IE.ev]
  split at h
  ·simp only[Bool.and_eq_true,decide_eq_true_eq] at h
   obtain⟨⟨⟨rfl,h1⟩,h2⟩,h3⟩:=h
   exact Z0r (ZiQ ok.hK ok.gd ok.units (ok.gl h1).1 (ok.tab.no _ (by decide)) (Z0e a ok tk h3).1 (Z5o h2 X.env)) fun _=>rfl
  ·cases h
 | .xat f a,X,c,W,e,ok,tk,h=>by
  unfold Z0b at h;rw[IE.ev]
  split at h
  ·simp only[Bool.and_eq_true,decide_eq_true_eq] at h
   obtain⟨⟨rfl,h1⟩,h2⟩:=h
   exact Z0r (s_xat ok.xin ok.tab.xfl (Z0e a ok tk h2).1 (Zfg h1)) fun _=>rfl
  ·cases h
 | .isx g a,X,c,W,e,ok,tk,h=>by
  unfold Z0b at h;rw[IE.ev]
  split at h
  ·rename_i x p y z zp pos
   simp only[Bool.and_eq_true,decide_eq_true_eq] at h
   obtain⟨⟨⟨⟨rfl,h1⟩,h2⟩,h3⟩,h4⟩:=h
   exact Z0r (s_isx ok.xin ok.tab.xis (ok.gl h1).1 (ok.tab.no _ (by decide)) (Z0e a ok tk h4).1 (tg_ok ok h2) (Z5z h3 X.env) rfl) fun _=>rfl
  ·cases h
 | .lk n a es,X,c,W,e,ok,tk,h=>by
  unfold Z0b at h;rw[IE.ev]
  split at h
  ·rename_i x m ap y xs p
   simp only[Bool.and_eq_true,decide_eq_true_eq] at h
   obtain⟨⟨⟨⟨⟨rfl,hline⟩,h0⟩,hl⟩,h1⟩,h2⟩:=h
   have hA:=Z8b es ok tk h2
   have hst:=Z6x (tb:=tb) (c:=c) X.env h2
   have hfew:=Ziw (p:=p) hst (by simp only[List.length_cons];omega)
   cases es with
   | nil=>simp[Z1d] at h2
   | cons d es =>
    simp only[Z1d,Bool.and_eq_true] at h2
    have hy:=Z5z (es:=xs) h2.1.1 X.env
    rw[hy] at hst
    simp only[List.all_cons,Bool.not_false,Bool.true_and] at hst
    exact Z0r (s_lk ok.hK ok.units (Z0e a ok tk h1).1 hA (Zfg h0) hfew hline hy hst) fun _=>rfl
  ·cases h
 | .dk1 k i,X,c,W,e,ok,tk,h=>by
  refine⟨?_,fun z=>by simp[IE.tst] at z⟩
  unfold Z0b at h;rw[IE.ev]
  split at h
  ·simp only[Bool.and_eq_true,decide_eq_true_eq] at h
   obtain⟨rfl,h⟩:=h
   obtain⟨h1,h2,h3,h4⟩:=ok.vis h
   exact s_dk1 h1 h2 h3 h4
  ·cases h
 | .ed,X,c,W,e,ok,tk,h=>by
  refine⟨?_,fun z=>by simp[IE.tst] at z⟩
  unfold Z0b at h;rw[IE.ev]
  split at h
  ·exact s_ed
  ·cases h
theorem l_ok:∀ (l:IL) {X:Cx} {c:CC} {W:WX} {e:Expr},Okx X c G tb lv→Takes X W→Z5e c tb l e=true→PE X e (tL G W (l.ev tb))∧∀ Z5m,isTrue e X.env Z5m=(do let v ← Z5m;standAt e.pos;holding [v] (truthy v))
 | .lst es,X,c,W,e,ok,tk,h=>by
  unfold Z5e at h;rw[IL.ev]
  split at h
  ·exact⟨l_lst (Z8b es ok tk h),fun _=>rfl⟩
  ·cases h
 | .lc own d g it t,X,c,W,e,ok,tk,h=>by
  unfold Z5e at h;rw[IL.ev]
  split at h
  ·rename_i elt tg iter ifs scope pos
   simp only[Bool.and_eq_true,decide_eq_true_eq] at h
   obtain⟨⟨⟨⟨⟨⟨⟨⟨h1,h2⟩,h3⟩,h4⟩,h5⟩,h6⟩,h7⟩,h8⟩,hh⟩:=h
   have hg:∀ (s:Shared) (H:Hp) (C:Addr) (cl:List (Str × Addr)) (fp:List Addr),PG (X.blk s H scope (compEnvC scope cl C X.env) fp) tg (tG G g):=fun s H C cl fp=>by
    have ok':=ok.blk hh s H scope C cl fp
    exact Zab ok'.hN ok'.hs ok'.hf ok'.nd ok'.hK ok'.calm g tg h6
   have ht:∀ (s:Shared) (H:Hp) (C:Addr) (cl:List (Str × Addr)) (fp:List Addr),PTs (X.blk s H scope (compEnvC scope cl C X.env) fp) ifs (tT0 G (t.test tb)):=fun s H C cl fp=>Zbd t (ok.blk hh s H scope C cl fp) Z3l h8
   have he:∀ (s:Shared) (H:Hp) (C:Addr) (cl:List (Str × Addr)) (fp:List Addr),PE (X.blk s H scope (compEnvC scope cl C X.env) fp) elt (tE G W0 (d.ev tb)):=fun s H C cl fp=>(Z0e d (ok.blk hh s H scope C cl fp) Z3l h7).1
   have hs:∀ x,foldedSetIterable iter X.env x=pure x:=fun x=>by cases iter <;> first | rfl | cases h5
   refine⟨PE.imp (pe_lc (pos:=pos) (ok.calm hh) ok.nd (Zby it ok tk h1) (own:=Zav c own) (blkOk_by (by rw[ok.hN,ok.hs];exact h2)) hg ht he hs) fun σ H Q q => ?_,fun _=>rfl⟩
   rw[h3]
   exact ZfU h4 q
  ·cases h
 | .lc2 own vs1 d g it t g1 it1 t1,X,c,W,e,ok,tk,h=>by
  unfold Z5e at h;rw[IL.ev]
  split at h
  ·rename_i elt tg iter ifs tg1 iter1 ifs1 scope pos
   simp only[Bool.and_eq_true,decide_eq_true_eq] at h
   obtain⟨⟨⟨⟨⟨⟨⟨⟨⟨⟨⟨⟨⟨⟨h1,h2⟩,h3⟩,h4⟩,h41⟩,h42⟩,h5⟩,h51⟩,h6⟩,h7⟩,h8⟩,h9⟩,h61⟩,h81⟩,hh⟩:=h
   have hg:∀ (s:Shared) (H:Hp) (C:Addr) (cl:List (Str × Addr)) (fp:List Addr),PG (X.blk s H scope (compEnvC scope cl C X.env) fp) tg (tG G g):=fun s H C cl fp=>by
    have ok':=ok.blk hh s H scope C cl fp
    exact Zab ok'.hN ok'.hs ok'.hf ok'.nd ok'.hK ok'.calm g tg h6
   have hg1:∀ (s:Shared) (H:Hp) (C:Addr) (cl:List (Str × Addr)) (fp:List Addr),PG (X.blk s H scope (compEnvC scope cl C X.env) fp) tg1 (tG G g1):=fun s H C cl fp=>by
    have ok':=ok.blk hh s H scope C cl fp
    exact Zab ok'.hN ok'.hs ok'.hf ok'.nd ok'.hK ok'.calm g1 tg1 h61
   have ht:∀ (s:Shared) (H:Hp) (C:Addr) (cl:List (Str × Addr)) (fp:List Addr),PTs (X.blk s H scope (compEnvC scope cl C X.env) fp) ifs (tT0 G (t.test tb)):=fun s H C cl fp=>Zbd t (ok.blk hh s H scope C cl fp) Z3l h8
   have ht1:∀ (s:Shared) (H:Hp) (C:Addr) (cl:List (Str × Addr)) (fp:List Addr),PTs (X.blk s H scope (compEnvC scope cl C X.env) fp) ifs1 (tT0 G (t1.test tb)):=fun s H C cl fp=>Zbd t1 (ok.blk hh s H scope C cl fp) Z3l h81
   have he:∀ (s:Shared) (H:Hp) (C:Addr) (cl:List (Str × Addr)) (fp:List Addr),PE (X.blk s H scope (compEnvC scope cl C X.env) fp) elt (tE G W0 (d.ev tb)):=fun s H C cl fp=>(Z0e d (ok.blk hh s H scope C cl fp) Z3l h7).1
   have hi1:∀ (s:Shared) (H:Hp) (C:Addr) (cl:List (Str × Addr)) (fp:List Addr),PI (X.blk s H scope (compEnvC scope cl C X.env) fp) tg1 iter1 (tI G W0 (it1.ev tb)):=fun s H C cl fp=>Zby it1 (ok.blk hh s H scope C cl fp) Z3l h9
   have hs:∀ x,foldedSetIterable iter X.env x=pure x:=fun x=>by cases iter <;> first | rfl | cases h5
   have hs1:∀ env x,foldedSetIterable iter1 env x=pure x:=fun env x=>by cases iter1 <;> first | rfl | cases h51
   refine⟨PE.imp (pe_lc2 (pos:=pos) (vs1:=vs1) (ok.calm hh) ok.nd (Zby it ok tk h1) (own:=Zav c own) (blkOk_by (by rw[ok.hN,ok.hs];exact h2)) (fun i hi=>by rw[h3];exact h42 i hi) hg ht hi1 hg1 ht1 he hs hs1) fun σ H Q q => ?_,fun _=>rfl⟩
   rw[h3]
   exact ZeT h4 h41 q
  ·cases h
 | .cat a b,X,c,W,e,ok,tk,h=>by
  unfold Z5e at h;rw[IL.ev]
  split at h
  ·simp only[Bool.and_eq_true,decide_eq_true_eq] at h
   obtain⟨⟨rfl,h1⟩,h2⟩:=h
   exact⟨l_cat (Z0e a ok tk h1).1 (Z0e b ok tk h2).1,fun _=>rfl⟩
  ·cases h
 | .rep a b,X,c,W,e,ok,tk,h=>by
  unfold Z5e at h;rw[IL.ev]
  split at h
  ·simp only[Bool.and_eq_true,decide_eq_true_eq] at h
   obtain⟨⟨rfl,h1⟩,h2⟩:=h
   exact⟨l_rep (Z0e a ok tk h1).1 (Z0e b ok tk h2).1,fun _=>rfl⟩
  ·cases h
 | .lrg a,X,c,W,e,ok,tk,h=>by
  unfold Z5e at h;rw[IL.ev]
  split at h
  ·simp only[Bool.and_eq_true,decide_eq_true_eq] at h
   obtain⟨⟨⟨⟨⟨⟨rfl,rfl⟩,h1⟩,h2⟩,h3⟩,h4⟩,hh⟩:=h
   exact⟨l_lrg (ok.calm hh) (ok.gl h1).1 (ok.tab.no _ (by decide)) (ok.gl h2).1 (ok.tab.no _ (by decide)) (Z0e a ok tk h4).1 (Z5o h3 X.env),fun _=>rfl⟩
  ·cases h
 | .sl a lo hi,X,c,W,e,ok,tk,h=>by
  unfold Z5e at h;rw[IL.ev]
  split at h
  ·simp only[Bool.and_eq_true] at h
   obtain⟨⟨h1,h2⟩,h3⟩:=h
   exact⟨l_sl ok.hK (Z0e a ok tk h1).1 (Zfl lo ok tk h2) (Zfl hi ok tk h3),fun _=>rfl⟩
  ·cases h
theorem Z8b:∀ (is:IEs) {X:Cx} {c:CC} {W:WX} {es:List Expr},Okx X c G tb lv→Takes X W→Z1d c tb is es=true→PA X es (tA G W (is.ev tb))
 | .nil,X,c,W,es,ok,tk,h=>by
  unfold Z1d at h;rw[IEs.ev]
  split at h
  ·exact s_nil
  ·cases h
 | .cons i is,X,c,W,es,ok,tk,h=>by
  unfold Z1d at h;rw[IEs.ev]
  split at h
  ·simp only[Bool.and_eq_true] at h
   obtain⟨⟨h1,h2⟩,h3⟩:=h
   exact Zjj (Z0e i ok tk h2).1 (Z8b is ok tk h3) (Z5z h1 X.env)
  ·cases h
theorem js_ok:∀ (is:IEs) {X:Cx} {c:CC} {W:WX} {es:List Expr},Okx X c G tb lv→Takes X W→Z1d c tb is es=true→∃ ts,PJ X es ts∧∀ (acc:Str) (σ : L2.St) (H:Hp) (Q:VK),tE G W (is.js tb acc) σ H Q→tJs ts acc σ H fun out H1=>Q (.str out) H1
 | .nil,X,c,W,es,ok,tk,h=>by
  unfold Z1d at h
  split at h
  ·refine⟨[], .nil,fun acc σ H Q q => ?_⟩
   rw[IEs.js] at q
   obtain⟨m,env,st,rs,q⟩:=q
   exact Rn.give (b := .str acc) q rs rfl
  ·cases h
 | .cons i is,X,c,W,es,ok,tk,h=>by
  unfold Z1d at h
  split at h
  ·simp only[Bool.and_eq_true] at h
   obtain⟨⟨h1,h2⟩,h3⟩:=h
   obtain⟨ts,pj,k⟩:=js_ok is ok tk h3
   refine⟨tE G W (i.ev tb) :: ts, .cons (Z0e i ok tk h2).1 pj,fun acc σ H Q q => ?_⟩
   rw[IEs.js] at q
   obtain⟨m,env,st,rs,q⟩:=q
   refine⟨m,env,st,rs,(Rn.bnd q).imp fun x st1 v H1 m1 rs1 S1 r1 q => ?_⟩
   cases x with
   | str y =>
    have q:Rn G W σ env (Rp G) m1 H1 (if (acc++y).length≤lim then is.js tb (acc++y) env st1 else .bad) (Kq Q):=q
    by_cases z:(acc++y).length≤lim
    ·rw[if_pos z] at q
     exact⟨y,r1,by rw[← Z1t];exact z,k _ _ _ _ ⟨m1,env,st1,rs1,q⟩⟩
    ·rw[if_neg z] at q
     exact q.elim
   | _=>exact q.elim
  ·cases h
theorem k_ok:∀ (is:IEs) {X:Cx} {c:CC} {W:WX} {es:List Keyword},Okx X c G tb lv→Takes X W→Zdm c tb is es=true→PK X es (tA G W (is.ev tb))
 | .nil,X,c,W,es,ok,tk,h=>by
  unfold Zdm at h;rw[IEs.ev]
  split at h
  ·exact k_nil
  ·cases h
 | .cons i is,X,c,W,es,ok,tk,h=>by
  unfold Zdm at h;rw[IEs.ev]
  split at h
  ·simp only[Bool.and_eq_true] at h
   exact Zj4 (Z0e i ok tk h.1).1 (k_ok is ok tk h.2)
  ·cases h
theorem Zfl:∀ (o:IO) {X:Cx} {c:CC} {W:WX} {e:Option Expr},Okx X c G tb lv→Takes X W→ZbA c tb o e=true→PO X e (tP G W (o.ev tb))
 | .none,X,c,W,e,ok,tk,h=>by
  unfold ZbA at h;rw[IO.ev]
  split at h
  ·exact Zjh
  ·cases h
 | .some i,X,c,W,e,ok,tk,h=>by
  unfold ZbA at h;rw[IO.ev]
  split at h
  ·exact Zji (Z0e i ok tk h).1
  ·cases h
theorem Zbd:∀ (o:IO) {X:Cx} {c:CC} {e:List Expr},Okx X c G tb lv→Takes X W0→Zb3 c tb o e=true→PTs X e (tT0 G (o.test tb))
 | .none,X,c,e,ok,tk,h=>by
  unfold Zb3 at h;rw[IO.test]
  split at h
  ·exact ZiK
  ·cases h
 | .some i,X,c,e,ok,tk,h=>by
  unfold Zb3 at h;rw[IO.test]
  split at h
  ·rw[Bool.and_eq_true] at h
   exact Zj9 ((Z0e i ok tk h.2).2 h.1)
  ·cases h
theorem Zby:∀ (o:II) {X:Cx} {c:CC} {W:WX} {tg e:Expr},Okx X c G tb lv→Takes X W→Z7t c tb o tg e=true→PI X tg e (tI G W (o.ev tb))
 | .seq d,X,c,W,tg,e,ok,tk,h=>by
  unfold Z7t at h;rw[II.ev]
  exact i_seq ok.hK (Z0e d ok tk h).1
 | .rng1 a,X,c,W,tg,e,ok,tk,h=>by
  unfold Z7t at h;rw[II.ev]
  split at h
  ·simp only[Bool.and_eq_true,decide_eq_true_eq] at h
   obtain⟨⟨⟨rfl,h1⟩,h2⟩,h3⟩:=h
   exact i_rg1 (ok.gl h1).1 (ok.tab.no _ (by decide)) (Z0e a ok tk h3).1 (Z5o h2 X.env)
  ·cases h
 | .rng2 a b,X,c,W,tg,e,ok,tk,h=>by
  unfold Z7t at h;rw[II.ev]
  split at h
  ·simp only[Bool.and_eq_true,decide_eq_true_eq] at h
   obtain⟨⟨⟨⟨⟨rfl,h1⟩,h2⟩,h3⟩,h4⟩,h5⟩:=h
   exact i_rg2 (ok.gl h1).1 (ok.tab.no _ (by decide)) (Z0e a ok tk h4).1 (Z0e b ok tk h5).1 (by rw[Z5z h2 X.env,Z5o h3 X.env]) (Z5o h3 X.env)
  ·cases h
 | .enum d,X,c,W,tg,e,ok,tk,h=>by
  unfold Z7t at h;rw[II.ev]
  split at h
  ·simp only[Bool.and_eq_true,decide_eq_true_eq] at h
   obtain⟨⟨⟨rfl,h1⟩,h2⟩,h3⟩:=h
   exact i_en ok.hK (ok.gl h1).1 (ok.tab.no _ (by decide)) (Z0e d ok tk h3).1 (Z5o h2 X.env)
  ·cases h
 | .zip a b,X,c,W,tg,e,ok,tk,h=>by
  unfold Z7t at h;rw[II.ev]
  split at h
  ·simp only[Bool.and_eq_true,decide_eq_true_eq] at h
   obtain⟨⟨⟨⟨⟨rfl,h1⟩,h2⟩,h3⟩,h4⟩,h5⟩:=h
   exact i_pr ok.hK (ok.gl h1).1 (ok.tab.no _ (by decide)) (Z0e a ok tk h4).1 (Z0e b ok tk h5).1 (Z5z h2 X.env) (Z5o h3 X.env)
  ·cases h
 | .enz a b,X,c,W,tg,e,ok,tk,h=>by
  unfold Z7t at h;rw[II.ev]
  split at h
  ·simp only[Bool.and_eq_true,decide_eq_true_eq] at h
   obtain⟨⟨⟨⟨⟨⟨⟨rfl,rfl⟩,h1⟩,h1'⟩,h2⟩,h3⟩,h4⟩,h5⟩:=h
   exact i_enz ok.hK (ok.gl h1).1 (ok.tab.no _ (by decide)) (ok.gl h1').1 (ok.tab.no _ (by decide)) (Z0e a ok tk h4).1 (Z0e b ok tk h5).1 (Z5o rfl X.env) (Z5z h2 X.env) (Z5o h3 X.env)
  ·cases h
theorem Zhe:∀ (is:IRs) {X:Cx} {c:CC} {W:WX} {es:List Expr},Okx X c G tb lv→Takes X W→Zb7 c tb is es=true→PAT X es (tA G W (is.ev tb))
 | .nil,X,c,W,es,ok,tk,h=>by
  unfold Zb7 at h;rw[IRs.ev]
  split at h
  ·exact ZgO
  ·cases h
 | .cons i is,X,c,W,es,ok,tk,h=>by
  unfold Zb7 at h;rw[IRs.ev]
  split at h
  ·simp only[Bool.and_eq_true] at h
   obtain⟨⟨h1,h2⟩,h3⟩:=h
   exact Zd6 (CwR.PET.of (Z0e i ok tk h2).1) (Zhe is ok tk h3) (Z5z h1 X.env)
  ·cases h
 | .rpl a y z is,X,c,W,es,ok,tk,h=>by
  unfold Zb7 at h;rw[IRs.ev]
  split at h
  ·simp only[Bool.and_eq_true,decide_eq_true_eq,Bool.not_eq_true'] at h
   obtain⟨⟨⟨⟨⟨⟨⟨rfl,rfl⟩,rfl⟩,h1⟩,h2⟩,h3⟩,h4⟩,h5⟩:=h
   exact Zd6 (Zic (Z0e a ok tk h4).1 h1 rfl (Zfg h3) h2) (Zhe is ok tk h5) rfl
  ·cases h
end
end
end Eg
set_option maxHeartbeats 2000000
namespace Eg
open PySem PySem.Spec PyProof.Rows L2 LamX
section
variable {P:Program} {w:World} {K:PySem.W.Frag} {mg:Str→Option Value} {base:Heap} {lv:Nat} {G:Gh} {kn:List Str} {F:List T→Sto→R T} {f:Addr}
end
end Eg
set_option maxHeartbeats 4000000
namespace Eg
open PySem PySem.Spec PyProof.Rows L2 LamX
mutual
def noX:T→Bool
 | .exc _ _=>false
 | .tup xs=>Z2k xs
 | .lst xs=>Z2k xs
 | .obj _ xs=>Z2k xs
 | .non=>true
 | .bl _=>true
 | .int _=>true
 | .str _=>true
 | .loc _=>true
 | .scr _=>true
 | .cv _=>true
 | .ptp xs=>Z2k xs
 | .edt=>true
 | .exh _ xs=>Z2k xs
 | .dk1 _ t=>noX t
def Z2k:List T→Bool
 | []=>true
 | x :: xs=>noX x && Z2k xs
end
def Za1:Cell→Bool
 | .lst xs=>Z2k xs
 | .ins _ xs=>Z2k xs
 | .dt kvs=>Z2k (kvs.map (·.2))
 | .dk kvs=>Z2k (kvs.map (·.2))
 | .dn _=>true
theorem ZdY:∀ r:List Int,Z2k (r.map T.int)=true
 | []=>rfl
 | _ :: r=>ZdY r
theorem ZdJ:∀ ks:List (List (List Int)),Z2k (ks.map Z7v)=true
 | []=>rfl
 | k :: ks=>by
  have row:∀ k:List (List Int),Z2k (k.map fun r=>T.tup (r.map T.int))=true:=fun k=>by
   induction k with
   | nil=>rfl
   | cons r k ih=>show(Z2k (r.map T.int) && Z2k (k.map fun r=>T.tup (r.map T.int)))=true;rw[ZdY,ih];rfl
  show(Z2k (k.map fun r=>T.tup (r.map T.int)) && Z2k (ks.map Z7v))=true
  rw[row,ZdJ ks];rfl
section
variable {G:Gh} {m:Mm} {H:Hp} {st:Sto} {env:Env} {σ : L2.St} {o:Option XA}
mutual
theorem Rp.same:∀ (t:T) (v:V),(noX t=true∨G.xa=none)→Rp G m H t v→Rp { G with xa:=o } m H t v
 | .non,_,_,h=>h
 | .bl _,_,_,h=>h
 | .int _,_,_,h=>h
 | .str _,_,_,h=>h
 | .tup xs,_,n,⟨a,vs,e,h,r⟩=>⟨a,vs,e,h,Rps.same xs vs (n.imp (fun z=>by simpa [noX] using z) id) r⟩
 | .lst xs,_,n,⟨a,vs,e,h,r⟩=>⟨a,vs,e,h,Rps.same xs vs (n.imp (fun z=>by simpa [noX] using z) id) r⟩
 | .obj c xs,_,n,⟨a,dx,fv,e,h1,h,hf,r⟩=>⟨a,dx,fv,e,h1,h,hf,Rps.same xs _ (n.imp (fun z=>by simpa [noX] using z) id) r⟩
 | .exc c ts,_,n,⟨y,vs,e1,_⟩=>by
  rcases n with n | n
  ·simp[noX] at n
  ·rw[n] at e1;cases e1
 | .loc l,_,_,⟨a,e,h⟩=>⟨a,e,h⟩
 | .scr ns,_,_,⟨a,e,h⟩=>⟨a,e,h⟩
 | .cv _,_,_,h=>h
 | .ptp xs,_,n,⟨a,vs,e,h,r⟩=>⟨a,vs,e,h,Rps.same xs vs (n.imp (fun z=>by simpa [noX] using z) id) r⟩
 | .edt,_,_,⟨a,e,hn,h⟩=>⟨a,e,hn,h⟩
 | .exh c ts,_,n,⟨a,vs,e,hn,r,q⟩=>⟨a,vs,e,hn,Rps.same ts vs (n.imp (fun z=>by simpa [noX] using z) id) r,q⟩
 | .dk1 _ t,_,n,⟨a,w,e,hn,h,r⟩=>⟨a,w,e,hn,h,Rp.same t w (n.imp (fun z=>by simpa [noX] using z) id) r⟩
theorem Rps.same:∀ (ts:List T) (vs:List V),(Z2k ts=true∨G.xa=none)→Rps G m H ts vs→Rps { G with xa:=o } m H ts vs
 | [],_,_,h=>h
 | t :: ts,_,n,⟨v,r,e,h,q⟩=>⟨v,r,e,Rp.same t v (n.imp (fun z=>by simp[Z2k] at z;exact z.1) id) h,Rps.same ts r (n.imp (fun z=>by simp[Z2k] at z;exact z.2) id) q⟩
end
theorem RKs.same{κ : Type}:∀ (ts:List (κ × T)) (vs:List (κ × V)),(Z2k (ts.map (·.2))=true∨G.xa=none)→RKs G m H ts vs→RKs { G with xa:=o } m H ts vs
 | [],_,_,h=>h
 | p :: ts,_,n,⟨v,r,e,h,q⟩=>⟨v,r,e,Rp.same p.2 v (n.imp (fun z=>by simp[Z2k] at z;exact z.1) id) h,RKs.same ts r (n.imp (fun z=>by simp only[List.map_cons,Z2k,Bool.and_eq_true] at z;exact z.2) id) q⟩
theorem RSto.same(n:st.all Za1=true∨G.xa=none)(s:RSto G m H st):RSto { G with xa:=o } m H st where
 nd:=s.nd
 fd:=s.fd
 len:=s.len
 cell:=fun i a c h1 h2=>by
  have nc:Za1 c=true∨G.xa=none:=n.imp (fun z=>List.all_eq_true.mp z c (List.mem_of_getElem? h2)) id
  have z:=s.cell i a c h1 h2
  cases c with
  | lst xs=>obtain⟨vs,e,r⟩:=z;exact⟨vs,e,Rps.same xs vs nc r⟩
  | ins c xs=>obtain⟨dx,fv,e1,e2,e3,r⟩:=z;exact⟨dx,fv,e1,e2,e3,Rps.same xs _ nc r⟩
  | dt kvs=>obtain⟨vs,e,r⟩:=z;exact⟨vs,e,RKs.same kvs vs nc r⟩
  | dk kvs=>obtain⟨vs,e,r⟩:=z;exact⟨vs,e,RKs.same kvs vs nc r⟩
  | dn ks=>obtain⟨bs,e,r⟩:=z;exact⟨bs,e,Rps.same _ _ (.inl (ZdJ ks)) r⟩
 foS:=s.foS
 tab:=s.tab
theorem Z0z.heat(n:G.xa=none)(h:Z0z G m H env σ):Z0z { G with xa:=o } m H env σ:=⟨h.1,fun i t e=>let ⟨v,e1,r⟩:=h.2 i t e; ⟨v,e1,Rp.same t v (.inr n) r⟩⟩
theorem RS.heat(n:G.xa=none)(h:RS G m env st σ H):RS { G with xa:=o } m env st σ H:=⟨h.env.heat n,h.sto.same (.inr n)⟩
end
def Zhr (c:CC):CC:=⟨c.N,c.sc,c.fn,true,false⟩
section
variable {X:Cx} {c:CC} {G:Gh} {tb:Tab} {lv:Nat}
theorem Zbu(ok:Okx X c G tb lv){k:Nat}{x:Str}(h:tgC c tb (.cls k) x=true):Names X x (.ref (G.cl k)):=by
 unfold tgC at h
 rw[Bool.and_eq_true,decide_eq_true_eq] at h
 obtain⟨gg,hd,_⟩:=ok.gl h.1
 refine⟨gg,hd, .inl ?_⟩
 rcases ok.tab.tgs x _ h.2 with ⟨n,z,_⟩ | ⟨k2,z,hm⟩
 ·cases z
 ·cases z;exact hm
theorem ZiJ(ok:Okx X c G tb lv)(hx:G.xa=none)(a:Addr)(oe:Obj)(cls:Value)(d:Option Addr)(pn:List (Addr × Obj))(hz:Zc cls d oe)(hd:∃ vs,oe.data = .fields vs) :
  Okx (X.suite a ((a,oe) :: pn)) (Zhr c) { G with xa:=some ⟨a,oe,cls,d⟩ } tb.hot lv where
 hN:=ok.hN
 hs:=ok.hs
 hf:=ok.hf
 nd:=ok.nd
 hK:=ok.hK
 calm:=fun z=>by cases z
 room:=fun z=>by cases z
 roomH:=⟨ok.roomH.dp,ok.roomH.un⟩
 xin:=fun y e=>by cases e;exact⟨List.mem_cons_self,hz,hd⟩
 isHot:=fun _=>⟨_,rfl⟩
 cool:=fun z=>by cases z
 lam:=fun z=>by cases z
 gd:=ok.gd
 tab:=ok.tab.hotT _
theorem Okx.tr(ok:Okx X c G tb lv)(hx:G.xa=none)(pn:List (Addr × Obj))(xe:Value→Shared→Prop):Okx (X.tr pn xe) c G tb lv where
 hN:=ok.hN
 hs:=ok.hs
 hf:=ok.hf
 nd:=ok.nd
 hK:=ok.hK
 calm:=ok.calm
 room:=ok.room
 roomH:=ok.roomH
 xin:=fun y e=>by rw[hx] at e;cases e
 isHot:=ok.isHot
 cool:=ok.cool
 lam:=ok.lam
 gd:=ok.gd
 tab:=ok.tab
end
def ZfA:Option T→Bool
 | none=>true
 | some t=>noX t
def Zfd (j:Nat):O→O
 | .rt t st=>if (noX t && st.all Za1)=true then .rt t st else .bad
 | .nx env st=>if ((env.set j none).all ZfA && st.all Za1)=true then .nx (env.set j none) st else .bad
 | _ => .bad
def triK (xm:List Nat) (j:Nat) (gh:Fs) (e:T) (env:Env) (st:Sto):O:=match e with
 | .exc c ts=>if c∈xm∧j < env.length then Zfd j (gh (env.set j (some (.exc c ts))) st) else .bad
 | _ => .bad
def fTri (xm:List Nat) (j:Nat) (gb gh:Fs):Fs:=fun env st=>match gb env st with
 | .exc e env2 st2=>triK xm j gh e env2 st2
 | o=>o
section
variable {X:Cx} {G:Gh} {W:WX} {x1 x2 x3 n:Str} {C1 C2 C3:Addr} {i kk:Nat} {body suite:List Stmt} {b0:Stmt} {p1 p2 p3 tp pos pos':Pos} {gb gh:Fs} {xm:List Nat}
theorem Z0z.same{m:Mm}{H:Hp}{env:Env}{σ : L2.St}{o:Option XA}(n:env.all ZfA=true)(h:Z0z G m H env σ):Z0z { G with xa:=o } m H env σ:=⟨h.1,fun i t e=>let ⟨v,e1,r⟩:=h.2 i t e; ⟨v,e1,Rp.same t v (.inl (by
 have:=List.all_eq_true.mp n _ (List.mem_of_getElem? e)
 exact this)) r⟩⟩
theorem S_tri(hs:X.stack=X.env :: X.outer)(hf:X.env.frame=some X.env.locals)(hN:X.N.Nodup)(hi:X.N[i]? = some n)(hln:X.env.kindOf n=some .local)(hx:G.xa=none)(n1:Names X x1 (.ref C1))(n2:Names X x2 (.ref C2))(n3:Names X x3 (.ref C3))
  (hm:∀ c∈xm,PySem.W.exmAny X.K (.ref (G.cl c)) [.ref C1, .ref C2, .ref C3]=some true)
  (hb:∀ (W:WX) (pn:List (Addr × Obj)) (xe:Value→Shared→Prop),Takes (X.tr pn xe) W→PassesOwn (model X.prog X.w) X.A X.env xe→PSs (X.tr pn xe) body (tS G W gb))
  (hsu:∀ (a:Addr) (oe:Obj) (cls:Value) (d:Option Addr) (pn:List (Addr × Obj)),Zc cls d oe→(∃ vs,oe.data = .fields vs)→PSs (X.suite a ((a,oe) :: pn)) (b0 :: suite) (tS { G with xa:=some ⟨a,oe,cls,d⟩ } W0 gh)) :
  PS X (.Try body [.ExceptHandler (some (.Tuple [.Name x1 p1, .Name x2 p2, .Name x3 p3] kk tp)) (some n) (b0 :: suite) pos'] [] [] pos) (tS G W (fTri xm i gb gh)):=by
 refine PS.imp (Zfw hs hf hN hi hln n1 n2 n3 (tb:=fun W=>tS G W gb) (ts:=fun a oe cls d=>tS { G with xa:=some ⟨a,oe,cls,d⟩ } W0 gh) hb hsu) fun D σ H ⟨m,env,st,rs,qq⟩ => ?_
 refine⟨m,env,st,rs, ?_⟩
 unfold fTri at qq
 generalize gb env st=o at qq ⊢
 cases o with
 | nx env2 st2=>exact qq
 | bk env2 st2=>exact qq
 | ct env2 st2=>exact qq
 | rt t st2=>exact qq
 | bad=>exact qq
 | exc e env2 st2 =>
  intro cls dd σ' H' m' rs' S' re
  have qq:Out G W D m H (triK xm i gh e env2 st2):=qq
  unfold triK at qq
  match e,re,qq with
  | .exc cx ts,re,qq =>
   by_cases hi:cx∈xm∧i < env2.length
   ·have qq:Out G W D m H (if cx∈xm∧i < env2.length then Zfd i (gh (env2.set i (some (.exc cx ts))) st2) else .bad):=qq
    rw[if_pos hi] at qq
    have ecls:cls = .ref (G.cl cx):=by
     match ts,re with
     | [],re=>exact re.1
     | [t],re=>exact re.1
     | _ :: _ :: _,re=>exact re.elim
    refine⟨by rw[ecls];exact hm cx hi.1,fun ad oe hz hn => ?_⟩
    have rs2:RS { G with xa:=some ⟨ad,oe,cls,dd⟩ } m' env2 st2 σ' H':=RS.heat hx rs'
    have rx:Rp { G with xa:=some ⟨ad,oe,cls,dd⟩ } m' H' (.exc cx ts) (.ref ad):=by
     match ts,re with
     | [],re=>exact⟨_,[],rfl,rfl,re.1,rfl, .inl ⟨rfl,re.2⟩⟩
     | [t],re =>
      obtain⟨_,a2,v,f,e2,e3,e4,e5,e6⟩:=re
      exact⟨_,[v],rfl,rfl,ecls,⟨v,[],rfl,Rp.same t v (.inr hx) e6,rfl⟩, .inr ⟨a2,f,v,rfl,e2,e3,e4,e5⟩⟩
     | _ :: _ :: _,re=>exact re.elim
    refine⟨m',_,st2,rs2.set hi.2 rx, ?_⟩
    have qq:=Out.base S' qq
    generalize gh (env2.set i (some (.exc cx ts))) st2=oo at qq ⊢
    cases oo with
    | rt t st3 =>
     intro v H3 m3 s3 S3 r3
     have qq:Out G W D m' H' (if (noX t && st3.all Za1)=true then .rt t st3 else .bad):=qq
     by_cases hc:(noX t && st3.all Za1)=true
     ·rw[if_pos hc] at qq
      rw[Bool.and_eq_true] at hc
      exact qq v H3 m3 (RSto.same (G:={ G with xa:=some ⟨ad,oe,cls,dd⟩ }) (o:=G.xa) (.inl hc.2) s3) S3 (Rp.same (G:={ G with xa:=some ⟨ad,oe,cls,dd⟩ }) (o:=G.xa) t v (.inl hc.1) r3)
     ·rw[if_neg hc] at qq;exact qq.elim
    | nx env3 st3 =>
     intro σ3 H3 m3 rs3 S3
     have qq:Out G W D m' H' (if ((env3.set i none).all ZfA && st3.all Za1)=true then .nx (env3.set i none) st3 else .bad):=qq
     by_cases hc:((env3.set i none).all ZfA && st3.all Za1)=true
     ·rw[if_pos hc] at qq
      rw[Bool.and_eq_true] at hc
      have e3:Z0z { G with xa:=some ⟨ad,oe,cls,dd⟩ } m3 H3 (env3.set i none) (σ3.set i none):=by
       refine⟨by rw[List.length_set,List.length_set];exact rs3.env.1,fun k t e => ?_⟩
       by_cases hk:i=k
       ·subst hk
        rw[List.getElem?_set] at e
        split at e
        ·split at e <;> cases e
        ·rename_i q;exact absurd rfl q
       ·rw[List.getElem?_set_ne hk] at e ⊢
        exact rs3.env.2 k t e
      exact qq _ H3 m3 ⟨Z0z.same (G:={ G with xa:=some ⟨ad,oe,cls,dd⟩ }) (o:=G.xa) hc.1 e3,RSto.same (G:={ G with xa:=some ⟨ad,oe,cls,dd⟩ }) (o:=G.xa) (.inl hc.2) rs3.sto⟩ S3
     ·rw[if_neg hc] at qq;exact qq.elim
    | _=>exact qq.elim
   ·have qq:Out G W D m H (if cx∈xm∧i < env2.length then Zfd i (gh (env2.set i (some (.exc cx ts))) st2) else .bad):=qq
    rw[if_neg hi] at qq;exact qq.elim
  | .non,re,_=>exact re.elim
  | .bl _,re,_=>exact re.elim
  | .int _,re,_=>exact re.elim
  | .str _,re,_=>exact re.elim
  | .tup _,re,_=>exact re.elim
  | .lst _,re,_=>exact re.elim
  | .obj _ _,re,_=>exact re.elim
  | .loc _,re,_=>exact re.elim
  | .scr _,re,_=>exact re.elim
  | .cv _,re,_=>exact re.elim
  | .ptp _,re,_=>exact re.elim
  | .edt,re,_=>exact re.elim
  | .exh _ _,re,_=>exact re.elim
  | .dk1 _ _,re,_=>exact re.elim
end
end Eg
set_option maxHeartbeats 4000000
namespace Eg
open PySem PySem.Spec PyProof.Rows L2
theorem Ze1{f:Str}{v:V}:∀ {fl:List Str} {fv:List (Str × V)} {n i:Nat},fv.map (·.1)=fl.take n→Z2c fl f=some i→i < fv.length→(putF f v fv).map (·.1)=fv.map (·.1)∧(putF f v fv).map (·.2)=(fv.map (·.2)).set i v
 | [],fv,n,i,_,e,_=>by cases e
 | g :: gs,[],n,i,_,_,h=>by simp at h
 | g :: gs,(k,w) :: fv,0,i,h,_,_=>by simp at h
 | g :: gs,(k,w) :: fv,n+1,i,h,e,hi=>by
  simp only[List.map_cons,List.take_succ_cons,List.cons.injEq] at h
  obtain⟨rfl,h⟩:=h
  have e:(if k=f then some 0 else(Z2c gs f).map (· + 1))=some i:=e
  by_cases hk:k=f
  ·rw[if_pos hk] at e
   cases e
   unfold putF
   rw[if_pos hk]
   exact⟨rfl,rfl⟩
  ·rw[if_neg hk] at e
   cases e2:Z2c gs f with
   | none=>rw[e2] at e;cases e
   | some j =>
    rw[e2] at e
    cases e
    unfold putF
    rw[if_neg hk]
    obtain⟨h1,h2⟩:=Ze1 (v:=v) h e2 (by simpa using hi)
    exact⟨by simp[h1],by simp[h2]⟩
theorem Ze6{f:Str}{v:V}:∀ {fl:List Str} {fv:List (Str × V)} {n:Nat},fv.map (·.1)=fl.take n→Z2c fl f=some n→fv.length=n→(putF f v fv).map (·.1)=fl.take (n+1)∧(putF f v fv).map (·.2)=fv.map (·.2)++[v]
 | [],fv,n,_,e,_=>by cases e
 | g :: gs,[],n,h,e,hl=>by
  cases (show 0=n from hl)
  have e:(if g=f then some 0 else(Z2c gs f).map (· + 1))=some 0:=e
  by_cases hk:g=f
  ·subst hk;exact⟨by simp[putF],by simp[putF]⟩
  ·rw[if_neg hk] at e
   cases e2:Z2c gs f <;> rw[e2] at e <;> simp at e
 | g :: gs,(k,w) :: fv,0,h,_,hl=>by simp at hl
 | g :: gs,(k,w) :: fv,n+1,h,e,hl=>by
  simp only[List.map_cons,List.take_succ_cons,List.cons.injEq] at h
  obtain⟨rfl,h⟩:=h
  have e:(if k=f then some 0 else(Z2c gs f).map (· + 1))=some (n+1):=e
  by_cases hk:k=f
  ·rw[if_pos hk] at e;cases e
  ·rw[if_neg hk] at e
   cases e2:Z2c gs f with
   | none=>rw[e2] at e;cases e
   | some j =>
    rw[e2] at e
    have:j=n:=by simpa using e
    subst this
    unfold putF
    rw[if_neg hk]
    obtain⟨h1,h2⟩:=Ze6 (v:=v) h e2 (by simpa using hl)
    exact⟨by simp[h1],by simp[h2]⟩
def putC (cs:List Ci) (f:Str) (y:T) (st:Sto) (l:Nat):Option Sto:=match st[l]? with
 | some (.ins c vs)=>match cs[c]? with
  | some ci=>match Z2c ci.fl f with
   | some i=>if i < vs.length then some (st.set l (.ins c (vs.set i y))) else if i=vs.length then some (st.set l (.ins c (vs++[y]))) else none
   | none=>none
  | none=>none
 | _=>none
def fFld (cs:List Ci) (f:Str) (fv fo:Env→Sto→R T):Fs:=fun env st=>(fv env st).go env fun y st1=>(fo env st1).go env fun x st2=>match x with
 | .loc l=>match putC cs f y st2 l with
  | some st3 => .nx env st3
  | none => .bad
 | _ => .bad
section
variable {X:Cx} {G:Gh} {W:WX} {lv:Nat} {cs:List Ci} {fv fo:Env→Sto→R T} {o value:Expr} {f:Str} {pos pos':Pos}
theorem RSto.seti{m:Mm}{H:Hp}{st:Sto}{l:Nat}{a:Addr}{cl:Cell}{u:HO}(s:RSto G m H st)(e:m.as[l]? = some a)(r:Z1m G m (L2.upd H a u) a cl):RSto G m (L2.upd H a u) (st.set l cl)∧Stp m H m (L2.upd H a u):=by
 have ha:a∈m.as:=List.mem_of_getElem? e
 have S:Stp m H m (L2.upd H a u):=⟨⟨fun b o h _ hn=>by
  have hne:b≠a:=fun z=>hn (by rw[z];exact ha)
  rw[upd_ne hne];exact h,fun _ _ h=>Z3o h,fun _ h => .inl h,fun _ h => .inl (.inr h),⟨[],by simp⟩⟩,rfl⟩
 refine⟨⟨s.nd,s.fd,by rw[List.length_set];exact s.len,fun i b c h1 h2 => ?_,fun b h => ?_,s.tabs ha⟩,S⟩
 ·by_cases hi:i=l
  ·subst hi
   rw[e] at h1
   cases h1
   have hl:i < st.length:=by rw[← s.len];exact(List.getElem?_eq_some_iff.mp e).1
   rw[List.getElem?_set_self hl] at h2
   cases h2
   exact r
  ·rw[List.getElem?_set_ne (Ne.symm hi)] at h2
   have hne:b≠a:=fun z=>by
    subst z
    exact hi ((List.getElem?_inj (List.getElem?_eq_some_iff.mp h1).1 s.nd).mp (h1.trans e.symm))
   exact Z1m.mov S.toMov (upd_ne hne) (s.cell i b c h1 h2)
 ·have hne:b≠a:=fun z=>s.fd a ha (z ▸ h)
  rw[upd_ne hne]
  exact s.foS b h
theorem S_fld(hcs:∀ c ci,cs[c]? = some ci→ClsOk X.prog X.w X.K X.mg X.base lv G c ci)(ho:PE X o (tE G W fo))(hv:PE X value (tE G W fv))(hs:swapsWith value (some (.Attribute o f pos')) pos.line X.env=pure false) :
  PS X (.Assign [.Attribute o f pos'] value pos) (tS G W (fFld cs f fv fo)):=by
 refine PS.imp (ps_fld ho hv hs) fun D σ H ⟨m,env,st,rs,h⟩ => ?_
 refine⟨m,env,st,rs,(Out.go h).imp fun y st1 yv H1 m1 rs1 S1 r1 h=>⟨m1,env,st1,rs1,(Out.go h).imp fun x st2 xv H2 m2 rs2 S2 r2 h => ?_⟩⟩
 cases x with
 | loc l =>
  cases e1:putC cs f y st2 l with
  | none=>simp only[e1] at h;exact h.elim
  | some st3 =>
   simp only[e1] at h
   obtain⟨a,rfl,hl⟩:=r2
   unfold putC at e1
   cases e2:st2[l]? with
   | none=>rw[e2] at e1;cases e1
   | some cc =>
    rw[e2] at e1
    cases cc with
    | lst xs=>cases e1
    | dt kvs=>cases e1
    | dk kvs=>cases e1
    | dn ks=>cases e1
    | ins c vs =>
     simp only at e1
     cases e3:cs[c]? with
     | none=>rw[e3] at e1;cases e1
     | some ci =>
      rw[e3] at e1
      simp only at e1
      cases e4:Z2c ci.fl f with
      | none=>rw[e4] at e1;cases e1
      | some i =>
       rw[e4] at e1
       simp only at e1
       have ok:=hcs c ci e3
       obtain⟨dx,fw,h1,h2,h3,h4⟩:=rs2.sto.cell l a _ hl e2
       rw[ok.fl] at h2 h3
       have hlen:fw.length=vs.length:=by rw[h4.length,List.length_map]
       have few:fw.length < 1000:=by have:=ok.few;omega
       refine⟨a,G.cl c,dx,fw,rfl,h1,ok.cls,ok.na f (ZcW e4),few, ?_⟩
       have ha:a∈m2.as:=List.mem_of_getElem? hl
       have S:Stp m2 H2 m2 (L2.upd H2 a (.ins (G.cl c) dx (putF f yv fw))):=⟨⟨fun b o hb _ hn=>by
        have hne:b≠a:=fun z=>hn (by rw[z];exact ha)
        rw[upd_ne hne];exact hb,fun _ _ h=>Z3o h,fun _ h => .inl h,fun _ h => .inl (.inr h),⟨[],by simp⟩⟩,rfl⟩
       have ry:Rp G m2 H2 y yv:=Rp.mov S2.toMov _ _ r1
       by_cases c1:i < vs.length
       ·rw[if_pos c1] at e1
        cases e1
        obtain⟨p1,p2⟩:=Ze1 (v:=yv) h2 e4 (by omega)
        obtain⟨s3,S3⟩:=rs2.sto.seti (u := .ins (G.cl c) dx (putF f yv fw)) (cl := .ins c (vs.set i y)) hl ⟨dx,_,upd_same,by rw[p1,ok.fl,List.length_set];exact h2,by rw[ok.fl,List.length_set];exact h3,by rw[p2];exact Rps.mov S.toMov _ _ (h4.setAt ry i)⟩
        exact h σ _ m2 ⟨rs2.env.mov S3.toMov,s3⟩ S3
       ·rw[if_neg c1] at e1
        by_cases c2:i=vs.length
        ·rw[if_pos c2] at e1
         cases e1
         subst c2
         obtain⟨p1,p2⟩:=Ze6 (v:=yv) h2 e4 hlen
         have hlt:vs.length < ci.fl.length:=by
          have:∀ {fl:List Str} {i:Nat},Z2c fl f=some i→i < fl.length:=fun {fl}=>by
           induction fl with
           | nil=>intro i e;cases e
           | cons g gs ih =>
            intro i e
            have e:(if g=f then some 0 else(Z2c gs f).map (· + 1))=some i:=e
            by_cases hk:g=f
            ·rw[if_pos hk] at e;cases e;exact Nat.zero_lt_succ _
            ·rw[if_neg hk] at e
             cases e2:Z2c gs f with
             | none=>rw[e2] at e;cases e
             | some j=>rw[e2] at e;cases e;exact Nat.succ_lt_succ (ih e2)
          exact this e4
         obtain⟨s3,S3⟩:=rs2.sto.seti (u := .ins (G.cl c) dx (putF f yv fw)) (cl := .ins c (vs++[y])) hl ⟨dx,_,upd_same,by rw[p1,ok.fl,List.length_append];rfl,by rw[ok.fl,List.length_append];exact hlt,by rw[p2];exact Rps.mov S.toMov _ _ (h4.append ⟨yv,[],rfl,ry,rfl⟩)⟩
         exact h σ _ m2 ⟨rs2.env.mov S3.toMov,s3⟩ S3
        ·rw[if_neg c2] at e1;cases e1
 | _=>exact h.elim
def Zhw (v x y:T) (env:Env) (st:Sto):O:=match ZfC st x,tkey y with
 | some (l,kvs),some k=>if kvs.length < lim then .nx env (st.set l (.dt (dput kvs k v))) else .bad
 | _,_ => .bad
def Zhk (fo fi fv:Env→Sto→R T):Fs:=fun env st=>(fv env st).go env fun v st1=>(fo env st1).go env fun x st2=>(fi env st2).go env fun y st3=>Zhw v x y env st3
theorem Zjg{i:Expr}{fi:Env→Sto→R T}(hu:X.A.units+1 < cLine)(ho:PE X o (tE G W fo))(hi:PE X i (tE G W fi))(hv:PE X value (tE G W fv))(hs:swapsWith value (some (.Subscript o i pos')) pos.line X.env=pure false) :
  PS X (.Assign [.Subscript o i pos'] value pos) (tS G W (Zhk fo fi fv)):=by
 refine PS.imp (ps_dput hu ho hi hv hs) fun D σ H ⟨m,env,st,rs,h⟩ => ?_
 refine⟨m,env,st,rs,(Out.go h).imp fun v st1 vv H1 m1 rs1 S1 r1 h=>⟨m1,env,st1,rs1,(Out.go h).imp fun x st2 xv H2 m2 rs2 S2 r2 h=>⟨m2,env,st2,rs2,(Out.go h).imp fun y st3 yv H3 m3 rs3 S3 r3 h => ?_⟩⟩⟩
 unfold Zhw at h
 cases e1:ZfC st3 x with
 | none=>rw[e1] at h;exact h.elim
 | some pr =>
  obtain⟨l,kvs⟩:=pr
  cases e2:tkey y with
  | none=>rw[e1,e2] at h;exact h.elim
  | some k =>
   rw[e1,e2] at h
   by_cases c1:kvs.length < lim
   ·simp only[if_pos c1] at h
    have r2':=Rp.mov S3.toMov _ _ r2
    have r1':=Rp.mov (S2.trans S3).toMov _ _ r1
    obtain⟨a,vs,rfl,hl,_,hp,rk⟩:=Zjm rs3.sto r2' e1
    obtain⟨c,rfl,hc⟩:=ZhF e2 r3
    refine⟨a,_,rfl,DPut.t (k:=k) hp hc (by rw[rk.length,← Z1t];exact c1), ?_⟩
    have ha:a∈m3.as:=List.mem_of_getElem? hl
    have S:Stp m3 H3 m3 (L2.upd H3 a (.dT (putK vs k vv))):=⟨⟨fun b o hb _ hn=>by
     have hne:b≠a:=fun z=>hn (by rw[z];exact ha)
     rw[upd_ne hne];exact hb,fun _ _ h=>Z3o h,fun _ h => .inl h,fun _ h => .inl (.inr h),⟨[],by simp⟩⟩,rfl⟩
    obtain⟨s3,S4⟩:=rs3.sto.seti (u := .dT (putK vs k vv)) (cl := .dt (dput kvs k v)) hl ⟨putK vs k vv,upd_same,RKs.mov S.toMov _ _ (ZcJ rk r1')⟩
    exact h σ _ m3 ⟨rs3.env.mov S4.toMov,s3⟩ S4
   ·simp only[if_neg c1] at h;exact h.elim
def Zdi (v x y:T) (env:Env) (st:Sto):O:=match Zfp st x,ZbH y with
 | some (l,kvs),some k=>if kvs.length < lim then .nx env (st.set l (.dk (dput kvs k v))) else .bad
 | _,_ => .bad
def Zhy (fo fi fv:Env→Sto→R T):Fs:=fun env st=>(fv env st).go env fun v st1=>(fo env st1).go env fun x st2=>(fi env st2).go env fun y st3=>Zdi v x y env st3
theorem ZiR{i:Expr}{fi:Env→Sto→R T}(hu:X.A.units+1 < cLine)(ho:PE X o (tE G W fo))(hi:PE X i (tE G W fi))(hv:PE X value (tE G W fv))(hs:swapsWith value (some (.Subscript o i pos')) pos.line X.env=pure false) :
  PS X (.Assign [.Subscript o i pos'] value pos) (tS G W (Zhy fo fi fv)):=by
 refine PS.imp (ps_dput hu ho hi hv hs) fun D σ H ⟨m,env,st,rs,h⟩ => ?_
 refine⟨m,env,st,rs,(Out.go h).imp fun v st1 vv H1 m1 rs1 S1 r1 h=>⟨m1,env,st1,rs1,(Out.go h).imp fun x st2 xv H2 m2 rs2 S2 r2 h=>⟨m2,env,st2,rs2,(Out.go h).imp fun y st3 yv H3 m3 rs3 S3 r3 h => ?_⟩⟩⟩
 unfold Zdi at h
 cases e1:Zfp st3 x with
 | none=>rw[e1] at h;exact h.elim
 | some pr =>
  obtain⟨l,kvs⟩:=pr
  cases e2:ZbH y with
  | none=>rw[e1,e2] at h;exact h.elim
  | some k =>
   rw[e1,e2] at h
   by_cases c1:kvs.length < lim
   ·simp only[if_pos c1] at h
    have r2':=Rp.mov S3.toMov _ _ r2
    have r1':=Rp.mov (S2.trans S3).toMov _ _ r1
    obtain⟨a,vs,rfl,hl,hp,rk⟩:=Zgk rs3.sto r2' e1
    have hk:=ZcP e2 r3
    subst hk
    refine⟨a,_,rfl,DPut.k (k:=k) hp (by rw[rk.length,← Z1t];exact c1), ?_⟩
    have ha:a∈m3.as:=List.mem_of_getElem? hl
    have S:Stp m3 H3 m3 (L2.upd H3 a (.dK (putK vs k vv))):=⟨⟨fun b o hb _ hn=>by
     have hne:b≠a:=fun z=>hn (by rw[z];exact ha)
     rw[upd_ne hne];exact hb,fun _ _ h=>Z3o h,fun _ h => .inl h,fun _ h => .inl (.inr h),⟨[],by simp⟩⟩,rfl⟩
    obtain⟨s3,S4⟩:=rs3.sto.seti (u := .dK (putK vs k vv)) (cl := .dk (dput kvs k v)) hl ⟨putK vs k vv,upd_same,RKs.mov S.toMov _ _ (ZcJ rk r1')⟩
    exact h σ _ m3 ⟨rs3.env.mov S4.toMov,s3⟩ S4
   ·simp only[if_neg c1] at h;exact h.elim
def Zhx (x y:T) (env:Env) (st:Sto):O:=match dnAt st x,Zf9 y with
 | some (l,ks),some k=>if ks.length < lim then .nx env (st.set l (.dn (nput ks k))) else .bad
 | _,_ => .bad
def Zhz (fo fi:Env→Sto→R T):Fs:=fun env st=>(fo env st).go env fun x st2=>(fi env st2).go env fun y st3=>Zhx x y env st3
theorem Ze3{G:Gh}{m:Mm}{H:Hp}{t:T}{v:V}(r:Rp G m H t v):∀ {ts:List T} {vs:List V},Rps G m H ts vs→Rps G m H (ts++[t]) (vs++[v])
 | [],vs,h=>by cases (show vs=[] from h);exact⟨v,[],rfl,r,rfl⟩
 | x :: ts,vs,⟨w,s,e,h,q⟩=>by subst e;exact⟨w,_,rfl,h,Ze3 r q⟩
theorem Zjk{i:Expr}{fi:Env→Sto→R T}(hu:X.A.units+10 < cLine)(ho:PE X o (tE G W fo))(hi:PE X i (tE G W fi))(hv:PE X value fun σ H Q=>Q (.bl true) H)(hs:swapsWith value (some (.Subscript o i pos')) pos.line X.env=pure false) :
  PS X (.Assign [.Subscript o i pos'] value pos) (tS G W (Zhz fo fi)):=by
 refine PS.imp (Zis hu ho hi hv hs) fun D σ H ⟨m,env,st,rs,h⟩ => ?_
 refine⟨m,env,st,rs,(Out.go h).imp fun x st2 xv H2 m2 rs2 S2 r2 h=>⟨m2,env,st2,rs2,(Out.go h).imp fun y st3 yv H3 m3 rs3 S3 r3 h => ?_⟩⟩
 unfold Zhx at h
 cases e1:dnAt st3 x with
 | none=>rw[e1] at h;exact h.elim
 | some pr =>
  obtain⟨l,ks⟩:=pr
  cases e2:Zf9 y with
  | none=>rw[e1,e2] at h;exact h.elim
  | some k =>
   rw[e1,e2] at h
   by_cases c1:ks.length < lim
   ·simp only[if_pos c1] at h
    have r2':=Rp.mov S3.toMov _ _ r2
    obtain⟨a,bs,rfl,hl,hp,rk⟩:=dn_at rs3.sto r2' e1
    rw[ZgA e2] at r3
    obtain⟨b,rfl,hk⟩:=Zg7 r3
    refine⟨a,k,ks,b,bs,rfl,rfl,hk,hp,ZeZ rk,by rw[← Z1t];exact c1, ?_⟩
    have ha:a∈m3.as:=List.mem_of_getElem? hl
    have S:Stp m3 H3 m3 (L2.upd H3 a (.ext (DnP a (nput ks k) (if k∈ks then bs else bs++[b])))):=⟨⟨fun b o hb _ hn=>by
     have hne:b≠a:=fun z=>hn (by rw[z];exact ha)
     rw[upd_ne hne];exact hb,fun _ _ h=>Z3o h,fun _ h => .inl h,fun _ h => .inl (.inr h),⟨[],by simp⟩⟩,rfl⟩
    have new:Rps G m3 H3 ((nput ks k).map Z7v) ((if k∈ks then bs else bs++[b]).map V.ref):=by
     unfold nput
     by_cases c:k∈ks
     ·rw[if_pos c,if_pos c];exact rk
     ·rw[if_neg c,if_neg c,List.map_append,List.map_append];exact Ze3 r3 rk
    obtain⟨s3,S4⟩:=rs3.sto.seti (u := .ext (DnP a (nput ks k) (if k∈ks then bs else bs++[b]))) (cl := .dn (nput ks k)) hl ⟨_,upd_same,Rps.mov S.toMov _ _ new⟩
    exact h σ _ m3 ⟨rs3.env.mov S4.toMov,s3⟩ S4
   ·simp only[if_neg c1] at h;exact h.elim
theorem Zgq{fl:Env→Sto→R (List T)}{σ : L2.St}{H:Hp}{Q:VK}(h:tE G W (fFz fl) σ H Q):tL G W fl σ H Q:=by
 obtain⟨m,env,st,rs,h⟩:=h
 refine⟨m,env,st,rs,(Rn.bnd h).imp fun xs st' vs H' m' rs' _ r q p hp => ?_⟩
 exact Rn.next (K:=Kq Q) q (rs'.fresh hp) (Stp.fresh hp) ⟨p,vs,rfl,⟨rs'.sto.free hp,upd_same⟩,Rps.mov (Stp.fresh hp).toMov _ _ r⟩
theorem Zf2{fl:Env→Sto→R (List T)}{σ : L2.St}{H:Hp}{Q:VK}(h:tE G W (Zfo fl) σ H Q):tL G W fl σ H Q:=by
 obtain⟨m,env,st,rs,h⟩:=h
 refine⟨m,env,st,rs,(Rn.bnd h).imp fun xs st' vs H' m' rs' _ r q p hp => ?_⟩
 obtain⟨s2,S2⟩:=rs'.sto.push hp r
 exact Rn.next (K:=Kq Q) q ⟨rs'.env.mov S2.toMov,s2⟩ S2 ⟨p,rfl,by show(m'.as++[p])[st'.length]? = some p;rw[← rs'.sto.len];simp⟩
theorem ZbZ{i:Nat}{v:V}{σ : L2.St}{H:Hp}{Q:L2.St→Hp→Prop}(h:tT G W (fG (.name i)) v σ H Q):gName i v σ H Q:=by
 obtain⟨m,env,st,t,rs,r,q⟩:=h
 by_cases hi:i < env.length
 ·have q:Z2y G W Q m H (match (if i < env.length then some (env.set i (some t)) else none) with
   | some env' => .nx env' st
   | none => .bad):=q
  rw[if_pos hi] at q
  exact q _ H m (rs.set hi r) (Stp.refl m H)
 ·have q:Z2y G W Q m H (match (if i < env.length then some (env.set i (some t)) else none) with
   | some env' => .nx env' st
   | none => .bad):=q
  rw[if_neg hi] at q
  exact q.elim
end
def Zfq (i:Nat) (s:Bool) (fa:Env→Sto→R T):Fs:=fun env st=>match env[i]? with
 | some (some (.int x))=>(fa env st).go env fun t st1=>match t with
  | .int y=>if i < env.length then .nx (env.set i (some (.int (if s then x - y else x+y)))) st1 else .bad
  | _ => .bad
 | _ => .bad
section
variable {X:Cx} {G:Gh} {W:WX} {fa:Env→Sto→R T} {e:Expr} {pos p:Pos}
theorem ZeG{i:Nat}{s:Bool}{D:Ends}{σ : L2.St}{H:Hp}(h:tS G W (Zfq i s fa) D σ H):tAug i (tE G W fa) (if s then ipI fun i j=>i - j else ipI fun i j=>i+j) D σ H:=by
 obtain⟨m,env,st,rs,h⟩:=h
 unfold Zfq at h
 split at h
 ·rename_i x hx
  obtain⟨v,hv,rv⟩:=rs.env.2 i _ hx
  cases (show v=V.int x from rv)
  refine⟨.int x,hv,m,env,st,rs,(Out.go h).imp fun t st' w H' m' rs' _ r q => ?_⟩
  cases t with
  | int y =>
   cases (show w=V.int y from r)
   have q:Out G W D m' H' (if i < env.length then .nx (env.set i (some (.int (if s then x - y else x+y)))) st' else .bad):=q
   by_cases c:i < env.length
   ·rw[if_pos c] at q
    cases s with
    | true=>exact⟨x,y,rfl,rfl,q _ H' m' (rs'.set c (v := .int (x - y)) rfl) (Stp.refl m' H')⟩
    | false=>exact⟨x,y,rfl,rfl,q _ H' m' (rs'.set c (v := .int (x+y)) rfl) (Stp.refl m' H')⟩
   ·rw[if_neg c] at q;exact q.elim
  | _=>exact q.elim
 ·exact h.elim
theorem S_aug{i:Nat}{s:Bool}{x:Str}(hN:X.N.Nodup)(hi:X.N[i]? = some x)(hx:L2.Loc X.env.scope x)(hf:X.fn x=true∨X.env.scope.names.lookup x=some .local)(he:PE X e (tE G W fa)) :
  PS X (.AugAssign (.Name x p) (if s then .Sub else .Add) e pos) (tS G W (Zfq i s fa)):=by
 cases s with
 | true=>exact PS.imp (ps_aug hN hi hx he ip_sub hf) fun D σ H h=>ZeG (s:=true) h
 | false=>exact PS.imp (ps_aug hN hi hx he ip_add hf) fun D σ H h=>ZeG (s:=false) h
end
section
variable {X:Cx} {G:Gh} {W:WX} {a b:Expr} {pos:Pos} {fa fb:Env→Sto→R T}
def Zhj (fa fb:Env→Sto→R T):Ft:=fun t env st=>(fa env st).go env fun x st1=>(fb env st1).go env fun y st2=>Zdi t x y env st2
theorem Zh5(hu:X.A.units+1 < cLine):PSet X (fun o i v H Q=>∃ a H4,o = .ref a∧DPut H a i v H4∧Q H4):=by
 intro pins s σ H o i v ov iv u Q I ro ri rv h
 obtain⟨a,H4,rfl,g,q⟩:=h
 obtain rfl:ov=Value.ref a:=ro
 exact d_setItem hu I g ri rv fun s4 I4=>⟨H4,I4,q⟩
theorem ZiW(hu:X.A.units+1 < cLine)(ha:PE X a (tE G W fa))(hb:PE X b (tE G W fb))(hx:∀ v,assign (.Subscript a b pos) X.env v=(do
   let ov ← holding [v] (eval a X.env)
   let iv ← holding [v,ov] (eval b X.env)
   standAt pos
   holding [v,ov,iv] (setItem ov iv v)
   release [v,ov,iv] [])):PG X (.Subscript a b pos) (tT G W (Zhj fa fb)):=by
 refine PG.imp (pg_sub ha hb (Zh5 hu) hx) fun v σ H Q ⟨m,env,st,t,rs,r,h⟩ => ?_
 refine⟨m,env,st,rs,(Z2y.go h).imp fun x st1 xv H1 m1 rs1 S1 r1 h=>⟨m1,env,st1,rs1,(Z2y.go h).imp fun y st2 yv H2 m2 rs2 S2 r2 h => ?_⟩⟩
 unfold Zdi at h
 cases e1:Zfp st2 x with
 | none=>rw[e1] at h;exact h.elim
 | some pr =>
  obtain⟨l,kvs⟩:=pr
  cases e2:ZbH y with
  | none=>rw[e1,e2] at h;exact h.elim
  | some k =>
   rw[e1,e2] at h
   by_cases c1:kvs.length < lim
   ·simp only[if_pos c1] at h
    have r1':=Rp.mov S2.toMov _ _ r1
    have rt:Rp G m2 H2 t v:=Rp.mov S2.toMov _ _ (Rp.mov S1.toMov _ _ r)
    obtain⟨a,vs,rfl,hl,hp,rk⟩:=Zgk rs2.sto r1' e1
    have hk:=ZcP e2 r2
    subst hk
    refine⟨a,_,rfl,DPut.k (k:=k) hp (by rw[rk.length,← Z1t];exact c1), ?_⟩
    have ha:a∈m2.as:=List.mem_of_getElem? hl
    have S:Stp m2 H2 m2 (L2.upd H2 a (.dK (putK vs k v))):=⟨⟨fun b o hb _ hn=>by
     have hne:b≠a:=fun z=>hn (by rw[z];exact ha)
     rw[upd_ne hne];exact hb,fun _ _ h=>Z3o h,fun _ h => .inl h,fun _ h => .inl (.inr h),⟨[],by simp⟩⟩,rfl⟩
    obtain⟨s3,S4⟩:=rs2.sto.seti (u := .dK (putK vs k v)) (cl := .dk (dput kvs k t)) hl ⟨putK vs k v,upd_same,RKs.mov S.toMov _ _ (ZcJ rk rt)⟩
    exact h σ _ m2 ⟨rs2.env.mov S4.toMov,s3⟩ S4
   ·simp only[if_neg c1] at h;exact h.elim
end
end Eg
set_option maxHeartbeats 8000000
namespace Eg
open PySem PySem.Spec PyProof.Rows L2
def Z4h (f:Nat→Option T):Env→Option Env
 | []=>some []
 | none :: r=>(Z4h f r).map (none :: ·)
 | some t :: r=>match Z0h f t,Z4h f r with
  | some u,some s=>some (some u :: s)
  | _,_=>none
def Zae (cs:List Ci) (f:Fs):Fs:=fun env st=>match f env st with
 | .nx env' st'=>match Z1x (frz cs st' (ren st.length none)) (st'.take st.length++more st' none),Z4h (frz cs st' (ren st.length none)) env' with
  | some st2,some env2 => .nx env2 st2
  | _,_ => .bad
 | o=>o
theorem ZaG{f:Nat→Option T}:∀ {env env2:Env},Z4h f env=some env2→env2.length=env.length∧∀ (i:Nat) u,env2[i]? = some (some u)→∃ t,env[i]? = some (some t)∧Z0h f t=some u
 | [],env2,h=>by cases h;exact⟨rfl,fun i u h=>by simp at h⟩
 | none :: r,env2,h=>by
  obtain⟨s,e,rfl⟩:=Option.map_eq_some_iff.mp (show(Z4h f r).map (none :: ·)=some env2 from h)
  obtain⟨h1,h2⟩:=ZaG e
  refine⟨by simp[h1],fun i u hu => ?_⟩
  cases i with
  | zero=>simp at hu
  | succ i=>simpa using h2 i u (by simpa using hu)
 | some t :: r,env2,h=>by
  have h:(match Z0h f t,Z4h f r with
   | some u,some s=>some (some u :: s)
   | _,_=>none)=some env2:=h
  cases e1:Z0h f t with
  | none=>rw[e1] at h;cases h
  | some u =>
   cases e2:Z4h f r with
   | none=>rw[e1,e2] at h;cases h
   | some s =>
    rw[e1,e2] at h
    cases h
    obtain⟨h1,h2⟩:=ZaG e2
    refine⟨by simp[h1],fun i w hw => ?_⟩
    cases i with
    | zero=>simp at hw;subst hw;exact⟨t,rfl,e1⟩
    | succ i=>simpa using h2 i w (by simpa using hw)
theorem ZgZ{G:Gh}{W:WX}{cs:List Ci}(kc:Z6v G cs){f:Fs}{D:Ends}{σ : L2.St}{H:Hp}(h:tS G W (Zae cs f) D σ H):tS G W f D σ H:=by
 obtain⟨m,env,st,rs,q⟩:=h
 refine⟨m,env,st,rs, ?_⟩
 unfold Zae at q
 cases e:f env st with
 | nx env' st' =>
  rw[e] at q
  intro σ' H' m' rs' x
  dsimp only at q
  cases e1:Z1x (frz cs st' (ren st.length none)) (st'.take st.length++more st' none) with
  | none=>rw[e1] at q;exact q.elim
  | some st2 =>
   cases e2:Z4h (frz cs st' (ren st.length none)) env' with
   | none=>rw[e1,e2] at q;exact q.elim
   | some env2 =>
    rw[e1,e2] at q
    have F:=Zdw kc none (by simp) x rs.sto.len rs'.sto e1
    obtain⟨l1,l2⟩:=ZaG e2
    refine q σ' H' ⟨m.as++more m'.as none,m.fo⟩ ⟨⟨by rw[l1];exact rs'.env.1,fun i u hu => ?_⟩,F.sto⟩ F.stp
    obtain⟨t,ht,hf⟩:=l2 i u hu
    obtain⟨v,hv,r⟩:=rs'.env.2 i t ht
    exact⟨v,hv,Z7a F.hw F.hf t u v hf r⟩
 | _=>rw[e] at q;exact q
inductive IA where
 | pl (g:IG) | sub (a i:IE) | tup (l:List IA) | ksub (a i:IE)
inductive IS where
 | never | asg (t:IA) (e:IE) | par2 (i j:Nat) (es:IEs) | par3 (i j l:Nat) (es:IEs) | fld (o:IE) (f:Str) (e:IE)
 | cond (c:IE) (a b:List IS) | for_ (g:IG) (it:II) (b:List IS) | while_ (c:IE) (b:List IS)
 | rse (c:Nat) (e:IE) | rs0 (c:Nat)
 | ret (e:IE) | retN | exp (e:IE) | pass | brk | cnt | doc | drop (s:IS) | dput (o i e:IE) | kput (o i e:IE) | nput (o i:IE) | oput (o i e:IE) | aug (i:Nat) (s:Bool) (e:IE) | tri (b:List IS) (j:Nat) (h:List IS) (xm:List Nat)
def IA.ev (tb:Tab):IA→Ft
 | .pl q=>fG q
 | .sub a i=>fSub (a.ev tb) (i.ev tb)
 | .tup l=>fTu l.length (evs l)
 | .ksub a i=>Zhj (a.ev tb) (i.ev tb)
where evs:List IA→List T→Env→Sto→O
 | []=>fNo
 | t :: ts=>fCo (t.ev tb) (evs ts)
mutual
noncomputable def IS.ev (tb:Tab):IS→Fs
 | .never=>fun _ _ => .bad
 | .asg t e=>Zfu (e.ev tb) (t.ev tb)
 | .par2 i j es=>ZfE i j (es.ev tb)
 | .par3 i j l es=>Zh7 i j l (es.ev tb)
 | .fld o f e=>fFld tb.cls f (e.ev tb) (o.ev tb)
 | .cond c a b=>fIf (c.ev tb) (Z0i tb a) (Z0i tb b)
 | .for_ g it b=>Zdj (it.ev tb) g (Z0i tb b)
 | .while_ c b=>fWh (c.ev tb) (Z0i tb b)
 | .rse c e=>fRse c (e.ev tb)
 | .rs0 c=>fRs0 c
 | .ret e=>fRet (e.ev tb)
 | .retN=>fun _ st => .rt .non st
 | .exp e=>fExp (e.ev tb)
 | .pass=>fNx
 | .brk=>fun env st => .bk env st
 | .cnt=>fun env st => .ct env st
 | .doc=>fNx
 | .drop s=>Zae tb.cls (s.ev tb)
 | .dput o i e=>Zhk (o.ev tb) (i.ev tb) (e.ev tb)
 | .kput o i e=>Zhy (o.ev tb) (i.ev tb) (e.ev tb)
 | .nput o i=>Zhz (o.ev tb) (i.ev tb)
 | .oput o i e=>Zhu tb.dun (o.ev tb) (i.ev tb) (e.ev tb)
 | .aug i s e=>Zfq i s (e.ev tb)
 | .tri b j h xm=>fTri xm j (Z0i tb b) (Z0i tb.hot h)
noncomputable def Z0i (tb:Tab):List IS→Fs
 | []=>fNx
 | s :: ss=>fun env st=>(s.ev tb env st).seq (Z0i tb ss)
end
def Z7r:Expr→Bool
 | .ListComp .. => false
 | .SetComp .. => false
 | .DictComp .. => false
 | _=>true
def rowF (sc:Scope) (l:Nat):Expr→Option Str
 | .Name id pos=>if sc.names.lookup id == some .local && pos.line == l then some id else none
 | _=>none
def Z3i (sc:Scope) (ts:List Expr):List Str:=ts.filterMap (rowF sc ((ts.head?.map (·.pos.line)).getD 0))
theorem Z9t{sc:Scope}{l:Nat}{x y:Str}{p:Pos}(h:rowF sc l (.Name x p)=some y):y=x∧sc.names.lookup x=some .local:=by
 have h:(if sc.names.lookup x == some .local && p.line == l then some x else none)=some y:=h
 by_cases c:(sc.names.lookup x == some NameKind.local && p.line == l)=true
 ·rw[if_pos c] at h
  cases h
  rw[Bool.and_eq_true,beq_iff_eq] at c
  exact⟨rfl,c.1⟩
 ·rw[if_neg c] at h;cases h
theorem Z9j{A B:Type}{f:A→Option B}:∀ {ts:List A},(ts.filterMap f).length=ts.length→∀ t,t∈ts→∃ y,f t=some y
 | [],_,t,h=>by cases h
 | t :: ts,hl,u,h=>by
  have hle:=List.length_filterMap_le f ts
  cases e:f t with
  | none=>rw[List.filterMap_cons,e] at hl;simp at hl;omega
  | some y =>
   rw[List.filterMap_cons,e] at hl
   rcases List.mem_cons.mp h with rfl | h
   ·exact⟨y,e⟩
   ·exact Z9j (ts:=ts) (by simpa using hl) u h
def Zhc (sc:Scope):Expr→Expr→Bool
 | .Tuple ts _ _, .Tuple vs _ _ => !(ts.length == 2 || ts.length == 3) || vs.length != ts.length || (Z3i sc ts).length != ts.length || vs.all (foldedForSure 8)
 | .List _ _, .Tuple _ _ _=>false
 | _,_=>true
def swp (sc:Scope) (ts vs:List Expr):Bool :=
 (ts.length == 2 || ts.length == 3) && vs.length == ts.length && decide (sc.kind = .function) && vs.all Z0y && (Z3i sc ts).length == ts.length && (Z3i sc ts).eraseDups.length == (Z3i sc ts).length && !vs.all (foldedForSure 8) && !vs.all (constantsAlone 8)
def Zdn (sc:Scope):Expr→Expr→Bool
 | .Name y py, .ListComp _ _ scope pos=>decide (sc.names.lookup y=some .local) && decide (sc.kind = .function) && (py.line == pos.line) && !(scope.names.any fun(n,k)=>n == y && (k == .local || k == .cell))
 | _,_=>false
def Zgh (sc:Scope):Expr→Expr→Bool
 | .Name y py, .ListComp _ _ scope pos => !decide (sc.names.lookup y=some .local) || !(py.line == pos.line) || (scope.names.any fun(n,k)=>n == y && (k == .local || k == .cell))
 | _, .ListComp .. => true
 | _,e=>Z7r e
def Z3w (c:CC) (tb:Tab):IA→Expr→Bool
 | .pl q,e=>Z3q c q e
 | .sub a i,e=>match e with
  | .Subscript x y _=>plIx y && Z0b c tb a x && Z0b c tb i y
  | _=>false
 | .tup l,e=>match e with
  | .Tuple es _ _=>Z3f c && chkAs l es
  | _=>false
 | .ksub a i,e=>match e with
  | .Subscript x y _=>plIx y && Z0b c tb a x && Z0b c tb i y
  | _=>false
where chkAs:List IA→List Expr→Bool
 | [],es=>match es with
  | []=>true
  | _=>false
 | t :: ts,es=>match es with
  | e :: r=>Z0y e && Z3w c tb t e && chkAs ts r
  | _=>false
def isNm:IA→Option Nat
 | .pl (.name i)=>some i
 | _=>none
def Zfy:IE→Option (Bool × (List Nat × IE × IG × II × IO))
 | .fz (.lc own d g it t)=>some (false,own,d,g,it,t)
 | .new (.lc own d g it t)=>some (true,own,d,g,it,t)
 | _=>none
def Zde:IE→Bool
 | .fz (.lc2 ..)=>true
 | .new (.lc2 ..)=>true
 | _=>false
mutual
def Z1o (c:CC) (tb:Tab):IS→Stmt→Bool
 | .never,_=>true
 | .asg t e,s=>match s with
  | .Assign [tg] v _=>Z3w c tb t tg && Z0b c tb e v && Zhc c.sc tg v && (Zgh c.sc tg v || (Zdn c.sc tg v && (isNm t).isSome && ((Zfy e).isSome || Zde e)))
  | _=>false
 | .par2 i j es,s=>match s with
  | .Assign [.Tuple [.Name x px, .Name y py] _ _] (.Tuple [a,b] _ _) _=>Z6h c i x && Z6h c j y && decide (i≠j) && decide (x≠y) && swp c.sc [.Name x px, .Name y py] [a,b] && Z1d c tb es [a,b] && Z3f c
  | _=>false
 | .par3 i j l es,s=>match s with
  | .Assign [.Tuple [.Name x px, .Name y py, .Name z pz] _ _] (.Tuple [a,b,d] _ _) _=>Z6h c i x && Z6h c j y && Z6h c l z && decide (i≠j) && decide (i≠l) && decide (j≠l) && swp c.sc [.Name x px, .Name y py, .Name z pz] [a,b,d] && Z1d c tb es [a,b,d] && Z3f c
  | _=>false
 | .fld o f e,s=>match s with
  | .Assign [.Attribute x m _] v _=>decide (m=f) && Z7r v && Z0b c tb o x && Z0b c tb e v
  | _=>false
 | .cond d a b,s=>match s with
  | .If e x y _=>d.tst && Z0b c tb d e && Z1j c tb a x && Z1j c tb b y
  | _=>false
 | .for_ g it b,s=>match s with
  | .For tg iter body [] _=>ZbO iter && Z7t c tb it tg iter && Z3q c g tg && Z1j c tb b body && Z3f c
  | _=>false
 | .while_ d b,s=>match s with
  | .While e body [] _=>d.tst && Z0b c tb d e && Z1j c tb b body
  | _=>false
 | .rse k e,s=>match s with
  | .Raise (some (.Call (.Name x _) [y] [] _)) none _=>Z3f c && tgC c tb (.cls k) x && (tb.xcs.lookup k).any (fun f => !decide (f=("" : Str))) && Z0y y && Z0b c tb e y
  | _=>false
 | .rs0 k,s=>match s with
  | .Raise (some (.Call (.Name x _) [] [] _)) none _=>Z3f c && tgC c tb (.cls k) x && decide (tb.xcs.lookup k=some ("" : Str))
  | _=>false
 | .ret e,s=>match s with
  | .Return (some v) _=>Z0b c tb e v
  | _=>false
 | .retN,s=>match s with
  | .Return none _=>true
  | _=>false
 | .exp e,s=>match s with
  | .Expr v _=>Z7r v && Z0b c tb e v
  | _=>false
 | .pass,s=>match s with
  | .Pass _=>true
  | _=>false
 | .brk,s=>match s with
  | .Break _=>true
  | _=>false
 | .cnt,s=>match s with
  | .Continue _=>true
  | _=>false
 | .doc,s=>match s with
  | .Expr (.Constant (.str _) _ _) _=>true
  | _=>false
 | .drop i,s=>Z1o c tb i s
 | .dput o i e,s=>match s with
  | .Assign [.Subscript x y _] v _=>Z7r v && Z0b c tb o x && Z0b c tb i y && Z0b c tb e v
  | _=>false
 | .nput o i,s=>match s with
  | .Assign [.Subscript x y _] (.Constant (.bool true) _ _) _=>Z0b c tb o x && Z0b c tb i y
  | _=>false
 | .kput o i e,s=>match s with
  | .Assign [.Subscript x y _] v _=>Z7r v && Z0b c tb o x && Z0b c tb i y && Z0b c tb e v
  | _=>false
 | .oput o i e,s=>match s with
  | .Assign [.Subscript x y _] v _=>Z7r v && Z0b c tb o x && Z0b c tb i y && Z0b c tb e v && Z3f c
  | _=>false
 | .aug i z e,s=>match s with
  | .AugAssign (.Name x _) o v _=>Z6h c i x && decide (o=if z then .Sub else .Add) && Z0b c tb e v
  | _=>false
 | .tri b j h xm,s=>match s with
  | .Try body [.ExceptHandler (some (.Tuple [.Name x1 _, .Name x2 _, .Name x3 _] _ _)) (some n) (b0 :: suite) _] [] [] _=>(tgC c tb (.cls 100) x1 && tgC c tb (.cls 117) x2 && tgC c tb (.cls 119) x3) && (Z6h c j n && decide (c.sc.names.lookup n=some .local)) && Z1j c tb b body && Z1j (Zhr c) tb.hot h (b0 :: suite) && xm.all (fun k=>tb.xm.contains k) && Z3f c
  | _=>false
def Z1j (c:CC) (tb:Tab):List IS→List Stmt→Bool
 | [],ss=>match ss with
  | []=>true
  | _=>false
 | i :: is,ss=>match ss with
  | s :: r=>Z1o c tb i s && Z1j c tb is r
  | _=>false
end
section
variable {X:Cx} {c:CC} {G:Gh} {W:WX} {tb:Tab} {lv:Nat}
theorem Zg9{env:PySem.Env}{sc:Scope}{ts vs:List Expr}{k1 k2:Nat}{p1 p2:Pos}(hs:env.scope=sc)(h:swp sc ts vs=true):swappedStores [.Tuple ts k1 p1] (.Tuple vs k2 p2) env=pure (some (Z3i sc ts)):=by
 unfold swp at h
 simp only[Bool.and_eq_true,decide_eq_true_eq,Bool.not_eq_true',beq_iff_eq] at h
 obtain⟨⟨⟨⟨⟨⟨⟨h1,h2⟩,h3⟩,h4⟩,h5⟩,h6⟩,h7⟩,h8⟩:=h
 have hb:env.blockKind = .function:=by unfold PySem.Env.blockKind;rw[hs,h3];rfl
 unfold swappedStores
 simp only[hb,h1,h2,Bool.not_true,bne_self_eq_false,Bool.or_self,Bool.false_eq_true,if_false,pure_bind]
 split
 ·rename_i hany
  obtain⟨x,hx,hm⟩:=List.any_eq_true.mp hany
  have:=List.all_eq_true.mp h4 x hx
  cases x <;> first | (cases this;done) | (cases hm;done)
 ·generalize hq:List.filterMap _ ts=nm
  have hn:nm=Z3i sc ts:=by
   rw[← hq]
   unfold Z3i
   rw[← hs]
   rfl
  subst hn
  simp only[h5,h6,h7,h8,bne_self_eq_false,Bool.or_self,Bool.false_eq_true,if_false,pure_bind]
theorem Zh1{env:PySem.Env}{sc:Scope}{tg v:Expr}(hs:env.scope=sc)(h:Zhc sc tg v=true):swappedStores [tg] v env=pure none:=by
 cases tg with
 | Tuple ts k1 p1 =>
  cases v with
  | Tuple vs k2 p2 =>
   have h:(!(ts.length == 2 || ts.length == 3) || vs.length != ts.length || (Z3i sc ts).length != ts.length || vs.all (foldedForSure 8))=true:=h
   unfold swappedStores
   dsimp only
   by_cases c1:(!(ts.length == 2 || ts.length == 3) || vs.length != ts.length || env.blockKind != .function)=true
   ·rw[if_pos c1]
   ·rw[if_neg c1]
    have c1':(!(ts.length == 2 || ts.length == 3) || vs.length != ts.length || env.blockKind != .function)=false:=by simpa using c1
    rw[Bool.or_eq_false_iff] at c1'
    rw[c1'.1,Bool.false_or] at h
    split
    ·rfl
    ·generalize hq:List.filterMap _ ts=nm
     have hn:nm=Z3i sc ts:=by
      rw[← hq]
      unfold Z3i
      rw[← hs]
      rfl
     subst hn
     by_cases c3:((Z3i sc ts).length != ts.length || (Z3i sc ts).eraseDups.length != (Z3i sc ts).length)=true
     ·rw[if_pos c3]
     ·rw[if_neg c3]
      have c3':((Z3i sc ts).length != ts.length || (Z3i sc ts).eraseDups.length != (Z3i sc ts).length)=false:=by simpa using c3
      rw[Bool.or_eq_false_iff] at c3'
      rw[c3'.1,Bool.false_or] at h
      rw[if_pos h]
  | _=>rfl
 | List ts p=>cases v <;> first | rfl | cases h
 | _=>rfl
theorem Z4x{v:Expr}{t:Option Expr}{l:Nat}{env:PySem.Env}(h:Z7r v=true):swapsWith v t l env=pure false:=by cases v <;> first | rfl | cases h
theorem ZfS{sc:Scope}{tg v:Expr}{l:Nat}{env:PySem.Env}(hs:env.scope=sc)(h:Zgh sc tg v=true):swapsWithSole [tg] v l env=pure false:=by
 show swapsWith v (some tg) l env=pure false
 cases v with
 | ListComp elt gs scope pos =>
  cases tg with
  | Name y py =>
   have h:(!decide (sc.names.lookup y=some .local) || !(py.line == pos.line) || (scope.names.any fun(n,k)=>n == y && (k == .local || k == .cell)))=true:=h
   have:(env.blockKind == .function && env.kindOf y == some .local && py.line == pos.line && !(scope.names.any fun(n,k)=>n == y && (k == .local || k == .cell)))=false:=by
    have hk:env.kindOf y=sc.names.lookup y:=by unfold PySem.Env.kindOf;rw[hs]
    rw[hk]
    simp only[Bool.or_eq_true,Bool.not_eq_true',decide_eq_false_iff_not] at h
    rcases h with (h | h) | h
    ·rw[beq_eq_false_iff_ne.mpr h];simp
    ·rw[h];simp
    ·rw[h];simp
   show pure (env.blockKind == .function && env.kindOf y == some .local && py.line == pos.line && !(scope.names.any fun(n,k)=>n == y && (k == .local || k == .cell)))=pure false
   rw[this]
  | _=>rfl
 | SetComp _ _ _ _=>cases tg <;> cases h
 | DictComp _ _ _ _ _=>cases tg <;> cases h
 | _=>cases tg <;> rfl
theorem ZgM{t:IA}{tg:Expr}(h:Z3w c tb t tg=true)(env:PySem.Env):(assignEach [tg] env).map (·.2)=[assign tg env]:=by
 cases tg with
 | Starred _ _=>cases t with
  | pl q=>cases q <;> simp[Z3w,Z3q] at h
  | _=>simp[Z3w] at h
 | _=>rfl
theorem Zc5(env:PySem.Env):∀ {l:List IA} {es:List Expr},Z3w.chkAs c tb l es=true→(assignEach es env).length=l.length∧(assignEach es env).findIdx? (·.1)=none
 | [],[],_=>⟨rfl,rfl⟩
 | [],_ :: _,h=>by simp[Z3w.chkAs] at h
 | _ :: _,[],h=>by simp[Z3w.chkAs] at h
 | t :: l,e :: es,h=>by
  simp only[Z3w.chkAs,Bool.and_eq_true] at h
  obtain⟨h1,h2⟩:=Zc5 env h.2
  have:assignEach (e :: es) env=(false,assign e env) :: assignEach es env:=by
   have h3:=h.1.1
   cases e <;> first | rfl | cases h3
  rw[this]
  refine⟨by simp[h1], ?_⟩
  rw[List.findIdx?_cons,h2]
  rfl
mutual
theorem a_ok(ok:Okx X c G tb lv)(tk:Takes X W):∀ (t:IA) {e:Expr},Z3w c tb t e=true→PG X e (tT G W (t.ev tb))
 | .pl q,e,h=>by
  unfold Z3w at h;rw[IA.ev]
  exact T_g (Zab ok.hN ok.hs ok.hf ok.nd ok.hK ok.calm q e h)
 | .sub a i,e,h=>by
  unfold Z3w at h;rw[IA.ev]
  split at h
  ·rename_i x y p
   simp only[Bool.and_eq_true] at h
   obtain⟨⟨h0,h1⟩,h2⟩:=h
   refine T_sub (Z0e a ok tk h1).1 (Z0e i ok tk h2).1 fun v => ?_
   cases y <;> first | rfl | cases h0
  ·cases h
 | .ksub a i,e,h=>by
  unfold Z3w at h;rw[IA.ev]
  split at h
  ·rename_i x y p
   simp only[Bool.and_eq_true] at h
   obtain⟨⟨h0,h1⟩,h2⟩:=h
   refine ZiW (by have:=ok.units;omega) (Z0e a ok tk h1).1 (Z0e i ok tk h2).1 fun v => ?_
   cases y <;> first | rfl | cases h0
  ·cases h
 | .tup l,e,h=>by
  unfold Z3w at h;rw[IA.ev]
  split at h
  ·rw[Bool.and_eq_true] at h
   obtain⟨h1,h2⟩:=Zc5 X.env h.2
   exact T_tu (ok.calm h.1) (Zhl ok tk l h.2) h1 h2
  ·cases h
theorem Zhl(ok:Okx X c G tb lv)(tk:Takes X W):∀ (l:List IA) {es:List Expr},Z3w.chkAs c tb l es=true→PGs X es (tTs G W (IA.ev.evs tb l))
 | [],es,h=>by
  unfold Z3w.chkAs at h;rw[IA.ev.evs]
  split at h
  ·exact T_no
  ·cases h
 | t :: l,es,h=>by
  unfold Z3w.chkAs at h;rw[IA.ev.evs]
  split at h
  ·rename_i e r
   simp only[Bool.and_eq_true] at h
   refine T_co (a_ok ok tk t h.1.2) (Zhl ok tk l h.2) ?_
   have h3:=h.1.1
   cases e <;> first | rfl | cases h3
  ·cases h
end
theorem Zga(ok:Okx X c G tb lv)(tk:Takes X W){i:Nat}{own:List Nat}{d:IE}{g:IG}{it:II}{t:IO}{tg v:Expr}{pos:Pos}(h1:Z3q c (.name i) tg=true)(h2:Z5e c tb (.lc own d g it t) v=true)(h3:Zdn c.sc tg v=true) :
  PS X (.Assign [tg] v pos) (tAsg (tL G W (fLc own (d.ev tb) g (it.ev tb) (t.test tb))) (gName i)):=by
 cases tg with
 | Name y py =>
  unfold Z5e at h2
  split at h2
  ·rename_i elt tg iter ifs scope lp
   simp only[Bool.and_eq_true,decide_eq_true_eq] at h2
   obtain⟨⟨⟨⟨⟨⟨⟨⟨a1,a2⟩,a3⟩,a4⟩,a5⟩,a6⟩,a7⟩,a8⟩,hh⟩:=h2
   have h3:(decide (c.sc.names.lookup y=some .local) && decide (c.sc.kind = .function) && (py.line == lp.line) && !(scope.names.any fun(n,k)=>n == y && (k == .local || k == .cell)))=true:=h3
   simp only[Bool.and_eq_true,decide_eq_true_eq,Bool.not_eq_true'] at h3
   obtain⟨⟨⟨b1,b2⟩,b3⟩,b4⟩:=h3
   have hl:Z6h c i y=true:=by simpa [Z3q] using h1
   obtain⟨n1,_,_⟩:=Z4i (X:=X) hl ok.hN ok.hs ok.hf
   have hg:∀ (s:Shared) (H:Hp) (C:Addr) (cl:List (Str × Addr)) (fp:List Addr),PG (X.blk s H scope (compEnvC scope cl C X.env) fp) tg (tG G g):=fun s H C cl fp=>by
    have ok':=ok.blk hh s H scope C cl fp
    exact Zab ok'.hN ok'.hs ok'.hf ok'.nd ok'.hK ok'.calm g tg a6
   have ht:∀ (s:Shared) (H:Hp) (C:Addr) (cl:List (Str × Addr)) (fp:List Addr),PTs (X.blk s H scope (compEnvC scope cl C X.env) fp) ifs (tT0 G (t.test tb)):=fun s H C cl fp=>Zbd t (ok.blk hh s H scope C cl fp) Z3l a8
   have he:∀ (s:Shared) (H:Hp) (C:Addr) (cl:List (Str × Addr)) (fp:List Addr),PE (X.blk s H scope (compEnvC scope cl C X.env) fp) elt (tE G W0 (d.ev tb)):=fun s H C cl fp=>(Z0e d (ok.blk hh s H scope C cl fp) Z3l a7).1
   have hs:∀ x,foldedSetIterable iter X.env x=pure x:=fun x=>by cases iter <;> first | rfl | cases a5
   refine PS.imp (ps_setLc (py:=py) (pos:=lp) (spos:=pos) (ok.calm hh) ok.nd n1 (by rw[ok.hs];exact b1) (sw_true (by rw[ok.hs];exact b2) (by rw[ok.hs];exact b1) b3 b4) (Zby it ok tk a1) (own:=Zav c own) (blkOk_by (by rw[ok.hN,ok.hs];exact a2)) hg ht he hs) fun D σ H q => ?_
   rw[a3]
   exact ZfU a4 q
  ·cases h2
 | _=>cases h3
theorem ZeY(ok:Okx X c G tb lv)(tk:Takes X W){i:Nat}{own vs1:List Nat}{d:IE}{g g1:IG}{it it1:II}{t t1:IO}{tg v:Expr}{pos:Pos}(hc1:Z3q c (.name i) tg=true)(hc2:Z5e c tb (.lc2 own vs1 d g it t g1 it1 t1) v=true)(hc3:Zdn c.sc tg v=true) :
  PS X (.Assign [tg] v pos) (tAsg (tL G W (fLc2 own vs1 (d.ev tb) g (it.ev tb) (t.test tb) g1 (it1.ev tb) (t1.test tb))) (gName i)):=by
 cases tg with
 | Name y py =>
  unfold Z5e at hc2
  split at hc2
  ·rename_i elt tg iter ifs tg1 iter1 ifs1 scope lp
   simp only[Bool.and_eq_true,decide_eq_true_eq] at hc2
   obtain⟨⟨⟨⟨⟨⟨⟨⟨⟨⟨⟨⟨⟨⟨h1,h2⟩,h3⟩,h4⟩,h41⟩,h42⟩,h5⟩,h51⟩,h6⟩,h7⟩,h8⟩,h9⟩,h61⟩,h81⟩,hh⟩:=hc2
   have hc3:(decide (c.sc.names.lookup y=some .local) && decide (c.sc.kind = .function) && (py.line == lp.line) && !(scope.names.any fun(n,k)=>n == y && (k == .local || k == .cell)))=true:=hc3
   simp only[Bool.and_eq_true,decide_eq_true_eq,Bool.not_eq_true'] at hc3
   obtain⟨⟨⟨b1,b2⟩,b3⟩,b4⟩:=hc3
   have hl:Z6h c i y=true:=by simpa [Z3q] using hc1
   obtain⟨n1,_,_⟩:=Z4i (X:=X) hl ok.hN ok.hs ok.hf
   have hg:∀ (s:Shared) (H:Hp) (C:Addr) (cl:List (Str × Addr)) (fp:List Addr),PG (X.blk s H scope (compEnvC scope cl C X.env) fp) tg (tG G g):=fun s H C cl fp=>by
    have ok':=ok.blk hh s H scope C cl fp
    exact Zab ok'.hN ok'.hs ok'.hf ok'.nd ok'.hK ok'.calm g tg h6
   have hg1:∀ (s:Shared) (H:Hp) (C:Addr) (cl:List (Str × Addr)) (fp:List Addr),PG (X.blk s H scope (compEnvC scope cl C X.env) fp) tg1 (tG G g1):=fun s H C cl fp=>by
    have ok':=ok.blk hh s H scope C cl fp
    exact Zab ok'.hN ok'.hs ok'.hf ok'.nd ok'.hK ok'.calm g1 tg1 h61
   have ht:∀ (s:Shared) (H:Hp) (C:Addr) (cl:List (Str × Addr)) (fp:List Addr),PTs (X.blk s H scope (compEnvC scope cl C X.env) fp) ifs (tT0 G (t.test tb)):=fun s H C cl fp=>Zbd t (ok.blk hh s H scope C cl fp) Z3l h8
   have ht1:∀ (s:Shared) (H:Hp) (C:Addr) (cl:List (Str × Addr)) (fp:List Addr),PTs (X.blk s H scope (compEnvC scope cl C X.env) fp) ifs1 (tT0 G (t1.test tb)):=fun s H C cl fp=>Zbd t1 (ok.blk hh s H scope C cl fp) Z3l h81
   have he:∀ (s:Shared) (H:Hp) (C:Addr) (cl:List (Str × Addr)) (fp:List Addr),PE (X.blk s H scope (compEnvC scope cl C X.env) fp) elt (tE G W0 (d.ev tb)):=fun s H C cl fp=>(Z0e d (ok.blk hh s H scope C cl fp) Z3l h7).1
   have hi1:∀ (s:Shared) (H:Hp) (C:Addr) (cl:List (Str × Addr)) (fp:List Addr),PI (X.blk s H scope (compEnvC scope cl C X.env) fp) tg1 iter1 (tI G W0 (it1.ev tb)):=fun s H C cl fp=>Zby it1 (ok.blk hh s H scope C cl fp) Z3l h9
   have hs:∀ x,foldedSetIterable iter X.env x=pure x:=fun x=>by cases iter <;> first | rfl | cases h5
   have hs1:∀ env x,foldedSetIterable iter1 env x=pure x:=fun env x=>by cases iter1 <;> first | rfl | cases h51
   refine PS.imp (ps_setLc2 (py:=py) (pos:=lp) (spos:=pos) (vs1:=vs1) (ok.calm hh) ok.nd n1 (by rw[ok.hs];exact b1) (sw_true (by rw[ok.hs];exact b2) (by rw[ok.hs];exact b1) b3 b4) (Zby it ok tk h1) (own:=Zav c own) (blkOk_by (by rw[ok.hN,ok.hs];exact h2)) (fun i hi=>by rw[h3];exact h42 i hi) hg ht hi1 hg1 ht1 he hs hs1) fun D σ H q => ?_
   rw[h3]
   exact ZeT h4 h41 q
  ·cases hc2
 | _=>cases hc3
mutual
theorem Zg6:∀ (i:IS) {X:Cx} {c:CC} {G:Gh} {W:WX} {tb:Tab} {lv:Nat} (ok:Okx X c G tb lv) (tk:Takes X W) (po:PassesOwn (model X.prog X.w) X.A X.env X.xe) (fr:X.stack=X.env :: X.outer∧X.env.frame=some X.env.locals) {s:Stmt},Z1o c tb i s=true→PS X s (tS G W (i.ev tb))
 | .never,X,c,G,W,tb,lv,ok,tk,po,fr,s,h=>by rw[IS.ev];exact⟨fun pins s σ H D I ⟨m,env,st,rs,q⟩=>q.elim⟩
 | .asg t e,X,c,G,W,tb,lv,ok,tk,po,fr,s,h=>by
  unfold Z1o at h;rw[IS.ev]
  split at h
  ·rename_i tg v pos
   simp only[Bool.and_eq_true,Bool.or_eq_true] at h
   obtain⟨⟨⟨h1,h2⟩,h3⟩,h4⟩:=h
   rcases h4 with h4 | ⟨⟨h4,h5⟩,h6⟩
   ·exact S_asg (Z0e e ok tk h2).1 (a_ok ok tk t h1) (ZfS ok.hs h4) (Zh1 ok.hs h3) (ZgM h1 X.env)
   ·cases t with
    | pl q =>
     cases q with
     | name i =>
      have h1:Z3q c (.name i) tg=true:=by simpa [Z3w] using h1
      cases e with
      | fz l =>
       cases l with
       | lc own d g it t =>
        refine PS.imp (Zga ok tk h1 (by simpa [Z0b] using h2) h4) fun D σ H q => ?_
        have q2:=Z8w q
        obtain⟨m,env,st,rs,q3⟩:=Zgq q2
        exact⟨m,env,st,rs,q3.imp fun xs st' vs H' m' _ _ _ k p hp=>ZbZ (k p hp)⟩
       | lc2 own vs1 d g it t g1 it1 t1 =>
        refine PS.imp (ZeY ok tk h1 (by simpa [Z0b] using h2) h4) fun D σ H q => ?_
        have q2:=Z8w q
        obtain⟨m,env,st,rs,q3⟩:=Zgq q2
        exact⟨m,env,st,rs,q3.imp fun xs st' vs H' m' _ _ _ k p hp=>ZbZ (k p hp)⟩
       | _=>simp[Zfy,Zde] at h6
      | new l =>
       cases l with
       | lc own d g it t =>
        refine PS.imp (Zga ok tk h1 (by simpa [Z0b] using h2) h4) fun D σ H q => ?_
        have q2:=Z8w q
        obtain⟨m,env,st,rs,q3⟩:=Zf2 q2
        exact⟨m,env,st,rs,q3.imp fun xs st' vs H' m' _ _ _ k p hp=>ZbZ (k p hp)⟩
       | lc2 own vs1 d g it t g1 it1 t1 =>
        refine PS.imp (ZeY ok tk h1 (by simpa [Z0b] using h2) h4) fun D σ H q => ?_
        have q2:=Z8w q
        obtain⟨m,env,st,rs,q3⟩:=Zf2 q2
        exact⟨m,env,st,rs,q3.imp fun xs st' vs H' m' _ _ _ k p hp=>ZbZ (k p hp)⟩
       | _=>simp[Zfy,Zde] at h6
      | _=>simp[Zfy,Zde] at h6
     | tup _=>cases h5
    | _=>cases h5
  ·cases h
 | .par2 i j es,X,c,G,W,tb,lv,ok,tk,po,fr,s,h=>by
  unfold Z1o at h;rw[IS.ev]
  split at h
  ·rename_i x px y py k1 p1 a b k2 p2 pos
   simp only[Bool.and_eq_true,decide_eq_true_eq] at h
   obtain⟨⟨⟨⟨⟨⟨h1,h2⟩,h3⟩,h4⟩,h5⟩,h6⟩,hh⟩:=h
   obtain⟨n1,_,_⟩:=Z4i (X:=X) h1 ok.hN ok.hs ok.hf
   obtain⟨n2,_,_⟩:=Z4i (X:=X) h2 ok.hN ok.hs ok.hf
   have hw:=Zg9 (k1:=k1) (k2:=k2) (p1:=p1) (p2:=p2) ok.hs h5
   have hr:Z3i c.sc [.Name x px, .Name y py]=[x,y]∧c.sc.names.lookup x=some .local∧c.sc.names.lookup y=some .local:=by
    unfold swp at h5
    simp only[Bool.and_eq_true,beq_iff_eq] at h5
    have hlen:=h5.1.1.1.2
    unfold Z3i at hlen ⊢
    obtain⟨z1,q1⟩:=Z9j hlen (.Name x px) (by simp)
    obtain⟨z2,q2⟩:=Z9j hlen (.Name y py) (by simp)
    obtain⟨e1,l1⟩:=Z9t q1
    obtain⟨e2,l2⟩:=Z9t q2
    subst e1 e2
    exact⟨by simp only[List.filterMap_cons,List.filterMap_nil,q1,q2],l1,l2⟩
   rw[hr.1] at hw
   exact PS.imp (ps_par (ok.calm hh) ok.nd n1 n2 h3 (by rw[ok.hs];exact hr.2.1) (by rw[ok.hs];exact hr.2.2) (Z8b es ok tk h6) hw rfl) fun D σ H q=>Zgz q
  ·cases h
 | .par3 i j l es,X,c,G,W,tb,lv,ok,tk,po,fr,s,h=>by
  unfold Z1o at h;rw[IS.ev]
  split at h
  ·rename_i x px y py z pz k1 p1 a b d k2 p2 pos
   simp only[Bool.and_eq_true,decide_eq_true_eq] at h
   obtain⟨⟨⟨⟨⟨⟨⟨⟨h1,h2⟩,h3⟩,h4⟩,h5⟩,h6⟩,h7⟩,h8⟩,hh⟩:=h
   obtain⟨n1,_,_⟩:=Z4i (X:=X) h1 ok.hN ok.hs ok.hf
   obtain⟨n2,_,_⟩:=Z4i (X:=X) h2 ok.hN ok.hs ok.hf
   obtain⟨n3,_,_⟩:=Z4i (X:=X) h3 ok.hN ok.hs ok.hf
   have hw:=Zg9 (k1:=k1) (k2:=k2) (p1:=p1) (p2:=p2) ok.hs h7
   have hr:Z3i c.sc [.Name x px, .Name y py, .Name z pz]=[x,y,z]∧c.sc.names.lookup x=some .local∧c.sc.names.lookup y=some .local∧c.sc.names.lookup z=some .local:=by
    unfold swp at h7
    simp only[Bool.and_eq_true,beq_iff_eq] at h7
    have hlen:=h7.1.1.1.2
    unfold Z3i at hlen ⊢
    obtain⟨z1,q1⟩:=Z9j hlen (.Name x px) (by simp)
    obtain⟨z2,q2⟩:=Z9j hlen (.Name y py) (by simp)
    obtain⟨z3,q3⟩:=Z9j hlen (.Name z pz) (by simp)
    obtain⟨e1,l1⟩:=Z9t q1
    obtain⟨e2,l2⟩:=Z9t q2
    obtain⟨e3,l3⟩:=Z9t q3
    subst e1 e2 e3
    exact⟨by simp only[List.filterMap_cons,List.filterMap_nil,q1,q2,q3],l1,l2,l3⟩
   rw[hr.1] at hw
   exact PS.imp (ps_par3 (ok.calm hh) ok.nd n1 n2 n3 h4 h5 h6 (by rw[ok.hs];exact hr.2.1) (by rw[ok.hs];exact hr.2.2.1) (by rw[ok.hs];exact hr.2.2.2) (Z8b es ok tk h8) hw rfl) fun D σ H q=>Zh0 q
  ·cases h
 | .fld o f e,X,c,G,W,tb,lv,ok,tk,po,fr,s,h=>by
  unfold Z1o at h;rw[IS.ev]
  split at h
  ·simp only[Bool.and_eq_true,decide_eq_true_eq] at h
   obtain⟨⟨⟨rfl,h1⟩,h2⟩,h3⟩:=h
   exact S_fld (fun k ci=>ok.tab.cls k ci) (Z0e o ok tk h2).1 (Z0e e ok tk h3).1 (Z4x h1)
  ·cases h
 | .cond d a b,X,c,G,W,tb,lv,ok,tk,po,fr,s,h=>by
  unfold Z1o at h;rw[IS.ev]
  split at h
  ·simp only[Bool.and_eq_true] at h
   obtain⟨⟨⟨h1,h2⟩,h3⟩,h4⟩:=h
   exact S_if ((Z0e d ok tk h2).2 h1) (Z4y a ok tk po fr h3) (Z4y b ok tk po fr h4)
  ·cases h
 | .for_ g it b,X,c,G,W,tb,lv,ok,tk,po,fr,s,h=>by
  unfold Z1o at h;rw[IS.ev]
  split at h
  ·rename_i tg iter body pos
   simp only[Bool.and_eq_true] at h
   obtain⟨⟨⟨⟨h1,h2⟩,h3⟩,h4⟩,hh⟩:=h
   have hs:∀ x,foldedSetIterable iter X.env x=pure x:=fun x=>by cases iter <;> first | rfl | cases h1
   exact S_for po (ok.calm hh) (Zby it ok tk h2) (Zab ok.hN ok.hs ok.hf ok.nd ok.hK ok.calm g tg h3) (Z4y b ok tk po fr h4) hs
  ·cases h
 | .while_ d b,X,c,G,W,tb,lv,ok,tk,po,fr,s,h=>by
  unfold Z1o at h;rw[IS.ev]
  split at h
  ·simp only[Bool.and_eq_true] at h
   obtain⟨⟨h1,h2⟩,h3⟩:=h
   exact Zib po ((Z0e d ok tk h2).2 h1) (Z4y b ok tk po fr h3)
  ·cases h
 | .rse k e,X,c,G,W,tb,lv,ok,tk,po,fr,s,h=>by
  unfold Z1o at h;rw[IS.ev]
  split at h
  ·rename_i x p y p2 p3
   simp only[Bool.and_eq_true] at h
   obtain⟨⟨⟨⟨hh,h1⟩,h2⟩,h3⟩,h4⟩:=h
   obtain⟨f,hf,hne⟩:∃ f,tb.xcs.lookup k=some f∧f≠("" : Str):=by
    cases q:tb.xcs.lookup k with
    | none=>rw[q] at h2;cases h2
    | some f=>rw[q] at h2;exact⟨f,rfl,by simpa using h2⟩
   unfold tgC at h1
   rw[Bool.and_eq_true,decide_eq_true_eq] at h1
   obtain⟨gg,hd,_⟩:=ok.gl h1.1
   have hm:X.mg x=some (.ref (G.cl k)):=by
    rcases ok.tab.tgs x _ h1.2 with ⟨n,z,_⟩ | ⟨k2,z,hm⟩
    ·cases z
    ·cases z;exact hm
   exact S_rse (ok.calm hh) (ok.room hh) tk ((ok.tab.xcs k f hf).1 hne) gg hm hd (Z0e e ok tk h4).1 (Z5o h3 X.env)
  ·cases h
 | .rs0 k,X,c,G,W,tb,lv,ok,tk,po,fr,s,h=>by
  unfold Z1o at h;rw[IS.ev]
  split at h
  ·rename_i x p p2 p3
   simp only[Bool.and_eq_true,decide_eq_true_eq] at h
   obtain⟨⟨hh,h1⟩,h2⟩:=h
   unfold tgC at h1
   rw[Bool.and_eq_true,decide_eq_true_eq] at h1
   obtain⟨gg,hd,_⟩:=ok.gl h1.1
   have hm:X.mg x=some (.ref (G.cl k)):=by
    rcases ok.tab.tgs x _ h1.2 with ⟨n,z,_⟩ | ⟨k2,z,hm⟩
    ·cases z
    ·cases z;exact hm
   exact S_rs0 (ok.calm hh) tk ((ok.tab.xcs k _ h2).2 rfl) gg hm hd
  ·cases h
 | .ret e,X,c,G,W,tb,lv,ok,tk,po,fr,s,h=>by
  unfold Z1o at h;rw[IS.ev]
  split at h
  ·exact S_ret (Z0e e ok tk h).1
  ·cases h
 | .retN,X,c,G,W,tb,lv,ok,tk,po,fr,s,h=>by
  unfold Z1o at h;rw[IS.ev]
  split at h
  ·exact ZiP
  ·cases h
 | .exp e,X,c,G,W,tb,lv,ok,tk,po,fr,s,h=>by
  unfold Z1o at h;rw[IS.ev]
  split at h
  ·rw[Bool.and_eq_true] at h
   exact ZiV (Z0e e ok tk h.2).1 (Z4x h.1)
  ·cases h
 | .drop i,X,c,G,W,tb,lv,ok,tk,po,fr,s,h=>by
  unfold Z1o at h;rw[IS.ev]
  exact PS.imp (Zg6 i ok tk po fr h) fun D σ H q=>ZgZ (fun k ci e=>(ok.tab.cls k ci e).fl) q
 | .dput o i e,X,c,G,W,tb,lv,ok,tk,po,fr,s,h=>by
  unfold Z1o at h;rw[IS.ev]
  split at h
  ·simp only[Bool.and_eq_true] at h
   obtain⟨⟨⟨h1,h2⟩,h3⟩,h4⟩:=h
   exact Zjg (by have:=ok.units;omega) (Z0e o ok tk h2).1 (Z0e i ok tk h3).1 (Z0e e ok tk h4).1 (Z4x h1)
  ·cases h
 | .nput o i,X,c,G,W,tb,lv,ok,tk,po,fr,s,h=>by
  unfold Z1o at h;rw[IS.ev]
  split at h
  ·simp only[Bool.and_eq_true] at h
   exact Zjk (by have:=ok.units;omega) (Z0e o ok tk h.1).1 (Z0e i ok tk h.2).1 pe_bl (Z4x rfl)
  ·cases h
 | .kput o i e,X,c,G,W,tb,lv,ok,tk,po,fr,s,h=>by
  unfold Z1o at h;rw[IS.ev]
  split at h
  ·simp only[Bool.and_eq_true] at h
   obtain⟨⟨⟨h1,h2⟩,h3⟩,h4⟩:=h
   exact ZiR (by have:=ok.units;omega) (Z0e o ok tk h2).1 (Z0e i ok tk h3).1 (Z0e e ok tk h4).1 (Z4x h1)
  ·cases h
 | .oput o i e,X,c,G,W,tb,lv,ok,tk,po,fr,s,h=>by
  unfold Z1o at h;rw[IS.ev]
  split at h
  ·simp only[Bool.and_eq_true] at h
   obtain⟨⟨⟨⟨h1,h2⟩,h3⟩,h4⟩,hh⟩:=h
   exact Zjf ok.tab.dun (ok.room hh) ok.gd tk (Z0e o ok tk h2).1 (Z0e i ok tk h3).1 (Z0e e ok tk h4).1 (Z4x h1)
  ·cases h
 | .aug i z e,X,c,G,W,tb,lv,ok,tk,po,fr,s,h=>by
  unfold Z1o at h;rw[IS.ev]
  split at h
  ·simp only[Bool.and_eq_true,decide_eq_true_eq] at h
   obtain⟨⟨h1,rfl⟩,h3⟩:=h
   obtain⟨n1,n2,n3⟩:=Z4i (X:=X) h1 ok.hN ok.hs ok.hf
   exact S_aug ok.nd n1 n2 n3 (Z0e e ok tk h3).1
  ·cases h
 | .tri b j hd xm,X,c,G,W,tb,lv,ok,tk,po,fr,s,h=>by
  unfold Z1o at h;rw[IS.ev]
  split at h
  ·rename_i body x1 p1 x2 p2 x3 p3 kk tp n b0 suite pos' pos
   simp only[Bool.and_eq_true,decide_eq_true_eq] at h
   obtain⟨⟨⟨⟨⟨⟨⟨h3,h4⟩,h5⟩,h6,h7⟩,h8⟩,h9⟩,hm⟩,hh⟩:=h
   obtain⟨j1,j2,j3⟩:=Z4i (X:=X) h6 ok.hN ok.hs ok.hf
   have hx:=ok.cool hh
   exact S_tri fr.1 fr.2 ok.nd j1 (show X.env.kindOf n=some .local by unfold PySem.Env.kindOf;rw[ok.hs];exact h7) hx (Zbu ok h3) (Zbu ok h4) (Zbu ok h5)
    (fun k hk=>ok.tab.xm k (by have:=List.all_eq_true.mp hm k hk;simpa using this))
    (fun W pn xe tk po=>Z4y b (ok.tr hx pn xe) tk po fr h8)
    (fun a oe cls dd pn hz hd2=>Z4y hd (ZiJ ok hx a oe cls dd pn hz hd2) Z3l PassesOwn.never fr h9)
  ·cases h
 | .pass,X,c,G,W,tb,lv,ok,tk,po,fr,s,h=>by
  unfold Z1o at h;rw[IS.ev]
  split at h
  ·exact Zix
  ·cases h
 | .brk,X,c,G,W,tb,lv,ok,tk,po,fr,s,h=>by
  unfold Z1o at h;rw[IS.ev]
  split at h
  ·exact ZhB
  ·cases h
 | .cnt,X,c,G,W,tb,lv,ok,tk,po,fr,s,h=>by
  unfold Z1o at h;rw[IS.ev]
  split at h
  ·exact ZiA
  ·cases h
 | .doc,X,c,G,W,tb,lv,ok,tk,po,fr,s,h=>by
  unfold Z1o at h;rw[IS.ev]
  split at h
  ·exact S_doc
  ·cases h
theorem Z4y:∀ (is:List IS) {X:Cx} {c:CC} {G:Gh} {W:WX} {tb:Tab} {lv:Nat} (ok:Okx X c G tb lv) (tk:Takes X W) (po:PassesOwn (model X.prog X.w) X.A X.env X.xe) (fr:X.stack=X.env :: X.outer∧X.env.frame=some X.env.locals) {ss:List Stmt},Z1j c tb is ss=true→PSs X ss (tS G W (Z0i tb is))
 | [],X,c,G,W,tb,lv,ok,tk,po,fr,ss,h=>by
  unfold Z1j at h;rw[Z0i]
  split at h
  ·exact S_nil
  ·cases h
 | i :: is,X,c,G,W,tb,lv,ok,tk,po,fr,ss,h=>by
  unfold Z1j at h;rw[Z0i]
  split at h
  ·rw[Bool.and_eq_true] at h
   exact Zj7 (Zg6 i ok tk po fr h.1) (Z4y is ok tk po fr h.2)
  ·cases h
end
theorem ZiU(ok:Okx X c G tb lv)(tk:Takes X W)(po:PassesOwn (model X.prog X.w) X.A X.env X.xe)(fr:X.stack=X.env :: X.outer∧X.env.frame=some X.env.locals)(is:List IS){ss:List Stmt}(h:Z1j c tb is ss=true):PSs X ss (tS G W (Z0i tb is)):=Z4y is ok tk po fr h
end
end Eg
set_option maxHeartbeats 4000000
namespace Eg
open PySem PySem.Spec PyProof.Rows L2
theorem Z5x{A B:Type} [BEq A] [LawfulBEq A]:∀ {l:List (A × B)} {k:A} {v:B},l.lookup k=some v→(k,v)∈l
 | [],_,_,h=>by cases h
 | (a,b) :: l,k,v,h=>by
  rw[List.lookup_cons] at h
  cases e:k == a with
  | true =>
   rw[e] at h
   cases h
   rw[eq_of_beq e]
   exact List.mem_cons_self
  | false =>
   rw[e] at h
   exact List.mem_cons_of_mem _ (Z5x h)
structure DX where
 ad:PySem.W.Frag→Addr
 name:Str
 qual:Str
 params:Arguments
 body:List Stmt
 scope:Scope
 dfl:List T:=[]
def DX.val (d:DX):He.FnW:=some (d.name,(d.qual,(d.params,(FuncBody.stmts d.body,(d.scope,(mainGlobals,([],builtinsNs)))))))
def ZdE (K:PySem.W.Frag) (a:Addr):He.FnW:=match K.lookup a with
 | some ⟨_,_, .func g,_⟩=>some (g.name,(g.qualname,(g.params,(g.body,(g.scope,(g.globals,(g.closure,g.builtins)))))))
 | _=>none
def DX.fine (K:PySem.W.Frag) (d:DX):Bool:=PySem.W.keepIn K (.ref (d.ad K)) && (match K.lookup (d.ad K),kTs d.dfl with
 | some ⟨_,_, .func g,_⟩,some vs=>PySem.W.codeIn K g.code d.qual && He.dflB K g.defaults vs
 | _,_=>false)
def DX.Is (K:PySem.W.Frag) (d:DX) (fd:FuncData):Prop:=∃ vs,kTs d.dfl=some vs∧FunD K d.name d.qual d.params d.body d.scope vs [] (d.ad K) fd
theorem DX.is_of{K:PySem.W.Frag}{d:DX}(e:ZdE K (d.ad K)=d.val)(c:d.fine K=true):∃ fd,d.Is K fd:=by
 unfold DX.fine at c
 rw[Bool.and_eq_true] at c
 obtain⟨kp,c2⟩:=c
 unfold ZdE at e
 cases q:K.lookup (d.ad K) with
 | none=>rw[q] at c2;cases c2
 | some ob =>
  obtain⟨oc,od,dt,sl⟩:=ob
  rw[q] at c2 e
  cases kd:kTs d.dfl with
  | none=>rw[kd] at c2;cases dt <;> cases c2
  | some vs =>
   rw[kd] at c2
   cases dt with
   | func g =>
    obtain⟨a1,a2,a3,a4,a5,a6,a7,a8,a9,b1,b2,b3,b4,b5,b6⟩:=g
    have e2:(some (a1,(a2,(a3,(a4,(a5,(a6,(a7,b6))))))):He.FnW)=some (d.name,(d.qual,(d.params,(FuncBody.stmts d.body,(d.scope,(mainGlobals,([],builtinsNs))))))):=e
    simp only[Option.some.injEq,Prod.mk.injEq] at e2
    obtain⟨h1,h2,h3,h4,h5,h6,h7,h8⟩:=e2
    subst h1 h2 h3 h4 h5 h6 h7 h8
    have c3:(PySem.W.codeIn K b4 d.qual && He.dflB K a8 vs)=true:=c2
    rw[Bool.and_eq_true] at c3
    exact⟨_,vs,kd,⟨oc,od,a8,a9,b1,b2,b3,b4,b5,sl,rfl,q,c3.1,He.dflB_ok c3.2, .inl rfl⟩,kp⟩
   | _=>cases c2
def obsX (fx:PySem.W.Frag→Bool) (fn:List DX) (K:PySem.W.Frag):He.AlD:=(fx K && fn.all fun d=>d.fine K,fn.map fun d=>ZdE K (d.ad K))
def Za4 (fx:PySem.W.Frag→Bool) (fn:List DX) (K:PySem.W.Frag):Prop:=obsX fx fn K=(true,fn.map DX.val)
section
variable {fx:PySem.W.Frag→Bool} {fn:List DX} {K:PySem.W.Frag}
theorem Za4.facts(c:Za4 fx fn K):fx K=true:=by
 have c1:(fx K && fn.all fun d=>d.fine K)=true:=congrArg (fun z:He.AlD=>z.1) c
 rw[Bool.and_eq_true] at c1
 exact c1.1
theorem Za4.def_(c:Za4 fx fn K)(i:Nat){d:DX}(h:fn[i]? = some d:=by rfl):∃ fd,d.Is K fd:=by
 have c1:(fx K && fn.all fun d=>d.fine K)=true:=congrArg (fun z:He.AlD=>z.1) c
 rw[Bool.and_eq_true] at c1
 have e:(fn.map fun d=>ZdE K (d.ad K))=fn.map DX.val:=congrArg (fun z:He.AlD=>z.2) c
 have e2:(fn.map fun d=>ZdE K (d.ad K))[i]? = (fn.map DX.val)[i]?:=by rw[e]
 rw[List.getElem?_map,List.getElem?_map,h] at e2
 exact DX.is_of (Option.some.inj e2) (List.all_eq_true.mp c1.2 d (List.mem_of_getElem? h))
end
structure CS where
 name:Str
 fl:List Str
 props:List Str
 called:Bool
 meths:List Str:=[]
structure Sx where
 cons:List (Str × T)
 cs:List CS
 isi:List ((Ty × Tg) × Bool)
 tgs:List (Str × Tg)
 xs:List (Str × Option Str):=[]
 xex:List Nat:=[]
 xis:List ((Nat × Tg) × Bool):=[]
 xfl:List (Nat × Str):=[]
 xcs:List (Nat × Str):=[]
 xk:List Nat:=[]
 xm:List Nat:=[]
 lam:List He.Defn:=[]
 dns:List (Nat × Str):=[]
 nes:List Nat:=[]
 ids:List Nat:=[]
 cmx:List (Nat × Str):=[]
def Sx.nm (sx:Sx) (c:Nat):Str:=match sx.cs[c]? with
 | some d=>d.name
 | none=>((sx.xs[c - 100]?).map (·.1)).getD ""
def Sx.fd (sx:Sx) (c:Nat):List Str:=match sx.cs[c]? with
 | some d=>d.fl
 | none=>((sx.xs[c - 100]?).bind (·.2)).toList
def lamN (x:He.Defn):Str:=match x.2 with
 | none=>x.1
 | some m=>x.1 ++ "." ++ m
def lamQ (x:He.Defn):Str:=lamN x ++ ".<locals>." ++ "<lambda>"
def pgA (K:PySem.W.Frag) (C:Addr) (f:Str):Addr:=match PySem.W.recIn K (He.ma K C f) "property" with
 | some (.ref g :: _)=>g
 | _=>0
def gh (sx:Sx) (K:PySem.W.Frag):Gh:=⟨K,fun c=>He.ga K (sx.nm c),sx.fd,sx.lam.map fun x=>((He.cT K x).2,lamQ x),none⟩
theorem gh_cl{sx:Sx}{K:PySem.W.Frag}{k:Nat}{c:CS}(h:sx.cs[k]? = some c):(gh sx K).cl k=He.ga K c.name:=by
 show He.ga K (sx.nm k)=_
 unfold Sx.nm
 rw[h]
theorem ZhA{sx:Sx}{K:PySem.W.Frag}{k:Nat}{c:CS}(h:sx.cs[k]? = some c):(gh sx K).fl k=c.fl:=by
 show sx.fd k=_
 unfold Sx.fd
 rw[h]
def Zdx (K:PySem.W.Frag) (C:Addr):Bool:=decide (PySem.W.findIn K (.ref C) "__getattribute__" = some (some (.builtin "BaseException.__getattribute__"))) && (decide (PySem.W.findIn K (.ref C) "__getattr__" = some none) && (decide (PySem.W.subIn K (.ref C) (.type "BaseException")=some true) && (PySem.W.hasDictIn K C &&
 (decide (PySem.W.findIn K (.ref C) "__class__" = some (some (.builtin "object.__class__"))) && (decide (PySem.W.specialIn K (.builtin "object.__class__") "__get__" = some (some (.builtin "getset_descriptor.__get__"))) && (decide (PySem.W.takesIn K (.builtin "object.__class__")=some true) && decide (PySem.W.mroIn K C (.type "object")=some true)))))))
theorem Zil{K:PySem.W.Frag}{C:Addr}(h:Zdx K C=true):ExcC K C:=by
 unfold Zdx at h
 simp only[Bool.and_eq_true,decide_eq_true_eq] at h
 obtain⟨h1,h2,h3,h4,h5,h6,h7,h8⟩:=h
 exact⟨h1,h2,h3,h4,h5,h6,h7,h8⟩
def ZcF (b:XB) (C:Addr):Obj→Bool
 | ⟨.type "type",_, .cls cd,sl⟩=>(match cd.mro,sl.toList with
  | .ref C' :: bm,[_,_,_,_,some (.builtin n),_]=>decide (C'=C) && (decide (n=b.newId) && (!cd.hasDel && (cd.hasDict && Z4s b bm)))
  | _,_=>false)
 | _=>false
def ZfB (K:PySem.W.Frag) (C:Addr):Bool:=(match K.lookup C with
 | some o=>ZcF .val C o || (ZcF .arith C o || ZcF .look C o)
 | none=>false) && (decide (PySem.W.findIn K (.ref C) "__setattr__" = some (some (.builtin "object.__setattr__"))) && (decide (PySem.W.subIn K (.ref C) (.type "BaseException")=some true) && (decide (PySem.W.typeIn K (.ref C)=some (.type "type")) && PySem.W.keepIn K (.ref C))))
theorem ZhC{b:XB}{C:Addr}{o:Obj}(q:ZcF b C o=true):∃ nm qn N bs bm sn sub ab col dd k0 k1 k2 k3 k5,o=excClassObj nm qn C N bs bm true sn sub ab col dd k0 k1 k2 k3 k5 b.newId∧Z4s b bm=true:=by
 unfold ZcF at q
 split at q
 ·rename_i dd cd sl
  split at q
  ·rename_i C' bm k0 k1 k2 k3 n k5 hm hs
   simp only[Bool.and_eq_true,decide_eq_true_eq,Bool.not_eq_true'] at q
   obtain⟨e1,e2,hdel,hdict,ht⟩:=q
   obtain⟨nm,bs,mro,ns,qn,hd,sn,sub,ab,col,del⟩:=cd
   dsimp only at hm hdel hdict
   subst hm hdel hdict e1 e2
   have hsl:sl = #[k0,k1,k2,k3,some (.builtin b.newId),k5]:=by
    obtain⟨l⟩:=sl
    simp only at hs
    rw[hs]
   subst hsl
   exact⟨nm,qn,ns,bs,bm,sn,sub,ab,col,dd,k0,k1,k2,k3,k5,rfl,ht⟩
  ·cases q
 ·cases q
theorem Zi9{K:PySem.W.Frag}{C:Addr}(h:ZfB K C=true):OexX K C:=by
 unfold ZfB at h
 simp only[Bool.and_eq_true,decide_eq_true_eq] at h
 obtain⟨h1,h2,h3,h4,h5⟩:=h
 cases e:K.lookup C with
 | none=>rw[e] at h1;cases h1
 | some o =>
  rw[e] at h1
  have go:∀ b,ZcF b C o=true→OexX K C:=fun b q=>by
   obtain⟨nm,qn,N,bs,bm,sn,sub,ab,col,dd,k0,k1,k2,k3,k5,e2,ht⟩:=ZhC q
   subst e2
   exact⟨⟨b,nm,qn,N,bs,bm,sn,sub,ab,col,dd,k0,k1,k2,k3,k5,e,ht⟩,h2,h3,h4,h5⟩
  simp only[Bool.or_eq_true] at h1
  rcases h1 with q | q | q
  ·exact go _ q
  ·exact go _ q
  ·exact go _ q
def Zfx (K:PySem.W.Frag) (C:Addr):Bool:=(PySem.W.excIn K C XB.val.tl XB.val.newId || (PySem.W.excIn K C XB.arith.tl XB.arith.newId || PySem.W.excIn K C XB.look.tl XB.look.newId)) && (PySem.W.keepIn K (.ref C) && (decide (PySem.W.subIn K (.ref C) (.type "BaseException")=some true) && decide (PySem.W.typeIn K (.ref C)=some (.type "type"))))
theorem ZhD{K:PySem.W.Frag}{G:Gh}{c:Nat}(h:Zfx K (G.cl c)=true):XnOk K G c:=by
 unfold Zfx at h
 simp only[Bool.and_eq_true,Bool.or_eq_true,decide_eq_true_eq] at h
 obtain⟨h1,h2,h3,h4⟩:=h
 refine⟨?_,h2,h3,h4⟩
 rcases h1 with q | q | q
 ·exact⟨_,q⟩
 ·exact⟨_,q⟩
 ·exact⟨_,q⟩
def Sx.xfine (sx:Sx) (K:PySem.W.Frag):Bool :=
 (sx.xex.all fun c=>Zdx K ((gh sx K).cl c)) && ((sx.xis.all fun e=>sx.xex.contains e.1.1 && decide (PySem.W.kitOne K (.ref ((gh sx K).cl e.1.1)) (Z6w (gh sx K) e.1.2)=some e.2)) &&
 ((sx.xfl.all fun p=>xfB K ((gh sx K).cl p.1) && (decide (PySem.W.findIn K (.ref ((gh sx K).cl p.1)) p.2=some none) && decide ((gh sx K).fl p.1=[p.2]))) &&
 ((sx.xcs.all fun p=>if p.2=("" : Str) then Zfx K ((gh sx K).cl p.1) else ZfB K ((gh sx K).cl p.1) && (decide (PySem.W.findIn K (.ref ((gh sx K).cl p.1)) p.2=some none) && (decide ((gh sx K).fl p.1=[p.2]) && (decide (PySem.W.findIn K (.ref ((gh sx K).cl p.1)) "__init__" = some (some (.ref (He.ma K ((gh sx K).cl p.1) "__init__")))) &&
   decide (PySem.W.typeIn K (.ref (He.ma K ((gh sx K).cl p.1) "__init__"))=some (.type "function")))))) &&
 ((sx.xm.all fun c=>decide (PySem.W.exmAny K (.ref ((gh sx K).cl c)) (sx.xk.map fun k => .ref ((gh sx K).cl k))=some true)) &&
 (sx.lam.all fun x=>decide ((He.cT K x).2≠mainGlobals) && sx.lam.all fun y => !decide ((He.cT K y).2=(He.cT K x).2) || decide (y=x))))))
def Zf8 (K:PySem.W.Frag) (C:Addr) (f:Str):Bool:=decide (PySem.W.findIn K (.ref C) f=some (some (.ref (He.ma K C f)))) && (decide (PySem.W.specialIn K (.ref (He.ma K C f)) "__get__" = some (some (.builtin "property.__get__"))) &&
 (decide (PySem.W.takesIn K (.ref (He.ma K C f))=some true) && (match PySem.W.recIn K (He.ma K C f) "property" with
   | some (.ref _ :: _)=>true
   | _=>false)))
def CS.fine (K:PySem.W.Frag) (c:CS):Bool:=He.Fa.ok K (.cls c.name) && (decide (PySem.W.findIn K (.ref (He.ga K c.name)) "__class__" = some (some (.builtin "object.__class__"))) && (decide (PySem.W.mroIn K (He.ga K c.name) (.type "object")=some true) &&
 ((c.fl.all fun f=>He.Fa.ok K (.noat c.name f)) && ((c.props.all fun f=>Zf8 K (He.ga K c.name) f) && ((!c.called || He.Fa.ok K (.mkr c.name)) && c.meths.all fun m=>He.Fa.ok K (.meth c.name m))))))
def cgA (K:PySem.W.Frag) (C:Addr) (m:Str):Addr:=He5.wf K C "classmethod" m
def Sx.dfine (sx:Sx) (K:PySem.W.Frag):Bool :=
 (sx.dns.all fun p=>He.Fa.ok K (.meth (sx.nm p.1) p.2) && (!Zhh p.2 || (PySem.W.noSeq K ((gh sx K).cl p.1) && PySem.W.fnIn K (He.ma K ((gh sx K).cl p.1) p.2)))) && (((sx.nes.all fun c=>decide (PySem.W.findIn K (.ref ((gh sx K).cl c)) "__ne__" = some (some (.builtin "object.__ne__"))) && decide (PySem.W.mroIn K ((gh sx K).cl c) (.type "object")=some true)) && sx.ids.all fun c=>decide (PySem.W.findIn K (.ref ((gh sx K).cl c)) "__eq__" = some (some (.builtin "object.__eq__"))) && (decide (PySem.W.findIn K (.ref ((gh sx K).cl c)) "__ne__" = some (some (.builtin "object.__ne__"))) && (decide (PySem.W.mroIn K ((gh sx K).cl c) (.type "object")=some true) && decide (PySem.W.mroIn K ((gh sx K).cl c) (.type "tuple")=some false)))) &&
 (sx.cmx.all fun p=>PySem.W.readsIn K ((gh sx K).cl p.1) (.type "type") && (decide (PySem.W.specialIn K (.ref ((gh sx K).cl p.1)) "__getattribute__" = some (some (.builtin "type.__getattribute__"))) &&
   (He5.wrapB K ((gh sx K).cl p.1) "classmethod" "classmethod.__get__" p.2 && PySem.W.fnIn K (cgA K ((gh sx K).cl p.1) p.2)))))
def Sx.fine (sx:Sx) (K:PySem.W.Frag):Bool :=
 (Z6r.all fun x=>He.Fa.ok K (.free x)) && ((sx.cons.all fun p=>match PySem.W.nsIn K mainGlobals p.1,kT p.2 with
  | some (some u),some v=>He.relB v u
  | _,_=>false) && ((sx.cs.all fun c=>c.fine K) && ((sx.isi.all fun e=>decide (PySem.W.kitOne K (Zfv (gh sx K) e.1.1) (Z6w (gh sx K) e.1.2)=some e.2)) &&
  ((sx.tgs.all fun p=>match p.2 with
    | .ty n=>He.Fa.ok K (.free p.1) && decide (bootBuiltins p.1=some (.type n))
    | .cls k=>decide (PySem.W.nsIn K mainGlobals p.1=some (some (.ref ((gh sx K).cl k))))) &&
  (sx.xfine K && ((sx.cs.isEmpty || (decide (PySem.W.specialIn K (.builtin "object.__class__") "__get__" = some (some (.builtin "getset_descriptor.__get__"))) && decide (PySem.W.takesIn K (.builtin "object.__class__")=some true))) && sx.dfine K))))))
def Sx.cls (sx:Sx) (prs:List (List (Str × (List T→Sto→R T)))) (mts:List (List (Str × Fn)):=[]):List Ci:=sx.cs.mapIdx fun k c=>⟨c.fl,(prs[k]?).getD [],(mts[k]?).getD []⟩
section
variable {P:Program} {w:World} {K:PySem.W.Frag} {mg:Str→Option Value} {base:Heap} {lv j:Nat} {G:Gh} {sx:Sx}
theorem Sx.fineD(h:sx.fine K=true):sx.dfine K=true:=by
 unfold Sx.fine at h
 simp only[Bool.and_eq_true] at h
 exact h.2.2.2.2.2.2.2
theorem duno:ZfD P w K mg base lv G []:=fun c x F e=>by simp at e
def Zhq (P:Program) (w:World) (K:PySem.W.Frag) (mg:Str→Option Value) (base:Heap) (lv:Nat) (G:Gh) (l:List (Nat × Fn)):Prop:=∀ q,q∈l→CmOk P w K mg base lv G q.1 q.2
theorem cmno:Zhq P w K mg base lv G []:=fun q h=>by cases h
end
def Z7f {A:Type} (xs ys:List A):Prop:=∀ x,x∈xs→x∈ys
theorem sbn{A:Type}{ys:List A}:Z7f [] ys:=fun x h=>by cases h
theorem sbc{A:Type}{x:A}{xs ys:List A}(i:Nat)(r:Z7f xs ys)(h:ys[i]? = some x:=by rfl):Z7f (x :: xs) ys:=fun z hz=>by
 rcases List.mem_cons.mp hz with rfl | hz
 ·exact List.mem_of_getElem? h
 ·exact r z hz
def Z0a (P:Program) (w:World) (K:PySem.W.Frag) (mg:Str→Option Value) (base:Heap) (lv:Nat) (G:Gh) (fn:Fn):Prop:=∃ f,mg fn.name=some (.ref f)∧PySem.W.keepIn K (.ref f)=true∧Cal P w K mg base lv G fn.ks fn.F f
section
variable {P:Program} {w:World} {K:PySem.W.Frag} {mg:Str→Option Value} {base:Heap} {lv j:Nat} {G:Gh} {sx:Sx} {h:Heap}
def Zck (P:Program) (w:World) (K:PySem.W.Frag) (mg:Str→Option Value) (base:Heap) (lv:Nat) (G:Gh) (fn:Fn):Prop:=∃ f,mg fn.name=some (.ref f)∧PySem.W.keepIn K (.ref f)=true∧HCal P w K mg base lv G fn.F f
def Zce (P:Program) (w:World) (K:PySem.W.Frag) (mg:Str→Option Value) (base:Heap) (lv:Nat) (G:Gh) (h:Hd):Prop:=∃ f,mg h.name=some (.ref f)∧PySem.W.keepIn K (.ref f)=true∧TCal P w K mg base lv G h.FT f
theorem Zck.mono{fn:Fn}(c:Zck P w K mg base j G fn)(hl:j≤lv):Zck P w K mg base lv G fn:=let ⟨f,h1,h2,h3⟩:=c; ⟨f,h1,h2,fun y A outer s H us vs Q E r g a b d e z q=>h3 y A outer s H us vs Q E (r.mono hl) g a b d e z q⟩
theorem Zce.mono{h:Hd}(c:Zce P w K mg base j G h)(hl:j≤lv):Zce P w K mg base lv G h:=let ⟨f,h1,h2,h3⟩:=c; ⟨f,h1,h2,fun A outer s H fl co q Q tl l h r g e a b t=>h3 A outer s H fl co q Q tl l (Nat.le_trans hl h) r g e a b t⟩
def ZeV (P:Program) (w:World) (K:PySem.W.Frag) (mg:Str→Option Value) (base:Heap) (lv:Nat) (G:Gh) (l:List Fn):Prop:=∀ fn,fn∈l→Zck P w K mg base lv G fn
theorem hno:ZeV P w K mg base lv G []:=fun fn h=>by cases h
def Zhs (P:Program) (w:World) (K:PySem.W.Frag) (mg:Str→Option Value) (base:Heap) (lv:Nat) (G:Gh) (l:List Hd):Prop:=∀ h,h∈l→Zce P w K mg base (lv+1) G h
theorem tno:Zhs P w K mg base lv G []:=fun fn h=>by cases h
def Zho (P:Program) (w:World) (K:PySem.W.Frag) (mg:Str→Option Value) (base:Heap) (lv:Nat) (G:Gh) (l:List (Nat × Str)):Prop:=∀ p,p∈l→Zh9 P w K mg base lv G p.1 p.2
theorem xno:Zho P w K mg base lv G []:=fun fn h=>by cases h
theorem Z0a.mono{fn:Fn}(c:Z0a P w K mg base j G fn)(hl:j≤lv):Z0a P w K mg base lv G fn:=let ⟨f,h1,h2,h3⟩:=c; ⟨f,h1,h2,h3.mono hl⟩
def ZbY (P:Program) (w:World) (K:PySem.W.Frag) (mg:Str→Option Value) (base:Heap) (lv:Nat) (G:Gh) (l:List Fn):Prop:=∀ fn,fn∈l→Z0a P w K mg base lv G fn
theorem fno:ZbY P w K mg base lv G []:=fun fn h=>by cases h
theorem fco{fn:Fn}{l:List Fn}(c:Z0a P w K mg base j G fn)(r:ZbY P w K mg base lv G l)(hl:j≤lv:=by decide):ZbY P w K mg base lv G (fn :: l):=fun g hg=>by
 rcases List.mem_cons.mp hg with rfl | hg
 ·exact c.mono hl
 ·exact r g hg
def ZeH (P:Program) (w:World) (K:PySem.W.Frag) (mg:Str→Option Value) (base:Heap) (lv:Nat) (sx:Sx) (prs:List (List (Str × (List T→Sto→R T)))):Prop :=
 ∀ (k:Nat) c ps f F,sx.cs[k]? = some c→prs[k]? = some ps→ps.lookup f=some F→f∈c.props∧Cal P w K mg base lv (gh sx K) [] F (pgA K (He.ga K c.name) f)
theorem pno:ZeH P w K mg base lv sx []:=fun k c ps f F h1 h2=>by simp at h2
def Zep (P:Program) (w:World) (K:PySem.W.Frag) (mg:Str→Option Value) (base:Heap) (lv:Nat) (sx:Sx) (mts:List (List (Str × Fn))):Prop :=
 ∀ (k:Nat) c ms key fn,sx.cs[k]? = some c→mts[k]? = some ms→ms.lookup key=some fn→fn.name∈c.meths∧fn.name ∉ c.fl∧Cal P w K mg base lv (gh sx K) fn.ks fn.F (He.ma K (He.ga K c.name) fn.name)
theorem mno:Zep P w K mg base lv sx []:=fun k c ms key fn h1 h2=>by simp at h2
theorem ZgE{C:Addr}{f:Str}(hp:Zf8 K C f=true):PropOf K C f (He.ma K C f) (pgA K C f):=by
 unfold Zf8 at hp
 simp only[Bool.and_eq_true,decide_eq_true_eq] at hp
 obtain⟨h1,h2,h3,h4⟩:=hp
 refine⟨h1,h2,h3, ?_⟩
 unfold pgA
 split at h4
 ·rename_i g rest e;rw[e];exact⟨rest,rfl⟩
 ·cases h4
theorem Z4p(X:K.In h)(Gn:h.Ns mainGlobals mg)(fine:sx.fine K=true)(nd:∀ c,c∈sx.cs→c.fl.Nodup∧c.fl.length < 1000){tb:Tab}{prs:List (List (Str × (List T→Sto→R T)))}(hf:ZbY P w K mg base lv (gh sx K) tb.funs)(hp:ZeH P w K mg base lv sx prs)
  (sc:Z7f tb.cons sx.cons) (si:Z7f tb.isi sx.isi) (stg:Z7f tb.tgs sx.tgs) {mts:List (List (Str × Fn))} (hmt:Zep P w K mg base lv sx mts) (scl:∃ n,tb.cls=(sx.cls prs mts).take n)
  (hh:ZeV P w K mg base lv (gh sx K) tb.hfuns) (sx1:Z7f tb.xis sx.xis) (sx2:Z7f tb.xfl sx.xfl) (hxc:Zho P w K mg base lv (gh sx K) tb.xcs) (ht:Zhs P w K mg base lv (gh sx K) tb.hds)
  (hdu:ZfD P w K mg base lv (gh sx K) tb.dun:=by exact duno) (hne:Z7f tb.nes sx.nes:=by exact sbn) (hcm:Zhq P w K mg base lv (gh sx K) tb.cmf:=by exact cmno) (hid:Z7f tb.ids sx.ids:=by exact sbn) (hxm:∀ c∈tb.xm,PySem.W.exmAny K (.ref ((gh sx K).cl c)) [.ref ((gh sx K).cl 100), .ref ((gh sx K).cl 117), .ref ((gh sx K).cl 119)]=some true:=by exact fun c h=>by cases h):TabOk P w K mg base lv (gh sx K) tb:=by
 have fine0:=fine
 unfold Sx.fine at fine
 simp only[Bool.and_eq_true] at fine
 have fd:=Sx.fineD fine0
 obtain⟨f1,f2,f3,f4,f5,fx,f6,_⟩:=fine
 unfold Sx.xfine at fx
 simp only[Bool.and_eq_true] at fx
 obtain⟨x1,x2,x3,_⟩:=fx
 refine⟨fun x hx=>He.free_ok X Gn (List.all_eq_true.mp f1 x hx),fun j p e => ?_,fun j fn e=>hf fn (List.mem_of_getElem? e),fun k ci e => ?_,fun ty g b e => ?_,fun j fn e=>hh fn (List.mem_of_getElem? e),fun c g b e => ?_,fun c f e => ?_,fun c f e=>hxc _ (Z5x e),fun j h e=>ht h (List.mem_of_getElem? e),hdu,fun c hc => ?_,fun c hc => ?_,hxm,fun j q e=>hcm q (List.mem_of_getElem? e),fun x g e => ?_⟩
 ·have:=List.all_eq_true.mp f2 p (sc p (List.mem_of_getElem? e))
  split at this
  ·rename_i u v e1 e2
   exact⟨u,v,(PySem.W.mg_of X Gn e1),He.relB_ok this,e2⟩
  ·cases this
 ·have e:(sx.cls prs mts)[k]? = some ci:=by
   obtain⟨n,z⟩:=scl
   rw[z,List.getElem?_take] at e
   split at e
   ·exact e
   ·cases e
  unfold Sx.cls at e
  rw[List.getElem?_mapIdx] at e
  cases ec:sx.cs[k]? with
  | none=>rw[ec] at e;cases e
  | some c =>
   rw[ec] at e
   have e:(⟨c.fl,(prs[k]?).getD [],(mts[k]?).getD []⟩:Ci)=ci:=by simpa using e
   subst e
   have hc:=List.all_eq_true.mp f3 c (List.mem_of_getElem? ec)
   unfold CS.fine at hc
   simp only[Bool.and_eq_true,decide_eq_true_eq] at hc
   obtain⟨c1,c2,c3,c4,c5,c6,c7⟩:=hc
   have ecl:(gh sx K).cl k=He.ga K c.name:=gh_cl ec
   have efl:(gh sx K).fl k=c.fl:=ZhA ec
   have hne:sx.cs.isEmpty=false:=by cases hcs:sx.cs with
    | nil=>rw[hcs] at ec;simp at ec
    | cons _ _=>rfl
   rw[hne,Bool.false_or] at f6
   simp only[Bool.and_eq_true,decide_eq_true_eq] at f6
   obtain⟨n1,n2⟩:=nd c (List.mem_of_getElem? ec)
   refine⟨efl,by rw[ecl];exact He.cls_ok c1,by rw[ecl];exact c2,f6.1,f6.2,by rw[ecl];exact c3,fun f hf=>by rw[ecl];exact He.noat_ok (List.all_eq_true.mp c4 f hf),n1,n2,fun f F hl => ?_,fun key fn hl => ?_⟩
   rotate_left
   ·have hl:((mts[k]?).getD []).lookup key=some fn:=hl
    cases em:mts[k]? with
    | none=>rw[em] at hl;cases hl
    | some ms =>
     rw[em] at hl
     obtain⟨h1,h2,h3⟩:=hmt k c ms key fn ec em hl
     exact⟨h2,_,by rw[ecl];exact He.meth_ok (List.all_eq_true.mp c7 _ h1),h3⟩
   have hl:((prs[k]?).getD []).lookup f=some F:=hl
   cases ep:prs[k]? with
   | none=>rw[ep] at hl;cases hl
   | some ps =>
    rw[ep] at hl
    obtain⟨h1,h2⟩:=hp k c ps f F ec ep hl
    exact⟨_,_,by rw[ecl];exact ZgE (List.all_eq_true.mp c5 f h1),h2⟩
 ·have:=List.all_eq_true.mp f4 _ (si _ (Z5x e))
  simpa using this
 ·have:=List.all_eq_true.mp x2 _ (sx1 _ (Z5x e))
  rw[Bool.and_eq_true,decide_eq_true_eq] at this
  exact⟨Zil (List.all_eq_true.mp x1 c (by simpa using this.1)),this.2⟩
 ·have:=List.all_eq_true.mp x3 _ (sx2 _ (Z5x e))
  simp only[Bool.and_eq_true,decide_eq_true_eq] at this
  exact⟨xfB_ok this.1,this.2.1,this.2.2⟩
 ·unfold Sx.dfine at fd
  simp only[Bool.and_eq_true] at fd
  have z:=List.all_eq_true.mp fd.2.1.1 c (hne c hc)
  simp only[Bool.and_eq_true,decide_eq_true_eq] at z
  exact z
 ·unfold Sx.dfine at fd
  simp only[Bool.and_eq_true] at fd
  have z:=List.all_eq_true.mp fd.2.1.2 c (hid c hc)
  simp only[Bool.and_eq_true,decide_eq_true_eq] at z
  exact⟨z.1,z.2.1,z.2.2.1,z.2.2.2⟩
 ·have:=List.all_eq_true.mp f5 _ (stg _ (Z5x e))
  cases g with
  | ty n =>
   simp only[Bool.and_eq_true,decide_eq_true_eq] at this
   exact .inl ⟨n,rfl,He.free_ok X Gn this.1,this.2⟩
  | cls k =>
   rw[decide_eq_true_eq] at this
   exact .inr ⟨k,rfl,PySem.W.mg_of X Gn this⟩
end
section
variable {P:Program} {w:World} {K:PySem.W.Frag} {mg:Str→Option Value} {base:Heap} {lv:Nat} {G:Gh}
def scB (N ps:List Str) (sc:Scope):Bool:=C8.scC N ps sc
theorem Z4j{d:DX}{fd:FuncData}{N ps:List Str}{tb:Tab}{body:List IS}{md:Bool}(F:d.Is K fd)(hG:G.K=K)(hx:G.xa=none)(tab:TabOk P w K mg base lv G tb)(kc:Z6v G tb.cls)(hs:scB N ps d.scope=true)
  (chk:Z1j ⟨N,d.scope,fun _=>true,false,false⟩ tb body d.body=true):FnG P w K mg base (lv+2) (d.ad K) fd ps (Spec G (den tb.cls md ps.length N.length (Z0i tb body))):=by
 obtain⟨vs,_,F⟩:=F
 obtain⟨oc,od,dV,kV,doc,pm,an,cdv,ct,osl,rfl,lk,hcd,_⟩:=F.ex
 have S:FnScope N ps d.scope:=C8.fnScope_by hs
 refine ZiG (lv:=lv+1) kc lk hcd S fun A outer s H E room grd => ?_
 have ok:Okx (cxOf (L2.CX P w) P w K mg base N d.qual d.scope (d.ad K) cdv A outer s H E) ⟨N,d.scope,fun _=>true,false,false⟩ G tb lv:=⟨rfl,rfl,rfl,S.nd,hG.symm,fun _=>rfl,fun _=>room,L2H.roomH_of room,(fun y z=>by rw[hx] at z;cases z),(fun z=>by cases z),(fun _=>hx),(fun z=>by cases z),grd,tab⟩
 exact ZiU ok (takes_of rfl rfl rfl rfl) (passes_of rfl) ⟨rfl,rfl⟩ body chk
theorem ZiY{d:DX}{fd:FuncData}{ps:List Str}{n j:Nat}{F:List T→Sto→R T}{dts:List T}(D:d.Is K fd)(c:FnG P w K mg base lv (d.ad K) fd ps (Spec G F))(hm:mg d.name=some (.ref (d.ad K)))(hdt:d.dfl.drop j=dts)
  (hb:∀ vs,kTs d.dfl=some vs→FunD K d.name d.qual d.params d.body d.scope vs [] (d.ad K) fd→∃ ds,Vals (vs.drop j) ds∧Binds K fd ps ds) (hn:n+dts.length=ps.length):Z0a P w K mg base lv G ⟨d.name,[],Z0u n dts F⟩:=by
 obtain⟨vs,hk,FD⟩:=D
 obtain⟨ds,hd,hbb⟩:=hb vs hk FD
 refine⟨d.ad K,hm,FD.kp,Zim c hbb hd ?_ hn⟩
 subst hdt
 have:∀ {ts:List T} {vs:List V} (j:Nat),kTs ts=some vs→kTs (ts.drop j)=some (vs.drop j):=fun {ts}=>by
  induction ts with
  | nil=>intro vs j h;cases h;simp[kTs]
  | cons t ts ih =>
   intro vs j h
   cases j with
   | zero=>simpa using h
   | succ j =>
    have h:(match kT t,kTs ts with
     | some v,some vs=>some (v :: vs)
     | _,_=>none)=some vs:=h
    cases e1:kT t with
    | none=>rw[e1] at h;cases h
    | some v =>
     cases e2:kTs ts with
     | none=>rw[e1,e2] at h;cases h
     | some r =>
      rw[e1,e2] at h
      cases h
      simpa using ih j e2
 exact this j hk
theorem Z4d{d:DX}{fd:FuncData}{ps:List Str}{F:List T→Sto→R T}(D:d.Is K fd)(c:FnG P w K mg base lv (d.ad K) fd ps (Spec G F))(hm:mg d.name=some (.ref (d.ad K)))(hdt:d.dfl=[])
  (h:∀ (kV doc pm:Value) (an:Option Addr) (cdv ct:Value) (us:List Value),us.length=ps.length→bindArgs (PySem.W.fnOf d.name d.qual d.params d.body d.scope .none kV doc pm an cdv ct) ⟨us,[]⟩=pure (ps.zip us)):Z0a P w K mg base lv G ⟨d.name,[],Z0u ps.length [] F⟩:=by
 refine ZiY (j:=0) D c hm (by rw[hdt];rfl) (fun vs hk FD => ?_) (by simp)
 rw[hdt] at hk
 cases hk
 exact⟨[], .nil,FunD.bindsN FD h⟩
theorem Z3e{sx:Sx}{cl:List Ci}{prs:List (List (Str × (List T→Sto→R T)))}{mts:List (List (Str × Fn))}(scl:∃ n,cl=(sx.cls prs mts).take n):Z6v (gh sx K) cl:=fun c ci e=>by
 obtain⟨n,z⟩:=scl
 rw[z,List.getElem?_take] at e
 split at e
 rotate_left
 ·cases e
 ·skip
  unfold Sx.cls at e
  rw[List.getElem?_mapIdx] at e
  cases ec:sx.cs[c]? with
  | none=>rw[ec] at e;cases e
  | some d =>
   rw[ec] at e
   have e:(⟨d.fl,(prs[c]?).getD [],(mts[c]?).getD []⟩:Ci)=ci:=by simpa using e
   subst e
   exact ZhA ec
end
theorem Zhv{K:PySem.W.Frag}{x qual:Str}{params:Arguments}{body:List Stmt}{scope:Scope}{f:Addr}{fd:FuncData}(F:FunD K x qual params body scope [] [] f fd){s:Shared}{us:List Value}{kw:List (Str × Value)}{r:List (Str × Value)}
  (h:∀ (kV doc pm:Value) (an:Option Addr) (cdv ct:Value),bindArgs (PySem.W.fnOf x qual params body scope .none kV doc pm an cdv ct) ⟨us,kw⟩=pure r):BindsTo s fd ⟨us,kw⟩ r:=by
 obtain⟨oc,od,dV,kV,doc,pm,an,cdv,ct,osl,rfl,lk,hcd,hD,hK⟩:=F.ex
 rcases hD with ⟨_,rfl⟩ | ⟨e,_⟩
 ·exact .of_eq (h kV doc pm an cdv ct)
 ·exact absurd rfl e
theorem fd_eq{K:PySem.W.Frag}{d:DX}{fd fd2:FuncData}(a:d.Is K fd2)(b:d.Is K fd):fd2=fd:=by
 obtain⟨_,_,A⟩:=a
 obtain⟨_,_,B⟩:=b
 obtain⟨oc,od,dV,kV,doc,pm,an,cdv,ct,osl,e1,lk,_⟩:=A.ex
 obtain⟨oc2,od2,dV2,kV2,doc2,pm2,an2,cdv2,ct2,osl2,e2,lk2,_⟩:=B.ex
 rw[lk] at lk2
 simp only[Option.some.injEq,Obj.mk.injEq,Data.func.injEq] at lk2
 exact lk2.2.2.1
def Zhf (n:Nat) (F:List T→Sto→R T):Prop:=∀ ns:List Int,ns.length≤n→(∀ k∈ns,PySem.Builtin.Int.intBits k≤1048576)→F [.scr ns] [] = .ok (.bl true) []
theorem ZhQ{P:Program}{w:World}{K:PySem.W.Frag}{mg mb:Str→Option Value}{k:Nat}{fa a:Addr}{fd:FuncData}{x:Str}{F:List T→Sto→R T}{G:Gh}{s₁ : Shared}{vs:List Value}{ns:List Int}
  (inH:K.In s₁.heap) (gl:s₁.heap.Ns mainGlobals mg) (bl:s₁.heap.Ns builtinsNs mb) (bb:∀ x:Str,x ≠ "__name__" → mb x=bootBuiltins x) (nl:s₁.heap.NoLimit) (gs:s₁.gens = #[])
  (obj:s₁.heap.get? a=some { cls := .type "list",data := .seq vs.toArray }) (are:IntsAre vs ns) (small:ns.length≤sizeLine) (room:Room k callerA) (hG:G.K=K) (htb:G.tb=[])
  (promise:∀ ground:Heap,K.In ground→ground.Ns mainGlobals mg→FnG P w K mg ground k fa fd [x] (Spec G F)) (binds:∀ (s:Shared) (u:Value),BindsTo s fd ⟨[u],[]⟩ [(x,u)])
  (gives:F [.scr ns] [] = .ok (.bl true) []) :
  codeAny (model P w) callerA (.call (.ref fa) ⟨[.ref a],[]⟩) (fun r s'=>r = .ok (.ret (.bool true))∧OldK s₁.heap s'.heap∧s'.os=s₁.os∧AllBare s'.gens) s₁:=by
 have vals:=vals_ints are
 have same:=are.length
 have go:∀ Hs:Hp,Only Hs→SqL K Hs a (ns.map V.int)→HOk P w Hs s₁.heap→(∀ b,Hs b≠none→b=a)→(Hs a≠none→K.lookup a=none) →
   codeAny (model P w) callerA (.call (.ref fa) ⟨[.ref a],[]⟩) (fun r s'=>r = .ok (.ret (.bool true))∧OldK s₁.heap s'.heap∧s'.os=s₁.os∧AllBare s'.gens) s₁:=by
  intro Hs only sq held alone apart
  have keep:∀ {b:Addr} {u:Obj},s₁.heap.get? b=some u→Hs b=none→(hidT s₁.heap Hs).get? b=some u:=fun z n=>hidT_get z n
  have isA:∀ {b:Addr} {u:HO},Hs b=some u→b=a:=fun {b u} z=>alone b (by rw[z];exact nofun)
  have dictFree:∀ {b:Addr} {u:Obj} {es:Array DictEntry} {ep:Nat},s₁.heap.get? b=some u→u.data = .dict es ep→Hs b=none:=fun {b u es ep} z dz=>by
   cases q:Hs b with
   | none=>rfl
   | some v =>
    have z2:=isA q
    subst z2
    rw[obj] at z
    cases z
    exact absurd dz (by simp)
  have nsG:∀ {b:Addr} {m:Str→Option Value},s₁.heap.Ns b m→(hidT s₁.heap Hs).Ns b m:=fun {b m} ⟨u,es,ep,z,dz,more⟩=>⟨u,es,ep,keep z (dictFree z dz),dz,more⟩
  have inG:K.In (hidT s₁.heap Hs):=fun b u z=>keep (inH b u z) (by
   cases q:Hs b with
   | none=>rfl
   | some v =>
    have z2:=isA q
    subst z2
    rw[apart (by rw[q];exact nofun)] at z
    cases z)
  have md:Mod K mg (hidT s₁.heap Hs):=⟨inG,nsG gl,⟨mb,nsG bl,bb⟩,let ⟨mc,z1,z2⟩:=nl; ⟨mc,nsG z1,z2⟩⟩
  have start0:Env0 P w K mg (hidT s₁.heap Hs) callerA [] s₁ Hs:=⟨rfl,md,fun b u z=>of_hidT z,Nat.le_of_eq (hidT_size _ _),trivial,fun b hb=>absurd (show b∈([]:List Addr) from hb) List.not_mem_nil,held, .of_eq gs⟩
  have sp:Spec G F [.ref a] Hs (fun v _=>v = .bl true) (fun _ _ _=>False):=by
   refine⟨⟨[],fun _=>False⟩,[],[.scr ns],⟨⟨rfl,fun i t e=>by simp at e⟩,⟨List.nodup_nil,(fun a h=>by cases h),rfl,(fun i a c h=>by simp at h),(fun a h=>h.elim),fun x hx=>by rw[htb] at hx;cases hx⟩⟩,⟨.ref a,[],rfl,⟨a,rfl, ?_⟩,rfl⟩, ?_⟩
   ·rcases sq with sq | sq
    ·exact .inl ⟨fun z=>z.elim (fun z=>by cases z) id,sq⟩
    ·exact .inr (by rw[hG];exact sq)
   ·rw[gives]
    exact fun b H' m' _ _ r=>r
  refine codeAny_mono ((promise _ inG (nsG gl)).go callerA [] s₁ Hs ⟨[.ref a],[]⟩ [.ref a] [.ref a] _ _ room rfl start0 (binds s₁ (.ref a)) (.cons rfl .nil) rfl sp) fun r s2 z => ?_
  match r,z with
  | .error e,z =>
   obtain⟨_,_,_,_,_,_,_,_,_,_,_,_,no⟩:=z
   exact no.elim
  | .ok .next,z=>exact z.elim
  | .ok .brk,z=>exact z.elim
  | .ok .cont,z=>exact z.elim
  | .ok (.ret u),z =>
   obtain⟨v,H2,os,bare,un,held2,rv,ev⟩:=z
   have ev:v = .bl true:=ev
   subst ev
   obtain rfl:u=Value.bool true:=rv
   refine⟨rfl,OldK.of_keep fun b ob zb => ?_,os,bare⟩
   cases q:Hs b with
   | none=>exact un.keep b ob zb q (fun y=>absurd (show b∈([]:List Addr) from y) List.not_mem_nil) List.not_mem_nil
   | some v =>
    rcases only b with y | ⟨o3,xs,y⟩
    ·rw[q] at y;cases y
    ·have y2:=un.frzs b o3 _ y
     obtain⟨y3,_⟩:=held b _ y
     obtain⟨y4,_⟩:=held2 b _ y2
     rw[zb] at y3
     cases y3
     exact y4
 cases known:K.lookup a with
 | some ob =>
  have z:=inH a ob known
  rw[obj] at z
  cases z
  exact go (fun _=>none) (fun _ => .inl rfl) (.inr ⟨_,vs.toArray,_,known,rfl,rfl,rfl,by rw[List.size_toArray,same];exact small,by simpa using vals⟩) (fun b u z=>nomatch (show(none:Option HO)=some u from z)) (fun b z=>absurd rfl z) fun z=>absurd rfl z
 | none =>
  have at1:∀ b,(if b=a then some (HO.frz { cls := .type "list",data := .seq vs.toArray } (.lst (ns.map V.int))) else none)≠none→b=a:=fun b z=>by
   by_cases hb:b=a
   ·exact hb
   ·rw[if_neg hb] at z;exact absurd rfl z
  refine go (fun b=>if b=a then some (.frz { cls := .type "list",data := .seq vs.toArray } (.lst (ns.map V.int))) else none) (fun b => ?_) (.inl (.inr ⟨_,if_pos rfl⟩)) (fun b u z => ?_) at1 fun _=>known
  ·by_cases hb:b=a
   ·exact .inr ⟨_,_,if_pos hb⟩
   ·exact .inl (if_neg hb)
  ·have hb:=at1 b (fun no=>by rw[show(if b=a then some (HO.frz { cls := .type "list",data := .seq vs.toArray } (.lst (ns.map V.int))) else none)=some u from z] at no;cases no)
   subst hb
   have z2:=(if_pos rfl).symm.trans z
   cases z2
   exact⟨obj,by rw[List.length_map];exact small,vs,_,vals,obj⟩
theorem walk_end{l:PySem.W.OpenLaw}{n k:Nat}{q:Program}{loose:List Str}{XP:(Str→Option Value)→Heap→Prop}{YP:World→Heap→Prop}{d:DefRec}{x:Str}(most:l.most=some n)(mostS:n≤sizeLine)(nodf:d.params.defaults=[])(room:Room k callerA)
  {F:List T→Sto→R T} (gives:Zhf n F)
  (all:∀ (w:World) (mg:Str→Option Value) (fa:Addr) (h:Heap),YP w h→h.Ns mainGlobals mg→mg d.name=some (.ref fa) →
    ∃ (K:PySem.W.Frag) (fd:FuncData) (G:Gh),K.In h∧G.K=K∧G.tb=[]∧(∀ (s:Shared) (u:Value),BindsTo s fd ⟨[u],[]⟩ [(x,u)])∧∀ ground:Heap,K.In ground→ground.Ns mainGlobals mg→FnG l.prog w K mg ground k fa fd [x] (Spec G F)) :
  PySem.W.WalkO q loose XP YP l.row.toRowW d [] (fun f vs=>PySem.call f vs):=by
 refine Att.attach_callB most nodf fun w s₀ s₁ mg mb fa o pm cd doc a vs ns B Y _ _ _ found obj are len bits gs => ?_
 obtain⟨K,fd,G,inH,hG,htb,hb,hF⟩:=all w mg fa _ Y B.T.g found
 exact ZhQ inH B.T.g B.T.b B.T.builtins B.T.nolimit gs obj are (Nat.le_trans len mostS) room hG htb hF hb (gives ns len bits)
end Eg
set_option maxHeartbeats 2000000
namespace Eg
open PySem PySem.Spec PyProof.Rows L2
section
variable {G:Gh} {m:Mm} {H:Hp}
end
section
variable {P:Program} {w:World} {K:PySem.W.Frag} {mg:Str→Option Value} {base:Heap} {lv:Nat} {G:Gh}
end
end Eg
set_option maxHeartbeats 2000000
namespace Eg
open PySem PySem.Spec PyProof.Rows L2
def Z4q (r:PySem.W.OpenRow) (M:Nat) (w:World) {A:Type} (f:PySem.W.SharedT→A) (v:A):Prop :=
 ∀ os:OsState,(HandSHeadRun.endF (HandSHeadRun.stepQ (HandSHeadRun.denQ HandSHeadRun.tabQ) r.prog w) M r.prog w os).map f=some v
theorem Z4q.pair{r:PySem.W.OpenRow}{M:Nat}{w:World}{A B C:Type}{f:PySem.W.SharedT→A}{g:PySem.W.SharedT→B}{h:PySem.W.SharedT→C}{a:A}{b:B}{c:C}(k:A→B→C)(hk:∀ s,h s=k (f s) (g s))(e:k a b=c)(h1:Z4q r M w f a)(h2:Z4q r M w g b):Z4q r M w h c:=fun os=>by
 have a1:=h1 os
 have a2:=h2 os
 generalize HandSHeadRun.endF (HandSHeadRun.stepQ (HandSHeadRun.denQ HandSHeadRun.tabQ) r.prog w) M r.prog w os=o at a1 a2 ⊢
 cases o with
 | none=>cases a1
 | some s =>
  have b1:f s=a:=Option.some.inj a1
  have b2:g s=b:=Option.some.inj a2
  show some (h s)=some c
  rw[hk,b1,b2,e]
theorem ZgJ{r:PySem.W.OpenRow}{q:Program}{H:PySem.W.Hook}{ob:PySem.W.SharedT→H.α}{M:Nat}{loose:List PySem.Str}{w:World}
  (h1:Z4q r M w (fun s=>HandSHeadRun.looksF r.prog (PySem.W.boot_heap w.params) s.abs) true)
  (h2:Z4q r M w (fun s=>HandSHeadRun.seenQ q loose (importedModules r.prog.main.body) (fun s=>PySem.W.xlAt q [] s && PySem.W.recOk r.toRowW.records s) s.abs) (PySem.W.openGood q loose))
  (h3:Z4q r M w ob (H.val w)):HandSHeadRun.RunEq r q H ob M loose w :=
 Z4q.pair (fun a b=>(a,b)) (fun s=>rfl) rfl h1 (Z4q.pair (fun a b=>(a,b)) (fun s=>rfl) rfl h2 h3)
def addB:List Addr→Nat→List Addr→(Nat→List Addr→List Addr)→List Addr
 | [],m,f,k=>k m f
 | a :: r,m,f,k=>match Nat.beq (Nat.land (Nat.shiftRight m a) 1) 0 with
  | true=>HandSHeadRun.frNat (Nat.lor m (Nat.shiftLeft 1 a)) fun m'=>addB r m' (a :: f) k
  | false=>addB r m f k
def goB (g:Addr→Option Obj):Nat→List Addr→Nat→List Addr→List Addr
 | 0,_,_,all=>all
 | n+1,fr,m,all=>addB (fr.flatMap fun a=>match g a with
  | some o=>He.refsD o
  | none=>[]) m [] fun m' f=>goB g n f m' (f++all)
def adsB (g:Addr→Option Obj) (n:Nat):List Addr:=goB g n [mainGlobals] (Nat.shiftLeft 1 mainGlobals) [mainGlobals]
def ZfF (n:Nat) (fx:PySem.W.Frag→Bool) (fn:List DX) (g:Addr→Option Obj):He.AlD:=obsX fx fn (He.frG g (adsB g n))
def Zh8 (n:Nat) (fx:PySem.W.Frag→Bool) (fn:List DX):PySem.W.Hook where
 α:=He.AlD
 obs:=fun s=>ZfF n fx fn s.heap.get?
 val:=fun _=>(true,fn.map DX.val)
 says:=fun _ h=>∃ K:PySem.W.Frag,K.In h∧Za4 fx fn K
 of:=fun _ _ z=>⟨_,He.frG_in,z⟩
 keeps:=fun _ _ _ ⟨K,hin,c⟩ k=>⟨K,PySem.W.Frag.In.keeps hin k,c⟩
theorem ZgP{n:Nat}{fx:PySem.W.Frag→Bool}{fn:List DX}{g:Addr→Option Obj}{s:Shared}(h:∀ a,g a=s.heap.get? a):ZfF n fx fn g=(Zh8 n fx fn).obs s:=by
 have e:g=s.heap.get?:=funext h
 subst e
 rfl
end Eg
set_option maxHeartbeats 2000000
namespace Eg
open PySem PySem.Spec PyProof.Rows L2
end Eg
set_option maxHeartbeats 2000000
namespace Eg
open PySem PySem.Spec PyProof.Rows L2
section
variable {X:Cx} {G:Gh} {W:WX} {t u:TS} {a b:List Stmt}
end
inductive Bk where
 | ss (d:Bool) (l:List IS) | forD (g:IG) (it:II) (b:List IS)
noncomputable def Bk.ev (tb:Tab):Bk→Fs
 | .ss d l=>if d=true then Zae tb.cls (Z0i tb l) else Z0i tb l
 | .forD g it b=>Zdj (it.ev tb) g (Zae tb.cls (Z0i tb b))
def Bk.n:Bk→Nat
 | .ss _ l=>l.length
 | .forD _ _ _=>1
def Bk.chk (c:CC) (tb:Tab) (k:Bk) (sts:List Stmt):Bool:=match k with
 | .ss _ l=>Z1j c tb l sts
 | .forD g it b=>match sts with
  | [s]=>Z1o c tb (.for_ g it b) s
  | _=>false
section
variable {X:Cx} {G:Gh} {W:WX} {c:CC} {tb:Tab} {lv:Nat}
end
section
variable {P:Program} {w:World} {K:PySem.W.Frag} {mg:Str→Option Value} {base:Heap} {lv:Nat} {G:Gh}
end
end Eg
set_option maxHeartbeats 4000000
namespace Eg
open PySem PySem.Spec PyProof.Rows L2 LamX
structure Td where
 pre:List (Nat × IE)
 i:Nat
 j:Nat
 hd:List IS
 post:List IS
 xm:List Nat
noncomputable def Zhd (tb:Tab) (k:Fs):List (Nat × IE)→Fs
 | []=>k
 | (i,e) :: r=>fun env st=>(e.ev tb env st).go env fun t st1=>if 0 < i∧i < env.length then Zhd tb k r (env.set i (some t)) st1 else .bad
def coolO:O→O
 | .rt t st=>if (noX t && st.all Za1)=true then .rt t st else .bad
 | _ => .bad
noncomputable def Td.tryO (tb:Tab) (d:Td) (act:Sto→R T):Fs:=fun env st=>match act st with
 | .ok t st2=>if d.i < env.length then Z0i tb d.post (env.set d.i (some t)) st2 else .bad
 | .exc (.exc c ts) st2=>if c∈d.xm∧d.j < env.length then coolO (Z0i tb.hot d.hd (env.set d.j (some (.exc c ts))) st2) else .bad
 | _ => .bad
noncomputable def Td.ft (tb:Tab) (d:Td) (n:Nat) (act:Sto→R T) (st:Sto):R T:=Zdr [] false st.length (Zhd tb (d.tryO tb act) d.pre (List.replicate n none) st)
section
variable {X:Cx} {c:CC} {G:Gh} {tb:Tab} {lv:Nat}
end
section
variable {G:Gh} {m:Mm} {H:Hp} {cs:List Ci}
end
section
variable {P:Program} {w:World} {K:PySem.W.Frag} {mg:Str→Option Value} {base:Heap} {lv:Nat} {G:Gh}
end
end Eg
set_option maxHeartbeats 4000000
namespace Eg
open PySem PySem.Spec PyProof.Rows L2 LamX
section
variable {P:Program} {w:World} {K:PySem.W.Frag} {mg:Str→Option Value} {base:Heap} {lv:Nat} {G:Gh}
structure LamIn (K:PySem.W.Frag) (mg:Str→Option Value) (base:Heap) (G:Gh) (d:DX) (x:He.Defn):Prop where
 had:d.ad K=He.fAd K x
 dq:d.qual=lamN x
 tb:TabB base mg (He.cT K x).1 (He.cT K x).2
 mem:((He.cT K x).2,lamQ x)∈G.tb
 only:∀ y∈G.tb,y.1=(He.cT K x).2→y.2=lamQ x
def ZfY (f:Str):List Stmt→Bool
 | [.Assign [.Attribute (.Name s _) y _] (.Name z _) _]=>decide (s = "self") && decide (y=f) && decide (z=f)
 | _=>false
def Zfa (sc:Scope) (x:Str):Bool:=match sc.names.lookup x with
 | some .local=>true
 | some .cell=>true
 | some .free=>true
 | _=>false
theorem Zf3{sc:Scope}{x:Str}(h:Zfa sc x=true):L2.Vis sc x:=by
 unfold Zfa at h
 unfold L2.Vis
 split at h
 ·rename_i z;exact .inl z
 ·rename_i z;exact .inr (.inl z)
 ·rename_i z;exact .inr (.inr z)
 ·cases h
def Zhb (f:Str) (d:DX):Bool:=ZfY f d.body && (scB ["self",f] ["self",f] d.scope && (Zfa d.scope "self" && (Zfa d.scope f && (!(f == ("__debug__" : Str)) && !(f == ("__classdict__" : Str))))))
theorem xn_of{sx:Sx}{c:Nat}(fine:sx.fine K=true)(hc:(c,("" : Str))∈sx.xcs):XnOk K (gh sx K) c:=by
 unfold Sx.fine at fine
 simp only[Bool.and_eq_true] at fine
 obtain⟨_,_,_,_,_,fx,_⟩:=fine
 unfold Sx.xfine at fx
 simp only[Bool.and_eq_true] at fx
 obtain⟨_,_,_,x4,_⟩:=fx
 have z:=List.all_eq_true.mp x4 _ hc
 rw[if_pos rfl] at z
 exact ZhD z
end
end Eg
set_option maxHeartbeats 4000000
namespace Eg
open PySem PySem.Spec PyProof.Rows L2 LamX
end Eg
set_option maxHeartbeats 4000000
namespace Eg
open PySem PySem.Spec PyProof.Rows L2 LamX
def Zje:List (Str × Option Str):=[("WrongValue",none),("InvalidText",some "given"),("InvalidNumber",some "given"),("InvalidName",some "given"),("InvalidTables",some "given"),("InvalidRound",some "given"),("InvalidSchedule",some "given"),("InvalidWish",some "given"),("InvalidIndex",some "given"),
 ("NotAFair",some "given"),("InvalidHosts",some "index"),("InvalidGuests",some "index"),("InvalidMeetings",some "index"),("InvalidUrgent",some "index"),("InvalidGrowth",some "index"),("InvalidChanges",some "index"),("InvalidAsked",some "index"),
 ("WrongName",none),("UnknownName",some "given"),("NoAnswer",none),("TooFewRounds",some "given"),("TooMany",some "given"),("NothingToUndo",none),("Broken",some "index")]
def xVal:List Nat:=[101,102,103,104,105,106,107,108,109,110,111,112,113,114,115,116]
def xOwn:List Nat:=xVal++[118,120,121,122,123]
def xUn (c k:Nat):Bool:=Nat.beq (if Nat.ble c 116 then 0 else if Nat.ble c 118 then 1 else 2) k
def xTgs (c:Nat):List ((Nat × Tg) × Bool):=[((c, .cls 100),xUn c 0),((c, .cls 117),xUn c 1),((c, .cls 119),xUn c 2),((c, .ty "ValueError"),xUn c 0),((c, .ty "LookupError"),xUn c 1),((c, .ty "ArithmeticError"),xUn c 2)]++xOwn.map fun k=>((c, .cls k),Nat.beq c k)
def XIS (l:List Nat):List ((Nat × Tg) × Bool):=l.flatMap xTgs
def XFL (l:List Nat):List (Nat × Str):=List.filter (fun p=>l.contains p.1) [(101, "given"),(102, "given"),(103, "given"),(104, "given"),(105, "given"),(106, "given"),(107, "given"),(108, "given"),(109, "given"),(110, "index"),(111, "index"),(112, "index"),(113, "index"),(114, "index"),(115, "index"),(116, "index"),(118, "given"),(120, "given"),(121, "given"),(123, "index")]
theorem sbr{A:Type}{xs:List A}:Z7f xs xs:=fun _ h=>h
section
variable {P:Program} {w:World} {K:PySem.W.Frag} {mg:Str→Option Value} {base:Heap} {lv:Nat} {G:Gh}
end
end Eg
set_option maxHeartbeats 4000000
namespace Eg
open PySem PySem.Spec PyProof.Rows L2
section
variable {P:Program} {w:World} {K:PySem.W.Frag} {mg:Str→Option Value} {base:Heap} {lv:Nat} {G:Gh}
end
end Eg
set_option maxHeartbeats 4000000
namespace PySem
namespace HandSPX
open Builtin Builtin.ObjectAttr
section
variable {M:Model} {A:Around} {E:Value→Shared→Prop} {h:Heap} {g:Array GenState} {d:Drawn} {t:Nat} {os:OsState}
variable {nm q:Str} {C N:Addr} {bs bm bmB:List Value} {hdct:Bool} {sn:List Str} {sub:List Value} {ab:Bool} {col:Option Bool} {dd:Option Addr} {k0 k1 k2 k3 k5:Option Value} {B newId initId:String} {kws:List (Str × Value)}
theorem Zft(F:ExcBaseFacts B newId initId bmB)(hT:∀ X:String,bm.contains (.type X)=bmB.contains (.type X)){rest:List Value}{Q:Unit→Shared→Prop}
  (hC:h.get? C=some (excClassObj nm q C N bs bm hdct sn sub ab col dd k0 k1 k2 k3 k5 newId)) (hq:Q () ⟨h,g,d,t,os⟩):wpAny M A (checkBuiltinCall newId ⟨.ref C :: rest,kws⟩) Q E ⟨h,g,d,t,os⟩:=by
 have hcont:(Value.ref C :: bm).contains (.type B)=true:=by rw[List.contains_cons,hT,F.hasB,Bool.or_true]
 have hstar:=F.noStar
 simp only[checkBuiltinCall,F.newKind,F.newSplit,F.newRow]
 repeat (first | refine wpAny_loadPart_at hC ?_ | (refine wpAny_isSubtype_exc hC ?_;rw[hcont]) | refine wpAny_staticBase_exc hC ?_ | refine wpAny_madeBy_exc hC ?_ | simp only[bne_self_eq_false,Bool.false_eq_true,if_false] | wp_step)
 exact hq
end
section
variable {prog:Program} {w:World} {A:Around} {E:Value→Shared→Prop} {R:Result→Shared→Prop} {h:Heap} {g:Array GenState} {d:Drawn} {t:Nat} {os:OsState}
variable {nm q:Str} {C N:Addr} {bs bm bmB:List Value} {hdct:Bool} {sn:List Str} {sub:List Value} {ab:Bool} {col:Option Bool} {dd:Option Addr} {k0 k1 k2 k3 k5:Option Value} {B newId initId:String} {kws:List (Str × Value)}
theorem ZgN(F:ExcBaseFacts B newId initId bmB)(hT:∀ X:String,bm.contains (.type X)=bmB.contains (.type X)){rest:List Value}
  (hC:h.get? C=some (excClassObj nm q C N bs bm hdct sn sub ab col dd k0 k1 k2 k3 k5 newId))
  (hq:R (.ok (.ret (.ref (h.objs.size+1)))) ⟨(h.push { cls := .type "tuple",data := .seq rest.toArray }).push (excO C h.objs.size),g,d,t,os⟩) (hrest:rest.length≤sizeLine) :
  codeAny (model prog w) A (.builtin newId ⟨.ref C :: rest,kws⟩) R ⟨h,g,d,t,os⟩:=by
 have hends:=F.ends
 have hcB:(Value.ref C :: bm).contains (.type B)=true:=by rw[List.contains_cons,hT,F.hasB,Bool.or_true]
 have hcA:(Value.ref C :: bm).contains (.type "AttributeError")=false:=by rw[List.contains_cons,hT,F.noAttr];rfl
 have hcN:(Value.ref C :: bm).contains (.type "NameError")=false:=by rw[List.contains_cons,hT,F.noName];rfl
 refine codeAny_builtinAt F.entry ?_
 unfold Builtin.«BaseException.__new__»
 refine wpAt_bind ?_
 show wpAt _ _ _ (stack >>= _) _ _ _
 refine wpAt_bind (wpAt_stack fun p below=>wpAt_of_wpAny ?_)
 wp_walk
 refine wpAt_of_wpAny ?_
 rw[F.owner]
 repeat (first | with_reducible refine wpAny_madeHere_exc F.canon hC ?_ | with_reducible refine wpAny_loadPart_at hC ?_ | (with_reducible refine wpAny_isSubtype_exc hC ?_;first | rw[hcB] | rw[hcA] | rw[hcN]) | wp_step)
 show R _ _
 rw[Heap.size_push]
 exact hq
theorem Zgl(F:ExcBaseFacts B newId initId bmB)(hT:∀ X:String,bm.contains (.type X)=bmB.contains (.type X)){rest:List Value}{fI:Addr}{Q:Fin→Shared→Prop}
  (hC:h.get? C=some (excClassObj nm q C N bs bm hdct sn sub ab col dd k0 k1 k2 k3 k5 newId))
  (hi:W.Looks (model prog w) h (typeLookup (.ref C) "__init__") (some (.ref fI))) (hb:∀ self,W.Looks (model prog w) h (bindSpecial (.ref fI) self) (.ref fI,[self])) (hrest:rest.length≤sizeLine)
  (hq:codeAny (model prog w) A (.call (.ref fI) ⟨.ref (h.objs.size+1) :: rest,kws⟩)
    (fun r s'=>match r with | .ok (.ret v)=>v = .none∧Q (.done (.ret (.ref (h.objs.size+1)))) s' | .ok _=>False | .error e=>E e s')
    ⟨(h.push (W.kdv_tup rest)).push (excO C h.objs.size),g,d,t,os⟩) :
  wpAny (model prog w) A (Builtin.«type.__call__» ⟨.ref C :: rest,kws⟩) Q E ⟨h,g,d,t,os⟩:=by
 repeat (first | with_reducible refine wpAny_loadPart_at hC ?_ | with_reducible refine wpAny_madeBy_exc hC ?_ | wp_step)
 refine codeAny_call_builtin_code (Code.quiet_builtin _ F.quiet) (Zft F hT hC ?_)
 refine ZgN F hT hC ?_ hrest
 show wpAny _ _ _ _ _ _
 have k:∀ b o,h.get? b=some o→((h.push (W.kdv_tup rest)).push (excO C h.objs.size)).get? b=some o:=fun b o e=>Heap.get?_push_of_some _ (Heap.get?_push_of_some _ e)
 have hC₁:=k _ _ hC
 have hget:((h.push (W.kdv_tup rest)).push (excO C h.objs.size)).get? (h.objs.size+1)=some (excO C h.objs.size):=by heap_get
 have hcC:(Value.ref C :: bm).contains (.ref C)=true:=by simp
 have i1:=hi.keeps k
 have b1:=(hb (.ref (h.objs.size+1))).keeps k
 unfold isInstance
 repeat (first | with_reducible refine wpAny_loadPart_at hget ?_ | (with_reducible refine wpAny_isSubtype_exc hC₁ ?_;rw[hcC]) | wp_step)
 show wpAny _ _ (typeLookup (.ref C) _) _ _ _
 refine i1.at ?_
 refine wpAny_holding (wpAny_bind (b1.at ?_))
 refine wpAny_bind (wpAny_call (codeAny_mono hq fun r s' z => ?_))
 rcases r with e | (v | _ | _ | _) <;> first | exact z | exact z.elim | skip
 obtain⟨rfl,z⟩:=z
 first
  | exact wpAny_pure (wpAny_pure z)
  | (wp_walk;exact z)
theorem held_own(F:ExcBaseFacts B newId initId bmB)(hT:∀ X:String,bm.contains (.type X)=bmB.contains (.type X)){rest:List Value}{fI:Addr}
  (hC:h.get? C=some (excClassObj nm q C N bs bm hdct sn sub ab col dd k0 k1 k2 k3 k5 newId))
  (hi:W.Looks (model prog w) h (typeLookup (.ref C) "__init__") (some (.ref fI))) (hb:∀ self,W.Looks (model prog w) h (bindSpecial (.ref fI) self) (.ref fI,[self])) (hrest:rest.length≤sizeLine)
  (hq:codeAny (model prog w) (A.under (.builtin "type.__call__" ⟨.ref C :: rest,kws⟩)) (.call (.ref fI) ⟨.ref (h.objs.size+1) :: rest,kws⟩) (W.InitBack (h.objs.size+1) R)
    ⟨(h.push (W.kdv_tup rest)).push (excO C h.objs.size),g,d,t,os⟩) :
  codeAny (model prog w) A (.call (.ref C) ⟨rest,kws⟩) R ⟨h,g,d,t,os⟩:=by
 have f1:=tc_lookup
 have f2:=tc_bind (.ref C)
 have hTy:(⟨h,g,d,t,os⟩:Shared).TypeIs (.ref C) "type":=⟨_,hC,rfl⟩
 refine codeAny_of_tree ?_
 show wpAny _ _ (callAny (.ref C) _) _ _ _
 repeat (any_goals (first | assumption | with_reducible refine wpAny_loadPart_at hC ?_ | wp_step))
 refine⟨rfl, ?_⟩
 refine codeAny_call_builtin_at (Code.quiet_builtin _ (by decide +kernel)) entry_typeCall (wpAny_check_type_call_sub hC (Zgl F hT hC hi hb hrest ?_))
 refine codeAny_mono hq fun r s' z => ?_
 rcases r with e | (v | _ | _ | _) <;> exact z
end
end HandSPX
end PySem
namespace Eg
open PySem PySem.Calls PyProof.Rows PySem.HandSPX
section
open Builtin Builtin.ObjectAttr
variable {prog:Program} {w:World} {A:Around} {R:Result→Shared→Prop} {h:Heap} {g:Array GenState} {d:Drawn} {t:Nat} {os:OsState}
variable {nm q:Str} {C N:Addr} {bs bm bmB:List Value} {hdct:Bool} {sn:List Str} {sub:List Value} {ab:Bool} {col:Option Bool} {dd:Option Addr} {k0 k1 k2 k3 k5:Option Value} {B newId initId:String}
theorem ZgC(F:ExcBaseFacts B newId initId bmB)(T:OwnTail h bmB bm){mN:Str→Option Value}
  (hC:h.get? C=some (excClassObj nm q C N bs bm hdct sn sub ab col dd k0 k1 k2 k3 k5 newId)) (hn:h.Ns N mN) (hni:mN "__init__" = none)
  (hq:∀ h' e,Heap.MadeExcOf h h' e (.ref C) []→R (.ok (.ret (.ref e))) ⟨h',g,d,t,os⟩):codeAny (model prog w) A (.call (.ref C) ⟨[],[]⟩) R ⟨h,g,d,t,os⟩:=by
 have f1:=tc_lookup
 have f2:=tc_bind (.ref C)
 have hT:(⟨h,g,d,t,os⟩:Shared).TypeIs (.ref C) "type":=⟨_,hC,rfl⟩
 refine codeAny_of_tree ?_
 show wpAny _ _ (callAny (.ref C) _) _ _ _
 repeat (any_goals (first | assumption | with_reducible refine wpAny_loadPart_at hC ?_ | wp_step))
 refine⟨rfl, ?_⟩
 refine codeAny_call_builtin_at (Code.quiet_builtin _ (by decide +kernel)) entry_typeCall (wpAny_check_type_call_sub hC (wpAny_type_call_exc_subT (hrest:=Nat.zero_le _) F T hC hn hni fun h' e hm => ?_))
 exact hq h' e hm
end
end Eg
namespace Eg
open PySem PySem.Spec PyProof.Rows L2
def exF (c:Nat):List T→Sto→R T:=fun ts st=>match ts with
 | [t] => .ok (.exh c [t]) st
 | _ => .bad
def ex0 (c:Nat):List T→Sto→R T:=fun ts st=>match ts with
 | [] => .ok (.exh c []) st
 | _ => .bad
section
variable {P:Program} {w:World} {K:PySem.W.Frag} {mg:Str→Option Value} {base:Heap} {lv:Nat} {G:Gh} {kn:List Str} {c:Nat} {f:Str} {fI:Addr} {fd:FuncData}
theorem Zf1(T:OexX K (G.cl c))(hfl:G.fl c=[f])(iC:PySem.W.findIn K (.ref (G.cl c)) "__init__" = some (some (.ref fI)))(tI:PySem.W.typeIn K (.ref fI)=some (.type "function"))
  (F1:FnOk P w K mg base (L2.CX P w) lv fI fd (["self",f]:List Str) (spI (G.cl c) f))
  (hb:∀ (s:Shared) (self:Value) (us ws:List Value),K.In s.heap→us.length+ws.length=1→ws.length=kn.length→BindsTo s fd ⟨self :: us,kn.zip ws⟩ ((["self",f]:List Str).zip (self :: (us++ws)))) :
  Cal P w K mg base (lv+1) G kn (exF c) (G.cl c):=fun A outer s H us ws vs zs Q E hr hg e0 rv rz lz q=>by
 obtain⟨m,st,ts,rs,r,q⟩:=q
 match ts,r,q with
 | [],r,q=>exact q.elim
 | _ :: _ :: _,r,q=>exact q.elim
 | [t],⟨v,r0,ev,rt,hr0⟩,q =>
 cases (show r0=[] from hr0)
 have q:Rn G (fun cls d _ H'=>E cls d H') [] [] (Rp G) m H (.ok (.exh c [t]) st) (Kq Q):=q
 have rvz:=rv.append rz
 have hlen:us.length+ws.length=1:=by
  have e:=rvz.length
  rw[ev] at e
  simpa using e.symm
 have lw:ws.length=kn.length:=by rw[← rz.length];exact lz
 have inH:K.In s.heap:=e0.mod.kin.keeps fun b o z=>(e0.bs b o z).1
 obtain⟨b0,nm,qn,N,bs,bm,sn,sub,ab,col,dd,k0,k1,k2,k3,k5,hC,hbm⟩:=T.cls
 have ha:H (s.heap.objs.size+1)=none:=e0.hok.fresh (Nat.le_succ _)
 have kk:∀ b o,s.heap.get? b=some o→((s.heap.push (PySem.W.kdv_tup us)).push (PySem.HandSPX.excO (G.cl c) s.heap.objs.size)).get? b=some o:=fun b o e=>Heap.get?_push_of_some _ (Heap.get?_push_of_some _ e)
 have hget:((s.heap.push (PySem.W.kdv_tup us)).push (PySem.HandSPX.excO (G.cl c) s.heap.objs.size)).get? (s.heap.objs.size+1)=some (PySem.HandSPX.excO (G.cl c) s.heap.objs.size):=by heap_get
 have ok2:HOk P w (L2.upd H (s.heap.objs.size+1) (exo (s.heap.objs.size+1) (G.cl c) none)) ((s.heap.push (PySem.W.kdv_tup us)).push (PySem.HandSPX.excO (G.cl c) s.heap.objs.size)):=e0.hok.laid kk (Nat.le_succ _) (exo_ok hget)
 have fr:∀ b,H b≠none∨(∃ o,s.heap.get? b=some o)→(L2.upd H (s.heap.objs.size+1) (exo (s.heap.objs.size+1) (G.cl c) none)) b=H b:=fun b hb=>by
  have hlt:b < s.heap.objs.size:=by
   rcases hb with hb | ⟨o,hb⟩
   ·cases eb:H b with
    | none=>exact absurd eb hb
    | some o=>exact e0.hok.lt eb
   ·exact Heap.lt_size hb
  rw[upd_ne (Nat.ne_of_lt (Nat.lt_succ_of_lt hlt))]
 have e0':Env0 P w K mg base A outer { s with heap:=(s.heap.push (PySem.W.kdv_tup us)).push (PySem.HandSPX.excO (G.cl c) s.heap.objs.size) } (L2.upd H (s.heap.objs.size+1) (exo (s.heap.objs.size+1) (G.cl c) none)) :=
  ⟨e0.frames,e0.mod,fun b o z=>⟨kk b o (e0.bs b o z).1,by rw[fr b (.inr ⟨o,(e0.bs b o z).1⟩)];exact(e0.bs b o z).2⟩,Nat.le_trans e0.bsz (by show _≤(Heap.push _ _).objs.size;rw[Heap.size_push,Heap.size_push];omega),
    Heap.FunFrames.of_keeps (fun b o z _=>⟨o,kk b o z,rfl⟩) e0.funs,fun b hb=>by
     obtain⟨_,o,ho,_⟩:=e0.funs.mem hb
     rw[fr b (.inr ⟨o,ho⟩)];exact e0.frf b hb,ok2,e0.bare⟩
 have unOut:∀ {H3:Hp} {h3:Heap},Un (frs outer) [] (L2.upd H (s.heap.objs.size+1) (exo (s.heap.objs.size+1) (G.cl c) none)) H3 ((s.heap.push (PySem.W.kdv_tup us)).push (PySem.HandSPX.excO (G.cl c) s.heap.objs.size)) h3→Un (frs outer) [] H H3 s.heap h3:=fun u =>
  ⟨fun b o z n hb hx=>u.keep b o (kk b o z) (by rw[fr b (.inr ⟨o,z⟩)];exact n) hb hx,fun b o z n hb hx=>u.slot b o (kk b o z) (by rw[fr b (.inr ⟨o,z⟩)];exact n) hb hx,fun b o z n hx=>u.free b o (kk b o z) (by rw[fr b (.inr ⟨o,z⟩)];exact n) hx,
    fun b o z hx=>u.there b o (kk b o z) hx,fun b xs z=>u.tups b xs (by rw[fr b (.inl (by rw[z];exact nofun))];exact z),fun b o x2 z=>u.frzs b o x2 (by rw[fr b (.inl (by rw[z];exact nofun))];exact z),fun b p2 z=>u.tbls b p2 (by rw[fr b (.inl (by rw[z];exact nofun))];exact z)⟩
 have in2:K.In ((s.heap.push (PySem.W.kdv_tup us)).push (PySem.HandSPX.excO (G.cl c) s.heap.objs.size)):=inH.keeps kk
 have r2:Vals (V.ref (s.heap.objs.size+1) :: (vs++zs)) (Value.ref (s.heap.objs.size+1) :: (us++ws)) := .cons rfl rvz
 have hus:us.length≤sizeLine:=by rw[sizeLine_eq];omega
 have hq:spI (G.cl c) f (V.ref (s.heap.objs.size+1) :: (vs++zs)) (L2.upd H (s.heap.objs.size+1) (exo (s.heap.objs.size+1) (G.cl c) none)) (fun v H3=>v = .non∧Q (.ref (s.heap.objs.size+1)) H3) (fun _ _ _=>False):=by
  refine⟨s.heap.objs.size+1,v,by rw[ev],upd_same,fun dx hdx hne=>⟨rfl, ?_⟩⟩
  have hd:H dx=none:=by rw[upd_ne hne] at hdx;exact hdx
  have eH:L2.upd (L2.upd (L2.upd H (s.heap.objs.size+1) (exo (s.heap.objs.size+1) (G.cl c) none)) dx (exd dx [(f,v)])) (s.heap.objs.size+1) (exo (s.heap.objs.size+1) (G.cl c) (some dx))=L2.upd (L2.upd H dx (exd dx [(f,v)])) (s.heap.objs.size+1) (exo (s.heap.objs.size+1) (G.cl c) (some dx)):=by
   funext b
   by_cases hb:b=s.heap.objs.size+1
   ·rw[hb,upd_same,upd_same]
   ·rw[upd_ne hb,upd_ne hb]
    by_cases hb2:b=dx
    ·rw[hb2,upd_same,upd_same]
    ·rw[upd_ne hb2,upd_ne hb2,upd_ne hb]
  rw[eH]
  have ha2:(L2.upd H dx (exd dx [(f,v)])) (s.heap.objs.size+1)=none:=by rw[upd_ne (Ne.symm hne)];exact ha
  have S:Stp m H m (L2.upd (L2.upd H dx (exd dx [(f,v)])) (s.heap.objs.size+1) (exo (s.heap.objs.size+1) (G.cl c) (some dx))):=(Stp.fresh hd).trans (Stp.fresh ha2)
  refine q _ _ m ⟨⟨rfl,fun i t e=>by simp at e⟩,(rs.sto.fresh hd).fresh ha2⟩ S ?_
  exact⟨_,[v],rfl,rs.sto.free ha,⟨v,[],rfl,Rp.mov S.toMov _ _ rt,rfl⟩, .inr ⟨dx,f,v,rfl,hfl,rs.sto.free hd,upd_same,by rw[upd_ne hne,upd_same]⟩⟩
 refine PySem.HandSPX.held_own (XB.base b0) (fun Y=>Z5u Y bm hbm) (inH _ _ hC) (PySem.W.looks_findIn inH iC) (fun self=>PySem.W.bind_fn inH self tI) hus
  (codeAny_mono (F1.run _ outer _ _ ⟨Value.ref (s.heap.objs.size+1) :: us,kn.zip ws⟩ (Value.ref (s.heap.objs.size+1) :: (us++ws)) _ _ (fun _ _ _=>False) (hr.make (G.cl c) us (kn.zip ws)) (e0'.make (G.cl c) us (kn.zip ws)) (hb _ _ us ws in2 hlen lw) r2 hq) fun rr s2 hq2 => ?_)
 match rr,hq2 with
 | .error e,hq2 =>
  obtain⟨_,_,_,_,_,_,_,_,_,_,_,_,z⟩:=hq2
  exact z.elim
 | .ok (.ret u),hq2 =>
  obtain⟨v3,H3,os3,bare,un,hok,rv2,ev2,q3⟩:=hq2
  subst ev2
  exact⟨rv2,⟨V.ref (s.heap.objs.size+1),H3,os3,bare,unOut un,hok,rfl,q3⟩⟩
 | .ok .next,hq2=>exact hq2.elim
 | .ok .brk,hq2=>exact hq2.elim
 | .ok .cont,hq2=>exact hq2.elim
theorem Z1g{sx:Sx}{x:Str}{d:DX}(fine:sx.fine K=true)(hc:(c,f)∈sx.xcs)(hne:f≠("" : Str))(D:d.Is K fd)(had:d.ad K=He.ma K ((gh sx K).cl c) "__init__")(h:Zhb f d=true)(hdt:d.dfl=[])(hm:mg x=some (.ref ((gh sx K).cl c)))
  (hbind:∀ (kV doc pm:Value) (an:Option Addr) (cdv ct:Value) (a b:Value),bindArgs (PySem.W.fnOf d.name d.qual d.params d.body d.scope .none kV doc pm an cdv ct) ⟨[a,b],[]⟩=pure ([("self",a),(f,b)]:List (Str × Value)))
  (hkw:∀ (kV doc pm:Value) (an:Option Addr) (cdv ct:Value) (a b:Value),bindArgs (PySem.W.fnOf d.name d.qual d.params d.body d.scope .none kV doc pm an cdv ct) ⟨[a],[(f,b)]⟩=pure ([("self",a),(f,b)]:List (Str × Value))) :
  Z0a P w K mg base 2 (gh sx K) ⟨x,[],exF c⟩∧Z0a P w K mg base 2 (gh sx K) ⟨x,[f],exF c⟩:=by
 unfold Sx.fine at fine
 simp only[Bool.and_eq_true] at fine
 obtain⟨_,_,_,_,_,fx,_⟩:=fine
 unfold Sx.xfine at fx
 simp only[Bool.and_eq_true] at fx
 obtain⟨_,_,_,x4,_⟩:=fx
 have z:=List.all_eq_true.mp x4 _ hc
 rw[if_neg hne] at z
 simp only[Bool.and_eq_true,decide_eq_true_eq] at z
 obtain⟨z1,z2,z3,z4,z5⟩:=z
 obtain⟨vs0,hk,FD⟩:=D
 rw[hdt] at hk
 cases hk
 unfold Zhb at h
 simp only[Bool.and_eq_true,Bool.not_eq_true'] at h
 obtain⟨h1,h2,h3,h4,h5,h6⟩:=h
 unfold ZfY at h1
 split at h1
 rotate_left
 ·cases h1
 rename_i s p1 y p2 zz p3 p4 eb
 simp only[Bool.and_eq_true,decide_eq_true_eq] at h1
 obtain⟨⟨rfl,rfl⟩,rfl⟩:=h1
 have FD2:=FD
 rw[eb] at FD2
 have T:=Zi9 z1
 have F1:=Zia (P:=P) (w:=w) (mg:=mg) (base:=base) (a:=0) FD2 (C8.fnScope_by h2) (Zf3 h3) (Zf3 h4) h5 h6 T z2
 refine⟨⟨_,hm,T.kC,Zf1 T z3 (by rw[had];exact z4) (by rw[had];exact z5) F1 fun s self us ws _ h1 h2 => ?_⟩,⟨_,hm,T.kC,Zf1 T z3 (by rw[had];exact z4) (by rw[had];exact z5) F1 fun s self us ws _ h1 h2 => ?_⟩⟩
 ·have e:ws=[]:=List.length_eq_zero_iff.mp h2
  subst e
  obtain⟨b,rfl⟩:=List.length_eq_one_iff.mp (show us.length=1 from by simpa using h1)
  exact Zhv FD fun kV doc pm an cdv ct=>hbind kV doc pm an cdv ct self b
 ·obtain⟨b,rfl⟩:=List.length_eq_one_iff.mp (show ws.length=1 from h2)
  have h1:us.length+1=1:=h1
  have e:us=[]:=List.length_eq_zero_iff.mp (by omega)
  subst e
  exact Zhv FD fun kV doc pm an cdv ct=>hkw kV doc pm an cdv ct self b
theorem ZiM{sx:Sx}{x:Str}(fine:sx.fine K=true)(hc:(c,("" : Str))∈sx.xcs)(hm:mg x=some (.ref ((gh sx K).cl c))):Z0a P w K mg base 2 (gh sx K) ⟨x,[],ex0 c⟩:=by
 have xn:=xn_of fine hc
 refine⟨_,hm,xn.kC,fun A outer s H us ws vs zs Q E hr hg e0 rv rz lz q => ?_⟩
 obtain⟨m,st,ts,rs,r,q⟩:=q
 have hz:zs=[]:=List.length_eq_zero_iff.mp lz
 subst hz
 cases rz
 match ts,r,q with
 | _ :: _,r,q=>exact q.elim
 | [],r,q =>
 have q:Rn (gh sx K) (fun cls d _ H'=>E cls d H') [] [] (Rp (gh sx K)) m H (.ok (.exh c []) st) (Kq Q):=q
 have hv:vs=[]:=by simpa using (show vs++[]=[] from r)
 subst hv
 cases rv
 have inH:K.In s.heap:=e0.mod.kin.keeps fun b o z=>(e0.bs b o z).1
 obtain⟨b0,qq⟩:=xn.ex
 obtain⟨bm,N,nm,qn,bs,hdct,sn,sub,ab,col,dd,k0,k1,k2,k3,k5,mN,hC,hN,hni,T⟩:=exc_obj inH qq
 refine ZgC (XB.base b0) T hC hN hni fun h' e hm2 => ?_
 have hn:H e=none:=e0.hok.gone hm2.new
 obtain⟨t,ht,_,_⟩:=hm2.there
 have S:Stp m H m (L2.upd H e (ExO (.ref ((gh sx K).cl c)) e)):=Stp.fresh hn
 exact⟨V.ref e,L2.upd H e (ExO (.ref ((gh sx K).cl c)) e),rfl,e0.bare,Un.laidN hm2.keeps hm2.new hn,e0.hok.laidN hm2.keeps hn (exO_ok ht ⟨rfl,rfl⟩ rfl rfl rfl (show 4 < 6 by decide)),rfl,
  q _ _ m ⟨⟨rfl,fun i t e=>by simp at e⟩,rs.sto.fresh hn⟩ S ⟨e,[],rfl,rs.sto.free hn,rfl, .inl ⟨rfl,upd_same⟩⟩⟩
end
end Eg
set_option maxHeartbeats 2000000
namespace Eg
open PySem PySem.Spec PyProof.Rows L2
end Eg
set_option maxHeartbeats 4000000
namespace Eg
open PySem PySem.Spec PyProof.Rows L2 LamX
def Sx.fq1 (sx:Sx) (K:PySem.W.Frag):Bool :=
 (Z6r.all fun x=>He.Fa.ok K (.free x)) && ((sx.cons.all fun p=>match PySem.W.nsIn K mainGlobals p.1,kT p.2 with
  | some (some u),some v=>He.relB v u
  | _,_=>false) && ((sx.cs.all fun c=>c.fine K) && ((sx.isi.all fun e=>decide (PySem.W.kitOne K (Zfv (gh sx K) e.1.1) (Z6w (gh sx K) e.1.2)=some e.2)) &&
  (sx.tgs.all fun p=>match p.2 with
    | .ty n=>He.Fa.ok K (.free p.1) && decide (bootBuiltins p.1=some (.type n))
    | .cls k=>decide (PySem.W.nsIn K mainGlobals p.1=some (some (.ref ((gh sx K).cl k))))))))
def Sx.fq2 (sx:Sx) (K:PySem.W.Frag):Bool :=
 sx.xfine K && ((sx.cs.isEmpty || (decide (PySem.W.specialIn K (.builtin "object.__class__") "__get__" = some (some (.builtin "getset_descriptor.__get__"))) && decide (PySem.W.takesIn K (.builtin "object.__class__")=some true))) && sx.dfine K)
theorem and6(a b c d e f:Bool):(a && (b && (c && (d && (e && f)))))=((a && (b && (c && (d && e)))) && f):=by cases a <;> cases b <;> cases c <;> cases d <;> cases e <;> rfl
theorem Sx.fq_eq(sx:Sx)(K:PySem.W.Frag):sx.fine K=(sx.fq1 K && sx.fq2 K):=and6 _ _ _ _ _ _
def Sx.xfa (sx:Sx) (K:PySem.W.Frag):Bool :=
 (sx.xex.all fun c=>Zdx K ((gh sx K).cl c)) && ((sx.xis.all fun e=>sx.xex.contains e.1.1 && decide (PySem.W.kitOne K (.ref ((gh sx K).cl e.1.1)) (Z6w (gh sx K) e.1.2)=some e.2)))
def Sx.xfb (sx:Sx) (K:PySem.W.Frag):Bool :=
 ((sx.xfl.all fun p=>xfB K ((gh sx K).cl p.1) && (decide (PySem.W.findIn K (.ref ((gh sx K).cl p.1)) p.2=some none) && decide ((gh sx K).fl p.1=[p.2]))) &&
 ((sx.xcs.all fun p=>if p.2=("" : Str) then Zfx K ((gh sx K).cl p.1) else ZfB K ((gh sx K).cl p.1) && (decide (PySem.W.findIn K (.ref ((gh sx K).cl p.1)) p.2=some none) && (decide ((gh sx K).fl p.1=[p.2]) && (decide (PySem.W.findIn K (.ref ((gh sx K).cl p.1)) "__init__" = some (some (.ref (He.ma K ((gh sx K).cl p.1) "__init__")))) &&
   decide (PySem.W.typeIn K (.ref (He.ma K ((gh sx K).cl p.1) "__init__"))=some (.type "function")))))) &&
 ((sx.xm.all fun c=>decide (PySem.W.exmAny K (.ref ((gh sx K).cl c)) (sx.xk.map fun k => .ref ((gh sx K).cl k))=some true)) &&
 (sx.lam.all fun x=>decide ((He.cT K x).2≠mainGlobals) && sx.lam.all fun y => !decide ((He.cT K y).2=(He.cT K x).2) || decide (y=x)))))
def Sx.fq3 (sx:Sx) (K:PySem.W.Frag):Bool :=
 (sx.cs.isEmpty || (decide (PySem.W.specialIn K (.builtin "object.__class__") "__get__" = some (some (.builtin "getset_descriptor.__get__"))) && decide (PySem.W.takesIn K (.builtin "object.__class__")=some true))) && sx.dfine K
theorem Sx.xf_eq(sx:Sx)(K:PySem.W.Frag):sx.xfine K=(sx.xfa K && sx.xfb K):=(Bool.and_assoc _ _ _).symm
theorem Sx.fq2_eq(sx:Sx)(K:PySem.W.Frag):sx.fq2 K=(sx.xfa K && (sx.xfb K && sx.fq3 K)):=by
 show(sx.xfine K && sx.fq3 K)=_
 rw[Sx.xf_eq,Bool.and_assoc]
def Sx.xe1 (sx:Sx) (K:PySem.W.Frag):Bool:=sx.xex.all fun c=>Zdx K ((gh sx K).cl c)
def Sx.xi (sx:Sx) (l:List ((Nat × Tg) × Bool)) (K:PySem.W.Frag):Bool:=l.all fun e=>sx.xex.contains e.1.1 && decide (PySem.W.kitOne K (.ref ((gh sx K).cl e.1.1)) (Z6w (gh sx K) e.1.2)=some e.2)
theorem ZeP{α : Type}(f : α → Bool)(m:Nat)(l:List α):l.all f=((l.take m).all f && (l.drop m).all f):=by
 rw[← List.all_append,List.take_append_drop]
theorem Sx.xfa_cut(sx:Sx)(K:PySem.W.Frag)(m1 m2:Nat):sx.xfa K=(sx.xe1 K && (sx.xi (sx.xis.take m1) K && (sx.xi ((sx.xis.drop m1).take m2) K && sx.xi ((sx.xis.drop m1).drop m2) K))):=by
 show(_ && List.all _ _)=_
 rw[ZeP _ m1 sx.xis,ZeP _ m2 (sx.xis.drop m1)]
 rfl
end Eg
set_option maxHeartbeats 0
namespace EgLaw
open PySem PySem.Spec PyProof.Rows L2 Eg
end EgLaw
set_option maxHeartbeats 0
namespace EgLaw
open PySem PySem.Spec PyProof.Rows L2 Eg
abbrev RO:PySem.W.OpenRow:=PySem.W.OpenLaw.row PySem.Challenge.rw_meetrounds_k01_limits_and_errors
def top (i:Nat):Stmt:=PySem.Challenge.pw_meetrounds_k01_limits_and_errors.main.body.getD i (.Pass ⟨0,0,0,0⟩)
def met (i j:Nat):Stmt:=(C8.clsBody (top i)).getD j (.Pass ⟨0,0,0,0⟩)
def sx:Sx:={ cons:=[("MOST_CHANGES",(.int 5)),("MOST_MEETINGS",(.int 1000000000000000000000000000000)),("MOST_TABLES",(.int 12)),("MOST_BOUND",(.int 4)),("MOST_SIDE",(.int 4))],cs:=[],isi:=[],tgs:=[("NoAnswer",(.cls 119)),("WrongName",(.cls 117)),("WrongValue",(.cls 100)),("ArithmeticError",(.ty "ArithmeticError")),("LookupError",(.ty "LookupError")),("ValueError",(.ty "ValueError")),("InvalidName",(.cls 103)),("InvalidNumber",(.cls 102)),("InvalidText",(.cls 101)),("InvalidSchedule",(.cls 106)),("InvalidRound",(.cls 105)),("InvalidTables",(.cls 104)),("NotAFair",(.cls 109)),("InvalidIndex",(.cls 108)),("InvalidWish",(.cls 107)),("InvalidMeetings",(.cls 112)),("InvalidGuests",(.cls 111)),("InvalidHosts",(.cls 110)),("InvalidChanges",(.cls 115)),("InvalidGrowth",(.cls 114)),("InvalidUrgent",(.cls 113)),("TooFewRounds",(.cls 120)),("UnknownName",(.cls 118)),("InvalidAsked",(.cls 116)),("Broken",(.cls 123)),("NothingToUndo",(.cls 122)),("TooMany",(.cls 121))],xs:=Zje,xcs:=[(101, "given"),(102, "given"),(103, "given"),(104, "given"),(105, "given"),(106, "given"),(107, "given"),(108, "given"),(109, "given"),(110, "index"),(111, "index"),(112, "index"),(113, "index"),(114, "index"),(115, "index"),(116, "index"),(118, "given"),(120, "given"),(121, "given"),(122, ""),(123, "index")],xex:=[101,102,103,104,105,106,107,108,109,110,111,112,113,114,115,116,118,120,121,122,123],xis:=XIS [101,102,103,104,105,106,107,108,109,110,111,112,113,114,115,116,118,120,121,122,123],xfl:=XFL [101,102,103,104,105,106,107,108,109,110,111,112,113,114,115,116,118,120,121,122,123] }
def Z3z:DX:=⟨fun K=>He.ga K "_law_jug", "_law_jug", "_law_jug",defArgs (top 31),defBody (top 31),defScope (top 31),[]⟩
def Z3p:DX:=⟨fun K=>He.ga K "_law_pour", "_law_pour", "_law_pour",defArgs (top 32),defBody (top 32),defScope (top 32),[]⟩
def Z3a:DX:=⟨fun K=>He.ga K "_law_bases", "_law_bases", "_law_bases",defArgs (top 33),defBody (top 33),defScope (top 33),[]⟩
def Z4a:DX:=⟨fun K=>He.ga K "_law_odd", "_law_odd", "_law_odd",defArgs (top 34),defBody (top 34),defScope (top 34),[]⟩
def Z3g:DX:=⟨fun K=>He.ga K "_law_class", "_law_class", "_law_class",defArgs (top 35),defBody (top 35),defScope (top 35),[]⟩
def Z3h:DX:=⟨fun K=>He.ga K "_law_keeps", "_law_keeps", "_law_keeps",defArgs (top 36),defBody (top 36),defScope (top 36),[]⟩
def Z1n:DX:=⟨fun K=>He.ga K "_law_by_place", "_law_by_place", "_law_by_place",defArgs (top 37),defBody (top 37),defScope (top 37),[]⟩
def Z2a:DX:=⟨fun K=>He.ga K "_law_by_name", "_law_by_name", "_law_by_name",defArgs (top 38),defBody (top 38),defScope (top 38),[]⟩
def Z3d:DX:=⟨fun K=>He.ga K "_law_right", "_law_right", "_law_right",defArgs (top 39),defBody (top 39),defScope (top 39),[]⟩
def Za8:DX:=⟨fun K=>He.ga K "law", "law", "law",defArgs (top 40),defBody (top 40),defScope (top 40),[]⟩
def nm0:List Str:=["WrongValue", "InvalidText", "InvalidNumber", "InvalidName", "InvalidTables", "InvalidRound", "InvalidSchedule", "InvalidWish", "InvalidIndex", "NotAFair", "InvalidHosts", "InvalidGuests", "InvalidMeetings", "InvalidUrgent", "InvalidGrowth", "InvalidChanges", "InvalidAsked", "WrongName", "UnknownName", "NoAnswer", "TooFewRounds", "TooMany", "NothingToUndo", "Broken", "MOST_SIDE", "MOST_BOUND", "MOST_TABLES", "MOST_MEETINGS", "MOST_CHANGES", "_law_jug"]
def nm1:List Str:=["_law_pour", "_law_bases", "_law_odd", "_law_class", "_law_keeps", "_law_by_place", "_law_by_name", "_law_right"]
def names:List Str:=nm0++nm1
def glo:List Str:=(["_law_jug", "_law_pour", "_law_bases", "_law_odd", "_law_class", "_law_keeps", "_law_by_place", "_law_by_name", "_law_right", "law", "InvalidText", "InvalidNumber", "InvalidName", "InvalidTables", "InvalidRound", "InvalidSchedule", "InvalidWish", "InvalidIndex", "NotAFair", "InvalidHosts", "InvalidGuests", "InvalidMeetings", "InvalidUrgent", "InvalidGrowth", "InvalidChanges", "InvalidAsked", "UnknownName", "TooFewRounds", "TooMany", "NothingToUndo"]:List Str)++(["Broken"]:List Str)
def fx (K:PySem.W.Frag):Bool:=sx.fine K && glo.all fun x=>He.Fa.ok K (.glo x)
def Z6e:DX:=⟨fun K=>He.ma K (He.ga K "InvalidText") "__init__", "__init__", "InvalidText.__init__",defArgs (met 2 0),defBody (met 2 0),defScope (met 2 0),[]⟩
def Z5c:DX:=⟨fun K=>He.ma K (He.ga K "InvalidNumber") "__init__", "__init__", "InvalidNumber.__init__",defArgs (met 3 0),defBody (met 3 0),defScope (met 3 0),[]⟩
def Z6b:DX:=⟨fun K=>He.ma K (He.ga K "InvalidName") "__init__", "__init__", "InvalidName.__init__",defArgs (met 4 0),defBody (met 4 0),defScope (met 4 0),[]⟩
def Z5n:DX:=⟨fun K=>He.ma K (He.ga K "InvalidTables") "__init__", "__init__", "InvalidTables.__init__",defArgs (met 5 0),defBody (met 5 0),defScope (met 5 0),[]⟩
def Z5t:DX:=⟨fun K=>He.ma K (He.ga K "InvalidRound") "__init__", "__init__", "InvalidRound.__init__",defArgs (met 6 0),defBody (met 6 0),defScope (met 6 0),[]⟩
def Z4k:DX:=⟨fun K=>He.ma K (He.ga K "InvalidSchedule") "__init__", "__init__", "InvalidSchedule.__init__",defArgs (met 7 0),defBody (met 7 0),defScope (met 7 0),[]⟩
def Z6f:DX:=⟨fun K=>He.ma K (He.ga K "InvalidWish") "__init__", "__init__", "InvalidWish.__init__",defArgs (met 8 0),defBody (met 8 0),defScope (met 8 0),[]⟩
def Z5r:DX:=⟨fun K=>He.ma K (He.ga K "InvalidIndex") "__init__", "__init__", "InvalidIndex.__init__",defArgs (met 9 0),defBody (met 9 0),defScope (met 9 0),[]⟩
def Z8c:DX:=⟨fun K=>He.ma K (He.ga K "NotAFair") "__init__", "__init__", "NotAFair.__init__",defArgs (met 10 0),defBody (met 10 0),defScope (met 10 0),[]⟩
def Z5s:DX:=⟨fun K=>He.ma K (He.ga K "InvalidHosts") "__init__", "__init__", "InvalidHosts.__init__",defArgs (met 11 0),defBody (met 11 0),defScope (met 11 0),[]⟩
def Z5d:DX:=⟨fun K=>He.ma K (He.ga K "InvalidGuests") "__init__", "__init__", "InvalidGuests.__init__",defArgs (met 12 0),defBody (met 12 0),defScope (met 12 0),[]⟩
def Z4n:DX:=⟨fun K=>He.ma K (He.ga K "InvalidMeetings") "__init__", "__init__", "InvalidMeetings.__init__",defArgs (met 13 0),defBody (met 13 0),defScope (met 13 0),[]⟩
def Z5j:DX:=⟨fun K=>He.ma K (He.ga K "InvalidUrgent") "__init__", "__init__", "InvalidUrgent.__init__",defArgs (met 14 0),defBody (met 14 0),defScope (met 14 0),[]⟩
def Z5k:DX:=⟨fun K=>He.ma K (He.ga K "InvalidGrowth") "__init__", "__init__", "InvalidGrowth.__init__",defArgs (met 15 0),defBody (met 15 0),defScope (met 15 0),[]⟩
def Z5a:DX:=⟨fun K=>He.ma K (He.ga K "InvalidChanges") "__init__", "__init__", "InvalidChanges.__init__",defArgs (met 16 0),defBody (met 16 0),defScope (met 16 0),[]⟩
def Z5q:DX:=⟨fun K=>He.ma K (He.ga K "InvalidAsked") "__init__", "__init__", "InvalidAsked.__init__",defArgs (met 17 0),defBody (met 17 0),defScope (met 17 0),[]⟩
def Z6c:DX:=⟨fun K=>He.ma K (He.ga K "UnknownName") "__init__", "__init__", "UnknownName.__init__",defArgs (met 19 0),defBody (met 19 0),defScope (met 19 0),[]⟩
def Z5p:DX:=⟨fun K=>He.ma K (He.ga K "TooFewRounds") "__init__", "__init__", "TooFewRounds.__init__",defArgs (met 21 0),defBody (met 21 0),defScope (met 21 0),[]⟩
def Z9l:DX:=⟨fun K=>He.ma K (He.ga K "TooMany") "__init__", "__init__", "TooMany.__init__",defArgs (met 22 0),defBody (met 22 0),defScope (met 22 0),[]⟩
def Zag:DX:=⟨fun K=>He.ma K (He.ga K "Broken") "__init__", "__init__", "Broken.__init__",defArgs (met 24 0),defBody (met 24 0),defScope (met 24 0),[]⟩
def fn:List DX:=([Z3z,Z3p,Z3a,Z4a,Z3g,Z3h,Z1n,Z2a,Z3d,Za8,Z6e,Z5c,Z6b,Z5n,Z5t,Z4k,Z6f,Z5r,Z8c,Z5s,Z5d,Z4n,Z5j,Z5k,Z5a,Z5q,Z6c,Z5p,Z9l,Zag]:List DX)
abbrev hk:PySem.W.Hook:=Zh8 4 fx fn
def ob (s:PySem.W.SharedT):He.AlD:=ZfF 4 fx fn (HandSHeadRun.getT s)
theorem ob_eq(s:PySem.W.SharedT):ob s=hk.obs s.abs:=ZgP (HandSHeadRun.getT_eq s)
end EgLaw
set_option maxHeartbeats 0
namespace EgLaw
open PySem PySem.Spec PyProof.Rows L2 Eg
theorem run_l(w:World):Z4q RO 20000 w (fun s=>HandSHeadRun.looksF RO.prog (PySem.W.boot_heap w.params) s.abs) true:=by
 intro os
 kernel_rfl
theorem run_s(w:World):Z4q RO 20000 w (fun s=>HandSHeadRun.seenQ (PySem.W.view RO.prog [40]) names (importedModules RO.prog.main.body) (fun s=>PySem.W.xlAt (PySem.W.view RO.prog [40]) [] s && PySem.W.recOk RO.toRowW.records s) s.abs) (PySem.W.openGood (PySem.W.view RO.prog [40]) names):=by
 intro os
 kernel_rfl
theorem run_o(w:World):Z4q RO 20000 w ob (hk.val w):=by
 intro os
 kernel_rfl
theorem run(w:World):HandSHeadRun.RunEq RO (PySem.W.view RO.prog [40]) hk ob 20000 names w:=ZgJ (run_l w) (run_s w) (run_o w)
end EgLaw
set_option maxHeartbeats 4000000
namespace Eg
theorem Zdh(c:T)(u1:Env)(st:Sto):fK c u1 st=(.ok c st):=rfl
theorem Z9q(tb:Tab)(j:Nat)(u1:Env)(st:Sto):fGl tb j u1 st=(match tb.cons[j]? with
 | some p => .ok p.2 st
 | none => .bad):=rfl
def Z9w (op:PySem.Operator) (x:T) (y:T) (st2:Sto):R T:=R.opt (Z5i op x y) st2
def Z8u (op:PySem.Operator) (fb:Env→Sto→R T) (env:Env) (x:T) (st1:Sto):R T:=(fb env st1).bnd (Z9w op x)
theorem Zb6(op:PySem.Operator)(fa fb:Env→Sto→R T)(env:Env)(st:Sto):fBin op fa fb env st=((fa env st).bnd (Z8u op fb env)):=rfl
def Z2h  (x:T) (st1:Sto):R T:=match x with
 | .int i => .ok (.int (-i)) st1
 | _ => .bad
theorem Z2t(fa:Env→Sto→R T)(env:Env)(st:Sto):fNeg fa env st=((fa env st).bnd (Z2h)):=rfl
def Z9n (op:PySem.CmpOp) (x:T) (y:T) (st2:Sto):R T:=R.opt ((Z1h st2 op x y).map .bl) st2
def Z9v (op:PySem.CmpOp) (fb:Env→Sto→R T) (env:Env) (x:T) (st1:Sto):R T:=(fb env st1).bnd (Z9n op x)
theorem Zb1(op:PySem.CmpOp)(fa fb:Env→Sto→R T)(env:Env)(st:Sto):fCmp op fa fb env st=((fa env st).bnd (Z9v op fb env)):=rfl
def Zf5 (n:Bool) (x:T) (st1:Sto):R T := .ok (.bl (ZcS n x)) st1
theorem Zir(n:Bool)(fa:Env→Sto→R T)(env:Env)(st:Sto):fIsN n fa env st=((fa env st).bnd (Zf5 n)):=rfl
def ZeU  (xs:List T) (st1:Sto):R T:=if xs.length≤lim then .ok (.tup xs) st1 else .bad
theorem ZhI(fs:Env→Sto→R (List T))(env:Env)(st:Sto):fTup fs env st=((fs env st).bnd (ZeU)):=rfl
def ZaC (x:T) (y:T) (st2:Sto):R T:=R.opt (ixT st2 x y) st2
def ZaH (fb:Env→Sto→R T) (env:Env) (x:T) (st1:Sto):R T:=(fb env st1).bnd (ZaC x)
theorem Zc3(fa fb:Env→Sto→R T)(env:Env)(st:Sto):fIx fa fb env st=((fa env st).bnd (ZaH fb env)):=rfl
def ZaP (x:T) (l:Option Int) (u:Option Int) (st3:Sto):R T:=match x with
 | .tup xs => .ok (.tup (cut xs l u)) st3
 | .str z=>if z.length≤lim then .ok (.str (L2.cutS z l u)) st3 else .bad
 | _ => .bad
def ZaI (fh:Env→Sto→R (Option Int)) (env:Env) (x:T) (l:Option Int) (st2:Sto):R T:=(fh env st2).bnd (ZaP x l)
def ZaB (fl:Env→Sto→R (Option Int)) (fh:Env→Sto→R (Option Int)) (env:Env) (x:T) (st1:Sto):R T:=(fl env st1).bnd (ZaI fh env x)
theorem Zcf(fa:Env→Sto→R T)(fl fh:Env→Sto→R (Option Int))(env:Env)(st:Sto):fSl fa fl fh env st=((fa env st).bnd (ZaB fl fh env)):=rfl
def ZaO  (xs:List T) (st1:Sto):R T := .ok (.lst xs) st1
theorem Zcl(fl:Env→Sto→R (List T))(env:Env)(st:Sto):fFz fl env st=((fl env st).bnd (ZaO)):=rfl
theorem ZiN(o:Option Fn)(fs fk:Env→Sto→R (List T))(env:Env)(st:Sto):fFn o fs fk env st=(match o with
 | some fn=>(fs env st).bnd fun xs st1=>(fk env st1).bnd fun ys st2=>if ys.length=fn.ks.length then fn.F (xs++ys) st2 else .bad
 | none => .bad):=rfl
def Zaq (b:Bi) (xs:List T) (st1:Sto):R T:=R.opt (biT st1 b xs) st1
theorem Zc0(b:Bi)(fs:Env→Sto→R (List T))(env:Env)(st:Sto):fBi b fs env st=((fs env st).bnd (Zaq b)):=rfl
theorem ZaZ(u1:Env)(st:Sto):Za7  u1 st=(.ok [] st):=rfl
def Z7i (x:T) (xs:List T) (st2:Sto):R (List T) := .ok (x :: xs) st2
def Z7p (fs:Env→Sto→R (List T)) (env:Env) (x:T) (st1:Sto):R (List T):=(fs env st1).bnd (Z7i x)
theorem Za2(fa:Env→Sto→R T)(fs:Env→Sto→R (List T))(env:Env)(st:Sto):Z3x fa fs env st=((fa env st).bnd (Z7p fs env)):=rfl
theorem ZaU(u1:Env)(st:Sto):fNo'  u1 st=(.ok none st):=rfl
def Zao  (x:T) (st1:Sto):R (Option Int):=match x with
 | .int i => .ok (some i) st1
 | _ => .bad
theorem Zcj(fa:Env→Sto→R T)(env:Env)(st:Sto):fSo fa env st=((fa env st).bnd (Zao)):=rfl
def ZeD  (x:T) (st1:Sto):R T:=match x with
  | .bl b => .ok (.bl (!b)) st1
  | _ => .bad
theorem Zi0(fa:Env→Sto→R T)(env:Env)(st:Sto):Zfm fa env st=((fa env st).bnd (ZeD)):=rfl
def Z1q (o1:PySem.CmpOp) (o2:PySem.CmpOp) (fc:Env→Sto→R T) (env:Env) (x:T) (y:T) (st2:Sto):R T:=(R.opt (Z1h st2 o1 x y) st2).bnd fun k st3 =>
   if k=true then(fc env st3).bnd fun z st4=>R.opt ((Z1h st4 o2 y z).map .bl) st4 else .ok (.bl false) st3
def Z1u (o1:PySem.CmpOp) (o2:PySem.CmpOp) (fb:Env→Sto→R T) (fc:Env→Sto→R T) (env:Env) (x:T) (st1:Sto):R T:=(fb env st1).bnd (Z1q o1 o2 fc env x)
theorem Z2e(o1 o2:PySem.CmpOp)(fa fb fc:Env→Sto→R T)(env:Env)(st:Sto):ZaA o1 o2 fa fb fc env st=((fa env st).bnd (Z1u o1 o2 fb fc env)):=rfl
def Zeq (fb:Env→Sto→R T) (env:Env) (x:T) (st1:Sto):R T:=match x with
  | .bl true=>fBl fb env st1
  | .bl false => .ok (.bl false) st1
  | _ => .bad
theorem Zi4(fa fb:Env→Sto→R T)(env:Env)(st:Sto):fAnd fa fb env st=((fa env st).bnd (Zeq fb env)):=rfl
def Zg2 (fb:Env→Sto→R T) (env:Env) (x:T) (st1:Sto):R T:=match x with
  | .bl true => .ok (.bl true) st1
  | .bl false=>fBl fb env st1
  | _ => .bad
theorem Zj3(fa fb:Env→Sto→R T)(env:Env)(st:Sto):fOr fa fb env st=((fa env st).bnd (Zg2 fb env)):=rfl
def Z8r (fa:Env→Sto→R T) (fb:Env→Sto→R T) (env:Env) (x:T) (st1:Sto):R T:=match x with
  | .bl true=>fa env st1
  | .bl false=>fb env st1
  | _ => .bad
theorem Zbf(fc fa fb:Env→Sto→R T)(env:Env)(st:Sto):ZfM fc fa fb env st=((fc env st).bnd (Z8r fa fb env)):=rfl
def Zat  (y:T) (st2:Sto):R T:=match y with
   | .bl c => .ok (.bl c) st2
   | _ => .bad
theorem ZbQ(fb:Env→Sto→R T)(env:Env)(st:Sto):fBl fb env st=((fb env st).bnd (Zat)):=rfl
def Z9r  (xs:List T) (st1:Sto):R T := .ok (.loc st1.length) (st1++[.lst xs])
theorem Zbb(fl:Env→Sto→R (List T))(env:Env)(st:Sto):Zfo fl env st=((fl env st).bnd (Z9r)):=rfl
def Zew  (x:T) (st1:Sto):R T:=R.opt (ZcK x) st1
theorem Ziq(fa:Env→Sto→R T)(env:Env)(st:Sto):fStr fa env st=((fa env st).bnd (Zew)):=rfl
def Z0w  (x:T) (st1:Sto):R T:=R.opt (Z6y st1 x) st1
theorem Z1a(fa:Env→Sto→R T)(env:Env)(st:Sto):Zfh fa env st=((fa env st).bnd (Z0w)):=rfl
def Ze7 (cs:List Ci) (f:PySem.Str) (x:T) (st1:Sto):R T:=match Z8d st1 x with
 | some (c,vs)=>match cs[c]? with
  | some ci=>match Z2c ci.fl f with
   | some i=>R.opt vs[i]? st1
   | none=>match ci.props.lookup f with
    | some F=>(F [x] st1).nox
    | none => .bad
  | none => .bad
 | none => .bad
theorem ZgL(cs:List Ci)(f:PySem.Str)(fa:Env→Sto→R T)(env:Env)(st:Sto):fAttr cs f fa env st=((fa env st).bnd (Ze7 cs f)):=rfl
def ZaR  (xs:List T) (st1:Sto):R (List T):=if xs.length≤lim then .ok xs st1 else .bad
theorem Zc8(fs:Env→Sto→R (List T))(env:Env)(st:Sto):fDl fs env st=((fs env st).bnd (ZaR)):=rfl
def Z1c (x:T) (y:T) (st2:Sto):R (List T):=match Z2r st2 x,Z2r st2 y with
  | some xs,some ys=>if xs.length+ys.length≤lim then .ok (xs++ys) st2 else .bad
  | _,_ => .bad
def Z1b (fb:Env→Sto→R T) (env:Env) (x:T) (st1:Sto):R (List T):=(fb env st1).bnd (Z1c x)
theorem Z1f(fa fb:Env→Sto→R T)(env:Env)(st:Sto):fCat fa fb env st=((fa env st).bnd (Z1b fb env)):=rfl
def Z3m (x:T) (y:T) (st2:Sto):R (List T):=match Z2r st2 x,y with
  | some xs, .int k=>if -(2 ^ 62)≤k∧k < 2 ^ 62∧xs.length * k.toNat≤lim then .ok (List.replicate k.toNat xs).flatten st2 else .bad
  | _,_ => .bad
def Z3k (fb:Env→Sto→R T) (env:Env) (x:T) (st1:Sto):R (List T):=(fb env st1).bnd (Z3m x)
theorem Z3u(fa fb:Env→Sto→R T)(env:Env)(st:Sto):fRep fa fb env st=((fa env st).bnd (Z3k fb env)):=rfl
def Z9u (x:T) (l:Option Int) (u:Option Int) (st3:Sto):R (List T):=match Z0p st3 x with
  | some xs => .ok (cut xs l u) st3
  | none => .bad
def Z8t (fh:Env→Sto→R (Option Int)) (env:Env) (x:T) (l:Option Int) (st2:Sto):R (List T):=(fh env st2).bnd (Z9u x l)
def Z9f (fl:Env→Sto→R (Option Int)) (fh:Env→Sto→R (Option Int)) (env:Env) (x:T) (st1:Sto):R (List T):=(fl env st1).bnd (Z8t fh env x)
theorem ZaW(fa:Env→Sto→R T)(fl fh:Env→Sto→R (Option Int))(env:Env)(st:Sto):fSlL fa fl fh env st=((fa env st).bnd (Z9f fl fh env)):=rfl
def Z9z  (x:T) (st1:Sto):R (List T):=match x with
  | .lst xs => .ok xs st1
  | .tup xs => .ok xs st1
  | .scr ns => .ok (ns.map .int) st1
  | .str y => .ok (Zbh y) st1
  | .ptp xs => .ok xs st1
  | _ => .bad
theorem Zb4(fa:Env→Sto→R T)(env:Env)(st:Sto):Zfr fa env st=((fa env st).bnd (Z9z)):=rfl
def Zgw (x:T) (y:T) (st2:Sto):R (List T):=match x,y with
  | .lst xs, .lst ys => .ok (Z1i xs ys) st2
  | .tup xs, .tup ys => .ok (Z1i xs ys) st2
  | .lst xs, .tup ys => .ok (Z1i xs ys) st2
  | .tup xs, .lst ys => .ok (Z1i xs ys) st2
  | _,_ => .bad
def Zgd (fb:Env→Sto→R T) (env:Env) (x:T) (st1:Sto):R (List T):=(fb env st1).bnd (Zgw x)
theorem ZiT(fa fb:Env→Sto→R T)(env:Env)(st:Sto):fPr fa fb env st=((fa env st).bnd (Zgd fb env)):=rfl
def Z9a  (x:T) (st1:Sto):R (List T):=match x with
  | .int j=>if RgOk j then .ok (Z2m 0 j) st1 else .bad
  | _ => .bad
theorem Zbg(fa:Env→Sto→R T)(env:Env)(st:Sto):ZaM fa env st=((fa env st).bnd (Z9a)):=rfl
def Z9m  (x:T) (st1:Sto):R Bool:=R.opt (asBl x) st1
theorem Zb9(fa:Env→Sto→R T)(env:Env)(st:Sto):fTst fa env st=((fa env st).bnd (Z9m)):=rfl
theorem Zb0(u1:Env)(st:Sto):Ze0  u1 st=(.ok true st):=rfl
theorem ZbW(env:Env)(st:Sto):fNx  env st=(.nx env st):=rfl
def Z9d (ft:Ft) (env:Env) (t:T) (st1:Sto):O:=match ft t env st1 with
 | .nx env' st' => .nx env' st'
 | .exc e env' st' => .exc e env' st'
 | _ => .bad
theorem Zbc(fa:Env→Sto→R T)(ft:Ft)(env:Env)(st:Sto):Zfu fa ft env st=((fa env st).go env (Z9d ft env)):=rfl
def ZdC (i:Nat) (j:Nat) (env:Env) (ts:List T) (st1:Sto):O:=match ts with
 | [t,u]=>if i < env.length∧j < env.length then .nx ((env.set i (some t)).set j (some u)) st1 else .bad
 | _ => .bad
theorem Zh6(i j:Nat)(fs:Env→Sto→R (List T))(env:Env)(st:Sto):ZfE i j fs env st=((fs env st).go env (ZdC i j env)):=rfl
def Zam (f:Fs) (g:Fs) (env:Env) (t:T) (st1:Sto):O:=match t with
 | .bl true=>f env st1
 | .bl false=>g env st1
 | _ => .bad
theorem Zcm(fc:Env→Sto→R T)(f g:Fs)(env:Env)(st:Sto):fIf fc f g env st=((fc env st).go env (Zam f g env)):=rfl
def Z9k  (t:T) (st1:Sto):O := .rt t st1
theorem Zb5(fa:Env→Sto→R T)(env:Env)(st:Sto):fRet fa env st=((fa env st).go env (Z9k)):=rfl
def Z8z (env:Env) (u9:T) (st1:Sto):O := .nx env st1
theorem Zb2(fa:Env→Sto→R T)(env:Env)(st:Sto):fExp fa env st=((fa env st).go env (Z8z env)):=rfl
def Z9s (g:IG) (f:Fs) (env:Env) (xs:List T) (st1:Sto):O:=Z2p g f xs env st1
theorem Z7b(fit:Env→Sto→R (List T))(g:IG)(f:Fs)(env:Env)(st:Sto):Zdj fit g f env st=((fit env st).go env (Z9s g f env)):=rfl
theorem Zdd(g:IG)(t:T)(env:Env)(st:Sto):fG g t env st=(match g.set t env with
 | some env' => .nx env' st
 | none => .bad):=rfl
def ZcG (t:T) (env:Env) (x:T) (y:T) (st2:Sto):O:=match Z8a st2 x,y with
 | some (l,xs), .int k=>match L2.ixN xs.length k with
  | some j => .nx env (st2.set l (.lst (xs.set j t)))
  | none => .bad
 | _,_ => .bad
def Zcv (fb:Env→Sto→R T) (t:T) (env:Env) (x:T) (st1:Sto):O:=(fb env st1).go env (ZcG t env x)
theorem ZeX(fa fb:Env→Sto→R T)(t:T)(env:Env)(st:Sto):fSub fa fb t env st=((fa env st).go env (Zcv fb t env)):=rfl
theorem Zci(n:Nat)(g:List T→Env→Sto→O)(t:T)(env:Env)(st:Sto):fTu n g t env st=(match t with
 | .tup ts=>if ts.length=n then g ts env st else .bad
 | _ => .bad):=rfl
theorem Zcq(ts:List T)(env:Env)(st:Sto):fNo  ts env st=(match ts with
 | [] => .nx env st
 | _ => .bad):=rfl
theorem Zcp(f:Ft)(g:List T→Env→Sto→O)(ts:List T)(env:Env)(st:Sto):fCo f g ts env st=(match ts with
 | t :: ts=>(f t env st).seq fun env1 st1=>g ts env1 st1
 | [] => .bad):=rfl
theorem Z7c(tb:Tab)(s:IS)(ss:List IS)(env:Env)(st:Sto):Z0i tb (s :: ss) env st=(s.ev tb env st).seq (Z0i tb ss):=by rw[Z0i]
theorem Z7g(tb:Tab)(env:Env)(st:Sto):Z0i tb [] env st = .nx env st:=by rw[Z0i];rfl
def Ev {A:Type} (r:R A) (Q:A→Sto→Prop):Prop:=∃ a st,r = .ok a st∧Q a st
theorem Ev.ok{A:Type}{a:A}{st:Sto}{Q:A→Sto→Prop}(h:Q a st):Ev (.ok a st) Q:=⟨a,st,rfl,h⟩
theorem Ev.bnd{A B:Type}{x:R A}{f:A→Sto→R B}{P:A→Sto→Prop}{Q:B→Sto→Prop}(h:Ev x P)(k:∀ a st,P a st→Ev (f a st) Q):Ev (x.bnd f) Q:=by
 obtain⟨a,st,e,p⟩:=h
 obtain⟨b,st2,e2,q⟩:=k a st p
 exact⟨b,st2,by rw[e];exact e2,q⟩
theorem Ev.imp{A:Type}{x:R A}{P Q:A→Sto→Prop}(h:Ev x P)(k:∀ a st,P a st→Q a st):Ev x Q:=let ⟨a,st,e,p⟩:=h; ⟨a,st,e,k a st p⟩
@[simp] theorem bnd_ok'{A B:Type}{a:A}{st:Sto}{f:A→Sto→R B}:(R.ok a st).bnd f=f a st:=rfl
@[simp] theorem go_ok'{A:Type}{a:A}{st:Sto}{env:Env}{f:A→Sto→O}:(R.ok a st).go env f=f a st:=rfl
@[simp] theorem seq_nx'{env:Env}{st:Sto}{f:Env→Sto→O}:(O.nx env st).seq f=f env st:=rfl
@[simp] theorem seq_rt'{t:T}{st:Sto}{f:Env→Sto→O}:(O.rt t st).seq f = .rt t st:=rfl
@[simp] theorem opt_some'{A:Type}{a:A}{st:Sto}:R.opt (some a) st = .ok a st:=rfl
@[simp] theorem nox_ok'{A:Type}{a:A}{st:Sto}:(R.ok a st).nox = .ok a st:=rfl
def Nl (t:T):Prop:=∀ f,Z0h f t=some t
def Nls (ts:List T):Prop:=∀ f,Z0f f ts=some ts
def NL (st:Sto):Prop:=∀ f:Nat→Option T,(∀ i,i < st.length→f i=some (.loc i))→Z1x f st=some st
theorem Z4w{f:Nat→Option T}:∀ {st:Sto},Z1x f st=some st↔∀ c,c∈st→Z7e f c=some c
 | []=>⟨fun _ c hc=>(by cases hc),fun _=>rfl⟩
 | c :: st=>by
  have e:Z1x f (c :: st)=match Z7e f c,Z1x f st with
   | some d,some ds=>some (d :: ds)
   | _,_=>none:=rfl
  rw[e]
  constructor
  ·intro h
   cases e1:Z7e f c with
   | none=>rw[e1] at h;cases h
   | some y =>
    cases e2:Z1x f st with
    | none=>rw[e1,e2] at h;cases h
    | some ys =>
     rw[e1,e2] at h
     simp only[Option.some.injEq,List.cons.injEq] at h
     intro d hd
     rcases List.mem_cons.mp hd with rfl | hd
     ·rw[e1,h.1]
     ·exact Z4w.mp (by rw[e2,h.2]) d hd
  ·intro h
   rw[h c List.mem_cons_self,Z4w.mpr fun d hd=>h d (List.mem_cons_of_mem _ hd)]
@[simp] theorem nl_non:Nl .non:=fun _=>by rw[Z0h]
@[simp] theorem nl_bl{b:Bool}:Nl (.bl b):=fun _=>by rw[Z0h]
@[simp] theorem nl_int{b:Int}:Nl (.int b):=fun _=>by rw[Z0h]
@[simp] theorem nl_str{b:PySem.Str}:Nl (.str b):=fun _=>by rw[Z0h]
@[simp] theorem nl_scr{b:List Int}:Nl (.scr b):=fun _=>by rw[Z0h]
@[simp] theorem nl_cv{b:Nat}:Nl (.cv b):=fun _=>by rw[Z0h]
@[simp] theorem nls_nil:Nls []:=fun _=>by rw[Z0f]
@[simp] theorem nls_cons{x:T}{xs:List T}:Nls (x :: xs)↔Nl x∧Nls xs:=by
 constructor
 ·intro h
  have key:∀ f,Z0h f x=some x∧Z0f f xs=some xs:=fun f=>by
   have:=h f
   rw[Z0f] at this
   cases e1:Z0h f x with
   | none=>rw[e1] at this;cases this
   | some y =>
    cases e2:Z0f f xs with
    | none=>rw[e1,e2] at this;cases this
    | some ys =>
     rw[e1,e2] at this
     simp only[Option.some.injEq,List.cons.injEq] at this
     exact⟨by rw[this.1],by rw[this.2]⟩
  exact⟨fun f=>(key f).1,fun f=>(key f).2⟩
 ·rintro⟨h1,h2⟩ f
  rw[Z0f,h1 f,h2 f]
theorem ZdF{xs:List T}(h:∀ x,x∈xs→Nl x):Nls xs:=by
 induction xs with
 | nil=>exact nls_nil
 | cons x xs ih=>exact nls_cons.mpr ⟨h x List.mem_cons_self,ih fun y hy=>h y (List.mem_cons_of_mem _ hy)⟩
theorem Zbe{xs:List T}(h:Nls xs):∀ x,x∈xs→Nl x:=by
 induction xs with
 | nil=>intro x hx;cases hx
 | cons y ys ih =>
  obtain⟨h1,h2⟩:=nls_cons.mp h
  intro x hx
  rcases List.mem_cons.mp hx with rfl | hx
  ·exact h1
  ·exact ih h2 x hx
@[simp] theorem nls_app{xs ys:List T}:Nls (xs++ys)↔Nls xs∧Nls ys:=by
 constructor
 ·intro h
  exact⟨ZdF fun x hx=>Zbe h x (List.mem_append_left _ hx),ZdF fun x hx=>Zbe h x (List.mem_append_right _ hx)⟩
 ·rintro⟨h1,h2⟩
  exact ZdF fun x hx=>(List.mem_append.mp hx).elim (Zbe h1 x) (Zbe h2 x)
@[simp] theorem nl_tup{xs:List T}:Nl (.tup xs)↔Nls xs:=by
 constructor
 ·intro h f
  have:=h f
  rw[Z0h] at this
  obtain⟨ys,e1,e2⟩:=Option.map_eq_some_iff.mp this
  cases e2;exact e1
 ·intro h f;rw[Z0h,h f];rfl
@[simp] theorem nl_edt:Nl .edt:=fun f=>by rw[Z0h]
@[simp] theorem nl_exh{c:Nat}{xs:List T}:Nl (.exh c xs)↔Nls xs:=by
 constructor
 ·intro h f
  have:=h f
  rw[Z0h] at this
  obtain⟨ys,e1,e2⟩:=Option.map_eq_some_iff.mp this
  cases e2;exact e1
 ·intro h f;rw[Z0h,h f];rfl
@[simp] theorem nl_dk1{k:PySem.Str}{t:T}:Nl (.dk1 k t)↔Nl t:=by
 constructor
 ·intro h f
  have:=h f
  rw[Z0h] at this
  obtain⟨ys,e1,e2⟩:=Option.map_eq_some_iff.mp this
  cases e2;exact e1
 ·intro h f;rw[Z0h,h f];rfl
@[simp] theorem nl_ptp{xs:List T}:Nl (.ptp xs)↔Nls xs:=by
 constructor
 ·intro h f
  have:=h f
  rw[Z0h] at this
  obtain⟨ys,e1,e2⟩:=Option.map_eq_some_iff.mp this
  cases e2;exact e1
 ·intro h f;rw[Z0h,h f];rfl
@[simp] theorem nl_lst{xs:List T}:Nl (.lst xs)↔Nls xs:=by
 constructor
 ·intro h f
  have:=h f
  rw[Z0h] at this
  obtain⟨ys,e1,e2⟩:=Option.map_eq_some_iff.mp this
  cases e2;exact e1
 ·intro h f;rw[Z0h,h f];rfl
@[simp] theorem nl_obj{c:Nat}{xs:List T}:Nl (.obj c xs)↔Nls xs:=by
 constructor
 ·intro h f
  have:=h f
  rw[Z0h] at this
  obtain⟨ys,e1,e2⟩:=Option.map_eq_some_iff.mp this
  cases e2;exact e1
 ·intro h f;rw[Z0h,h f];rfl
@[simp] theorem NL_nil:NL []:=fun _ _=>rfl
theorem Z9c{c:Cell}{st:Sto}(h1:∀ f,Z7e f c=some c)(h2:NL st):NL (c :: st):=fun f hf=>Z4w.mpr fun d hd=>by
 rcases List.mem_cons.mp hd with rfl | hd
 ·exact h1 f
 ·exact Z4w.mp (h2 f fun i hi=>hf i (by rw[List.length_cons];omega)) d hd
theorem Zgv{cs:List Ci}{st:Sto}{n i:Nat}{kp:Option Nat}(h:i < n):frz cs st (ren n kp) i=some (.loc i):=by
 unfold frz Za5 ren
 rw[if_pos h]
theorem Zig{md:Bool}{n:Nat}{t:T}(h:Nl t):kept md n t=none:=by
 cases t with
 | loc l=>have:=h (fun _=>none);rw[Z0h] at this;cases this
 | _=>rfl
theorem Zj0{cs:List Ci}{md:Bool}{st loc:Sto}{t:T}(h:NL st)(ht:Nl t):Z5w cs md st.length t (st++loc) = .ok t st:=by
 unfold Z5w
 rw[Zig ht]
 simp only[more,List.append_nil,List.take_left']
 rw[h _ fun i hi=>Zgv hi,ht _]
theorem Z1w{cs:List Ci}{md:Bool}{st:Sto}{t:T}(h:NL st)(ht:Nl t):Z5w cs md st.length t st = .ok t st:=by
 have:=Zj0 (cs:=cs) (md:=md) (loc:=[]) h ht
 rwa [List.append_nil] at this
theorem ZgR{cs:List Ci}{st loc:Sto}{l:Nat}{c:Cell}(h:NL st)(hl:(st++loc)[l]? = some c)(hge:st.length≤l)(hc:∀ f,Z7e f c=some c):Z5w cs true st.length (.loc l) (st++loc) = .ok (.loc st.length) (st++[c]):=by
 unfold Z5w
 have hk:kept true st.length (.loc l)=some l:=by
  show(if true=true∧st.length≤l then some l else none)=some l
  rw[if_pos ⟨rfl,hge⟩]
 rw[hk]
 simp only[more,List.take_left',hl,Option.toList_some]
 rw[Z4w.mpr (fun d hd=>by
  rcases List.mem_append.mp hd with hd | hd
  ·exact Z4w.mp (h _ fun i hi=>Zgv hi) d hd
  ·rw[List.mem_singleton.mp hd];exact hc _),Z0h]
 have:frz cs (st++loc) (ren st.length (some l)) l=some (.loc st.length):=by
  unfold frz Za5 ren
  rw[if_neg (by omega),if_pos rfl]
 rw[this]
@[simp] theorem finO_rt{cs:List Ci}{md:Bool}{n:Nat}{t:T}{st:Sto}:Zdr cs md n (.rt t st)=Z5w cs md n t st:=rfl
@[simp] theorem finO_nx{cs:List Ci}{md:Bool}{n:Nat}{env:Env}{st:Sto}:Zdr cs md n (.nx env st)=Z5w cs false n .non st:=rfl
theorem log2_lt{n k:Nat}(h:n < 2 ^ k)(hk:0 < k):n.log2 < k:=by
 by_cases h0:n=0
 ·subst h0;simpa using hk
 ·exact(Nat.log2_lt h0).mpr h
theorem Z9o{i j:Int}(a b:Nat)(hi:i.natAbs < 2 ^ a)(hj:j.natAbs < 2 ^ b)(ha:0 < a)(hb:0 < b)(h:a+b≤100000000):Z4v i j:=by
 unfold Z4v
 have:=log2_lt hi ha
 have:=log2_lt hj hb
 omega
theorem ZfO{j:Int}(h:0 < j)(h2:j < 2 ^ 64):Z6s j:=by
 refine⟨h, ?_⟩
 have:j.natAbs < 2 ^ 64:=by
  have:(j.natAbs:Int) < 2 ^ 64:=by rw[Int.natAbs_of_nonneg (by omega)];exact h2
  exact_mod_cast this
 have:=log2_lt this (by decide)
 omega
section
variable {a b:Int} {st:Sto} {x y:T} {xs ys:List T} {s t:PySem.Str}
@[simp] theorem bin_add:Z5i .Add (.int a) (.int b)=some (.int (a+b)):=rfl
@[simp] theorem bin_sub:Z5i .Sub (.int a) (.int b)=some (.int (a - b)):=rfl
@[simp] theorem bin_mul(h:Z4v a b):Z5i .Mult (.int a) (.int b)=some (.int (a * b)):=if_pos h
@[simp] theorem bin_div(h:Z6s b):Z5i .FloorDiv (.int a) (.int b)=some (.int (a / b)):=if_pos h
@[simp] theorem bin_mod(h:0 < b):Z5i .Mod (.int a) (.int b)=some (.int (a % b)):=if_pos h
@[simp] theorem bin_pow(h:Z6o a b):Z5i .Pow (.int a) (.int b)=some (.int (a ^ b.toNat)):=if_pos h
@[simp] theorem bin_tup(h:xs.length+ys.length≤lim):Z5i .Add (.tup xs) (.tup ys)=some (.tup (xs++ys)):=if_pos h
@[simp] theorem bin_str(h:s.length+t.length≤lim):Z5i .Add (.str s) (.str t)=some (.str (s++t)):=if_pos h
@[simp] theorem ix_tup':ixT st (.tup xs) (.int a)=L2.atI xs a:=rfl
@[simp] theorem ix_lst':ixT st (.lst xs) (.int a)=L2.atI xs a:=rfl
@[simp] theorem ix_scr'{ns:List Int}:ixT st (.scr ns) (.int a)=L2.atI (ns.map T.int) a:=rfl
@[simp] theorem ix_loc0:ixT (.lst xs :: st) (.loc 0) (.int a)=L2.atI xs a:=rfl
@[simp] theorem cmp_lt:Z1h st .Lt (.int a) (.int b)=some (decide (a < b)):=rfl
@[simp] theorem cmp_le:Z1h st .LtE (.int a) (.int b)=some (decide (a≤b)):=rfl
@[simp] theorem cmp_gt:Z1h st .Gt (.int a) (.int b)=some (decide (b < a)):=rfl
@[simp] theorem cmp_ge:Z1h st .GtE (.int a) (.int b)=some (decide (b≤a)):=rfl
@[simp] theorem cmp_eq:Z1h st .Eq x y=eqT (Z0j st x) (Z0j st y):=rfl
@[simp] theorem cmp_ne:Z1h st .NotEq x y=(eqT (Z0j st x) (Z0j st y)).map (!·):=rfl
@[simp] theorem cmp_in:Z1h st .In x y=inT st x y:=rfl
@[simp] theorem cmp_nin:Z1h st .NotIn x y=(inT st x y).map (!·):=rfl
@[simp] theorem fr_int:Z0j st (.int a) = .int a:=rfl
@[simp] theorem fr_non:Z0j st .non = .non:=rfl
@[simp] theorem fr_bl{k:Bool}:Z0j st (.bl k) = .bl k:=rfl
@[simp] theorem fr_str:Z0j st (.str s) = .str s:=rfl
@[simp] theorem fr_tup:Z0j st (.tup xs) = .tup xs:=rfl
@[simp] theorem fr_lst:Z0j st (.lst xs) = .lst xs:=rfl
theorem ZiD{u v:T}(h1:data u=true)(h2:data v=true)(h3:dep u≤60)(h4:dep v≤60):eqT u v=some (eqv u v):=by
 unfold eqT
 rw[h1,h2,decide_eq_true h3,decide_eq_true h4]
 rfl
@[simp] theorem eq_int:eqT (.int a) (.int b)=some (a == b):=by rw[ZiD rfl rfl (by simp[dep]) (by simp[dep])];simp[eqv]
@[simp] theorem len_tup:biT st .len [.tup xs]=some (.int xs.length):=rfl
@[simp] theorem len_lst:biT st .len [.lst xs]=some (.int xs.length):=rfl
@[simp] theorem len_scr{ns:List Int}:biT st .len [.scr ns]=some (.int ns.length):=by show some (T.int ((ns.map T.int).length:Nat))=_;rw[List.length_map]
@[simp] theorem abs_int:biT st .abs [.int a]=some (.int (if a < 0 then -a else a)):=rfl
@[simp] theorem int_int:biT st .int [.int a]=some (.int a):=rfl
@[simp] theorem int_bl{k:Bool}:biT st .int [.bl k]=some (.int (if k then 1 else 0)):=rfl
@[simp] theorem max_2:biT st .max [.int a, .int b]=some (.int (if b > a then b else a)):=rfl
@[simp] theorem min_2:biT st .min [.int a, .int b]=some (.int (if b < a then b else a)):=rfl
@[simp] theorem max_3{c:Int}:biT st .max [.int a, .int b, .int c]=some (.int (if c > (if b > a then b else a) then c else(if b > a then b else a))):=rfl
@[simp] theorem min_3{c:Int}:biT st .min [.int a, .int b, .int c]=some (.int (if c < (if b < a then b else a) then c else(if b < a then b else a))):=rfl
@[simp] theorem tup_lst:biT st .tuple [.lst xs]=some (.tup xs):=rfl
@[simp] theorem tup_tup:biT st .tuple [.tup xs]=some (.tup xs):=rfl
@[simp] theorem dm_ok(h:Z6s b):biT st .divmod [.int a, .int b]=some (.tup [.int (a / b), .int (a % b)]):=if_pos h
theorem ZdR(ns:List Int):Z0v (ns.map T.int)=some ns:=by
 induction ns with
 | nil=>rfl
 | cons n ns ih=>show(Z0v (ns.map T.int)).map (n :: ·)=_;rw[ih];rfl
@[simp] theorem sum_lst{ns:List Int}:biT st .sum [.lst (ns.map T.int)]=some (.int ns.sum):=by
 show((some (ns.map T.int)).bind Z0v).map (fun ns=>T.int ns.sum)=_
 rw[Option.bind_some,ZdR];rfl
@[simp] theorem sum_tupl{ns:List Int}:biT st .sum [.tup (ns.map T.int)]=some (.int ns.sum):=by
 show((some (ns.map T.int)).bind Z0v).map (fun ns=>T.int ns.sum)=_
 rw[Option.bind_some,ZdR];rfl
end
@[simp] theorem cut_take{A:Type}{xs:List A}{k:Nat}:cut xs none (some (k:Int))=xs.take k:=by
 unfold cut
 rw[HT.sIx_none,HT.sIx_nat,List.drop_zero,Nat.sub_zero,List.take_eq_take_iff]
 omega
@[simp] theorem cut_drop{A:Type}{xs:List A}{k:Nat}:cut xs (some (k:Int)) none=xs.drop k:=by
 unfold cut
 rw[HT.sIx_none,HT.sIx_nat]
 by_cases h:k≤xs.length
 ·rw[Nat.min_eq_left h,List.take_of_length_le (by rw[List.length_drop];exact Nat.le_refl _)]
 ·rw[Nat.min_eq_right (by omega),List.drop_eq_nil_of_le (Nat.le_refl _),List.drop_eq_nil_of_le (by omega)]
  simp
@[simp] theorem cut_take3{A:Type}{xs:List A}:cut xs none (some 3)=xs.take 3:=cut_take (k:=3)
section
variable {own:List Nat} {fe:Env→Sto→R T} {g:IG} {fit:Env→Sto→R (List T)} {ft:Env→Sto→R Bool} {env:Env} {st:Sto}
theorem Zeo{B:Type}{ys:List B}{emb h:B→T}(hit:fit env st = .ok (ys.map emb) st)(hl:ys.length≤16777216)(ht:∀ y,y∈ys→Z4u own fe g ft env (emb y) st = .ok (some (h y)) st):fLc own fe g fit ft env st = .ok (ys.map h) st:=by
 unfold fLc
 rw[hit,bnd_ok',if_pos (by rw[List.length_map];exact hl)]
 have:Z8n (Z4u own fe g ft env) (ys.map emb) st = .ok (ys.map h) st:=by
  clear hit hl
  induction ys with
  | nil=>rfl
  | cons y ys ih =>
   rw[List.map_cons,List.map_cons]
   unfold Z8n
   rw[ht y List.mem_cons_self,bnd_ok',ih fun z hz=>ht z (List.mem_cons_of_mem _ hz)]
   rfl
 rw[this];rfl
end
theorem Zgs(n:Nat):Z2m 0 n=(List.range n).map fun(i:Nat)=>T.int (i:Int):=by
 unfold Z2m
 simp
theorem rg_ok{k:Nat}(h:k≤1000000):RgOk (k:Int):=by
 have h2:(k:Int)≤1000000:=by omega
 have h3:(0:Int)≤k:=Int.natCast_nonneg k
 unfold RgOk
 constructor
 ·exact Int.le_trans (by decide) h3
 ·exact Int.lt_of_le_of_lt h2 (by decide)
theorem Zdl{fa:Env→Sto→R T}{env:Env}{st st1:Sto}{k:Nat}(h:fa env st = .ok (.int k) st1)(hk:k≤1000000):ZaM fa env st = .ok ((List.range k).map fun(j:Nat)=>T.int (j:Int)) st1:=by
 show(fa env st).bnd _=_
 rw[h,bnd_ok',← Zgs]
 exact if_pos (rg_ok hk)
@[simp] theorem get_last{st:Sto}{c:Cell}:(st++[c])[st.length]? = some c:=by simp
@[simp] theorem set_last{st:Sto}{c d:Cell}:(st++[c]).set st.length d=st++[d]:=by
 rw[List.set_append_right _ _ (Nat.le_refl _)]
 simp
end Eg
set_option maxHeartbeats 4000000
namespace Eg
def Z9g (xf:List (Nat × PySem.Str)) (f:PySem.Str) (x:T) (st1:Sto):R T:=match x with
 | .exc c [t]=>if xf.lookup c=some f then .ok t st1 else .bad
 | .exh c [t]=>if xf.lookup c=some f then .ok t st1 else .bad
 | _ => .bad
theorem ZaX(xf:List (Nat × PySem.Str))(f:PySem.Str)(fa:Env→Sto→R T)(env:Env)(st:Sto):fXat xf f fa env st=((fa env st).bnd (Z9g xf f)):=rfl
def Zcu (tb:List ((Nat × Tg) × Bool)) (g:Tg) (x:T) (st1:Sto):R T:=match x with
 | .exc c _=>R.opt ((tb.lookup (c,g)).map .bl) st1
 | .exh c _=>R.opt ((tb.lookup (c,g)).map .bl) st1
 | _ => .bad
theorem ZeQ(tb:List ((Nat × Tg) × Bool))(g:Tg)(fa:Env→Sto→R T)(env:Env)(st:Sto):fIsx tb g fa env st=((fa env st).bnd (Zcu tb g)):=rfl
@[simp] theorem bnd_exc'{A B:Type}{a:T}{st:Sto}{f:A→Sto→R B}:(R.exc a st:R A).bnd f = .exc a st:=rfl
@[simp] theorem go_exc'{A:Type}{a:T}{st:Sto}{env:Env}{f:A→Sto→O}:(R.exc a st:R A).go env f = .exc a env st:=rfl
@[simp] theorem seq_exc'{t:T}{env:Env}{st:Sto}{f:Env→Sto→O}:(O.exc t env st).seq f = .exc t env st:=rfl
end Eg
set_option maxHeartbeats 4000000
namespace Eg
theorem ZhY(k:PySem.Str)(i:Nat)(env:Env)(st:Sto):ZfJ k i env st=(match env[i]? with
 | some (some t) => .ok (.dk1 k t) st
 | _ => .bad):=rfl
theorem Zj8(env:Env)(st:Sto):fEd env st = .ok .edt st:=rfl
end Eg
namespace Eg
open PySem
theorem Zbl:∀ (ts:List Str) (k:Nat) (acc:Str),(textFrom k acc ts).length≤acc.length+(ts.map fun t=>t.length+2).sum
 | [],k,acc=>by show acc.length≤_;simp
 | t :: r,k,acc=>by
  have h:=Zbl r (k+1) (acc++(if k > 0 then ", " else "" : String)++t)
  show(textFrom (k+1) (acc++(if k > 0 then ", " else "" : String)++t) r).length≤_
  rw[strLen_append,strLen_append] at h
  have:((if k > 0 then ", " else "" : String):Str).length≤2:=by split <;> decide
  simp only[List.map_cons,List.sum_cons]
  omega
theorem Zeg(ts:List Str):(listText ts).length≤2+(ts.map fun t=>t.length+2).sum:=by
 unfold listText
 rw[strLen_append]
 have h:=Zbl ts 0 "["
 have h1:(("[" : String):Str).length=1:=by decide
 have h2:(("]" : String):Str).length=1:=by decide
 omega
theorem Zdy(ts:List Str):(tupleText ts).length≤3+(ts.map fun t=>t.length+2).sum:=by
 unfold tupleText
 rw[strLen_append,strLen_append]
 have h:=StrLaws.join_length_le ", " ts
 have h1:(("(" : String):Str).length=1:=by decide
 have h2:((if ts.length == 1 then ",)" else ")" : String):Str).length≤2:=by split <;> decide
 have h3:((", " : String):Str).length=2:=by decide
 rw[h3] at h
 have h4:(ts.map fun t=>t.length+2).sum=(ts.map (·.length)).sum+ts.length * 2:=by
  clear h h1 h2 h3
  induction ts with
  | nil=>rfl
  | cons t r ih=>simp only[List.map_cons,List.sum_cons,List.length_cons,ih];omega
 omega
mutual
def shB:T→Nat
 | .non=>4
 | .bl _=>5
 | .int i=>i.natAbs.log2+2
 | .edt=>4
 | .dk1 k t=>10 * k.length+shB t+10
 | .str x=>10 * x.length+2
 | .lst xs=>3+Z8j xs
 | .tup xs=>3+Z8j xs
 | _=>0
def Z8j:List T→Nat
 | []=>0
 | x :: xs=>shB x+2+Z8j xs
end
mutual
def shI:T→Bool
 | .int i=>decide (i.natAbs.log2 < 1920)
 | .lst xs=>Zay xs
 | .tup xs=>Zay xs
 | .dk1 _ t=>shI t
 | _=>true
def Zay:List T→Bool
 | []=>true
 | x :: xs=>shI x && Zay xs
end
theorem ZdA{x:Str}(h:PyData.strOk x=true):∀ c∈x.cps.toList,c < 16 ^ 8:=fun c hc=>by
 have h2:x.cps.all (· < 0x110000)=true:=h
 rw[← Array.all_toList,List.all_eq_true] at h2
 have:=h2 c hc
 simp at this
 omega
theorem Ziy{a b:Str}{n m:Nat}(h1:a.length≤n+2)(h2:b.length≤m):(dictText [a ++ ": " ++ b]).length≤n+m+10:=by
 have e:(dictText [a ++ ": " ++ b]).length=1+(Str.join ", " [a ++ ": " ++ b]).length+1:=by
  unfold dictText
  rw[strLen_append,strLen_append];rfl
 have h:=join_length_add [a ++ ": " ++ b] (by simp)
 have p:([a ++ ": " ++ b].map fun t=>t.length+2).sum=a.length+2+b.length+2:=by
  simp only[List.map_cons,List.map_nil,List.sum_cons,List.sum_nil]
  rw[strLen_append,strLen_append];rfl
 unfold piled at h
 omega
mutual
theorem ZaQ:∀ t:T,Z0d t=true→(toD t).shown.length≤shB t
 | .non,_=>by simp only[toD,PyData.shown,shB];decide
 | .bl b,_=>by cases b <;> simp only[toD,PyData.shown,shB] <;> decide
 | .int i,_=>by
  simp only[toD,PyData.shown,shB]
  rw[PyProof.Rows.ofString_len]
  exact int_text_length_le (k:=i.natAbs.log2+1) (by omega) (by omega)
 | .str x,h=>by
  simp only[toD,PyData.shown,shB]
  exact StrLaws.reprText_len x (ZdA (by simpa [Z0d] using h))
 | .tup xs,h=>by
  simp only[toD,PyData.shown,shB]
  exact Nat.le_trans (Zdy _) (Nat.add_le_add_left (Za0 xs (by simpa [Z0d] using h)) 3)
 | .lst xs,h=>by
  simp only[toD,PyData.shown,shB]
  have h1:=Zeg (PyData.shownAll (Z0q xs))
  have h2:=Za0 xs (by simpa [Z0d] using h)
  omega
 | .obj _ _,h=>by simp[Z0d] at h
 | .exc _ _,h=>by simp[Z0d] at h
 | .loc _,h=>by simp[Z0d] at h
 | .scr _,h=>by simp[Z0d] at h
 | .cv _,h=>by simp[Z0d] at h
 | .ptp _,h=>by simp[Z0d] at h
 | .edt,_=>by simp only[toD,PyData.shown,PyData.shownKv,shB];decide
 | .exh _ _,h=>by simp[Z0d] at h
 | .dk1 k t,h=>by
  have z:(PyData.strOk k && Z0d t)=true:=by simpa only [Z0d] using h
  have z:=Bool.and_eq_true_iff.mp z
  have h1:=StrLaws.reprText_len k (ZdA z.1)
  have h2:=ZaQ t z.2
  simp only[toD,PyData.shown,PyData.shownKv,shB]
  exact Ziy h1 h2
theorem Za0:∀ xs:List T,Z1r xs=true→((PyData.shownAll (Z0q xs)).map fun t=>t.length+2).sum≤Z8j xs
 | [],_=>by simp[Z0q,PyData.shownAll,Z8j]
 | x :: xs,h=>by
  simp only[Z1r,Bool.and_eq_true] at h
  have h1:=ZaQ x h.1
  have h2:=Za0 xs h.2
  simp only[Z0q,PyData.shownAll,List.map_cons,List.sum_cons,Z8j]
  omega
end
mutual
theorem Z7j:∀ t:T,Z0d t=true→shI t=true→(toD t).showable=true
 | .non,_,_=>by simp only[toD,PyData.showable]
 | .bl b,_,_=>by simp only[toD,PyData.showable]
 | .int i,_,h=>by simpa only [toD,PyData.showable,shI] using h
 | .str x,_,_=>by simp only[toD,PyData.showable]
 | .tup xs,h,k=>by
  simp only[toD,PyData.showable]
  exact Z6i xs (by simpa [Z0d] using h) (by simpa [shI] using k)
 | .lst xs,h,k=>by
  simp only[toD,PyData.showable]
  exact Z6i xs (by simpa [Z0d] using h) (by simpa [shI] using k)
 | .obj _ _,h,_=>by simp[Z0d] at h
 | .exc _ _,h,_=>by simp[Z0d] at h
 | .loc _,h,_=>by simp[Z0d] at h
 | .scr _,h,_=>by simp[Z0d] at h
 | .cv _,h,_=>by simp[Z0d] at h
 | .ptp _,h,_=>by simp[Z0d] at h
 | .edt,_,_=>by simp only[toD,PyData.showable,PyData.showableKv]
 | .exh _ _,h,_=>by simp[Z0d] at h
 | .dk1 k t,h,h2=>by
  have z:(PyData.strOk k && Z0d t)=true:=by simpa only [Z0d] using h
  simp only[toD,PyData.showable,PyData.showableKv,Z7j t (Bool.and_eq_true_iff.mp z).2 (by simpa only [shI] using h2),Bool.and_self]
theorem Z6i:∀ xs:List T,Z1r xs=true→Zay xs=true→PyData.showableAll (Z0q xs)=true
 | [],_,_=>by simp only[Z0q,PyData.showableAll]
 | x :: xs,h,k=>by
  simp only[Z1r,Bool.and_eq_true] at h
  simp only[Zay,Bool.and_eq_true] at k
  simp only[Z0q,PyData.showableAll,Bool.and_eq_true]
  exact⟨Z7j x h.1 k.1,Z6i xs h.2 k.2⟩
end
def sh (t:T):Str:=(toD t).shown
theorem ZgF{t:T}{st:Sto}(hf:Z0j st t=t)(h1:Z0d t=true)(h2:shI t=true)(h3:dep t≤60)(h4:shB t≤16777216):Z6y st t=some (.str (sh t)):=by
 have k:ZbX t=true:=by
  unfold ZbX
  simp only[Bool.and_eq_true,decide_eq_true_eq]
  exact⟨⟨⟨h1,Z7j t h1 h2⟩,h3⟩,Nat.le_trans (ZaQ t h1) h4⟩
 unfold Z6y
 rw[hf]
 exact if_pos k
theorem Z7k{x:Str}:PyData.strOk x=true↔∀ c∈x.cps.toList,c < 0x110000:=by
 unfold PyData.strOk
 rw[← Array.all_toList,List.all_eq_true]
 simp
theorem ZeB(c:Char):c.toNat < 0x110000:=by
 have:=c.valid
 rcases this with h | h
 ·have:c.toNat < 0xd800:=h
  omega
 ·exact h.2
theorem Z0m(s:String):PyData.strOk (Str.ofString s)=true:=Z7k.mpr fun c hc=>by
 rw[Str.ofString_eq_toList] at hc
 obtain⟨d,_,rfl⟩:=List.mem_map.mp (by simpa using hc)
 exact ZeB d
theorem Z3j{x y:Str}(h1:PyData.strOk x=true)(h2:PyData.strOk y=true):PyData.strOk (x++y)=true:=Z7k.mpr fun c hc=>by
 rw[Str.cps_append,Array.toList_append] at hc
 rcases List.mem_append.mp hc with h | h
 ·exact Z7k.mp h1 c h
 ·exact Z7k.mp h2 c h
theorem Zem{q c:Nat}(hc:c < 0x110000):∀ d∈Builtin.Str.reprChar q c,d < 0x110000:=fun d hd=>by
 have hx:∀ w:Nat,d∈(List.replicate (w - ((Nat.toDigits 16 c).map Char.toNat).length) 48++(Nat.toDigits 16 c).map Char.toNat)→d < 0x110000:=fun w h=>by
  rcases List.mem_append.mp h with h | h
  ·rw[List.eq_of_mem_replicate h];decide
  ·obtain⟨e,_,rfl⟩:=List.mem_map.mp h
   exact ZeB e
 unfold Builtin.Str.reprChar at hd
 dsimp only at hd
 repeat' split at hd
 all_goals simp only[List.mem_append,List.mem_cons,List.not_mem_nil,or_false] at hd
 all_goals first
  | omega
  | (rcases hd with (h | h) | h
     ·omega
     ·omega
     ·exact hx _ (List.mem_append.mpr h))
theorem Zez{q:Nat}:∀ (l:List Nat) (acc:Array Nat),(∀ c∈l,c < 0x110000)→(∀ c∈acc.toList,c < 0x110000)→∀ c∈(l.foldl (fun out c=>out++(Builtin.Str.reprChar q c).toArray) acc).toList,c < 0x110000
 | [],acc,_,h=>h
 | c :: r,acc,h1,h2=>by
  rw[List.foldl_cons]
  refine Zez r _ (fun d hd=>h1 d (List.mem_cons_of_mem _ hd)) fun d hd => ?_
  rw[Array.toList_append] at hd
  rcases List.mem_append.mp hd with h | h
  ·exact h2 d h
  ·exact Zem (h1 c List.mem_cons_self) d (by simpa using h)
theorem Zbp{x:Str}(h:PyData.strOk x=true):PyData.strOk (reprText x)=true:=Z7k.mpr fun c hc=>by
 have hq:reprQuote x < 0x110000:=by unfold reprQuote;split <;> decide
 unfold reprText at hc
 rw[Array.toList_push,← Array.foldl_toList] at hc
 rcases List.mem_append.mp hc with h1 | h1
 ·exact Zez x.cps.toList _ (Z7k.mp h) (by intro c hc;simp at hc;omega) c h1
 ·rw[List.mem_singleton.mp h1];exact hq
theorem Zba{sep:Str}(hs:PyData.strOk sep=true):∀ ts:List Str,(∀ t∈ts,PyData.strOk t=true)→PyData.strOk (Str.join sep ts)=true
 | [],_=>Z7k.mpr fun c hc=>by have:c∈(Str.empty).cps.toList:=hc;simp[Str.empty] at this
 | [x],h=>h x (by simp)
 | x :: y :: r,h=>by
  show PyData.strOk (x++sep++Str.join sep (y :: r))=true
  exact Z3j (Z3j (h x (by simp)) hs) (Zba hs (y :: r) fun t ht=>h t (List.mem_cons_of_mem _ ht))
theorem Zbr:∀ (ts:List Str) (k:Nat) (acc:Str),PyData.strOk acc=true→(∀ t∈ts,PyData.strOk t=true)→PyData.strOk (textFrom k acc ts)=true
 | [],_,_,h,_=>h
 | t :: r,k,acc,h,h2=>Zbr r (k+1) _ (Z3j (Z3j h (by split <;> exact Z0m _)) (h2 t (by simp))) fun t ht=>h2 t (List.mem_cons_of_mem _ ht)
mutual
theorem Z8h:∀ t:T,Z0d t=true→PyData.strOk (toD t).shown=true
 | .non,_=>by simp only[toD,PyData.shown];exact Z0m _
 | .bl b,_=>by cases b <;> simp only[toD,PyData.shown] <;> exact Z0m _
 | .int i,_=>by simp only[toD,PyData.shown];exact Z0m _
 | .str x,h=>by simp only[toD,PyData.shown];exact Zbp (by simpa [Z0d] using h)
 | .tup xs,h=>by
  simp only[toD,PyData.shown]
  unfold tupleText
  exact Z3j (Z3j (Z0m _) (Zba (Z0m _) _ (Za3 xs (by simpa [Z0d] using h)))) (by split <;> exact Z0m _)
 | .lst xs,h=>by
  simp only[toD,PyData.shown]
  unfold listText
  exact Z3j (Zbr _ _ _ (Z0m _) (Za3 xs (by simpa [Z0d] using h))) (Z0m _)
 | .obj _ _,h=>by simp[Z0d] at h
 | .exc _ _,h=>by simp[Z0d] at h
 | .loc _,h=>by simp[Z0d] at h
 | .scr _,h=>by simp[Z0d] at h
 | .cv _,h=>by simp[Z0d] at h
 | .ptp _,h=>by simp[Z0d] at h
 | .edt,_=>by simp only[toD,PyData.shown,PyData.shownKv,dictText];exact Z3j (Z3j (Z0m _) (Zba (Z0m _) [] (by simp))) (Z0m _)
 | .exh _ _,h=>by simp[Z0d] at h
 | .dk1 k t,h=>by
  have z:(PyData.strOk k && Z0d t)=true:=by simpa only [Z0d] using h
  have z:=Bool.and_eq_true_iff.mp z
  simp only[toD,PyData.shown,PyData.shownKv,dictText]
  exact Z3j (Z3j (Z0m _) (Zba (Z0m _) _ (by
   intro u hu
   rw[List.mem_singleton.mp hu]
   exact Z3j (Z3j (Zbp z.1) (Z0m _)) (Z8h t z.2)))) (Z0m _)
theorem Za3:∀ xs:List T,Z1r xs=true→∀ t∈PyData.shownAll (Z0q xs),PyData.strOk t=true
 | [],_=>by simp[Z0q,PyData.shownAll]
 | x :: xs,h=>by
  simp only[Z1r,Bool.and_eq_true] at h
  simp only[Z0q,PyData.shownAll]
  intro t ht
  rcases List.mem_cons.mp ht with e | e
  ·rw[e];exact Z8h x h.1
  ·exact Za3 xs h.2 t e
end
theorem Zgy(t:T)(h:data t=true):PyData.strOk (toD t).shown=true:=Z8h t (Zgi t h)
@[simp] theorem data_sh{t:T}(h:data t=true):data (.str (sh t))=true:=by
 simp only[data]
 exact Zgy t h
end Eg
set_option maxHeartbeats 0
namespace EgLaw
open PySem PySem.Spec PyProof.Rows L2 Eg
def Z6u:List IS:=[(.asg (.pl (.name 3)) (.bin .Add (.bin .Mult (.v 3) (.k (.int 2862933555777941757))) (.bin .Mod (.bi .int (.cons (.v 4) .nil)) (.k (.int 9223372036854775337))))),(.asg (.pl (.name 3)) (.bin .Mod (.bi .int (.cons (.bin .Add (.v 3) (.k (.int 5))) .nil)) (.k (.int 9223372036854775783))))]
def Z6g:List IS:=[(.asg (.pl (.name 2)) (.ite (.cmp .Lt (.v 1) (.bi .len (.cons (.v 0) .nil))) (.ix (.v 0) (.v 1)) (.bin .Add (.k (.int 40)) (.v 1)))),
 (.asg (.pl (.name 3)) (.bin .Mult (.k (.int 1299709)) (.bin .Add (.v 1) (.k (.int 2))))),
 (.for_ (.name 4) (.seq (.fz (.cat (.fz (.sl (.v 0) .none (.some (.k (.int 3))))) (.fz (.lst (.cons (.v 2) .nil)))))) Z6u),
 (.ret (.new (.lst (.cons (.ite (.cmp .GtE (.bi .abs (.cons (.v 2) .nil)) (.bin .Pow (.k (.int 10)) (.k (.int 18)))) (.bi .abs (.cons (.v 2) .nil)) (.k (.int 0))) (.cons (.v 3) (.cons (.k (.int 0)) .nil))))))]
noncomputable def Z2d:Tab:={ cons:=[],funs:=[],cls:=[],isi:=[],tgs:=[] }
theorem Z4e:Z2d.funs=([]:List Fn):=rfl
theorem Z4g:Z2d.cons=([]:List (Str × T)):=rfl
noncomputable def Z3n:List T→Sto→R T:=den Z2d.cls true 2 5 (Z0i Z2d Z6g)
def Z6n:List IS:=[(.cond (.cmp .Gt (.ix (.v 0) (.k (.int 0))) (.k (.int 0))) [(.asg (.tup [(.sub (.v 0) (.k (.int 0))),(.pl (.name 3))]) (.bi .divmod (.cons (.ix (.v 0) (.k (.int 0))) (.cons (.v 1) .nil)))),(.ret (.v 3))] []),
 (.asg (.sub (.v 0) (.k (.int 2))) (.bin .Add (.ix (.v 0) (.k (.int 2))) (.k (.int 1)))),
 (.asg (.pl (.name 2)) (.bin .Add (.bin .Mult (.ix (.v 0) (.k (.int 1))) (.k (.int 3202034522624059733))) (.bin .Mult (.bin .Mult (.k (.int 104395301)) (.ix (.v 0) (.k (.int 2)))) (.ix (.v 0) (.k (.int 2)))))),
 (.asg (.sub (.v 0) (.k (.int 1))) (.bin .Mod (.bi .int (.cons (.bin .Add (.v 2) (.k (.int 1))) .nil)) (.k (.int 9223372036854775783)))),
 (.ret (.bin .Mod (.bi .int (.cons (.bin .FloorDiv (.ix (.v 0) (.k (.int 1))) (.k (.int 16777216))) .nil)) (.v 1)))]
noncomputable def Z3t:Tab:={ cons:=[],funs:=[],cls:=[],isi:=[],tgs:=[] }
theorem Z8i:Z3t.funs=([]:List Fn):=rfl
theorem Z7y:Z3t.cons=([]:List (Str × T)):=rfl
noncomputable def Z1p:List T→Sto→R T:=den Z3t.cls false 2 4 (Z0i Z3t Z6n)
def Z8m:List IS:=[(.asg (.pl (.name 1)) (.fz (.lst (.cons (.isx (.cls 100) (.v 0)) (.cons (.isx (.cls 117) (.v 0)) (.cons (.isx (.cls 119) (.v 0)) .nil)))))),
 (.asg (.pl (.name 2)) (.fz (.lst (.cons (.isx (.ty "ValueError") (.v 0)) (.cons (.isx (.ty "LookupError") (.v 0)) (.cons (.isx (.ty "ArithmeticError") (.v 0)) .nil)))))),
 (.ret (.ite (.cmp .Eq (.v 1) (.v 2)) (.v 1) (.fz (.lst .nil))))]
noncomputable def Z0g:Tab:={ cons:=[],funs:=[],cls:=[],isi:=[],tgs:=[("NoAnswer",(.cls 119)),("WrongName",(.cls 117)),("WrongValue",(.cls 100)),("ArithmeticError",(.ty "ArithmeticError")),("LookupError",(.ty "LookupError")),("ValueError",(.ty "ValueError"))],xis:=XIS [101,102,103,104,105,106,107,108,109,110,111,112,113,114,115,116,118,120,121,122,123] }
theorem Zbw:Z0g.funs=([]:List Fn):=rfl
theorem ZbD:Z0g.cons=([]:List (Str × T)):=rfl
noncomputable def Z3c:List T→Sto→R T:=den Z0g.cls false 1 3 (Z0i Z0g Z8m)
def ZaF:List IS:=[(.asg (.pl (.name 1)) (.fz (.lst (.cons (.k .non) (.cons (.k (.bl true)) (.cons (.k (.bl false)) (.cons (.k (.str "")) (.cons (.k (.str "a")) (.cons (.k (.str "A")) (.cons (.k (.int 0)) (.cons (.neg (.k (.int 1))) (.cons (.k (.int 5)) (.cons (.bin .Add (.bin .Pow (.k (.int 10)) (.k (.int 30))) (.k (.int 1))) (.cons (.tup .nil) (.cons (.fz (.lst .nil)) (.cons .ed (.cons (.tup (.cons (.k (.int 1)) .nil)) (.cons (.tup (.cons (.k (.str "a")) .nil)) (.cons (.tup (.cons (.k (.str "a")) (.cons (.k (.int 1)) (.cons (.k (.int 1)) .nil)))) (.cons (.fz (.lst (.cons (.k (.str "a")) (.cons (.k (.int 1)) .nil)))) (.cons (.fz (.lst (.cons (.k (.int 1)) .nil))) .nil))))))))))))))))))))),
 (.ret (.ix (.v 1) (.call 0 (.cons (.v 0) (.cons (.k (.int 18)) .nil)) .nil)))]
noncomputable def Z4f:Tab:={ cons:=[],funs:=[⟨"_law_pour",[],(Z0u 2 [] Z1p)⟩],cls:=[],isi:=[],tgs:=[] }
theorem ZcD:Z4f.funs=([⟨"_law_pour",[],(Z0u 2 [] Z1p)⟩]:List Fn):=rfl
theorem Zcy:Z4f.cons=([]:List (Str × T)):=rfl
noncomputable def Z4z:List T→Sto→R T:=den Z4f.cls false 1 2 (Z0i Z4f ZaF)
def Z8p:List IS:=[(.asg (.pl (.name 1)) (.fz (.lst (.cons (.isx (.cls 101) (.v 0)) (.cons (.isx (.cls 102) (.v 0)) (.cons (.isx (.cls 103) (.v 0)) .nil)))))),
 (.asg (.pl (.name 1)) (.fz (.cat (.v 1) (.fz (.lst (.cons (.isx (.cls 104) (.v 0)) (.cons (.isx (.cls 105) (.v 0)) (.cons (.isx (.cls 106) (.v 0)) .nil)))))))),
 (.asg (.pl (.name 1)) (.fz (.cat (.v 1) (.fz (.lst (.cons (.isx (.cls 107) (.v 0)) (.cons (.isx (.cls 108) (.v 0)) (.cons (.isx (.cls 109) (.v 0)) .nil)))))))),
 (.asg (.pl (.name 1)) (.fz (.cat (.v 1) (.fz (.lst (.cons (.isx (.cls 110) (.v 0)) (.cons (.isx (.cls 111) (.v 0)) (.cons (.isx (.cls 112) (.v 0)) .nil)))))))),
 (.asg (.pl (.name 1)) (.fz (.cat (.v 1) (.fz (.lst (.cons (.isx (.cls 113) (.v 0)) (.cons (.isx (.cls 114) (.v 0)) (.cons (.isx (.cls 115) (.v 0)) .nil)))))))),
 (.asg (.pl (.name 1)) (.fz (.cat (.v 1) (.fz (.lst (.cons (.isx (.cls 116) (.v 0)) (.cons (.isx (.cls 118) (.v 0)) (.cons (.isx (.cls 120) (.v 0)) .nil)))))))),
 (.asg (.pl (.name 1)) (.fz (.cat (.v 1) (.fz (.lst (.cons (.isx (.cls 121) (.v 0)) (.cons (.isx (.cls 122) (.v 0)) (.cons (.isx (.cls 123) (.v 0)) .nil)))))))),
 (.cond (.cmp .NotEq (.lk true (.v 1) (.cons (.k (.bl true)) .nil)) (.k (.int 1))) [(.ret (.neg (.k (.int 1))))] []),
 (.asg (.pl (.name 2)) (.lk false (.v 1) (.cons (.k (.bl true)) .nil))),
 (.ret (.ite (.cmp .Eq (.call 0 (.cons (.v 0) .nil) .nil) (.fz (.lst (.cons (.cmp .Lt (.v 2) (.k (.int 16))) (.cons (.cmp .Eq (.v 2) (.k (.int 16))) (.cons (.cmp .Gt (.v 2) (.k (.int 16))) .nil)))))) (.v 2) (.neg (.k (.int 1)))))]
noncomputable def Z0c:Tab:={ cons:=[],funs:=[⟨"_law_bases",[],(Z0u 1 [] Z3c)⟩],cls:=[],isi:=[],tgs:=[("InvalidName",(.cls 103)),("InvalidNumber",(.cls 102)),("InvalidText",(.cls 101)),("InvalidSchedule",(.cls 106)),("InvalidRound",(.cls 105)),("InvalidTables",(.cls 104)),("NotAFair",(.cls 109)),("InvalidIndex",(.cls 108)),("InvalidWish",(.cls 107)),("InvalidMeetings",(.cls 112)),("InvalidGuests",(.cls 111)),("InvalidHosts",(.cls 110)),("InvalidChanges",(.cls 115)),("InvalidGrowth",(.cls 114)),("InvalidUrgent",(.cls 113)),("TooFewRounds",(.cls 120)),("UnknownName",(.cls 118)),("InvalidAsked",(.cls 116)),("Broken",(.cls 123)),("NothingToUndo",(.cls 122)),("TooMany",(.cls 121))],xis:=XIS [101,102,103,104,105,106,107,108,109,110,111,112,113,114,115,116,118,120,121,122,123] }
theorem ZbK:Z0c.funs=([⟨"_law_bases",[],(Z0u 1 [] Z3c)⟩]:List Fn):=rfl
theorem Zbx:Z0c.cons=([]:List (Str × T)):=rfl
noncomputable def Z2z:List T→Sto→R T:=den Z0c.cls false 1 3 (Z0i Z0c Z8p)
def Z3b:List IS:=[(.cond (.cmp .In (.v 1) (.fz (.lst (.cons (.neg (.k (.int 1))) (.cons (.k (.int 19)) .nil))))) [(.ret (.k .non))] []),
 (.ret (.ite (.or (.chain .Lt .Lt (.k (.int 8)) (.v 1) (.k (.int 16))) (.cmp .Eq (.v 1) (.k (.int 20)))) (.xat "index" (.v 0)) (.xat "given" (.v 0))))]
noncomputable def Z1s:Tab:={ cons:=[],funs:=[],cls:=[],isi:=[],tgs:=[],xfl:=XFL [101,102,103,104,105,106,107,108,109,110,111,112,113,114,115,116,118,120,121,122,123] }
theorem Z2l:Z1s.funs=([]:List Fn):=rfl
theorem Z2j:Z1s.cons=([]:List (Str × T)):=rfl
noncomputable def Z0x:List T→Sto→R T:=den Z1s.cls false 2 2 (Z0i Z1s Z3b)
def Z5v:List IS:=[(.asg (.pl (.name 1)) (.fz (.lst (.cons (.call 4 (.cons (.v 0) .nil) .nil) (.cons (.call 3 (.cons (.v 0) .nil) .nil) (.cons (.call 2 (.cons (.v 0) .nil) .nil) (.cons (.call 1 (.cons (.v 0) .nil) .nil) (.cons (.call 0 (.cons (.v 0) .nil) .nil) .nil)))))))),
 (.asg (.pl (.name 1)) (.fz (.cat (.v 1) (.fz (.lst (.cons (.call 9 (.cons (.v 0) .nil) .nil) (.cons (.call 8 (.cons (.v 0) .nil) .nil) (.cons (.call 7 (.cons (.v 0) .nil) .nil) (.cons (.call 6 (.cons (.v 0) .nil) .nil) (.cons (.call 5 (.cons (.v 0) .nil) .nil) .nil)))))))))),
 (.asg (.pl (.name 1)) (.fz (.cat (.v 1) (.fz (.lst (.cons (.call 13 (.cons (.v 0) .nil) .nil) (.cons (.call 12 (.cons (.v 0) .nil) .nil) (.cons (.call 11 (.cons (.v 0) .nil) .nil) (.cons (.call 10 (.cons (.v 0) .nil) .nil) .nil))))))))),
 (.asg (.pl (.name 1)) (.fz (.cat (.v 1) (.fz (.lst (.cons (.call 18 (.cons (.v 0) .nil) .nil) (.cons (.call 17 (.cons (.v 0) .nil) .nil) (.cons (.call 16 (.cons (.v 0) .nil) .nil) (.cons (.call 15 (.cons (.v 0) .nil) .nil) (.cons (.call 14 (.cons (.v 0) .nil) .nil) .nil)))))))))),
 (.ret (.fz (.cat (.v 1) (.fz (.lst (.cons (.call 20 .nil .nil) (.cons (.call 19 (.cons (.v 0) .nil) .nil) .nil)))))))]
noncomputable def Z1v:Tab:={ cons:=[],funs:=[⟨"InvalidRound",[],exF 105⟩,⟨"InvalidTables",[],exF 104⟩,⟨"InvalidName",[],exF 103⟩,⟨"InvalidNumber",[],exF 102⟩,⟨"InvalidText",[],exF 101⟩,⟨"InvalidHosts",[],exF 110⟩,⟨"NotAFair",[],exF 109⟩,⟨"InvalidIndex",[],exF 108⟩,⟨"InvalidWish",[],exF 107⟩,⟨"InvalidSchedule",[],exF 106⟩,⟨"InvalidGrowth",[],exF 114⟩,⟨"InvalidUrgent",[],exF 113⟩,⟨"InvalidMeetings",[],exF 112⟩,⟨"InvalidGuests",[],exF 111⟩,⟨"TooMany",[],exF 121⟩,⟨"TooFewRounds",[],exF 120⟩,⟨"UnknownName",[],exF 118⟩,⟨"InvalidAsked",[],exF 116⟩,⟨"InvalidChanges",[],exF 115⟩,⟨"Broken",[],exF 123⟩,⟨"NothingToUndo",[],ex0 122⟩],cls:=[],isi:=[],tgs:=[] }
theorem Zal:Z1v.funs=([⟨"InvalidRound",[],exF 105⟩,⟨"InvalidTables",[],exF 104⟩,⟨"InvalidName",[],exF 103⟩,⟨"InvalidNumber",[],exF 102⟩,⟨"InvalidText",[],exF 101⟩,⟨"InvalidHosts",[],exF 110⟩,⟨"NotAFair",[],exF 109⟩,⟨"InvalidIndex",[],exF 108⟩,⟨"InvalidWish",[],exF 107⟩,⟨"InvalidSchedule",[],exF 106⟩,⟨"InvalidGrowth",[],exF 114⟩,⟨"InvalidUrgent",[],exF 113⟩,⟨"InvalidMeetings",[],exF 112⟩,⟨"InvalidGuests",[],exF 111⟩,⟨"TooMany",[],exF 121⟩,⟨"TooFewRounds",[],exF 120⟩,⟨"UnknownName",[],exF 118⟩,⟨"InvalidAsked",[],exF 116⟩,⟨"InvalidChanges",[],exF 115⟩,⟨"Broken",[],exF 123⟩,⟨"NothingToUndo",[],ex0 122⟩]:List Fn):=rfl
theorem Zak:Z1v.cons=([]:List (Str × T)):=rfl
noncomputable def Z2i:List T→Sto→R T:=den Z1v.cls false 1 2 (Z0i Z1v Z5v)
def Z6j:List IS:=[(.asg (.pl (.name 1)) (.fz (.lst (.cons (.call 3 .nil (.cons (.v 0) .nil)) (.cons (.call 2 .nil (.cons (.v 0) .nil)) (.cons (.call 1 .nil (.cons (.v 0) .nil)) (.cons (.call 0 .nil (.cons (.v 0) .nil)) .nil))))))),
 (.asg (.pl (.name 1)) (.fz (.cat (.v 1) (.fz (.lst (.cons (.call 6 .nil (.cons (.v 0) .nil)) (.cons (.call 5 .nil (.cons (.v 0) .nil)) (.cons (.call 4 .nil (.cons (.v 0) .nil)) .nil)))))))),
 (.asg (.pl (.name 1)) (.fz (.cat (.v 1) (.fz (.lst (.cons (.call 10 .nil (.cons (.v 0) .nil)) (.cons (.call 9 .nil (.cons (.v 0) .nil)) (.cons (.call 8 .nil (.cons (.v 0) .nil)) (.cons (.call 7 .nil (.cons (.v 0) .nil)) .nil))))))))),
 (.asg (.pl (.name 1)) (.fz (.cat (.v 1) (.fz (.lst (.cons (.call 13 .nil (.cons (.v 0) .nil)) (.cons (.call 12 .nil (.cons (.v 0) .nil)) (.cons (.call 11 .nil (.cons (.v 0) .nil)) .nil)))))))),
 (.asg (.pl (.name 1)) (.fz (.cat (.v 1) (.fz (.lst (.cons (.call 16 .nil (.cons (.v 0) .nil)) (.cons (.call 15 .nil (.cons (.v 0) .nil)) (.cons (.call 14 .nil (.cons (.v 0) .nil)) .nil)))))))),
 (.ret (.fz (.cat (.v 1) (.fz (.lst (.cons (.call 20 .nil (.cons (.v 0) .nil)) (.cons (.call 19 .nil (.cons (.v 0) .nil)) (.cons (.call 18 .nil .nil) (.cons (.call 17 .nil (.cons (.v 0) .nil)) .nil)))))))))]
noncomputable def Z2g:Tab:={ cons:=[],funs:=[⟨"InvalidTables",["given"],exF 104⟩,⟨"InvalidName",["given"],exF 103⟩,⟨"InvalidNumber",["given"],exF 102⟩,⟨"InvalidText",["given"],exF 101⟩,⟨"InvalidWish",["given"],exF 107⟩,⟨"InvalidSchedule",["given"],exF 106⟩,⟨"InvalidRound",["given"],exF 105⟩,⟨"InvalidGuests",["index"],exF 111⟩,⟨"InvalidHosts",["index"],exF 110⟩,⟨"NotAFair",["given"],exF 109⟩,⟨"InvalidIndex",["given"],exF 108⟩,⟨"InvalidGrowth",["index"],exF 114⟩,⟨"InvalidUrgent",["index"],exF 113⟩,⟨"InvalidMeetings",["index"],exF 112⟩,⟨"UnknownName",["given"],exF 118⟩,⟨"InvalidAsked",["index"],exF 116⟩,⟨"InvalidChanges",["index"],exF 115⟩,⟨"Broken",["index"],exF 123⟩,⟨"NothingToUndo",[],ex0 122⟩,⟨"TooMany",["given"],exF 121⟩,⟨"TooFewRounds",["given"],exF 120⟩],cls:=[],isi:=[],tgs:=[] }
theorem ZaK:Z2g.funs=([⟨"InvalidTables",["given"],exF 104⟩,⟨"InvalidName",["given"],exF 103⟩,⟨"InvalidNumber",["given"],exF 102⟩,⟨"InvalidText",["given"],exF 101⟩,⟨"InvalidWish",["given"],exF 107⟩,⟨"InvalidSchedule",["given"],exF 106⟩,⟨"InvalidRound",["given"],exF 105⟩,⟨"InvalidGuests",["index"],exF 111⟩,⟨"InvalidHosts",["index"],exF 110⟩,⟨"NotAFair",["given"],exF 109⟩,⟨"InvalidIndex",["given"],exF 108⟩,⟨"InvalidGrowth",["index"],exF 114⟩,⟨"InvalidUrgent",["index"],exF 113⟩,⟨"InvalidMeetings",["index"],exF 112⟩,⟨"UnknownName",["given"],exF 118⟩,⟨"InvalidAsked",["index"],exF 116⟩,⟨"InvalidChanges",["index"],exF 115⟩,⟨"Broken",["index"],exF 123⟩,⟨"NothingToUndo",[],ex0 122⟩,⟨"TooMany",["given"],exF 121⟩,⟨"TooFewRounds",["given"],exF 120⟩]:List Fn):=rfl
theorem ZaL:Z2g.cons=([]:List (Str × T)):=rfl
noncomputable def Z2u:List T→Sto→R T:=den Z2g.cls false 1 2 (Z0i Z2g Z6j)
def Z7h:IE:=(.call 4 (.cons (.v 5) .nil) .nil)
def Z5l:IE:=(.call 5 (.cons (.ix (.v 4) (.v 6)) (.cons (.v 6) .nil)) .nil)
def Z7o:List IS:=[(.cond (.cmp .NotEq (.fz (.lc [5] Z7h (.name 5) (.seq (.v 4)) .none)) (.fz (.lrg (.k (.int 21))))) [(.ret (.k (.bl false)))] []),(.cond (.cmp .NotEq (.repr (.fz (.lc [6] Z5l (.name 6) (.rng1 (.k (.int 21))) .none))) (.repr (.v 3))) [(.ret (.k (.bl false)))] [])]
def Z0o:List IS:=[(.asg (.pl (.name 2)) (.call 0 (.cons (.v 0) .nil) .nil)),(.cond (.cmp .Eq (.call 1 (.cons (.v 0) (.cons (.k (.int 3)) .nil)) .nil) (.k (.int 0))) [(.asg (.pl (.name 2)) (.ix (.fz (.lst (.cons (.tup (.cons (.v 2) (.cons (.v 2) .nil))) (.cons (.dk1 "given" 2) (.cons (.bin .Mult (.call 1 (.cons (.v 0) (.cons (.bin .Pow (.k (.int 10)) (.k (.int 15))) .nil)) .nil) (.bin .Pow (.k (.int 10)) (.k (.int 25)))) .nil))))) (.call 1 (.cons (.v 0) (.cons (.k (.int 3)) .nil)) .nil)))] []),(.asg (.pl (.name 3)) (.fz (.cat (.fz (.rep (.fz (.lst (.cons (.v 2) .nil))) (.k (.int 19)))) (.fz (.lst (.cons (.k .non) (.cons (.v 2) .nil))))))),(.for_ (.name 4) (.seq (.fz (.lst (.cons (.call 3 (.cons (.v 2) .nil) .nil) (.cons (.call 2 (.cons (.v 2) .nil) .nil) .nil))))) Z7o)]
def Z8l:List IS:=[(.for_ (.name 1) (.rng1 (.k (.int 4))) Z0o),
 (.ret (.k (.bl true)))]
noncomputable def Z0n:Tab:={ cons:=[],funs:=[⟨"_law_odd",[],(Z0u 1 [] Z4z)⟩,⟨"_law_pour",[],(Z0u 2 [] Z1p)⟩,⟨"_law_by_name",[],(Z0u 1 [] Z2u)⟩,⟨"_law_by_place",[],(Z0u 1 [] Z2i)⟩,⟨"_law_class",[],(Z0u 1 [] Z2z)⟩,⟨"_law_keeps",[],(Z0u 2 [] Z0x)⟩],cls:=[],isi:=[],tgs:=[] }
theorem Z0t:Z0n.funs=([⟨"_law_odd",[],(Z0u 1 [] Z4z)⟩,⟨"_law_pour",[],(Z0u 2 [] Z1p)⟩,⟨"_law_by_name",[],(Z0u 1 [] Z2u)⟩,⟨"_law_by_place",[],(Z0u 1 [] Z2i)⟩,⟨"_law_class",[],(Z0u 1 [] Z2z)⟩,⟨"_law_keeps",[],(Z0u 2 [] Z0x)⟩]:List Fn):=rfl
theorem Z0s:Z0n.cons=([]:List (Str × T)):=rfl
noncomputable def Z3r:List T→Sto→R T:=den Z0n.cls false 1 7 (Z0i Z0n Z8l)
def ZaD:List IS:=[(.drop (.cond (.not (.call 0 (.cons (.call 1 (.cons (.v 0) (.cons (.v 1) .nil)) .nil) .nil) .nil)) [(.ret (.k (.bl false)))] []))]
def Z6t:List IS:=[(.drop (.cond (.cmp .NotEq (.repr (.fz (.lst (.cons (.g 4) (.cons (.g 3) (.cons (.g 2) (.cons (.g 1) (.cons (.g 0) .nil)))))))) (.repr (.fz (.lst (.cons (.k (.int 4)) (.cons (.k (.int 4)) (.cons (.k (.int 12)) (.cons (.bin .Pow (.k (.int 10)) (.k (.int 30))) (.cons (.k (.int 5)) .nil))))))))) [(.ret (.k (.bl false)))] [])),
 (.for_ (.name 1) (.rng1 (.bi .max (.cons (.k (.int 2)) (.cons (.bi .min (.cons (.bi .len (.cons (.v 0) .nil)) (.cons (.k (.int 4)) .nil))) .nil)))) ZaD),
 (.ret (.k (.bl true)))]
noncomputable def Z2w:Tab:={ cons:=[("MOST_CHANGES",(.int 5)),("MOST_MEETINGS",(.int 1000000000000000000000000000000)),("MOST_TABLES",(.int 12)),("MOST_BOUND",(.int 4)),("MOST_SIDE",(.int 4))],funs:=[⟨"_law_right",[],(Z0u 1 [] Z3r)⟩,⟨"_law_jug",[],(Z0u 2 [] Z3n)⟩],cls:=[],isi:=[],tgs:=[] }
theorem Zaa:Z2w.funs=([⟨"_law_right",[],(Z0u 1 [] Z3r)⟩,⟨"_law_jug",[],(Z0u 2 [] Z3n)⟩]:List Fn):=rfl
theorem Za6:Z2w.cons=([("MOST_CHANGES",(.int 5)),("MOST_MEETINGS",(.int 1000000000000000000000000000000)),("MOST_TABLES",(.int 12)),("MOST_BOUND",(.int 4)),("MOST_SIDE",(.int 4))]:List (Str × T)):=rfl
noncomputable def Zdc:List T→Sto→R T:=den Z2w.cls false 1 2 (Z0i Z2w Z6t)
end EgLaw
set_option maxHeartbeats 4000000
namespace EgLaw
open Eg
local macro_rules | `(tactic| simp! [$xs,*]) => `(tactic| simp[den,Z7c,Z7g,IS.ev,IE.ev,IL.ev,IEs.ev,IO.ev,II.ev,IO.test,IA.ev,IA.ev.evs,Zdh,Zb6,Zb1,Zir,ZhI,Zc3,Zcl,ZiN,Zc0,ZaZ,Za2,ZaU,Zcj,Zi0,Zi4,Zj3,Zbf,ZbQ,ZgL,Zc8,Zb4,ZiT,Zb9,Zb0,ZbW,Zbc,Zh6,Zcm,Zb5,Zb2,Zdd,Zci,Zcq,Zcp,Z9w,Z8u,Z9n,Z9v,Zf5,ZeU,ZaC,ZaH,ZaO,Zaq,Z7i,Z7p,Zao,ZeD,Zeq,Zg2,Z8r,Zat,Ze7,ZaR,Z9z,Zgw,Zgd,Z9m,Z9d,ZdC,Zam,Z9k,Z8z,Z9s,IG.set,IG.set.sets,evV,env0,ZcS,ZcK,muT,Z8a,Z2r,Z0p,Z2o,L2.atI,L2.ixN,lim,bnd_ok',go_ok',seq_nx',seq_rt',opt_some',nox_ok',finO_rt,finO_nx,Z0u,kwF,Z8d, $xs,*])
def JC (n:Nat) (c:Cell):Prop:=∃ g m k:Int,c = .lst [.int g, .int m, .int k]∧0≤g∧0≤m∧m < 2 ^ 64∧0≤k∧k≤n
theorem JC.nl{n:Nat}{c:Cell}(h:JC n c):∀ f,Z7e f c=some c:=by
 obtain⟨g,m,k,rfl,_⟩:=h
 intro f
 show(Z0f f [.int g, .int m, .int k]).map Cell.lst=_
 rw[show Z0f f [.int g, .int m, .int k]=some [.int g, .int m, .int k] from(by simp:Nls [.int g, .int m, .int k]) f]
 rfl
theorem JC.mono{n m:Nat}{c:Cell}(h:JC n c)(hl:n≤m):JC m c:=by
 obtain⟨g,a,k,rfl,h1,h2,h3,h4,h5⟩:=h
 exact⟨g,a,k,rfl,h1,h2,h3,h4,by omega⟩
theorem Z7m{i:Int}{k:Nat}(h0:0≤i)(h:i < 2 ^ k):i.natAbs < 2 ^ k:=by
 have:(i.natAbs:Int) < 2 ^ k:=by rw[Int.natAbs_of_nonneg h0];exact h
 exact_mod_cast this
theorem ZhS{n:Nat}{J:Cell}{rest:Sto}{k:Int}(hJ:JC n J)(hn:n < 10 ^ 9)(hk:0 < k)(hk2:k < 2 ^ 64)(hr:NL rest) :
  Ev (Z1p [.loc 0, .int k] (J :: rest)) fun t st=>∃ d J',t = .int d∧0≤d∧d < k∧st=J' :: rest∧JC (n+1) J':=by
 obtain⟨g,m,c,rfl,h1,h2,h3,h4,h5⟩:=hJ
 by_cases hg:0 < g
 ·simp! [Z1p,Z8i,Z7y,Z6n,IRs.ev,ZeX,ZcG,Zcv,hg,ZfO hk hk2]
  rw[show List.length rest+1=(Cell.lst [T.int (g / k),T.int m,T.int c] :: rest).length from rfl]
  have J':JC (n+1) (.lst [T.int (g / k),T.int m,T.int c]):=⟨_,_,_,rfl,Int.ediv_nonneg h1 (by omega),h2,h3,h4,by omega⟩
  rw[Z1w (Z9c J'.nl hr) (by simp)]
  exact Ev.ok ⟨_,rfl,Int.emod_nonneg _ (by omega),Int.emod_lt_of_pos _ hk,_,rfl,J'⟩
 ·have m1:Z4v m 3202034522624059733:=Z9o 64 64 (Z7m h2 h3) (by decide) (by decide) (by decide) (by decide)
  have m2:Z4v 104395301 (c+1):=Z9o 64 64 (by decide) (Z7m (by omega) (by omega)) (by decide) (by decide) (by decide)
  have m3:Z4v (104395301 * (c+1)) (c+1):=Z9o 128 64 (Z7m (by omega) (by omega)) (Z7m (by omega) (by omega)) (by decide) (by decide) (by decide)
  have d1:Z6s 16777216:=ZfO (by decide) (by decide)
  simp! [Z1p,Z8i,Z7y,Z6n,IRs.ev,ZeX,ZcG,Zcv,hg,m1,m2,m3,d1,hk]
  generalize hq:(m * 3202034522624059733+104395301 * (c+1) * (c+1)+1) % 9223372036854775783=q
  have q1:0≤q:=by rw[← hq];exact Int.emod_nonneg _ (by decide)
  have q2:q < 9223372036854775783:=by rw[← hq];exact Int.emod_lt_of_pos _ (by decide)
  rw[show List.length rest+1=(Cell.lst [T.int g,T.int q,T.int (c+1)] :: rest).length from rfl]
  have J':JC (n+1) (.lst [T.int g,T.int q,T.int (c+1)]):=⟨_,_,_,rfl,h1,q1,by omega,by omega,by omega⟩
  rw[Z1w (Z9c J'.nl hr) (by simp)]
  exact Ev.ok ⟨_,rfl,Int.emod_nonneg _ (by omega),Int.emod_lt_of_pos _ hk,_,rfl,J'⟩
theorem Zdu{a b c:Option T}{st:Sto}:∀ (xs:List Int) (m:Int) (e:Option T),0≤m→m < 2 ^ 64→∃ m' e',Z2p (.name 4) (Z0i Z2d Z6u) (xs.map T.int) [a,b,c,some (.int m),e] st = .nx [a,b,c,some (.int m'),e'] st∧0≤m'∧m' < 2 ^ 64
 | [],m,e,h0,h1=>⟨m,e,rfl,h0,h1⟩
 | x :: xs,m,e,h0,h1=>by
  have m1:Z4v m 2862933555777941757:=Z9o 64 64 (Z7m h0 h1) (by decide) (by decide) (by decide) (by decide)
  obtain⟨m',e',h2,h3⟩:=Zdu (a:=a) (b:=b) (c:=c) (st:=st) xs ((m * 2862933555777941757+x % 9223372036854775337+5) % 9223372036854775783) (some (.int x)) (Int.emod_nonneg _ (by decide)) (Int.lt_trans (Int.emod_lt_of_pos _ (by decide)) (by decide))
  refine⟨m',e', ?_,h3⟩
  rw[← h2]
  simp! [Z2p,Z6u,Z4e,Z4g,IRs.ev,Zcf,Zbb,Z1f,ZaW,ZaP,ZaI,ZaB,Z9r,Z1c,Z1b,Z9u,Z8t,Z9f,m1]
theorem ZiF{ns:List Int}{i:Nat}{st:Sto}(hl:ns.length≤63)(hi:i < 10)(hr:NL st) :
  Ev (Z3n [.scr ns, .int i] st) fun t s=>t = .loc st.length∧∃ J,s=st++[J]∧JC 0 J:=by
 have key:∀ own:Int,∃ m' e',Z2p (.name 4) (Z0i Z2d Z6u) ((ns.take 3++[own]).map T.int) [some (.scr ns),some (.int i),some (.int own),some (.int (1299709 * (i+2))),none] st = .nx [some (.scr ns),some (.int i),some (.int own),some (.int m'),e'] st∧0≤m'∧m' < 2 ^ 64 :=
  fun own=>Zdu _ _ _ (by omega) (by omega)
 have m0:Z4v 1299709 ((i:Int)+2):=Z9o 64 64 (by decide) (Z7m (by omega) (by omega)) (by decide) (by decide) (by decide)
 have p0:Z6o 10 18:=by decide
 have l1:min 3 ns.length+1≤lim:=by unfold lim;omega
 have fin:∀ (g m':Int),0≤g→0≤m'→m' < 2 ^ 64→Ev (Z5w Z2d.cls true st.length (.loc st.length) (st++[.lst [.int g, .int m', .int 0]])) fun t s=>t = .loc st.length∧∃ J,s=st++[J]∧JC 0 J:=fun g m' h0 h1 h2=>by
  have J:JC 0 (.lst [.int g, .int m', .int 0]):=⟨_,_,_,rfl,h0,h1,h2,by omega,by omega⟩
  rw[ZgR hr (by simp) (Nat.le_refl _) J.nl]
  exact Ev.ok ⟨rfl,_,rfl,J⟩
 have ht:∀ own:Int,(ns.take 3++[own]).map T.int=(ns.map T.int).take 3++[.int own]:=fun own=>by rw[List.map_append,List.map_take];rfl
 have l2:min 3 ns.length+1≤16777216:=by omega
 by_cases h:i < ns.length
 ·obtain⟨m',e',h1,h2,h3⟩:=key ns[i]
  rw[ht] at h1
  by_cases hg:1000000000000000000≤(if ns[i] < 0 then -ns[i] else ns[i])
  ·have z:=fin (if ns[i] < 0 then -ns[i] else ns[i]) m' (by omega) h2 h3
   simp[Z3n,Z4e,Z4g,Z6g,den,Z7c,Z7g,IS.ev,IE.ev,IL.ev,IEs.ev,IRs.ev,IO.ev,II.ev,IO.test,IA.ev,IA.ev.evs,Zdh,Zb6,Zb1,Zc3,Zcf,Zcl,Zc0,ZaZ,Za2,ZaU,Zcj,Zbf,ZbQ,Zbb,Zc8,Z1f,ZaW,Zb4,Zb9,Zb0,ZbW,Zbc,Zcm,Zb5,Zb2,Zdd,Zci,Zcq,Zcp,Z9w,Z8u,Z9n,Z9v,ZaC,ZaH,ZaP,ZaI,ZaB,ZaO,Zaq,Z7i,Z7p,Zao,Z8r,Zat,Z9r,ZaR,Z1c,Z1b,Z9u,Z8t,Z9f,Z9z,Z9m,Z9d,Zam,Z9k,Z8z,Z9s,IG.set,IG.set.sets,evV,env0,ZcS,ZcK,muT,Z8a,Z2r,Z0p,Z2o,L2.atI,L2.ixN,lim,bnd_ok',go_ok',seq_nx',seq_rt',opt_some',nox_ok',finO_rt,finO_nx,Z0u,kwF,Z8d,h,m0,p0,Z7b,l2,h1,hg] at z ⊢
   exact z
  ·have z:=fin 0 m' (by omega) h2 h3
   simp[Z3n,Z4e,Z4g,Z6g,den,Z7c,Z7g,IS.ev,IE.ev,IL.ev,IEs.ev,IRs.ev,IO.ev,II.ev,IO.test,IA.ev,IA.ev.evs,Zdh,Zb6,Zb1,Zc3,Zcf,Zcl,Zc0,ZaZ,Za2,ZaU,Zcj,Zbf,ZbQ,Zbb,Zc8,Z1f,ZaW,Zb4,Zb9,Zb0,ZbW,Zbc,Zcm,Zb5,Zb2,Zdd,Zci,Zcq,Zcp,Z9w,Z8u,Z9n,Z9v,ZaC,ZaH,ZaP,ZaI,ZaB,ZaO,Zaq,Z7i,Z7p,Zao,Z8r,Zat,Z9r,ZaR,Z1c,Z1b,Z9u,Z8t,Z9f,Z9z,Z9m,Z9d,Zam,Z9k,Z8z,Z9s,IG.set,IG.set.sets,evV,env0,ZcS,ZcK,muT,Z8a,Z2r,Z0p,Z2o,L2.atI,L2.ixN,lim,bnd_ok',go_ok',seq_nx',seq_rt',opt_some',nox_ok',finO_rt,finO_nx,Z0u,kwF,Z8d,h,m0,p0,Z7b,l2,h1,hg] at z ⊢
   exact z
 ·obtain⟨m',e',h1,h2,h3⟩:=key (40+i)
  rw[ht] at h1
  have n1:¬ (40+(i:Int) < 0):=by omega
  have n2:¬ (1000000000000000000≤40+(i:Int)):=by omega
  have z:=fin 0 m' (by omega) h2 h3
  simp[Z3n,Z4e,Z4g,Z6g,den,Z7c,Z7g,IS.ev,IE.ev,IL.ev,IEs.ev,IRs.ev,IO.ev,II.ev,IO.test,IA.ev,IA.ev.evs,Zdh,Zb6,Zb1,Zc3,Zcf,Zcl,Zc0,ZaZ,Za2,ZaU,Zcj,Zbf,ZbQ,Zbb,Zc8,Z1f,ZaW,Zb4,Zb9,Zb0,ZbW,Zbc,Zcm,Zb5,Zb2,Zdd,Zci,Zcq,Zcp,Z9w,Z8u,Z9n,Z9v,ZaC,ZaH,ZaP,ZaI,ZaB,ZaO,Zaq,Z7i,Z7p,Zao,Z8r,Zat,Z9r,ZaR,Z1c,Z1b,Z9u,Z8t,Z9f,Z9z,Z9m,Z9d,Zam,Z9k,Z8z,Z9s,IG.set,IG.set.sets,evV,env0,ZcS,ZcK,muT,Z8a,Z2r,Z0p,Z2o,L2.atI,L2.ixN,lim,bnd_ok',go_ok',seq_nx',seq_rt',opt_some',nox_ok',finO_rt,finO_nx,Z0u,kwF,Z8d,h,m0,p0,Z7b,l2,h1,n1,n2] at z ⊢
  exact z
theorem ZaV{n:Nat}{J:Cell}{rest:Sto}{k:Int}(hJ:JC n J)(hn:n < 10 ^ 9)(hk:0 < k)(hk2:k < 2 ^ 64)(hr:NL rest) :
  ∃ d J',Z1p [.loc 0, .int k] (J :: rest) = .ok (.int d) (J' :: rest)∧0≤d∧d < k∧JC (n+1) J':=by
 obtain⟨_,_,e,d,J',rfl,h1,h2,rfl,h3⟩:=ZhS hJ hn hk hk2 hr
 exact⟨d,J',e,h1,h2,h3⟩
theorem Ziu(n:Bool)(fa:Env→Sto→R T)(fs:Env→Sto→R (List T))(env:Env)(st:Sto):fLk n fa fs env st=(fa env st).bnd fun x st1=>if (Z0p st1 x).isSome then(fs env st1).bnd fun ys st2=>match ys with
 | [y]=>R.opt (Z6q n st2 x y) st2
 | _ => .bad else .bad:=rfl
theorem ZiI{c:Nat}{ts:List T}{u0 u1 u2:Bool}{st:Sto}(hs:NL st)(h0:Z0g.xis.lookup (c, .cls 100)=some u0)(h1:Z0g.xis.lookup (c, .cls 117)=some u1)(h2:Z0g.xis.lookup (c, .cls 119)=some u2)
  (h3:Z0g.xis.lookup (c, .ty "ValueError")=some u0) (h4:Z0g.xis.lookup (c, .ty "LookupError")=some u1) (h5:Z0g.xis.lookup (c, .ty "ArithmeticError")=some u2) :
  Z3c [.exh c ts] st = .ok (.lst [.bl u0, .bl u1, .bl u2]) st:=by
 simp! [Z3c,Zbw,ZbD,Z8m,IRs.ev,ZeQ,Zcu,h0,h1,h2,h3,h4,h5,Z1h,eqT,Z0j,Z0p,data,Z0l,dep,Z2s,eqv,Zad]
 exact Z1w hs (by simp)
def cN (k:Nat):Nat:=if k < 16 then 101+k else if k=16 then 118 else 103+k
def exE (t:T) (k:Nat):T:=if k=19 then .exh 122 [] else .exh (cN k) [t]
theorem lkB:∀ k,k < 21→Z0g.xis.lookup (cN k, .cls 100)=some (decide (k < 16))∧Z0g.xis.lookup (cN k, .cls 117)=some (decide (k=16))∧Z0g.xis.lookup (cN k, .cls 119)=some (decide (16 < k)) ∧
  Z0g.xis.lookup (cN k, .ty "ValueError")=some (decide (k < 16))∧Z0g.xis.lookup (cN k, .ty "LookupError")=some (decide (k=16))∧Z0g.xis.lookup (cN k, .ty "ArithmeticError")=some (decide (16 < k)):=by
 unfold Z0g
 decide +kernel
theorem lkC:∀ k,k < 21→∀ j,j < 21→Z0c.xis.lookup (cN k, .cls (cN j))=some (decide (k=j)):=by
 unfold Z0c
 decide +kernel
theorem Zja(t:T)(k:Nat):∃ ts,exE t k = .exh (cN k) ts:=by
 unfold exE
 by_cases h:k=19
 ·exact⟨[],by rw[if_pos h,h];rfl⟩
 ·exact⟨[t],by rw[if_neg h]⟩
theorem eq3(a b c:Bool):eqT (.lst [.bl a, .bl b, .bl c]) (.lst [.bl a, .bl b, .bl c])=some true:=by
 simp[eqT,data,Z0l,dep,Z2s,eqv,Zad]
theorem Zjn{c k:Nat}{ts:List T}{u0 u1 u2 m0 m1 m2 m3 m4 m5 m6 m7 m8 m9 m10 m11 m12 m13 m14 m15 m16 m17 m18 m19 m20:Bool}{st:Sto}(hs:NL st)(l0:Z0c.xis.lookup (c, .cls 101)=some m0)(l1:Z0c.xis.lookup (c, .cls 102)=some m1)(l2:Z0c.xis.lookup (c, .cls 103)=some m2)(l3:Z0c.xis.lookup (c, .cls 104)=some m3)(l4:Z0c.xis.lookup (c, .cls 105)=some m4)(l5:Z0c.xis.lookup (c, .cls 106)=some m5)(l6:Z0c.xis.lookup (c, .cls 107)=some m6)(l7:Z0c.xis.lookup (c, .cls 108)=some m7)(l8:Z0c.xis.lookup (c, .cls 109)=some m8)(l9:Z0c.xis.lookup (c, .cls 110)=some m9)(l10:Z0c.xis.lookup (c, .cls 111)=some m10)(l11:Z0c.xis.lookup (c, .cls 112)=some m11)(l12:Z0c.xis.lookup (c, .cls 113)=some m12)(l13:Z0c.xis.lookup (c, .cls 114)=some m13)(l14:Z0c.xis.lookup (c, .cls 115)=some m14)(l15:Z0c.xis.lookup (c, .cls 116)=some m15)(l16:Z0c.xis.lookup (c, .cls 118)=some m16)(l17:Z0c.xis.lookup (c, .cls 120)=some m17)(l18:Z0c.xis.lookup (c, .cls 121)=some m18)(l19:Z0c.xis.lookup (c, .cls 122)=some m19)(l20:Z0c.xis.lookup (c, .cls 123)=some m20)
  (hb:Z3c [.exh c ts] st = .ok (.lst [.bl u0, .bl u1, .bl u2]) st)
  (hc:∀ st,Z6q true st (.lst [.bl m0, .bl m1, .bl m2, .bl m3, .bl m4, .bl m5, .bl m6, .bl m7, .bl m8, .bl m9, .bl m10, .bl m11, .bl m12, .bl m13, .bl m14, .bl m15, .bl m16, .bl m17, .bl m18, .bl m19, .bl m20]) (.bl true)=some (.int 1)) (hi:∀ st,Z6q false st (.lst [.bl m0, .bl m1, .bl m2, .bl m3, .bl m4, .bl m5, .bl m6, .bl m7, .bl m8, .bl m9, .bl m10, .bl m11, .bl m12, .bl m13, .bl m14, .bl m15, .bl m16, .bl m17, .bl m18, .bl m19, .bl m20]) (.bl true)=some (.int k))
  (e0:decide ((k:Int) < 16)=u0) (e1:((k:Int) == 16)=u1) (e2:decide ((16:Int) < k)=u2) :
  Z2z [.exh c ts] st = .ok (.int k) st:=by
 simp! [Z2z,ZbK,Zbx,Z8p,IRs.ev,Z2t,Z1f,Z2h,Z1c,Z1b,ZeQ,Zcu,Ziu,eq3,hb,hc,hi,e0,e1,e2,l0,l1,l2,l3,l4,l5,l6,l7,l8,l9,l10,l11,l12,l13,l14,l15,l16,l17,l18,l19,l20]
 exact Z1w hs (by simp)
theorem ZiB:∀ k,k < 21→(((List.range 21).map fun j=>T.bl (decide (k=j))).countP fun z=>eqv z (.bl true))=1∧(((List.range 21).map fun j=>T.bl (decide (k=j))).findIdx? fun z=>eqv z (.bl true))=some k:=by decide +kernel
theorem ZhO(k:Nat):Z0l ((List.range 21).map fun j=>T.bl (decide (k=j)))=true∧Z2s ((List.range 21).map fun j=>T.bl (decide (k=j)))=0:=⟨rfl,rfl⟩
theorem Ze9{k:Nat}(hk:k < 21)(st:Sto):Z6q true st (.lst ((List.range 21).map fun j=>T.bl (decide (k=j)))) (.bl true)=some (.int 1)∧Z6q false st (.lst ((List.range 21).map fun j=>T.bl (decide (k=j)))) (.bl true)=some (.int k):=by
 obtain⟨a,b⟩:=ZiB k hk
 obtain⟨d1,d2⟩:=ZhO k
 have h:(data (.bl true) && Z0l ((List.range 21).map fun j=>T.bl (decide (k=j))) && decide (dep (.bl true)≤60) && decide (Z2s ((List.range 21).map fun j=>T.bl (decide (k=j)))≤60))=true:=by
  rw[d1,d2];rfl
 unfold Z6q
 simp only[Z0p]
 rw[if_pos h,if_pos h,a,b]
 exact⟨rfl,rfl⟩
theorem ZiO{k:Nat}{ts:List T}{st:Sto}(hs:NL st)(hk:k < 21):Z2z [.exh (cN k) ts] st = .ok (.int k) st:=by
 obtain⟨b0,b1,b2,b3,b4,b5⟩:=lkB k hk
 have L:=lkC k hk
 exact Zjn hs (L 0 (by decide)) (L 1 (by decide)) (L 2 (by decide)) (L 3 (by decide)) (L 4 (by decide)) (L 5 (by decide)) (L 6 (by decide)) (L 7 (by decide)) (L 8 (by decide)) (L 9 (by decide)) (L 10 (by decide)) (L 11 (by decide)) (L 12 (by decide)) (L 13 (by decide)) (L 14 (by decide)) (L 15 (by decide)) (L 16 (by decide)) (L 17 (by decide)) (L 18 (by decide)) (L 19 (by decide)) (L 20 (by decide)) (ZiI hs b0 b1 b2 b3 b4 b5) (fun st=>(Ze9 hk st).1) (fun st=>(Ze9 hk st).2) (by rw[decide_eq_decide];omega) (by rw[Bool.eq_iff_iff];simp;omega) (by rw[decide_eq_decide];omega)
theorem lkK:∀ k,k < 21→k≠19→Z1s.xfl.lookup (cN k)=some (if 8 < k∧k < 16∨k=20 then("index" : PySem.Str) else "given"):=by
 unfold Z1s
 decide +kernel
theorem ZhW{t:T}{st:Sto}(hs:NL st):Z0x [exE t 19, .int (19:Nat)] st = .ok .non st:=by
 have h:inT st (.int 19) (.lst [.int (-1), .int 19])=some true:=rfl
 simp! [Z0x,Z2l,Z2j,Z3b,IRs.ev,Z2t,Z2e,Z2h,Z1q,Z1u,exE,Z1h,h]
 exact Z1w hs (by simp)
theorem ZiH{t:T}{k:Nat}{st:Sto}(hs:NL st)(ht:Nl t)(hk:k < 21)(h19:k≠19):Z0x [exE t k, .int k] st = .ok t st:=by
 have h:∀ st,inT st (.int (k:Int)) (.lst [.int (-1), .int 19])=some false:=fun st=>by
  show some (([T.int (-1),T.int 19]).any fun y=>eqv y (.int k))=_
  have a:((-1:Int) == k)=false:=by rw[beq_eq_false_iff_ne];omega
  have b:((19:Int) == k)=false:=by rw[beq_eq_false_iff_ne];omega
  simp[eqv,a,b]
 have lk:=lkK k hk h19
 have e:exE t k = .exh (cN k) [t]:=if_neg h19
 rw[e]
 by_cases c:8 < k∧k < 16∨k=20
 ·rw[if_pos c] at lk
  rcases c with ⟨c1,c2⟩ | c
  ·have d1:(8:Int) < k:=by omega
   have d2:(k:Int) < 16:=by omega
   simp! [Z0x,Z2l,Z2j,Z3b,IRs.ev,Z2t,Z2e,Z2h,Z1q,Z1u,Z1h,h,d1,d2,ZaX,Z9g,lk]
   exact Z1w hs ht
  ·subst c
   simp! [Z0x,Z2l,Z2j,Z3b,IRs.ev,Z2t,Z2e,Z2h,Z1q,Z1u,Z1h,h,ZaX,Z9g,lk]
   exact Z1w hs ht
 ·rw[if_neg c] at lk
  have c2:((k:Int) == 20)=false:=by simp;omega
  by_cases d1:(8:Int) < k
  ·have d2:¬ ((k:Int) < 16):=by omega
   simp! [Z0x,Z2l,Z2j,Z3b,IRs.ev,Z2t,Z2e,Z2h,Z1q,Z1u,Z1h,h,d1,d2,c2,ZaX,Z9g,lk]
   exact Z1w hs ht
  ·simp! [Z0x,Z2l,Z2j,Z3b,IRs.ev,Z2t,Z2e,Z2h,Z1q,Z1u,Z1h,h,d1,c2,ZaX,Z9g,lk]
   exact Z1w hs ht
theorem ZdW(t:T):(List.range 21).map (exE t)=[.exh 101 [t], .exh 102 [t], .exh 103 [t], .exh 104 [t], .exh 105 [t], .exh 106 [t], .exh 107 [t], .exh 108 [t], .exh 109 [t], .exh 110 [t], .exh 111 [t], .exh 112 [t], .exh 113 [t], .exh 114 [t], .exh 115 [t], .exh 116 [t], .exh 118 [t], .exh 120 [t], .exh 121 [t], .exh 122 [], .exh 123 [t]]:=rfl
theorem Zgc{t:T}(ht:Nl t):Nls ((List.range 21).map (exE t)):=by
 rw[ZdW];simp[ht]
theorem Zgf(c:Nat)(t:T)(st:Sto):exF c [t] st = .ok (.exh c [t]) st:=rfl
theorem Zge(c:Nat)(st:Sto):ex0 c [] st = .ok (.exh c []) st:=rfl
theorem Zj1{t:T}{st:Sto}(hs:NL st)(ht:Nl t):Z2i [t] st = .ok (.lst ((List.range 21).map (exE t))) st:=by
 have n:=Zgc ht
 rw[ZdW] at n ⊢
 simp! [Z2i,Zal,Zak,Z5v,IRs.ev,Z1f,Z1c,Z1b,Zgf,Zge]
 exact Z1w hs (by simpa using n)
theorem name1{t:T}{st:Sto}(hs:NL st)(ht:Nl t):Z2u [t] st = .ok (.lst ((List.range 21).map (exE t))) st:=by
 have n:=Zgc ht
 rw[ZdW] at n ⊢
 simp! [Z2u,ZaK,ZaL,Z6j,IRs.ev,Z1f,Z1c,Z1b,Zgf,Zge]
 exact Z1w hs (by simpa using n)
def ShE (t:T) (k b:Nat):Prop:=Z0d t=true∧shI t=true∧dep t≤k∧shB t≤b
theorem ZeL{k b:Nat}:∀ {xs:List T},(∀ x,x∈xs→ShE x k b)→Z1r xs=true∧Zay xs=true∧Z2s xs≤k∧Z8j xs≤xs.length * (b+2)
 | [],_=>⟨rfl,rfl,by simp[Z2s],by simp[Z8j]⟩
 | x :: xs,h=>by
  obtain⟨a,c,d,e⟩:=ZeL (xs:=xs) fun y hy=>h y (List.mem_cons_of_mem _ hy)
  obtain⟨a1,c1,d1,e1⟩:=h x List.mem_cons_self
  refine⟨by simp[Z1r,a,a1],by simp[Zay,c,c1],by simp only[Z2s];omega, ?_⟩
  simp only[Z8j,List.length_cons,Nat.add_mul,Nat.one_mul]
  omega
theorem ZhZ{xs:List T}{k b n:Nat}(hn:xs.length≤n)(h:∀ x,x∈xs→ShE x k b):ShE (.lst xs) (k+1) (3+n * (b+2)):=by
 obtain⟨a,c,d,e⟩:=ZeL h
 have m:=Nat.mul_le_mul_right (b+2) hn
 exact⟨by simpa [Z0d] using a,by simpa [shI] using c,by simp only[dep];omega,by simp only[shB];omega⟩
theorem ZeI{t:T}{k b:Nat}(h:ShE t k b)(hk:k≤10)(hb:b≤16777216)(hf:∀ st,Z0j st t=t):(∀ st,Z6y st t=some (.str (sh t)))∧eqT (.str (sh t)) (.str (sh t))=some true:=by
 obtain⟨h1,h2,h3,h4⟩:=h
 have hs:PySem.PyData.strOk (sh t)=true:=Z8h t h1
 refine⟨fun st=>ZgF (hf st) h1 h2 (by omega) (by omega), ?_⟩
 simp[eqT,data,hs,dep,eqv]
def E01 (i:Int) (t:T) (X:List T) (s:T):Env:=[some (.loc 0),some (.int i),some t,some (.lst X),some s,none,none]
def Z3y (t:T):List T:=List.replicate 19 t++[.non,t]
def kpL (t:T):List T:=(List.range 21).map fun k=>if k=19 then .non else t
theorem ZiE(t:T):kpL t=Z3y t:=rfl
theorem Zii:eqT (.lst ((List.range 21).map fun(k:Nat)=>T.int k)) (.lst ((List.range 21).map fun(k:Nat)=>T.int k))=some true:=by decide +kernel
theorem Zjd{i:Int}{t:T}{b:Nat}{st:Sto}(hs:NL st)(ht:Nl t)(sh1:ShE t 6 b)(hb:b≤100000):Z0i Z0n Z7o (E01 i t (Z3y t) (.lst ((List.range 21).map (exE t)))) st = .nx (E01 i t (Z3y t) (.lst ((List.range 21).map (exE t)))) st:=by
 have h1:fLc [5] (Z7h.ev Z0n) (.name 5) (Zfr (evV 4)) Ze0 (E01 i t (Z3y t) (.lst ((List.range 21).map (exE t)))) st = .ok ((List.range 21).map fun(k:Nat)=>T.int k) st:=by
  refine Zeo (emb:=exE t) (by simp! [E01,IRs.ev,Z2t,Z2e,Z1a,Z1f,Z3u,Zbg,Z2h,Z1q,Z1u,Z0w,Z1c,Z1b,Z3m,Z3k,Z9a]) (by simp) fun k hk => ?_
  have hk:k < 21:=by simpa using hk
  obtain⟨ts,e⟩:=Zja t k
  have c:=ZiO (ts:=ts) hs hk
  rw[← e] at c
  simp! [E01,Z4u,Z1y,Z7h,Z0t,Z0s,IRs.ev,Z2t,Z2e,Z1a,Z1f,Z3u,Zbg,Z2h,Z1q,Z1u,Z0w,Z1c,Z1b,Z3m,Z3k,Z9a,c]
 have h2:fLc [6] (Z5l.ev Z0n) (.name 6) (ZaM (fK (.int 21))) Ze0 (E01 i t (Z3y t) (.lst ((List.range 21).map (exE t)))) st = .ok (kpL t) st:=by
  refine Zeo (emb:=fun j:Nat=>T.int j) (Zdl (k:=21) rfl (by decide)) (by simp) fun k hk => ?_
  have hk:k < 21:=by simpa using hk
  have ix:∀ st,ixT st (.lst ((List.range 21).map (exE t))) (.int k)=some (exE t k):=fun st=>by
   show L2.atI _ _=_
   refine L2.atI_nat ?_
   rw[List.getElem?_map,List.getElem?_range hk];rfl
  by_cases c:k=19
  ·subst c
   have q:Z0x [exE t 19, .int 19] st = .ok .non st:=ZhW (t:=t) hs
   have ix19:∀ st,ixT st (.lst ((List.range 21).map (exE t))) (.int 19)=some (exE t 19):=ix
   simp! [E01,Z4u,Z1y,Z5l,Z0t,Z0s,IRs.ev,Z2t,Z2e,Z1a,Z1f,Z3u,Zbg,Z2h,Z1q,Z1u,Z0w,Z1c,Z1b,Z3m,Z3k,Z9a,ix19,q]
  ·have q:=ZiH hs ht hk c
   simp! [E01,Z4u,Z1y,Z5l,Z0t,Z0s,IRs.ev,Z2t,Z2e,Z1a,Z1f,Z3u,Zbg,Z2h,Z1q,Z1u,Z0w,Z1c,Z1b,Z3m,Z3k,Z9a,ix,q,c]
 have sh2:ShE (.lst (List.replicate 19 t++[.non,t])) 7 (3+21 * (b+4+2)):=ZhZ (k:=6) (b:=b+4) (by simp) fun x hx=>by
  have:x=t∨x = .non:=by
   rcases List.mem_append.mp hx with z | z
   ·exact .inl (List.eq_of_mem_replicate z)
   ·simp at z;exact z.symm
  rcases this with rfl | rfl
  ·exact⟨sh1.1,sh1.2.1,sh1.2.2.1,Nat.le_trans sh1.2.2.2 (by omega)⟩
  ·exact⟨rfl,rfl,by simp[dep],by simp[shB]⟩
 obtain⟨rp,eq⟩:=ZeI sh2 (by decide) (by omega) fun st=>rfl
 have h3:fLrg (fK (.int 21)) (E01 i t (Z3y t) (.lst ((List.range 21).map (exE t)))) st = .ok ((List.range 21).map fun(k:Nat)=>T.int k) st:=rfl
 have i3:=Zii
 rw[ZiE] at h2
 change ∀ st,Z6y st (.lst (Z3y t))=some (.str (sh (.lst (Z3y t)))) at rp
 change eqT (.str (sh (.lst (Z3y t)))) (.str (sh (.lst (Z3y t))))=some true at eq
 clear sh2
 generalize hX:Z3y t=X at h1 h2 h3 rp eq ⊢
 generalize hI:((List.range 21).map fun(k:Nat)=>T.int k)=I at h1 h3 i3
 generalize hE:T.lst ((List.range 21).map (exE t))=EE at h1 h2 h3 ⊢
 clear hX hI hE sh1 hb ht
 have e3:(E01 i t X EE)[3]? = some (some (.lst X)):=rfl
 simp! [Z7o,Z0t,Z0s,IRs.ev,Z2t,Z2e,Z1a,Z1f,Z3u,Z2h,Z1q,Z1u,Z0w,Z1c,Z1b,Z3m,Z3k,h1,h2,h3,i3,e3,rp,eq,Z1h,Z0j,Z0p]
def Z6k:List T:=[.non, .bl true, .bl false, .str "", .str "a", .str "A", .int 0, .int (-1), .int 5, .int 1000000000000000000000000000001, .tup [], .lst [], .edt, .tup [.int 1], .tup [.str "a"], .tup [.str "a", .int 1, .int 1], .lst [.str "a", .int 1], .lst [.int 1]]
theorem oddB:Z6k.all (fun t=>Z0d t && shI t && decide (dep t≤4) && decide (shB t≤1000))=true:=by decide +kernel
theorem oddN:∀ t∈Z6k,Nl t:=fun t h=>by
 simp only[Z6k,List.mem_cons,List.not_mem_nil,or_false] at h
 rcases h with rfl | rfl | rfl | rfl | rfl | rfl | rfl | rfl | rfl | rfl | rfl | rfl | rfl | rfl | rfl | rfl | rfl | rfl <;> simp
def Vo (t:T):Prop:=Nl t∧ShE t 6 5000
theorem oddV{t:T}(h:t∈Z6k):Nl t∧ShE t 4 1000:=by
 have z:=List.all_eq_true.mp oddB t h
 simp only[Bool.and_eq_true,decide_eq_true_eq] at z
 exact⟨oddN t h,z.1.1.1,z.1.1.2,z.1.2,z.2⟩
theorem odd1{n:Nat}{J:Cell}{rest:Sto}(hJ:JC n J)(hn:n < 10 ^ 9)(hr:NL rest):∃ t J',Z4z [.loc 0] (J :: rest) = .ok t (J' :: rest)∧t∈Z6k∧JC (n+1) J':=by
 obtain⟨d,J',e,h1,h2,hJ'⟩:=ZaV (rest:=rest) (k:=18) hJ hn (by decide) (by decide) hr
 obtain⟨m,rfl⟩:∃ m:Nat,d=m:=⟨d.toNat,by omega⟩
 have hd:m < Z6k.length:=by show m < 18;omega
 have ix:∀ st,ixT st (.lst Z6k) (.int m)=some Z6k[m]:=fun st=>L2.atI_nat (List.getElem?_eq_getElem hd)
 refine⟨Z6k[m],J', ?_,List.getElem_mem hd,hJ'⟩
 have nl:=oddN _ (List.getElem_mem hd)
 generalize Z6k[m]=t at ix nl
 have p:Z6o 10 30:=by decide
 unfold Z6k at ix
 simp! [Z4z,ZcD,Zcy,ZaF,IRs.ev,Z2t,Ziq,Z2h,Zew,Zj8,e,ix,p]
 exact Z1w (Z9c hJ'.nl hr) nl
theorem wrapT{t:T}(h:Nl t∧ShE t 4 1000):Vo (.tup [t,t]):=by
 obtain⟨n,a,b,c,d⟩:=h
 exact⟨by simp[n],by simp[Z0d,Z1r,a],by simp[shI,Zay,b],by simp only[dep,Z2s];omega,by simp only[shB,Z8j];omega⟩
theorem wrapD{t:T}(h:Nl t∧ShE t 4 1000):Vo (.dk1 "given" t):=by
 obtain⟨n,a,b,c,d⟩:=h
 have s:PySem.PyData.strOk "given" = true:=by decide +kernel
 have l:("given" : PySem.Str).length=5:=rfl
 exact⟨by simp[n],by simp[Z0d,a,s],by simp[shI,b],by simp only[dep];omega,by simp only[shB,l];omega⟩
theorem wrapI{d:Int}(h0:0≤d)(h1:d < 1000000000000000):Vo (.int (d * 10000000000000000000000000)):=by
 have:(d * 10000000000000000000000000).natAbs < 2 ^ 140:=by omega
 have l:(d * 10000000000000000000000000).natAbs.log2 < 140:=by
  by_cases z:(d * 10000000000000000000000000).natAbs=0
  ·rw[z];decide
  ·exact(Nat.log2_lt z).mpr this
 exact⟨by simp,by simp[Z0d],by simp only[shI,decide_eq_true_eq];omega,by simp[dep],by simp only[shB];omega⟩
theorem oddVo{t:T}(h:t∈Z6k):Vo t:=by
 obtain⟨n,a,b,c,d⟩:=oddV h
 exact⟨n,a,b,by omega,by omega⟩
theorem Zac(tb:Tab):∀ (a b:List IS) (env:Env) (st:Sto),Z0i tb (a++b) env st=(Z0i tb a env st).seq (Z0i tb b)
 | [],b,env,st=>by rw[Z7g,seq_nx'];rfl
 | s :: a,b,env,st=>by
  rw[List.cons_append,Z7c,Z7c]
  cases s.ev tb env st with
  | nx env1 st1=>rw[seq_nx',seq_nx',Zac tb a b]
  | _=>rfl
def E02 (i:Int) (t:T) (a s:Option T):Env:=[some (.loc 0),some (.int i),some t,a,s,none,none]
theorem due1{i:Int}{t:T}{st:Sto}(a s:Option T):Z0i Z0n ((Z0o.drop 2).take 1) (E02 i t a s) st = .nx (E02 i t (some (.lst (Z3y t))) s) st:=by
 unfold E02 Z3y
 simp! [Z0o,Z0t,Z0s,IRs.ev,Z1a,Z1f,Z3u,Z0w,Z1c,Z1b,Z3m,Z3k]
theorem some1{i:Int}{t:T}{st:Sto}(s:Option T)(hs:NL st)(ht:Vo t):Z0i Z0n (Z0o.drop 3) (E02 i t (some (.lst (Z3y t))) s) st = .nx (E01 i t (Z3y t) (.lst ((List.range 21).map (exE t)))) st:=by
 obtain⟨nl,sh1⟩:=ht
 have p:=Zj1 (t:=t) hs nl
 have q:=name1 (t:=t) hs nl
 have w:=Zjd (i:=i) hs nl sh1 (by decide)
 unfold E02
 unfold E01 at w ⊢
 generalize T.lst ((List.range 21).map (exE t))=EE at p q w ⊢
 generalize Z3y t=X at w ⊢
 simp! [Z0o,Z0t,Z0s,IRs.ev,Z1a,Z1f,Z3u,Z0w,Z1c,Z1b,Z3m,Z3k,Z7b,p,q,Z2p,IG.set,w]
theorem draw1{i:Int}{n:Nat}{J:Cell}{rest:Sto}(o a s:Option T)(hJ:JC n J)(hn:n+10 < 10 ^ 9)(hr:NL rest) :
  ∃ t J',Z0i Z0n (Z0o.take 2) [some (.loc 0),some (.int i),o,a,s,none,none] (J :: rest) = .nx (E02 i t a s) (J' :: rest)∧Vo t∧JC (n+10) J':=by
 obtain⟨t,J1,e1,ht,h1⟩:=odd1 hJ (by omega) hr
 obtain⟨d,J2,e2,d0,d1,h2⟩:=ZaV (rest:=rest) (k:=3) h1 (by omega) (by decide) (by decide) hr
 by_cases z:d=0
 ·subst z
  obtain⟨q,J3,e3,q0,q1,h3⟩:=ZaV (rest:=rest) (k:=1000000000000000) h2 (by omega) (by decide) (by decide) hr
  obtain⟨r,J4,e4,r0,r1,h4⟩:=ZaV (rest:=rest) (k:=3) h3 (by omega) (by decide) (by decide) hr
  have p1:Z6o 10 15:=by decide
  have p2:Z6o 10 25:=by decide
  have m1:Z4v q 10000000000000000000000000:=Z9o 64 100 (Z7m q0 (by omega)) (by decide) (by decide) (by decide) (by decide)
  obtain⟨u,hu,ix⟩:∃ u,Vo u∧∀ st,ixT st (.lst [.tup [t,t], .dk1 "given" t, .int (q * 10000000000000000000000000)]) (.int r)=some u:=by
   have c:r=0∨r=1∨r=2:=by omega
   rcases c with rfl | rfl | rfl
   ·exact⟨_,wrapT (oddV ht),fun st=>rfl⟩
   ·exact⟨_,wrapD (oddV ht),fun st=>rfl⟩
   ·exact⟨_,wrapI q0 q1,fun st=>rfl⟩
  refine⟨u,J4, ?_,hu,h4.mono (by omega)⟩
  unfold E02
  simp! [Z0o,Z0t,Z0s,IRs.ev,Z1a,Z1f,Z3u,Z0w,Z1c,Z1b,Z3m,Z3k,ZhY,e1,e2,e3,e4,p1,p2,m1,ix]
 ·have z2:(d == 0)=false:=by simpa using z
  refine⟨t,J2, ?_,oddVo ht,h2.mono (by omega)⟩
  unfold E02
  simp! [Z0o,Z0t,Z0s,IRs.ev,Z1a,Z1f,Z3u,Z0w,Z1c,Z1b,Z3m,Z3k,e1,e2,z2]
theorem turn1{i:Int}{n:Nat}{J:Cell}{rest:Sto}(o a s:Option T)(hJ:JC n J)(hn:n+10 < 10 ^ 9)(hr:NL rest) :
  ∃ o2 a2 s2 J',Z0i Z0n Z0o [some (.loc 0),some (.int i),o,a,s,none,none] (J :: rest) = .nx [some (.loc 0),some (.int i),o2,a2,s2,none,none] (J' :: rest)∧JC (n+10) J':=by
 obtain⟨t,J',e1,ht,hJ'⟩:=draw1 (i:=i) o a s hJ hn hr
 have e2:=due1 (i:=i) (t:=t) (st:=J' :: rest) a s
 have e3:=some1 (i:=i) s (Z9c hJ'.nl hr) ht
 refine⟨some t,some (.lst (Z3y t)),some (.lst ((List.range 21).map (exE t))),J', ?_,hJ'⟩
 have e:Z0o=Z0o.take 2++((Z0o.drop 2).take 1++Z0o.drop 3):=rfl
 rw[e,Zac,e1,seq_nx',Zac,e2,seq_nx',e3]
 rfl
theorem Zcn{rest:Sto}(hr:NL rest):∀ (k i n:Nat) (e o a s:Option T) (J:Cell),JC n J→n+10 * k+10 < 10 ^ 9→∃ e2 o2 a2 s2 J',Z2p (.name 1) (Z0i Z0n Z0o) ((List.range' i k).map fun(j:Nat)=>T.int (j:Int)) [some (.loc 0),e,o,a,s,none,none] (J :: rest) =
  .nx [some (.loc 0),e2,o2,a2,s2,none,none] (J' :: rest)∧JC (n+10 * k) J'
 | 0,i,n,e,o,a,s,J,hJ,_=>⟨e,o,a,s,J,rfl,hJ⟩
 | k+1,i,n,e,o,a,s,J,hJ,hn=>by
  obtain⟨o1,a1,s1,J1,t1,hJ1⟩:=turn1 (i:=i) o a s hJ (by omega) hr
  obtain⟨e2,o2,a2,s2,J2,t2,hJ2⟩:=Zcn hr k (i+1) (n+10) (some (.int i)) o1 a1 s1 J1 hJ1 (by omega)
  refine⟨e2,o2,a2,s2,J2, ?_,hJ2.mono (by omega)⟩
  rw[List.range'_succ,List.map_cons,Z2p]
  simp only[IG.set,List.length_cons,List.length_nil]
  rw[if_pos (by decide)]
  simp only[List.set]
  rw[t1]
  exact t2
theorem ZdI{n:Nat}{J:Cell}{rest:Sto}(hJ:JC n J)(hn:n+100 < 10 ^ 9)(hr:NL rest):∃ J',Z3r [.loc 0] (J :: rest) = .ok (.bl true) (J' :: rest)∧JC (n+40) J':=by
 obtain⟨e,o,a,s,J',w,hJ'⟩:=Zcn hr 4 0 n none none none none J hJ (by omega)
 refine⟨J', ?_,hJ'⟩
 rw[← List.range_eq_range'] at w
 have rg:ZaM (fK (.int 4)) [some (.loc 0),none,none,none,none,none,none] (J :: rest) = .ok ((List.range 4).map fun(j:Nat)=>T.int (j:Int)) (J :: rest):=Zdl (k:=4) rfl (by decide)
 generalize (List.range 4).map (fun(j:Nat)=>T.int (j:Int))=L at w rg
 simp! [Z3r,Z0t,Z0s,Z8l,IRs.ev,Z1a,Z1f,Z3u,Z0w,Z1c,Z1b,Z3m,Z3k,Z7b,rg,w]
 exact Z1w (Z9c hJ'.nl hr) (by simp)
theorem Zds{ns:List Int}{i:Nat}(hl:ns.length≤63)(hi:i < 10):Z0i Z2w ZaD [some (.scr ns),some (.int i)] [] = .nx [some (.scr ns),some (.int i)] []:=by
 obtain⟨t,s,e,rfl,J,rfl,hJ⟩:=ZiF (st:=[]) hl hi NL_nil
 obtain⟨J',h,_⟩:=ZdI (rest:=[]) hJ (by decide) NL_nil
 simp only[List.length_nil,List.nil_append] at e
 simp! [ZaD,Zaa,Za6,IRs.ev,Z9q,Z1a,Z0w,e,h,Zae,Z1x,Z4h,Z0h,more]
theorem ZaN{ns:List Int}(hl:ns.length≤63):∀ (k i:Nat) (e:Option T),i+k≤10→∃ f,Z2p (.name 1) (Z0i Z2w ZaD) ((List.range' i k).map fun(j:Nat)=>T.int (j:Int)) [some (.scr ns),e] [] = .nx [some (.scr ns),f] []
 | 0,i,e,_=>⟨e,rfl⟩
 | k+1,i,e,h=>by
  obtain⟨f,w⟩:=ZaN hl k (i+1) (some (.int i)) (by omega)
  refine⟨f, ?_⟩
  rw[List.range'_succ,List.map_cons,Z2p]
  simp only[IG.set,List.length_cons,List.length_nil]
  rw[if_pos (by decide)]
  simp only[List.set]
  rw[Zds hl (by omega)]
  exact w
def ZcR:T := .lst [.int 4, .int 4, .int 12, .int 1000000000000000000000000000000, .int 5]
theorem Zih:(∀ st,Z6y st ZcR=some (.str (sh ZcR)))∧eqT (.str (sh ZcR)) (.str (sh ZcR))=some true :=
 ZeI (k:=5) (b:=1000) ⟨by decide +kernel,by decide +kernel,by decide +kernel,by decide +kernel⟩ (by decide) (by decide) fun st=>rfl
theorem ZhH{ns:List Int}:Z0i Z2w (Z6t.take 1) [some (.scr ns),none] [] = .nx [some (.scr ns),none] []:=by
 obtain⟨r,q⟩:=Zih
 have p:Z6o 10 30:=by decide
 generalize hx:sh ZcR=x at r q
 unfold ZcR at r
 simp! [Z6t,Zaa,Za6,IRs.ev,Z9q,Z1a,Z0w,p,r,q,Z1h,Z0j,Z0p,Zae,Z1x,Z4h,Z0h,more]
theorem Ze4{ns:List Int}{rng:List T}{f:Option T}(rg:ZaM (fBi .max (Z3x (fK (.int 2)) (Z3x (fBi .min (Z3x (fBi .len (Z3x (evV 0) Za7)) (Z3x (fK (.int 4)) Za7))) Za7))) [some (.scr ns),none] [] = .ok rng [])
  (w:Z2p (.name 1) (Z0i Z2w ZaD) rng [some (.scr ns),none] [] = .nx [some (.scr ns),f] []):Z0i Z2w (Z6t.drop 1) [some (.scr ns),none] [] = .rt (.bl true) []:=by
 simp! [Zaa,Za6,Z6t,IRs.ev,Z9q,Z1a,Z0w,Z7b,rg,w]
theorem gives_k01:Zhf 63 Zdc:=fun ns hl _=>by
 have rg:∃ k:Nat,k≤10∧ZaM (fBi .max (Z3x (fK (.int 2)) (Z3x (fBi .min (Z3x (fBi .len (Z3x (evV 0) Za7)) (Z3x (fK (.int 4)) Za7))) Za7))) [some (.scr ns),none] [] = .ok ((List.range k).map fun(j:Nat)=>T.int (j:Int)) []:=by
  refine⟨if 4 < ns.length then 4 else if 2 < ns.length then ns.length else 2,by split;decide;split;omega;decide,Zdl ?_ (by split;decide;split;omega;decide)⟩
  by_cases h1:4 < ns.length
  ·have h1':(4:Int) < ns.length:=by omega
   simp! [IRs.ev,Z9q,Z1a,Z0w,h1,h1']
  ·have h1':¬ ((4:Int) < ns.length):=by omega
   by_cases h2:2 < ns.length
   ·have h2':(2:Int) < ns.length:=by omega
    simp! [IRs.ev,Z9q,Z1a,Z0w,h1,h1',h2,h2']
   ·have h2':¬ ((2:Int) < ns.length):=by omega
    simp! [IRs.ev,Z9q,Z1a,Z0w,h1,h1',h2,h2']
 obtain⟨k,hk,rg⟩:=rg
 obtain⟨f,w⟩:=ZaN hl k 0 none (by omega)
 rw[← List.range_eq_range'] at w
 have a:=ZhH (ns:=ns)
 have b:=Ze4 rg w
 have e:Z0i Z2w Z6t [some (.scr ns),none] [] = .rt (.bl true) []:=by
  rw[← List.take_append_drop 1 Z6t,Zac,a,seq_nx',b]
 have z:Zdc [.scr ns] []=Z5w Z2w.cls false 0 (.bl true) []:=by
  show Zdr _ _ _ (Z0i Z2w Z6t [some (.scr ns),none] [])=_
  rw[e];rfl
 exact z.trans (Z1w NL_nil (by simp))
end EgLaw
set_option maxHeartbeats 0
namespace EgLaw
open PySem PySem.Spec PyProof.Rows L2 Eg
theorem Zg0:Z1j ⟨["_law_script", "_law_at", "_law_own", "_law_mixed", "_law_each"],Z3z.scope,fun _=>true,false,false⟩ Z2d Z6g Z3z.body=true:=by decide +kernel
theorem Zf6:Z1j ⟨["_law_jug_here", "_law_many", "_law_mixed", "_law_digit"],Z3p.scope,fun _=>true,false,false⟩ Z3t Z6n Z3p.body=true:=by decide +kernel
theorem Zed:Z1j ⟨["_law_e", "_law_own", "_law_plain"],Z3a.scope,fun _=>true,false,false⟩ Z0g Z8m Z3a.body=true:=by decide +kernel
theorem ZfT:Z1j ⟨["_law_jug_here", "_law_menu"],Z4a.scope,fun _=>true,false,false⟩ Z4f ZaF Z4a.body=true:=by decide +kernel
theorem Zeh:Z1j ⟨["_law_e", "_law_marks", "_law_at"],Z3g.scope,fun _=>true,false,false⟩ Z0c Z8p Z3g.body=true:=by decide +kernel
theorem Zea:Z1j ⟨["_law_e", "_law_at"],Z3h.scope,fun _=>true,false,false⟩ Z1s Z3b Z3h.body=true:=by decide +kernel
theorem ZcN:Z1j ⟨["_law_odd_here", "_law_some"],Z1n.scope,fun _=>true,false,false⟩ Z1v Z5v Z1n.body=true:=by decide +kernel
theorem Zdb:Z1j ⟨["_law_odd_here", "_law_some"],Z2a.scope,fun _=>true,false,false⟩ Z2g Z6j Z2a.body=true:=by decide +kernel
theorem Zeb:Z1j ⟨["_law_jug_here", "_law_turn", "_law_odd_here", "_law_due", "_law_some", "_law_e", "_law_at"],Z3d.scope,fun _=>true,false,false⟩ Z0n Z8l Z3d.body=true:=by decide +kernel
theorem k_law:Z1j ⟨["_law_script", "_law_at"],Za8.scope,fun _=>true,false,false⟩ Z2w Z6t Za8.body=true:=by decide +kernel
end EgLaw
set_option maxHeartbeats 0
namespace EgLaw
open PySem PySem.Spec PyProof.Rows L2 Eg
section
variable {P:Program} {w:World} {K:PySem.W.Frag} {mg:Str→Option Value} {base h:Heap} (X:K.In h) (Gn:h.Ns mainGlobals mg) (c:Za4 fx fn K)
include c
theorem fine:sx.fine K=true:=by have z:=c.facts;unfold fx at z;rw[Bool.and_eq_true] at z;exact z.1
include X Gn
theorem Z0k(i:Nat){x:Str}(e:glo[i]? = some x:=by rfl):mg x=some (.ref (He.ga K x)):=by
 have z:=c.facts;unfold fx at z;rw[Bool.and_eq_true] at z
 exact He.glo_ok X Gn (List.all_eq_true.mp z.2 x (List.mem_of_getElem? e))
omit X Gn
omit c
theorem nds:∀ c,c∈sx.cs→c.fl.Nodup∧c.fl.length < 1000:=by decide
include X Gn c
theorem Z9p:Z0a P w K mg base 2 (gh sx K) ⟨"InvalidRound",[],exF 105⟩∧Z0a P w K mg base 2 (gh sx K) ⟨"InvalidRound",["given"],exF 105⟩:=by
 obtain⟨fd,D⟩:=c.def_ 14 (d:=Z5t) rfl
 exact Z1g (fine c) (by decide) (by decide) D rfl (by decide +kernel) rfl (Z0k X Gn c 14 rfl) (fun _ _ _ _ _ _ _ _=>rfl) (fun _ _ _ _ _ _ _ _=>rfl)
theorem Zcr:Z0a P w K mg base 2 (gh sx K) ⟨"InvalidRound",[],exF 105⟩:=(Z9p X Gn c).1
theorem Zc6:Z0a P w K mg base 2 (gh sx K) ⟨"InvalidRound",["given"],exF 105⟩:=(Z9p X Gn c).2
theorem Z7z:Z0a P w K mg base 2 (gh sx K) ⟨"InvalidTables",[],exF 104⟩∧Z0a P w K mg base 2 (gh sx K) ⟨"InvalidTables",["given"],exF 104⟩:=by
 obtain⟨fd,D⟩:=c.def_ 13 (d:=Z5n) rfl
 exact Z1g (fine c) (by decide) (by decide) D rfl (by decide +kernel) rfl (Z0k X Gn c 13 rfl) (fun _ _ _ _ _ _ _ _=>rfl) (fun _ _ _ _ _ _ _ _=>rfl)
theorem Zbt:Z0a P w K mg base 2 (gh sx K) ⟨"InvalidTables",[],exF 104⟩:=(Z7z X Gn c).1
theorem ZbB:Z0a P w K mg base 2 (gh sx K) ⟨"InvalidTables",["given"],exF 104⟩:=(Z7z X Gn c).2
theorem Zah:Z0a P w K mg base 2 (gh sx K) ⟨"InvalidName",[],exF 103⟩∧Z0a P w K mg base 2 (gh sx K) ⟨"InvalidName",["given"],exF 103⟩:=by
 obtain⟨fd,D⟩:=c.def_ 12 (d:=Z6b) rfl
 exact Z1g (fine c) (by decide) (by decide) D rfl (by decide +kernel) rfl (Z0k X Gn c 12 rfl) (fun _ _ _ _ _ _ _ _=>rfl) (fun _ _ _ _ _ _ _ _=>rfl)
theorem ZcA:Z0a P w K mg base 2 (gh sx K) ⟨"InvalidName",[],exF 103⟩:=(Zah X Gn c).1
theorem ZcI:Z0a P w K mg base 2 (gh sx K) ⟨"InvalidName",["given"],exF 103⟩:=(Zah X Gn c).2
theorem Z8f:Z0a P w K mg base 2 (gh sx K) ⟨"InvalidNumber",[],exF 102⟩∧Z0a P w K mg base 2 (gh sx K) ⟨"InvalidNumber",["given"],exF 102⟩:=by
 obtain⟨fd,D⟩:=c.def_ 11 (d:=Z5c) rfl
 exact Z1g (fine c) (by decide) (by decide) D rfl (by decide +kernel) rfl (Z0k X Gn c 11 rfl) (fun _ _ _ _ _ _ _ _=>rfl) (fun _ _ _ _ _ _ _ _=>rfl)
theorem ZbJ:Z0a P w K mg base 2 (gh sx K) ⟨"InvalidNumber",[],exF 102⟩:=(Z8f X Gn c).1
theorem ZbG:Z0a P w K mg base 2 (gh sx K) ⟨"InvalidNumber",["given"],exF 102⟩:=(Z8f X Gn c).2
theorem Zai:Z0a P w K mg base 2 (gh sx K) ⟨"InvalidText",[],exF 101⟩∧Z0a P w K mg base 2 (gh sx K) ⟨"InvalidText",["given"],exF 101⟩:=by
 obtain⟨fd,D⟩:=c.def_ 10 (d:=Z6e) rfl
 exact Z1g (fine c) (by decide) (by decide) D rfl (by decide +kernel) rfl (Z0k X Gn c 10 rfl) (fun _ _ _ _ _ _ _ _=>rfl) (fun _ _ _ _ _ _ _ _=>rfl)
theorem ZcM:Z0a P w K mg base 2 (gh sx K) ⟨"InvalidText",[],exF 101⟩:=(Zai X Gn c).1
theorem Zcx:Z0a P w K mg base 2 (gh sx K) ⟨"InvalidText",["given"],exF 101⟩:=(Zai X Gn c).2
theorem Z9h:Z0a P w K mg base 2 (gh sx K) ⟨"InvalidHosts",[],exF 110⟩∧Z0a P w K mg base 2 (gh sx K) ⟨"InvalidHosts",["index"],exF 110⟩:=by
 obtain⟨fd,D⟩:=c.def_ 19 (d:=Z5s) rfl
 exact Z1g (fine c) (by decide) (by decide) D rfl (by decide +kernel) rfl (Z0k X Gn c 19 rfl) (fun _ _ _ _ _ _ _ _=>rfl) (fun _ _ _ _ _ _ _ _=>rfl)
theorem Zca:Z0a P w K mg base 2 (gh sx K) ⟨"InvalidHosts",[],exF 110⟩:=(Z9h X Gn c).1
theorem ZbR:Z0a P w K mg base 2 (gh sx K) ⟨"InvalidHosts",["index"],exF 110⟩:=(Z9h X Gn c).2
theorem ZbU:Z0a P w K mg base 2 (gh sx K) ⟨"NotAFair",[],exF 109⟩∧Z0a P w K mg base 2 (gh sx K) ⟨"NotAFair",["given"],exF 109⟩:=by
 obtain⟨fd,D⟩:=c.def_ 18 (d:=Z8c) rfl
 exact Z1g (fine c) (by decide) (by decide) D rfl (by decide +kernel) rfl (Z0k X Gn c 18 rfl) (fun _ _ _ _ _ _ _ _=>rfl) (fun _ _ _ _ _ _ _ _=>rfl)
theorem Zen:Z0a P w K mg base 2 (gh sx K) ⟨"NotAFair",[],exF 109⟩:=(ZbU X Gn c).1
theorem Zef:Z0a P w K mg base 2 (gh sx K) ⟨"NotAFair",["given"],exF 109⟩:=(ZbU X Gn c).2
theorem Z9x:Z0a P w K mg base 2 (gh sx K) ⟨"InvalidIndex",[],exF 108⟩∧Z0a P w K mg base 2 (gh sx K) ⟨"InvalidIndex",["given"],exF 108⟩:=by
 obtain⟨fd,D⟩:=c.def_ 17 (d:=Z5r) rfl
 exact Z1g (fine c) (by decide) (by decide) D rfl (by decide +kernel) rfl (Z0k X Gn c 17 rfl) (fun _ _ _ _ _ _ _ _=>rfl) (fun _ _ _ _ _ _ _ _=>rfl)
theorem Zco:Z0a P w K mg base 2 (gh sx K) ⟨"InvalidIndex",[],exF 108⟩:=(Z9x X Gn c).1
theorem Zc4:Z0a P w K mg base 2 (gh sx K) ⟨"InvalidIndex",["given"],exF 108⟩:=(Z9x X Gn c).2
theorem Zaj:Z0a P w K mg base 2 (gh sx K) ⟨"InvalidWish",[],exF 107⟩∧Z0a P w K mg base 2 (gh sx K) ⟨"InvalidWish",["given"],exF 107⟩:=by
 obtain⟨fd,D⟩:=c.def_ 16 (d:=Z6f) rfl
 exact Z1g (fine c) (by decide) (by decide) D rfl (by decide +kernel) rfl (Z0k X Gn c 16 rfl) (fun _ _ _ _ _ _ _ _=>rfl) (fun _ _ _ _ _ _ _ _=>rfl)
theorem ZcE:Z0a P w K mg base 2 (gh sx K) ⟨"InvalidWish",[],exF 107⟩:=(Zaj X Gn c).1
theorem ZcO:Z0a P w K mg base 2 (gh sx K) ⟨"InvalidWish",["given"],exF 107⟩:=(Zaj X Gn c).2
theorem Z6l:Z0a P w K mg base 2 (gh sx K) ⟨"InvalidSchedule",[],exF 106⟩∧Z0a P w K mg base 2 (gh sx K) ⟨"InvalidSchedule",["given"],exF 106⟩:=by
 obtain⟨fd,D⟩:=c.def_ 15 (d:=Z4k) rfl
 exact Z1g (fine c) (by decide) (by decide) D rfl (by decide +kernel) rfl (Z0k X Gn c 15 rfl) (fun _ _ _ _ _ _ _ _=>rfl) (fun _ _ _ _ _ _ _ _=>rfl)
theorem Zan:Z0a P w K mg base 2 (gh sx K) ⟨"InvalidSchedule",[],exF 106⟩:=(Z6l X Gn c).1
theorem Zaw:Z0a P w K mg base 2 (gh sx K) ⟨"InvalidSchedule",["given"],exF 106⟩:=(Z6l X Gn c).2
theorem Z8g:Z0a P w K mg base 2 (gh sx K) ⟨"InvalidGrowth",[],exF 114⟩∧Z0a P w K mg base 2 (gh sx K) ⟨"InvalidGrowth",["index"],exF 114⟩:=by
 obtain⟨fd,D⟩:=c.def_ 23 (d:=Z5k) rfl
 exact Z1g (fine c) (by decide) (by decide) D rfl (by decide +kernel) rfl (Z0k X Gn c 23 rfl) (fun _ _ _ _ _ _ _ _=>rfl) (fun _ _ _ _ _ _ _ _=>rfl)
theorem ZbI:Z0a P w K mg base 2 (gh sx K) ⟨"InvalidGrowth",[],exF 114⟩:=(Z8g X Gn c).1
theorem ZbF:Z0a P w K mg base 2 (gh sx K) ⟨"InvalidGrowth",["index"],exF 114⟩:=(Z8g X Gn c).2
theorem Z7w:Z0a P w K mg base 2 (gh sx K) ⟨"InvalidUrgent",[],exF 113⟩∧Z0a P w K mg base 2 (gh sx K) ⟨"InvalidUrgent",["index"],exF 113⟩:=by
 obtain⟨fd,D⟩:=c.def_ 22 (d:=Z5j) rfl
 exact Z1g (fine c) (by decide) (by decide) D rfl (by decide +kernel) rfl (Z0k X Gn c 22 rfl) (fun _ _ _ _ _ _ _ _=>rfl) (fun _ _ _ _ _ _ _ _=>rfl)
theorem Zbs:Z0a P w K mg base 2 (gh sx K) ⟨"InvalidUrgent",[],exF 113⟩:=(Z7w X Gn c).1
theorem Zbv:Z0a P w K mg base 2 (gh sx K) ⟨"InvalidUrgent",["index"],exF 113⟩:=(Z7w X Gn c).2
theorem Z6m:Z0a P w K mg base 2 (gh sx K) ⟨"InvalidMeetings",[],exF 112⟩∧Z0a P w K mg base 2 (gh sx K) ⟨"InvalidMeetings",["index"],exF 112⟩:=by
 obtain⟨fd,D⟩:=c.def_ 21 (d:=Z4n) rfl
 exact Z1g (fine c) (by decide) (by decide) D rfl (by decide +kernel) rfl (Z0k X Gn c 21 rfl) (fun _ _ _ _ _ _ _ _=>rfl) (fun _ _ _ _ _ _ _ _=>rfl)
theorem Zau:Z0a P w K mg base 2 (gh sx K) ⟨"InvalidMeetings",[],exF 112⟩:=(Z6m X Gn c).1
theorem ZaE:Z0a P w K mg base 2 (gh sx K) ⟨"InvalidMeetings",["index"],exF 112⟩:=(Z6m X Gn c).2
theorem Z8e:Z0a P w K mg base 2 (gh sx K) ⟨"InvalidGuests",[],exF 111⟩∧Z0a P w K mg base 2 (gh sx K) ⟨"InvalidGuests",["index"],exF 111⟩:=by
 obtain⟨fd,D⟩:=c.def_ 20 (d:=Z5d) rfl
 exact Z1g (fine c) (by decide) (by decide) D rfl (by decide +kernel) rfl (Z0k X Gn c 20 rfl) (fun _ _ _ _ _ _ _ _=>rfl) (fun _ _ _ _ _ _ _ _=>rfl)
theorem ZbE:Z0a P w K mg base 2 (gh sx K) ⟨"InvalidGuests",[],exF 111⟩:=(Z8e X Gn c).1
theorem Zbz:Z0a P w K mg base 2 (gh sx K) ⟨"InvalidGuests",["index"],exF 111⟩:=(Z8e X Gn c).2
theorem Zd1:Z0a P w K mg base 2 (gh sx K) ⟨"TooMany",[],exF 121⟩∧Z0a P w K mg base 2 (gh sx K) ⟨"TooMany",["given"],exF 121⟩:=by
 obtain⟨fd,D⟩:=c.def_ 28 (d:=Z9l) rfl
 exact Z1g (fine c) (by decide) (by decide) D rfl (by decide +kernel) rfl (Z0k X Gn c 28 rfl) (fun _ _ _ _ _ _ _ _=>rfl) (fun _ _ _ _ _ _ _ _=>rfl)
theorem Zfk:Z0a P w K mg base 2 (gh sx K) ⟨"TooMany",[],exF 121⟩:=(Zd1 X Gn c).1
theorem Zfz:Z0a P w K mg base 2 (gh sx K) ⟨"TooMany",["given"],exF 121⟩:=(Zd1 X Gn c).2
theorem Z9y:Z0a P w K mg base 2 (gh sx K) ⟨"TooFewRounds",[],exF 120⟩∧Z0a P w K mg base 2 (gh sx K) ⟨"TooFewRounds",["given"],exF 120⟩:=by
 obtain⟨fd,D⟩:=c.def_ 27 (d:=Z5p) rfl
 exact Z1g (fine c) (by decide) (by decide) D rfl (by decide +kernel) rfl (Z0k X Gn c 27 rfl) (fun _ _ _ _ _ _ _ _=>rfl) (fun _ _ _ _ _ _ _ _=>rfl)
theorem Zcd:Z0a P w K mg base 2 (gh sx K) ⟨"TooFewRounds",[],exF 120⟩:=(Z9y X Gn c).1
theorem ZbV:Z0a P w K mg base 2 (gh sx K) ⟨"TooFewRounds",["given"],exF 120⟩:=(Z9y X Gn c).2
theorem Zaf:Z0a P w K mg base 2 (gh sx K) ⟨"UnknownName",[],exF 118⟩∧Z0a P w K mg base 2 (gh sx K) ⟨"UnknownName",["given"],exF 118⟩:=by
 obtain⟨fd,D⟩:=c.def_ 26 (d:=Z6c) rfl
 exact Z1g (fine c) (by decide) (by decide) D rfl (by decide +kernel) rfl (Z0k X Gn c 26 rfl) (fun _ _ _ _ _ _ _ _=>rfl) (fun _ _ _ _ _ _ _ _=>rfl)
theorem Zcz:Z0a P w K mg base 2 (gh sx K) ⟨"UnknownName",[],exF 118⟩:=(Zaf X Gn c).1
theorem ZcH:Z0a P w K mg base 2 (gh sx K) ⟨"UnknownName",["given"],exF 118⟩:=(Zaf X Gn c).2
theorem Z8x:Z0a P w K mg base 2 (gh sx K) ⟨"InvalidAsked",[],exF 116⟩∧Z0a P w K mg base 2 (gh sx K) ⟨"InvalidAsked",["index"],exF 116⟩:=by
 obtain⟨fd,D⟩:=c.def_ 25 (d:=Z5q) rfl
 exact Z1g (fine c) (by decide) (by decide) D rfl (by decide +kernel) rfl (Z0k X Gn c 25 rfl) (fun _ _ _ _ _ _ _ _=>rfl) (fun _ _ _ _ _ _ _ _=>rfl)
theorem Zc2:Z0a P w K mg base 2 (gh sx K) ⟨"InvalidAsked",[],exF 116⟩:=(Z8x X Gn c).1
theorem Zcg:Z0a P w K mg base 2 (gh sx K) ⟨"InvalidAsked",["index"],exF 116⟩:=(Z8x X Gn c).2
theorem Z7s:Z0a P w K mg base 2 (gh sx K) ⟨"InvalidChanges",[],exF 115⟩∧Z0a P w K mg base 2 (gh sx K) ⟨"InvalidChanges",["index"],exF 115⟩:=by
 obtain⟨fd,D⟩:=c.def_ 24 (d:=Z5a) rfl
 exact Z1g (fine c) (by decide) (by decide) D rfl (by decide +kernel) rfl (Z0k X Gn c 24 rfl) (fun _ _ _ _ _ _ _ _=>rfl) (fun _ _ _ _ _ _ _ _=>rfl)
theorem Zbk:Z0a P w K mg base 2 (gh sx K) ⟨"InvalidChanges",[],exF 115⟩:=(Z7s X Gn c).1
theorem Zbj:Z0a P w K mg base 2 (gh sx K) ⟨"InvalidChanges",["index"],exF 115⟩:=(Z7s X Gn c).2
theorem ZdK:Z0a P w K mg base 2 (gh sx K) ⟨"Broken",[],exF 123⟩∧Z0a P w K mg base 2 (gh sx K) ⟨"Broken",["index"],exF 123⟩:=by
 obtain⟨fd,D⟩:=c.def_ 29 (d:=Zag) rfl
 exact Z1g (fine c) (by decide) (by decide) D rfl (by decide +kernel) rfl (Z0k X Gn c 30 rfl) (fun _ _ _ _ _ _ _ _=>rfl) (fun _ _ _ _ _ _ _ _=>rfl)
theorem ZfP:Z0a P w K mg base 2 (gh sx K) ⟨"Broken",[],exF 123⟩:=(ZdK X Gn c).1
theorem Zgp:Z0a P w K mg base 2 (gh sx K) ⟨"Broken",["index"],exF 123⟩:=(ZdK X Gn c).2
theorem Z7l:Z0a P w K mg base 2 (gh sx K) ⟨"NothingToUndo",[],ex0 122⟩:=ZiM (fine c) (by decide) (Z0k X Gn c 29 rfl)
theorem ZfR:∃ fd,Z3z.Is K fd∧FnG P w K mg base 2 (Z3z.ad K) fd ["_law_script", "_law_at"] (Spec (gh sx K) Z3n):=by
 obtain⟨fd,D⟩:=c.def_ 0 (d:=Z3z) rfl
 have tab:TabOk P w K mg base 0 (gh sx K) Z2d:=Z4p X Gn (fine c) nds (prs:=[]) (mts:=[]) fno pno sbn sbn sbn mno ⟨0,rfl⟩ hno sbn sbn xno tno
 exact⟨fd,D,Z4j D rfl rfl tab (Z3e (prs:=[]) (mts:=[]) ⟨0,rfl⟩) (by decide +kernel) Zg0⟩
theorem ZfN:Z0a P w K mg base 2 (gh sx K) ⟨"_law_jug",[],(Z0u 2 [] Z3n)⟩:=by
 obtain⟨fd,D,F⟩:=ZfR (P:=P) (w:=w) (base:=base) X Gn c
 exact Z4d (d:=Z3z) D F (Z0k X Gn c 0 rfl) rfl fun _ _ _ _ _ _ us hl=>match us,hl with | [_,_],_=>rfl
theorem ZfH:∃ fd,Z3p.Is K fd∧FnG P w K mg base 2 (Z3p.ad K) fd ["_law_jug_here", "_law_many"] (Spec (gh sx K) Z1p):=by
 obtain⟨fd,D⟩:=c.def_ 1 (d:=Z3p) rfl
 have tab:TabOk P w K mg base 0 (gh sx K) Z3t:=Z4p X Gn (fine c) nds (prs:=[]) (mts:=[]) fno pno sbn sbn sbn mno ⟨0,rfl⟩ hno sbn sbn xno tno
 exact⟨fd,D,Z4j D rfl rfl tab (Z3e (prs:=[]) (mts:=[]) ⟨0,rfl⟩) (by decide +kernel) Zf6⟩
theorem Zbn:Z0a P w K mg base 2 (gh sx K) ⟨"_law_pour",[],(Z0u 2 [] Z1p)⟩:=by
 obtain⟨fd,D,F⟩:=ZfH (P:=P) (w:=w) (base:=base) X Gn c
 exact Z4d (d:=Z3p) D F (Z0k X Gn c 1 rfl) rfl fun _ _ _ _ _ _ us hl=>match us,hl with | [_,_],_=>rfl
theorem Zek:∃ fd,Z3a.Is K fd∧FnG P w K mg base 2 (Z3a.ad K) fd ["_law_e"] (Spec (gh sx K) Z3c):=by
 obtain⟨fd,D⟩:=c.def_ 2 (d:=Z3a) rfl
 have tab:TabOk P w K mg base 0 (gh sx K) Z0g:=Z4p X Gn (fine c) nds (prs:=[]) (mts:=[]) fno pno sbn sbn (sbc 0 (sbc 1 (sbc 2 (sbc 3 (sbc 4 (sbc 5 sbn)))))) mno ⟨0,rfl⟩ hno sbr sbn xno tno
 exact⟨fd,D,Z4j D rfl rfl tab (Z3e (prs:=[]) (mts:=[]) ⟨0,rfl⟩) (by decide +kernel) Zed⟩
theorem ZdB:Z0a P w K mg base 2 (gh sx K) ⟨"_law_bases",[],(Z0u 1 [] Z3c)⟩:=by
 obtain⟨fd,D,F⟩:=Zek (P:=P) (w:=w) (base:=base) X Gn c
 exact Z4d (d:=Z3a) D F (Z0k X Gn c 2 rfl) rfl fun _ _ _ _ _ _ us hl=>match us,hl with | [_],_=>rfl
theorem Zgt:∃ fd,Z4a.Is K fd∧FnG P w K mg base 4 (Z4a.ad K) fd ["_law_jug_here"] (Spec (gh sx K) Z4z):=by
 obtain⟨fd,D⟩:=c.def_ 3 (d:=Z4a) rfl
 have tab:TabOk P w K mg base 2 (gh sx K) Z4f:=Z4p X Gn (fine c) nds (prs:=[]) (mts:=[]) (fco (Zbn X Gn c) fno) pno sbn sbn sbn mno ⟨0,rfl⟩ hno sbn sbn xno tno
 exact⟨fd,D,Z4j D rfl rfl tab (Z3e (prs:=[]) (mts:=[]) ⟨0,rfl⟩) (by decide +kernel) ZfT⟩
theorem Zf7:Z0a P w K mg base 4 (gh sx K) ⟨"_law_odd",[],(Z0u 1 [] Z4z)⟩:=by
 obtain⟨fd,D,F⟩:=Zgt (P:=P) (w:=w) (base:=base) X Gn c
 exact Z4d (d:=Z4a) D F (Z0k X Gn c 3 rfl) rfl fun _ _ _ _ _ _ us hl=>match us,hl with | [_],_=>rfl
theorem Zel:∃ fd,Z3g.Is K fd∧FnG P w K mg base 4 (Z3g.ad K) fd ["_law_e"] (Spec (gh sx K) Z2z):=by
 obtain⟨fd,D⟩:=c.def_ 4 (d:=Z3g) rfl
 have tab:TabOk P w K mg base 2 (gh sx K) Z0c:=Z4p X Gn (fine c) nds (prs:=[]) (mts:=[]) (fco (ZdB X Gn c) fno) pno sbn sbn (sbc 6 (sbc 7 (sbc 8 (sbc 9 (sbc 10 (sbc 11 (sbc 12 (sbc 13 (sbc 14 (sbc 15 (sbc 16 (sbc 17 (sbc 18 (sbc 19 (sbc 20 (sbc 21 (sbc 22 (sbc 23 (sbc 24 (sbc 25 (sbc 26 sbn))))))))))))))))))))) mno ⟨0,rfl⟩ hno sbr sbn xno tno
 exact⟨fd,D,Z4j D rfl rfl tab (Z3e (prs:=[]) (mts:=[]) ⟨0,rfl⟩) (by decide +kernel) Zeh⟩
theorem ZdU:Z0a P w K mg base 4 (gh sx K) ⟨"_law_class",[],(Z0u 1 [] Z2z)⟩:=by
 obtain⟨fd,D,F⟩:=Zel (P:=P) (w:=w) (base:=base) X Gn c
 exact Z4d (d:=Z3g) D F (Z0k X Gn c 4 rfl) rfl fun _ _ _ _ _ _ us hl=>match us,hl with | [_],_=>rfl
theorem Zei:∃ fd,Z3h.Is K fd∧FnG P w K mg base 2 (Z3h.ad K) fd ["_law_e", "_law_at"] (Spec (gh sx K) Z0x):=by
 obtain⟨fd,D⟩:=c.def_ 5 (d:=Z3h) rfl
 have tab:TabOk P w K mg base 0 (gh sx K) Z1s:=Z4p X Gn (fine c) nds (prs:=[]) (mts:=[]) fno pno sbn sbn sbn mno ⟨0,rfl⟩ hno sbn sbr xno tno
 exact⟨fd,D,Z4j D rfl rfl tab (Z3e (prs:=[]) (mts:=[]) ⟨0,rfl⟩) (by decide +kernel) Zea⟩
theorem ZdS:Z0a P w K mg base 2 (gh sx K) ⟨"_law_keeps",[],(Z0u 2 [] Z0x)⟩:=by
 obtain⟨fd,D,F⟩:=Zei (P:=P) (w:=w) (base:=base) X Gn c
 exact Z4d (d:=Z3h) D F (Z0k X Gn c 5 rfl) rfl fun _ _ _ _ _ _ us hl=>match us,hl with | [_,_],_=>rfl
theorem ZcL:∃ fd,Z1n.Is K fd∧FnG P w K mg base 4 (Z1n.ad K) fd ["_law_odd_here"] (Spec (gh sx K) Z2i):=by
 obtain⟨fd,D⟩:=c.def_ 6 (d:=Z1n) rfl
 have tab:TabOk P w K mg base 2 (gh sx K) Z1v:=Z4p X Gn (fine c) nds (prs:=[]) (mts:=[]) (fco (Zcr X Gn c) (fco (Zbt X Gn c) (fco (ZcA X Gn c) (fco (ZbJ X Gn c) (fco (ZcM X Gn c) (fco (Zca X Gn c) (fco (Zen X Gn c) (fco (Zco X Gn c) (fco (ZcE X Gn c) (fco (Zan X Gn c) (fco (ZbI X Gn c) (fco (Zbs X Gn c) (fco (Zau X Gn c) (fco (ZbE X Gn c) (fco (Zfk X Gn c) (fco (Zcd X Gn c) (fco (Zcz X Gn c) (fco (Zc2 X Gn c) (fco (Zbk X Gn c) (fco (ZfP X Gn c) (fco (Z7l X Gn c) fno))))))))))))))))))))) pno sbn sbn sbn mno ⟨0,rfl⟩ hno sbn sbn xno tno
 exact⟨fd,D,Z4j D rfl rfl tab (Z3e (prs:=[]) (mts:=[]) ⟨0,rfl⟩) (by decide +kernel) ZcN⟩
theorem Zc1:Z0a P w K mg base 4 (gh sx K) ⟨"_law_by_place",[],(Z0u 1 [] Z2i)⟩:=by
 obtain⟨fd,D,F⟩:=ZcL (P:=P) (w:=w) (base:=base) X Gn c
 exact Z4d (d:=Z1n) D F (Z0k X Gn c 6 rfl) rfl fun _ _ _ _ _ _ us hl=>match us,hl with | [_],_=>rfl
theorem Zda:∃ fd,Z2a.Is K fd∧FnG P w K mg base 4 (Z2a.ad K) fd ["_law_odd_here"] (Spec (gh sx K) Z2u):=by
 obtain⟨fd,D⟩:=c.def_ 7 (d:=Z2a) rfl
 have tab:TabOk P w K mg base 2 (gh sx K) Z2g:=Z4p X Gn (fine c) nds (prs:=[]) (mts:=[]) (fco (ZbB X Gn c) (fco (ZcI X Gn c) (fco (ZbG X Gn c) (fco (Zcx X Gn c) (fco (ZcO X Gn c) (fco (Zaw X Gn c) (fco (Zc6 X Gn c) (fco (Zbz X Gn c) (fco (ZbR X Gn c) (fco (Zef X Gn c) (fco (Zc4 X Gn c) (fco (ZbF X Gn c) (fco (Zbv X Gn c) (fco (ZaE X Gn c) (fco (ZcH X Gn c) (fco (Zcg X Gn c) (fco (Zbj X Gn c) (fco (Zgp X Gn c) (fco (Z7l X Gn c) (fco (Zfz X Gn c) (fco (ZbV X Gn c) fno))))))))))))))))))))) pno sbn sbn sbn mno ⟨0,rfl⟩ hno sbn sbn xno tno
 exact⟨fd,D,Z4j D rfl rfl tab (Z3e (prs:=[]) (mts:=[]) ⟨0,rfl⟩) (by decide +kernel) Zdb⟩
theorem Zcs:Z0a P w K mg base 4 (gh sx K) ⟨"_law_by_name",[],(Z0u 1 [] Z2u)⟩:=by
 obtain⟨fd,D,F⟩:=Zda (P:=P) (w:=w) (base:=base) X Gn c
 exact Z4d (d:=Z2a) D F (Z0k X Gn c 7 rfl) rfl fun _ _ _ _ _ _ us hl=>match us,hl with | [_],_=>rfl
theorem Zej:∃ fd,Z3d.Is K fd∧FnG P w K mg base 6 (Z3d.ad K) fd ["_law_jug_here"] (Spec (gh sx K) Z3r):=by
 obtain⟨fd,D⟩:=c.def_ 8 (d:=Z3d) rfl
 have tab:TabOk P w K mg base 4 (gh sx K) Z0n:=Z4p X Gn (fine c) nds (prs:=[]) (mts:=[]) (fco (Zf7 X Gn c) (fco (Zbn X Gn c) (fco (Zcs X Gn c) (fco (Zc1 X Gn c) (fco (ZdU X Gn c) (fco (ZdS X Gn c) fno)))))) pno sbn sbn sbn mno ⟨0,rfl⟩ hno sbn sbn xno tno
 exact⟨fd,D,Z4j D rfl rfl tab (Z3e (prs:=[]) (mts:=[]) ⟨0,rfl⟩) (by decide +kernel) Zeb⟩
theorem Ze5:Z0a P w K mg base 6 (gh sx K) ⟨"_law_right",[],(Z0u 1 [] Z3r)⟩:=by
 obtain⟨fd,D,F⟩:=Zej (P:=P) (w:=w) (base:=base) X Gn c
 exact Z4d (d:=Z3d) D F (Z0k X Gn c 8 rfl) rfl fun _ _ _ _ _ _ us hl=>match us,hl with | [_],_=>rfl
theorem o_law:∃ fd,Za8.Is K fd∧FnG P w K mg base 8 (Za8.ad K) fd ["_law_script"] (Spec (gh sx K) Zdc):=by
 obtain⟨fd,D⟩:=c.def_ 9 (d:=Za8) rfl
 have tab:TabOk P w K mg base 6 (gh sx K) Z2w:=Z4p X Gn (fine c) nds (prs:=[]) (mts:=[]) (fco (Ze5 X Gn c) (fco (ZfN X Gn c) fno)) pno (sbc 0 (sbc 1 (sbc 2 (sbc 3 (sbc 4 sbn))))) sbn sbn mno ⟨0,rfl⟩ hno sbn sbn xno tno
 exact⟨fd,D,Z4j D rfl rfl tab (Z3e (prs:=[]) (mts:=[]) ⟨0,rfl⟩) (by decide +kernel) k_law⟩
end
theorem facts{P:Program}{w:World}{K:PySem.W.Frag}{h:Heap}{mg:Str→Option Value}{f:Addr}(X:K.In h)(Gn:h.Ns mainGlobals mg)(hfa:mg ("law" : Str)=some (.ref f))(c:Za4 fx fn K) :
  ∃ (fd:FuncData) (G:Gh),G.K=K∧G.tb=[]∧(∀ (s:Shared) (v:Value),BindsTo s fd ⟨[v],[]⟩ [("_law_script",v)])∧∀ ground:Heap,K.In ground→ground.Ns mainGlobals mg→FnG P w K mg ground 8 f fd ["_law_script"] (Spec G Zdc):=by
 have e:=hfa.symm.trans (Z0k X Gn c 9 (x := "law") rfl)
 cases e
 obtain⟨fd,D⟩:=c.def_ 9 (d:=Za8) rfl
 have D0:=D
 obtain⟨vs,hk,FD⟩:=D0
 cases hk
 have b:=FunD.bindsA (ps:=["_law_script"]) FD fun _ _ _ _ _ _ us hl=>match us,hl with | [_],_=>rfl
 refine⟨fd,gh sx K,rfl,rfl,fun s v=>b s [v] rfl,fun ground _ _ => ?_⟩
 obtain⟨fd2,D2,F2⟩:=o_law (P:=P) (w:=w) (base:=ground) X Gn c
 have:fd2=fd:=fd_eq D2 D
 subst this
 exact F2
end EgLaw
set_option maxHeartbeats 0
open PySem PySem.W PySem.Calls PyProof.Rows
theorem PySem.Challenge.cw_meetrounds_k01_limits_and_errors_holds : PySem.Challenge.rw_meetrounds_k01_limits_and_errors.Holds := by
 w_on;o_law
 refine HandSHeadRun.head_any (r:=OpenLaw.row PySem.Challenge.rw_meetrounds_k01_limits_and_errors) (q:=view (OpenLaw.row PySem.Challenge.rw_meetrounds_k01_limits_and_errors).prog [40]) (H:=EgLaw.hk) (ob:=EgLaw.ob) (M:=20000) (loose:=EgLaw.names) (d:=HandSHeadRun.topDef (OpenLaw.row PySem.Challenge.rw_meetrounds_k01_limits_and_errors).prog 40) (kwd:=[]) EgLaw.ob_eq
  (by kernel_rfl) (fun s=>by kernel_rfl) EgLaw.run (by kernel_rfl) (by kernel_rfl) (by kernel_rfl) (by rfl) (by first | assumption | decide +kernel) (by decide +kernel) ⟨rfl,rfl,rfl,rfl,rfl,by decide +kernel⟩ ?hw ?hc
 case hw=>w_witness2
 case hc =>
  refine Eg.walk_end (l:=PySem.Challenge.rw_meetrounds_k01_limits_and_errors) (n:=63) (k:=8) (x := "_law_script") rfl (by decide) (by kernel_rfl) ⟨rfl,by decide,by decide⟩ EgLaw.gives_k01 ?F
  intro w mg fa h Y Gn found0
  obtain⟨K,inH,c⟩:=Y
  have found:mg ("law" : PySem.Str)=some (.ref fa):=by
   have e:(HandSHeadRun.topDef (OpenLaw.row PySem.Challenge.rw_meetrounds_k01_limits_and_errors).prog 40).name=("law" : PySem.Str):=by kernel_rfl
   rw[← e]
   exact found0
  obtain⟨fd,G,hG,htb,hb,hF⟩:=EgLaw.facts (P:=(PySem.Challenge.rw_meetrounds_k01_limits_and_errors).prog) (w:=w) inH Gn found c
  exact⟨K,fd,G,inH,hG,htb,hb,hF⟩
