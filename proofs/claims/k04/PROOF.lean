import PyProof.Rows.All
import Wide.All
import OpenK.AllK
import Wide.FinOn
import PyProof.EqAt
import PyProof.EqKinds
import PyProof.TupleCall
import HandS.ForMost
import HandS.Exc
import HandS.WordsExc
import HandS.ExcOwn
import HandS.IsInst
import HandS.Zip
import HandS.Walk
import HandS.Conv
import HandS.TupAny
import HandS.Wide
import HandS.WideBits
import HandS.Property
import HandS.FStr
import HandS.Deep
import KE.GoesNew
import HandS.Text
import HandS.Lambda
import HandS.Flt
import HandS.TryOnly
import HandS.TupMul
import KE.KDictZip
import HandS.Defaults
import HandS.MakeKw
import HandS.Style
import PyProof.ReprRoads
import HandS.RaiseMore
import HandS.SetFor
import KE.KExcInit
import HandS.ExcInit
import HandS.ExcIs
import HandS.ExcField
import HandS.HotCalls
import KE.KExcIs
import KE.KTryMore
import KE.DataFind
import OpenK.KOps
import OpenK.KMeth
import KE.KCallOwn
import HandS.SlotsOwn
import PyProof.Rows.Range3
import HandS.More
import HandS.Star
import HandS.ClsMeth
import HandS.Dict
import KE.KDictDisplayH
import HandS.SortInts
import HandS.SortKw
import HandS.Strs
import KE.KDictPairs
import KE.SortKeyHeap
import KE.KOpsOwn
import KE.KStateDown
import HandS.Ends
import HandS.EndBits
import HandS.Head0
import HandS.Head1
import HandS.Head2
import HandS.HeadEnd
import HandS.HeadHook1
import HandS.HeadHook2
import HandS.Codes
import HandS.HeadHook4
import HandS.EndTab
import HandS.NestedK
import HandS.HeadNt
import PySem.Challenge.RW_meetrounds_k04_guests_and_tables_refused
set_option Elab.async false
set_option linter.all false
namespace Eg
open PySem
inductive T where
  | non | bl (b : Bool) | int (i : Int) | str (x : Str)
  | tup (xs : List T) | lst (xs : List T)
  | obj (c : Nat) (vs : List T)
  | exc (c : Nat) (vs : List T)
  | loc (l : Nat)
  | scr (ns : List Int)
  | cv (c : Nat)
  | ptp (xs : List T)
  | edt
instance : Inhabited T := ⟨.non⟩
inductive Cell where
  | lst (xs : List T) | ins (c : Nat) (vs : List T) | dt (kvs : List (List L2.Key × T)) | dk (kvs : List (L2.Key × T))
abbrev Sto := List Cell
inductive R (A : Type) where
  | ok (a : A) (s : Sto) | exc (e : T) (s : Sto) | bad
def R.bnd {A B : Type} (x : R A) (f : A → Sto → R B) : R B := match x with
  | .ok a s => f a s
  | .exc e s => .exc e s
  | .bad => .bad
def R.nox {A : Type} (x : R A) : R A := match x with
  | .ok a s => .ok a s
  | _ => .bad
def R.opt {A : Type} (o : Option A) (s : Sto) : R A := match o with
  | some a => .ok a s
  | none => .bad
abbrev Env := List (Option T)
def lim : Nat := 16777216
theorem lim_eq : lim = sizeLine := by rw [sizeLine_eq]; rfl
mutual
def data : T → Bool
  | .non => true
  | .bl _ => true
  | .int _ => true
  | .str x => PyData.strOk x
  | .tup xs => datas xs
  | .lst xs => datas xs
  | .obj _ _ => false
  | .exc _ _ => false
  | .loc _ => false
  | .scr _ => false
  | .cv _ => false
  | .ptp _ => false
  | .edt => false
def datas : List T → Bool
  | [] => true
  | x :: xs => data x && datas xs
end
mutual
def dep : T → Nat
  | .tup xs => deps xs + 1
  | .lst xs => deps xs + 1
  | .edt => 1
  | _ => 0
def deps : List T → Nat
  | [] => 0
  | x :: xs => max (dep x) (deps xs)
end
mutual
def eqv : T → T → Bool
  | .non, .non => true
  | .bl a, .bl b => a == b
  | .bl a, .int j => (if a then 1 else 0) == j
  | .int i, .bl b => i == (if b then 1 else 0)
  | .int i, .int j => i == j
  | .str x, .str y => x == y
  | .lst xs, .lst ys => eqvs xs ys
  | .tup xs, .tup ys => eqvs xs ys
  | _, _ => false
def eqvs : List T → List T → Bool
  | [], [] => true
  | x :: xs, y :: ys => eqv x y && eqvs xs ys
  | _, _ => false
end
def eqT (a b : T) : Option Bool := if data a && data b && decide (dep a ≤ 60) && decide (dep b ≤ 60) then some (eqv a b) else none
def MulOk (i j : Int) : Prop := i.natAbs.log2 + j.natAbs.log2 < 100000000
instance (i j : Int) : Decidable (MulOk i j) := by unfold MulOk; infer_instance
def DivOk (j : Int) : Prop := 0 < j ∧ j.natAbs.log2 < 9000
instance (j : Int) : Decidable (DivOk j) := by unfold DivOk; infer_instance
def PowOk (i j : Int) : Prop := 0 ≤ j ∧ j ≤ 1000000 ∧ i.natAbs < 2 ^ 64
instance (i j : Int) : Decidable (PowOk i j) := by unfold PowOk; infer_instance
def addT : T → T → Option T
  | .int a, .int b => some (.int (a + b))
  | .str a, .str b => if a.length + b.length ≤ lim then some (.str (a ++ b)) else none
  | .tup a, .tup b => if a.length + b.length ≤ lim then some (.tup (a ++ b)) else none
  | _, _ => none
def binT : Operator → T → T → Option T
  | .Add, a, b => addT a b
  | .Sub, .int a, .int b => some (.int (a - b))
  | .Mult, .int a, .int b => if MulOk a b then some (.int (a * b)) else none
  | .FloorDiv, .int a, .int b => if DivOk b then some (.int (a / b)) else none
  | .Mod, .int a, .int b => if 0 < b then some (.int (a % b)) else none
  | .Pow, .int a, .int b => if PowOk a b then some (.int (a ^ b.toNat)) else none
  | _, _, _ => none
def ownL (st : Sto) : T → Option (List T)
  | .lst xs => some xs
  | .loc l => match st[l]? with
    | some (.lst xs) => some xs
    | _ => none
  | _ => none
def lstOf (st : Sto) : T → Option (List T)
  | .lst xs => some xs
  | .scr ns => some (ns.map .int)
  | .loc l => match st[l]? with
    | some (.lst xs) => some xs
    | _ => none
  | _ => none
def seqOf (st : Sto) : T → Option (List T)
  | .tup xs => some xs
  | .ptp xs => some xs
  | t => lstOf st t
def chars (x : Str) : List T := x.cps.toList.map fun c => .str ⟨#[c]⟩
def strIn (a b : Str) : Bool := !(Builtin.Str.occurrences b a 0 b.length 1).isEmpty
def inT (st : Sto) (a b : T) : Option Bool := match a, b with
  | .str x, .str y => some (strIn x y)
  | a, b => match seqOf st b with
    | some ys => if data a && datas ys && decide (dep a ≤ 60) && decide (deps ys ≤ 60) then some (ys.any fun y => eqv y a) else none
    | none => none
def frozen (st : Sto) (t : T) : T := match lstOf st t with
  | some xs => .lst xs
  | none => t
def cmpT (st : Sto) : CmpOp → T → T → Option Bool
  | .Eq, a, b => eqT (frozen st a) (frozen st b)
  | .NotEq, a, b => (eqT (frozen st a) (frozen st b)).map (!·)
  | .Lt, .int a, .int b => some (decide (a < b))
  | .LtE, .int a, .int b => some (decide (a ≤ b))
  | .Gt, .int a, .int b => some (decide (b < a))
  | .GtE, .int a, .int b => some (decide (b ≤ a))
  | .In, a, b => inT st a b
  | .NotIn, a, b => (inT st a b).map (!·)
  | _, _, _ => none
def ixT (st : Sto) : T → T → Option T
  | .str x, .int i => if x.length ≤ lim then (L2.atI x.cps.toList i).map fun c => .str ⟨#[c]⟩ else none
  | a, .int i => match seqOf st a with
    | some xs => L2.atI xs i
    | none => none
  | _, _ => none
def cut {A : Type} (xs : List A) (lo hi : Option Int) : List A := (xs.drop (HT.sIx xs.length 0 lo)).take (HT.sIx xs.length xs.length hi - HT.sIx xs.length 0 lo)
def intsOf : List T → Option (List Int)
  | [] => some []
  | .int i :: r => (intsOf r).map (i :: ·)
  | _ :: _ => none
def blsOf : List T → Option (List Bool)
  | [] => some []
  | .bl b :: r => (blsOf r).map (b :: ·)
  | _ :: _ => none
def strsOf : List T → Option (List Str)
  | [] => some []
  | .str b :: r => (strsOf r).map (b :: ·)
  | _ :: _ => none
def maxI : List Int → Int
  | [] => 0
  | [a] => a
  | a :: b :: r => max a (maxI (b :: r))
def minI : List Int → Int
  | [] => 0
  | [a] => a
  | a :: b :: r => min a (minI (b :: r))
inductive Bi where
  | len | sum | max | min | abs | int | tuple | all | any | divmod
  deriving DecidableEq
def biT (st : Sto) : Bi → List T → Option T
  | .len, [.str x] => if x.length ≤ lim then some (.int x.length) else none
  | .len, [a] => (seqOf st a).map fun xs => .int xs.length
  | .sum, [a] => ((seqOf st a).bind intsOf).map fun ns => .int ns.sum
  | .max, [a] => ((lstOf st a).bind intsOf).bind fun ns => if ns = [] then none else some (.int (maxI ns))
  | .min, [a] => ((lstOf st a).bind intsOf).bind fun ns => if ns = [] then none else some (.int (minI ns))
  | .max, [.int i, .int j] => some (.int (if j > i then j else i))
  | .min, [.int i, .int j] => some (.int (if j < i then j else i))
  | .max, [.int i, .int j, .int l] => some (.int (if l > (if j > i then j else i) then l else (if j > i then j else i)))
  | .min, [.int i, .int j, .int l] => some (.int (if l < (if j < i then j else i) then l else (if j < i then j else i)))
  | .abs, [.int i] => some (.int (if i < 0 then -i else i))
  | .int, [.int i] => some (.int i)
  | .int, [.bl k] => some (.int (if k then 1 else 0))
  | .int, [.str a] => (PySem.intText? a).bind fun n => if a.length ≤ 640 then some (.int n) else none
  | .tuple, [.ptp xs] => some (.ptp xs)
  | .tuple, [a] => (seqOf st a).map .tup
  | .all, [a] => ((lstOf st a).bind blsOf).map fun bs => .bl (bs.all id)
  | .any, [a] => ((lstOf st a).bind blsOf).map fun bs => .bl (bs.any id)
  | .divmod, [.int i, .int j] => if DivOk j then some (.tup [.int (i / j), .int (i % j)]) else none
  | _, _ => none
inductive IG where
  | name (i : Nat) | tup (gs : List IG)
structure Fn where
  name : Str
  ks : List Str
  F : List T → Sto → R T
structure Ci where
  fl : List Str
  props : List (Str × (List T → Sto → R T))
  meths : List (Str × Fn)
inductive Ty where
  | non | bl | int | str | tup | lst | cls (c : Nat) | dct
  deriving DecidableEq
inductive Tg where
  | ty (n : String) | cls (c : Nat)
  deriving DecidableEq
structure Hd where
  name : Str
  FT : (Sto → R T) → Sto → R T
structure Tab where
  cons : List (Str × T)
  funs : List Fn
  cls : List Ci
  isi : List ((Ty × Tg) × Bool)
  tgs : List (Str × Tg)
  hfuns : List Fn := []
  xis : List ((Nat × Tg) × Bool) := []
  xfl : List (Nat × Str) := []
  xcs : List (Nat × Str) := []
  hds : List Hd := []
  dun : List ((Nat × Str) × (List T → Sto → R T)) := []
  nes : List Nat := []
  cmf : List (Nat × Fn) := []
def Tab.hot (tb : Tab) : Tab := { tb with funs := [], cls := [], hds := [], xcs := [], dun := [], cmf := [] }
def IG.set : IG → T → Env → Option Env
  | .name i, t, env => if i < env.length then some (env.set i (some t)) else none
  | .tup gs, .tup xs, env => sets gs xs env
  | .tup gs, .lst xs, env => sets gs xs env
  | .tup _, _, _ => none
where sets : List IG → List T → Env → Option Env
  | [], [], env => some env
  | g :: gs, x :: xs, env => match g.set x env with
    | some env' => sets gs xs env'
    | none => none
  | _, _, _ => none
def wipeE (env : Env) : List Nat → Env
  | [] => env
  | i :: r => (wipeE env r).set i none
def each (f : T → Sto → R (Option T)) : List T → Sto → R (List T)
  | [], st => .ok [] st
  | x :: xs, st => (f x st).bnd fun o st1 => (each f xs st1).bnd fun r st2 => .ok (match o with
    | some y => y :: r
    | none => r) st2
def pairs : List T → List T → List T
  | x :: xs, y :: ys => .tup [x, y] :: pairs xs ys
  | _, _ => []
def numbered : Nat → List T → List T
  | _, [] => []
  | n, x :: xs => .tup [.int n, x] :: numbered (n + 1) xs
def rangeT (lo hi : Int) : List T := (List.range (hi - lo).toNat).map fun i => .int (lo + (i : Nat))
def RgOk (i : Int) : Prop := -(2 ^ 62) ≤ i ∧ i < 2 ^ 62
instance (i : Int) : Decidable (RgOk i) := by unfold RgOk; infer_instance
def isNn (n : Bool) : T → Bool
  | .non => !n
  | _ => n
def asBl : T → Option Bool
  | .bl b => some b
  | _ => none
def evV (i : Nat) (env : Env) (st : Sto) : R T := match env[i]? with
    | some (some t) => .ok t st
    | _ => .bad
end Eg
set_option Elab.async false
set_option linter.all false
set_option maxRecDepth 100000
set_option maxHeartbeats 2000000
namespace Eg
open PySem PySem.Spec PyProof.Rows L2
structure XA where
  a : Addr
  oe : Obj
  cls : Value
  d : Option Addr
structure Gh where
  K : PySem.W.Frag
  cl : Nat → Addr
  fl : Nat → List Str
  tb : List (Addr × Str) := []
  xa : Option XA := none
def NT : HO → Prop
  | .tbl _ => False
  | _ => True
theorem NT.ne {o : HO} (h : NT o) : ∀ ps, o ≠ .tbl ps := fun ps e => by rw [e] at h; exact h
def KL (K : PySem.W.Frag) (a : Addr) (xs : List V) : Prop :=
  ∃ (o : Obj) (its : Array Value) (n : Nat), K.lookup a = some o ∧ o.cls = .type "list" ∧ o.dict = none ∧ o.data = .seq its n ∧ its.size ≤ sizeLine ∧ Vals xs its.toList
structure Mm where
  as : List Addr
  fo : Addr → Prop
def Mm.w (m : Mm) (a : Addr) : Prop := a ∈ m.as ∨ m.fo a
def LAt (G : Gh) (m : Mm) (H : Hp) (a : Addr) (xs : List V) : Prop := ¬ m.w a ∧ H a = some (.lst xs)
def SAt (G : Gh) (m : Mm) (H : Hp) (a : Addr) (xs : List V) : Prop := (¬ m.w a ∧ Rd H a (.lst xs)) ∨ KL G.K a xs
def PAt (m : Mm) (H : Hp) (a : Addr) (vs : List V) : Prop := ¬ m.w a ∧ ∃ o : Obj, H a = some (.frz o (.tup vs)) ∧ o.dict = none
def TAt (G : Gh) (m : Mm) (H : Hp) (a : Addr) (xs : List V) : Prop := ¬ m.w a ∧ H a = some (.tup xs)
mutual
def Rp (G : Gh) (m : Mm) (H : Hp) : T → V → Prop
  | .non, v => v = .non
  | .bl b, v => v = .bl b
  | .int i, v => v = .int i
  | .str x, v => v = .str x
  | .tup xs, v => ∃ a vs, v = .ref a ∧ TAt G m H a vs ∧ Rps G m H xs vs
  | .lst xs, v => ∃ a vs, v = .ref a ∧ LAt G m H a vs ∧ Rps G m H xs vs
  | .obj c xs, v => ∃ a dx fv, v = .ref a ∧ ¬ m.w a ∧ H a = some (.ins (G.cl c) dx fv) ∧ fv.map (·.1) = G.fl c ∧ Rps G m H xs (fv.map (·.2))
  | .exc c ts, v => ∃ y vs, G.xa = some y ∧ v = .ref y.a ∧ y.cls = .ref (G.cl c) ∧ Rps G m H ts vs ∧ ((vs = [] ∧ y.d = none) ∨ ∃ dx f w, vs = [w] ∧ y.d = some dx ∧ ¬ m.w dx ∧ H dx = some (.xd [(f, w)]) ∧ G.fl c = [f])
  | .loc l, v => ∃ a, v = .ref a ∧ m.as[l]? = some a
  | .scr ns, v => ∃ a, v = .ref a ∧ SAt G m H a (ns.map V.int)
  | .cv c, v => v = .ref (G.cl c)
  | .ptp xs, v => ∃ a vs, v = .ref a ∧ PAt m H a vs ∧ Rps G m H xs vs
  | .edt, v => ∃ a, v = .ref a ∧ ¬ m.w a ∧ H a = some (.dK [])
def Rps (G : Gh) (m : Mm) (H : Hp) : List T → List V → Prop
  | [], vs => vs = []
  | x :: xs, vs => ∃ v r, vs = v :: r ∧ Rp G m H x v ∧ Rps G m H xs r
end
def RKs {κ : Type} (G : Gh) (m : Mm) (H : Hp) : List (κ × T) → List (κ × V) → Prop
  | [], vs => vs = []
  | p :: r, vs => ∃ v s, vs = (p.1, v) :: s ∧ Rp G m H p.2 v ∧ RKs G m H r s
def RCell (G : Gh) (m : Mm) (H : Hp) (a : Addr) : Cell → Prop
  | .lst xs => ∃ vs, H a = some (.lst vs) ∧ Rps G m H xs vs
  | .ins c xs => ∃ dx fv, H a = some (.ins (G.cl c) dx fv) ∧ fv.map (·.1) = (G.fl c).take xs.length ∧ xs.length ≤ (G.fl c).length ∧ Rps G m H xs (fv.map (·.2))
  | .dt kvs => ∃ vs, H a = some (.dT vs) ∧ RKs G m H kvs vs
  | .dk kvs => ∃ vs, H a = some (.dK vs) ∧ RKs G m H kvs vs
structure RSto (G : Gh) (m : Mm) (H : Hp) (st : Sto) : Prop where
  nd : m.as.Nodup
  fd : ∀ a ∈ m.as, ¬ m.fo a
  len : m.as.length = st.length
  cell : ∀ (i : Nat) a c, m.as[i]? = some a → st[i]? = some c → RCell G m H a c
  foS : ∀ a, m.fo a → H a ≠ none
  tab : LamX.Tabs G.tb H
def REnv (G : Gh) (m : Mm) (H : Hp) (env : Env) (σ : L2.St) : Prop := env.length = σ.length ∧ ∀ (i : Nat) t, env[i]? = some (some t) → ∃ v, σ[i]? = some (some v) ∧ Rp G m H t v
structure RS (G : Gh) (m : Mm) (env : Env) (st : Sto) (σ : L2.St) (H : Hp) : Prop where
  env : REnv G m H env σ
  sto : RSto G m H st
structure Mov (m : Mm) (H : Hp) (m' : Mm) (H' : Hp) : Prop where
  keep : ∀ a o, H a = some o → NT o → a ∉ m.as → H' a = some o
  stay : ∀ a, a ∉ m.as → H a ≠ none → H' a ≠ none
  newA : ∀ a, a ∈ m'.as → a ∈ m.as ∨ H a = none
  newF : ∀ a, m'.fo a → m.w a ∨ H a = none
  pre : ∃ n, m'.as = m.as ++ n
structure Stp (m : Mm) (H : Hp) (m' : Mm) (H' : Hp) : Prop extends Mov m H m' H' where
  fo : m'.fo = m.fo
variable {G : Gh} {m m1 m' : Mm} {H H1 H' : Hp} {st st' : Sto} {σ σ' : L2.St} {env env' : Env} {a p D : Addr} {o : HO}
theorem Mov.w (x : Mov m H m' H') (h : m'.w a) : m.w a ∨ H a = none := by
  rcases h with h | h
  · rcases x.newA a h with z | z
    · exact .inl (.inl z)
    · exact .inr z
  · exact x.newF a h
theorem upd_some (h : H a ≠ none) : upd H p o a ≠ none := by
  by_cases e : a = p
  · rw [e, upd_same]; simp
  · rw [upd_ne e]; exact h
theorem Stp.refl (m : Mm) (H : Hp) : Stp m H m H := ⟨⟨fun _ _ h _ _ => h, fun _ _ h => h, fun _ h => .inl h, fun _ h => .inl (.inr h), ⟨[], by simp⟩⟩, rfl⟩
theorem Stp.trans (x : Stp m H m1 H1) (y : Stp m1 H1 m' H') : Stp m H m' H' := by
  have back : ∀ a, H1 a = none → a ∈ m.as ∨ H a = none := fun a z => by
    by_cases hm : a ∈ m.as
    · exact .inl hm
    · exact .inr (Decidable.byContradiction fun e => x.stay a hm e z)
  have out : ∀ a, a ∉ m.as → H a ≠ none → a ∉ m1.as := fun a hn h q => by
    rcases x.newA a q with z | z
    · exact hn z
    · exact h z
  have keep : ∀ a o, H a = some o → NT o → a ∉ m.as → H' a = some o := fun a o h hT hn => y.keep a o (x.keep a o h hT hn) hT (out a hn (by rw [h]; simp))
  refine ⟨⟨keep, fun a hn h => y.stay a (out a hn h) (x.stay a hn h), fun a h => ?_, fun a h => ?_, ?_⟩, y.fo.trans x.fo⟩
  · rcases y.newA a h with z | z
    · exact x.newA a z
    · exact back a z
  · rw [y.fo, x.fo] at h
    exact .inl (.inr h)
  · obtain ⟨n, e⟩ := x.pre
    obtain ⟨n', e'⟩ := y.pre
    exact ⟨n ++ n', by rw [e', e, List.append_assoc]⟩
theorem Stp.fresh (hp : H p = none) : Stp m H m (upd H p o) :=
  ⟨⟨fun a u h _ _ => by rw [upd_ne (ne_of_none h hp)]; exact h, fun a _ h z => by
    by_cases e : a = p
    · exact h (by rw [e]; exact hp)
    · rw [upd_ne e] at z; exact h z, fun _ h => .inl h, fun _ h => .inl (.inr h), ⟨[], by simp⟩⟩, rfl⟩
theorem Mov.wt (x : Mov m H m' H') {u : HO} (h : H a = some u) (hn : ¬ m.w a) : ¬ m'.w a := fun q => by
  rcases x.w q with z | z
  · exact hn z
  · rw [h] at z; cases z
theorem Mov.rd (x : Mov m H m' H') {u : HO} (hT : NT u) (h : Rd H a u) (hn : ¬ m.w a) : ¬ m'.w a ∧ Rd H' a u := by
  have hm : a ∉ m.as := fun z => hn (.inl z)
  rcases h with h | ⟨o, h⟩
  · exact ⟨x.wt h hn, .inl (x.keep a _ h hT hm)⟩
  · exact ⟨x.wt h hn, .inr ⟨o, x.keep a _ h True.intro hm⟩⟩
theorem LAt.mov (x : Mov m H m' H') {vs : List V} (h : LAt G m H a vs) : LAt G m' H' a vs :=
  ⟨x.wt h.2 h.1, x.keep a _ h.2 True.intro fun z => h.1 (.inl z)⟩
theorem SAt.mov (x : Mov m H m' H') {vs : List V} (h : SAt G m H a vs) : SAt G m' H' a vs := by
  rcases h with ⟨hn, h⟩ | h
  · exact .inl (x.rd True.intro h hn)
  · exact .inr h
theorem TAt.mov (x : Mov m H m' H') {vs : List V} (h : TAt G m H a vs) : TAt G m' H' a vs :=
  ⟨x.wt h.2 h.1, x.keep a _ h.2 True.intro fun z => h.1 (.inl z)⟩
theorem PAt.mov (x : Mov m H m' H') {vs : List V} (h : PAt m H a vs) : PAt m' H' a vs := by
  obtain ⟨hn, o, e, hd⟩ := h
  exact ⟨x.wt e hn, o, x.keep a _ e True.intro fun z => hn (.inl z), hd⟩
theorem pre_get (x : Mov m H m' H') {l : Nat} (h : m.as[l]? = some a) : m'.as[l]? = some a := by
  obtain ⟨n, e⟩ := x.pre
  rw [e, List.getElem?_append_left (List.getElem?_eq_some_iff.mp h).1]
  exact h
mutual
theorem Rp.mov (x : Mov m H m' H') : ∀ (t : T) (v : V), Rp G m H t v → Rp G m' H' t v
  | .non, _, h => h
  | .bl _, _, h => h
  | .int _, _, h => h
  | .str _, _, h => h
  | .tup xs, _, ⟨a, vs, e, h, r⟩ => ⟨a, vs, e, h.mov x, Rps.mov x xs vs r⟩
  | .lst xs, _, ⟨a, vs, e, h, r⟩ => ⟨a, vs, e, h.mov x, Rps.mov x xs vs r⟩
  | .obj c xs, _, ⟨a, dx, fv, e, hn, h, hf, r⟩ => ⟨a, dx, fv, e, x.wt h hn, x.keep a _ h True.intro (fun z => hn (.inl z)), hf, Rps.mov x xs _ r⟩
  | .exc c ts, _, ⟨y, vs, e1, e2, e3, r, q⟩ => ⟨y, vs, e1, e2, e3, Rps.mov x ts vs r, q.imp id fun ⟨dx, f, w, h1, h2, h3, h4, h5⟩ => ⟨dx, f, w, h1, h2, x.wt h4 h3, x.keep dx _ h4 True.intro fun z => h3 (.inl z), h5⟩⟩
  | .loc l, _, ⟨a, e, h⟩ => ⟨a, e, pre_get x h⟩
  | .scr ns, _, ⟨a, e, h⟩ => ⟨a, e, h.mov x⟩
  | .cv _, _, h => h
  | .ptp xs, _, ⟨a, vs, e, h, r⟩ => ⟨a, vs, e, h.mov x, Rps.mov x xs vs r⟩
  | .edt, _, ⟨a, e, hn, h⟩ => ⟨a, e, x.wt h hn, x.keep a _ h True.intro fun z => hn (.inl z)⟩
theorem Rps.mov (x : Mov m H m' H') : ∀ (ts : List T) (vs : List V), Rps G m H ts vs → Rps G m' H' ts vs
  | [], _, h => h
  | t :: ts, _, ⟨v, r, e, h, q⟩ => ⟨v, r, e, Rp.mov x t v h, Rps.mov x ts r q⟩
end
structure MovF (m : Mm) (H : Hp) (m' : Mm) (H' : Hp) : Prop where
  keep : ∀ a o, H a = some o → NT o → ¬ m.w a → H' a = some o
  newA : ∀ a, a ∈ m'.as → a ∈ m.as ∨ H a = none
  newF : ∀ a, m'.fo a → m.w a ∨ H a = none
  pre : ∃ n, m'.as = m.as ++ n
  stay : ∀ a, a ∉ m.as → H a ≠ none → H' a ≠ none
theorem Mov.F (x : Mov m H m' H') : MovF m H m' H' := ⟨fun a o h hT hn => x.keep a o h hT fun z => hn (.inl z), x.newA, x.newF, x.pre, x.stay⟩
theorem MovF.w (x : MovF m H m' H') (h : m'.w a) : m.w a ∨ H a = none := by
  rcases h with h | h
  · rcases x.newA a h with z | z
    · exact .inl (.inl z)
    · exact .inr z
  · exact x.newF a h
theorem MovF.wt (x : MovF m H m' H') {u : HO} (h : H a = some u) (hn : ¬ m.w a) : ¬ m'.w a := fun q => by
  rcases x.w q with z | z
  · exact hn z
  · rw [h] at z; cases z
theorem MovF.rd (x : MovF m H m' H') {u : HO} (hT : NT u) (h : Rd H a u) (hn : ¬ m.w a) : ¬ m'.w a ∧ Rd H' a u := by
  rcases h with h | ⟨o, h⟩
  · exact ⟨x.wt h hn, .inl (x.keep a _ h hT hn)⟩
  · exact ⟨x.wt h hn, .inr ⟨o, x.keep a _ h True.intro hn⟩⟩
theorem LAt.movF (x : MovF m H m' H') {vs : List V} (h : LAt G m H a vs) : LAt G m' H' a vs := ⟨x.wt h.2 h.1, x.keep a _ h.2 True.intro h.1⟩
theorem SAt.movF (x : MovF m H m' H') {vs : List V} (h : SAt G m H a vs) : SAt G m' H' a vs := by
  rcases h with ⟨hn, h⟩ | h
  · exact .inl (x.rd True.intro h hn)
  · exact .inr h
theorem PAt.movF (x : MovF m H m' H') {vs : List V} (h : PAt m H a vs) : PAt m' H' a vs := by
  obtain ⟨hn, o, e, hd⟩ := h
  exact ⟨x.wt e hn, o, x.keep a _ e True.intro hn, hd⟩
theorem TAt.movF (x : MovF m H m' H') {vs : List V} (h : TAt G m H a vs) : TAt G m' H' a vs := ⟨x.wt h.2 h.1, x.keep a _ h.2 True.intro h.1⟩
mutual
theorem Rp.movF (x : MovF m H m' H') : ∀ (t : T) (v : V), Rp G m H t v → Rp G m' H' t v
  | .non, _, h => h
  | .bl _, _, h => h
  | .int _, _, h => h
  | .str _, _, h => h
  | .tup xs, _, ⟨a, vs, e, h, r⟩ => ⟨a, vs, e, h.movF x, Rps.movF x xs vs r⟩
  | .lst xs, _, ⟨a, vs, e, h, r⟩ => ⟨a, vs, e, h.movF x, Rps.movF x xs vs r⟩
  | .obj c xs, _, ⟨a, dx, fv, e, hn, h, hf, r⟩ => ⟨a, dx, fv, e, x.wt h hn, x.keep a _ h True.intro hn, hf, Rps.movF x xs _ r⟩
  | .exc c ts, _, ⟨y, vs, e1, e2, e3, r, q⟩ => ⟨y, vs, e1, e2, e3, Rps.movF x ts vs r, q.imp id fun ⟨dx, f, w, h1, h2, h3, h4, h5⟩ => ⟨dx, f, w, h1, h2, x.wt h4 h3, x.keep dx _ h4 True.intro h3, h5⟩⟩
  | .loc l, _, ⟨a, e, h⟩ => ⟨a, e, by
    obtain ⟨n, e2⟩ := x.pre
    rw [e2, List.getElem?_append_left (List.getElem?_eq_some_iff.mp h).1]
    exact h⟩
  | .scr ns, _, ⟨a, e, h⟩ => ⟨a, e, h.movF x⟩
  | .cv _, _, h => h
  | .ptp xs, _, ⟨a, vs, e, h, r⟩ => ⟨a, vs, e, h.movF x, Rps.movF x xs vs r⟩
  | .edt, _, ⟨a, e, hn, h⟩ => ⟨a, e, x.wt h hn, x.keep a _ h True.intro hn⟩
theorem Rps.movF (x : MovF m H m' H') : ∀ (ts : List T) (vs : List V), Rps G m H ts vs → Rps G m' H' ts vs
  | [], _, h => h
  | t :: ts, _, ⟨v, r, e, h, q⟩ => ⟨v, r, e, Rp.movF x t v h, Rps.movF x ts r q⟩
end
theorem REnv.movF (x : MovF m H m' H') (h : REnv G m H env σ) : REnv G m' H' env σ :=
  ⟨h.1, fun i t e => let ⟨v, e1, r⟩ := h.2 i t e; ⟨v, e1, Rp.movF x t v r⟩⟩
theorem MovF.trans (x : MovF m H m1 H1) (y : Mov m1 H1 m' H') : MovF m H m' H' := by
  have back : ∀ a, H1 a = none → a ∈ m.as ∨ H a = none := fun a z => by
    by_cases hm : a ∈ m.as
    · exact .inl hm
    · exact .inr (Decidable.byContradiction fun e => x.stay a hm e z)
  have out : ∀ a, a ∉ m.as → H a ≠ none → a ∉ m1.as := fun a hn h q => by
    rcases x.newA a q with z | z
    · exact hn z
    · exact h z
  refine ⟨fun a o h hT hn => y.keep a o (x.keep a o h hT hn) hT (out a (fun z => hn (.inl z)) (by rw [h]; simp)), fun a h => ?_, fun a h => ?_, ?_, fun a hn h => y.stay a (out a hn h) (x.stay a hn h)⟩
  · rcases y.newA a h with z | z
    · exact x.newA a z
    · exact back a z
  · rcases y.newF a h with z | z
    · rcases x.w z with q | q
      · exact .inl q
      · exact .inr q
    · rcases back a z with q | q
      · exact .inl (.inl q)
      · exact .inr q
  · obtain ⟨n, e⟩ := x.pre
    obtain ⟨n', e'⟩ := y.pre
    exact ⟨n ++ n', by rw [e', e, List.append_assoc]⟩
theorem tab_upd (h : LamX.Tabs G.tb H) (hp : ∀ ps, H p ≠ some (.tbl ps)) (hq : ∀ q, H p ≠ some (LamX.CodeO p q)) : LamX.Tabs G.tb (upd H p o) := fun x hx => by
  obtain ⟨ps, h1, h2, h3⟩ := h x hx
  have e : x.1 ≠ p := fun z => hp ps (by rw [← z]; exact h1)
  refine ⟨ps, by rw [upd_ne e]; exact h1, h2, fun pos cv hc => ?_⟩
  obtain ⟨c, e1, e2⟩ := h3 pos cv hc
  have ne : c ≠ p := fun z => hq x.2 (by rw [z] at e2; exact e2)
  exact ⟨c, e1, by rw [upd_ne ne]; exact e2⟩
theorem REnv.mov (x : Mov m H m' H') (h : REnv G m H env σ) : REnv G m' H' env σ :=
  ⟨h.1, fun i t e => let ⟨v, e1, r⟩ := h.2 i t e; ⟨v, e1, Rp.mov x t v r⟩⟩
theorem RCell.there {c : Cell} (h : RCell G m H a c) : H a ≠ none := by
  cases c with
  | lst xs => obtain ⟨vs, e, _⟩ := h; rw [e]; simp
  | ins c xs => obtain ⟨dx, fv, e, _⟩ := h; rw [e]; simp
  | dt kvs => obtain ⟨vs, e, _⟩ := h; rw [e]; simp
  | dk kvs => obtain ⟨vs, e, _⟩ := h; rw [e]; simp
theorem RSto.mem (s : RSto G m H st) (h : a ∈ m.as) : H a ≠ none := by
  obtain ⟨i, hi, e⟩ := List.mem_iff_getElem.mp h
  have hi' : i < st.length := by rw [← s.len]; exact hi
  exact (s.cell i a st[i] (by rw [List.getElem?_eq_getElem hi, e]) (List.getElem?_eq_getElem hi')).there
theorem RCell.nt {c : Cell} (h : RCell G m H a c) : (∀ ps, H a ≠ some (.tbl ps)) ∧ ∀ q, H a ≠ some (LamX.CodeO a q) := by
  have go : ∀ {u : HO}, H a = some u → (∀ ps, u ≠ .tbl ps) → (∀ q, u ≠ LamX.CodeO a q) → (∀ ps, H a ≠ some (.tbl ps)) ∧ ∀ q, H a ≠ some (LamX.CodeO a q) := fun {u} e h1 h2 =>
    ⟨fun ps z => h1 ps (by rw [e] at z; exact Option.some.inj z), fun q z => h2 q (by rw [e] at z; exact Option.some.inj z)⟩
  cases c with
  | lst xs => obtain ⟨vs, e, _⟩ := h; exact go e (fun ps z => by cases z) fun q z => by unfold LamX.CodeO at z; cases z
  | ins c xs => obtain ⟨dx, fv, e, _⟩ := h; exact go e (fun ps z => by cases z) fun q z => by unfold LamX.CodeO at z; cases z
  | dt kvs => obtain ⟨vs, e, _⟩ := h; exact go e (fun ps z => by cases z) fun q z => by unfold LamX.CodeO at z; cases z
  | dk kvs => obtain ⟨vs, e, _⟩ := h; exact go e (fun ps z => by cases z) fun q z => by unfold LamX.CodeO at z; cases z
theorem RSto.tabs (s : RSto G m H st) (ha : a ∈ m.as) : LamX.Tabs G.tb (upd H a o) := by
  obtain ⟨i, hi, e⟩ := List.mem_iff_getElem.mp ha
  have hi' : i < st.length := by rw [← s.len]; exact hi
  have n := (s.cell i a st[i] (by rw [List.getElem?_eq_getElem hi, e]) (List.getElem?_eq_getElem hi')).nt
  exact tab_upd s.tab n.1 n.2
theorem RSto.free (s : RSto G m H st) (hp : H p = none) : ¬ m.w p := fun q => by
  rcases q with q | q
  · exact s.mem q hp
  · exact s.foS p q hp
theorem RKs.mov {κ : Type} (x : Mov m H m' H') : ∀ (ts : List (κ × T)) (vs : List (κ × V)), RKs G m H ts vs → RKs G m' H' ts vs
  | [], _, h => h
  | p :: ts, _, ⟨v, r, e, h, q⟩ => ⟨v, r, e, Rp.mov x p.2 v h, RKs.mov x ts r q⟩
theorem RKs.length {κ : Type} : ∀ {ts : List (κ × T)} {vs : List (κ × V)}, RKs G m H ts vs → vs.length = ts.length
  | [], _, h => by cases (show _ = _ from h); rfl
  | p :: ts, _, ⟨v, r, e, _, q⟩ => by rw [e]; simp [RKs.length q]
theorem RCell.mov (x : Mov m H m' H') (e : H' a = H a) {c : Cell} (h : RCell G m H a c) : RCell G m' H' a c := by
  cases c with
  | lst xs => obtain ⟨vs, e1, r⟩ := h; exact ⟨vs, by rw [e]; exact e1, Rps.mov x _ _ r⟩
  | ins c xs => obtain ⟨dx, fv, e1, e2, e3, r⟩ := h; exact ⟨dx, fv, by rw [e]; exact e1, e2, e3, Rps.mov x _ _ r⟩
  | dt kvs => obtain ⟨vs, e1, r⟩ := h; exact ⟨vs, by rw [e]; exact e1, RKs.mov x _ _ r⟩
  | dk kvs => obtain ⟨vs, e1, r⟩ := h; exact ⟨vs, by rw [e]; exact e1, RKs.mov x _ _ r⟩
theorem RSto.fresh (s : RSto G m H st) (hp : H p = none) : RSto G m (upd H p o) st where
  nd := s.nd
  fd := s.fd
  len := s.len
  cell := fun i a c h1 h2 => RCell.mov (Stp.fresh hp).toMov (upd_ne fun z => s.mem (z ▸ List.mem_of_getElem? h1) hp) (s.cell i a c h1 h2)
  foS := fun a h => by
    have hne : a ≠ p := fun z => by subst z; exact s.foS _ h hp
    rw [upd_ne hne]
    exact s.foS a h
  tab := tab_upd s.tab (fun ps z => by rw [hp] at z; cases z) fun q z => by rw [hp] at z; cases z
theorem RS.fresh (s : RS G m env st σ H) (hp : H p = none) : RS G m env st σ (upd H p o) := ⟨s.env.mov (Stp.fresh hp).toMov, s.sto.fresh hp⟩
theorem Rps.length : ∀ {ts : List T} {vs : List V}, Rps G m H ts vs → ts.length = vs.length
  | [], _, h => by cases (show _ = _ from h); rfl
  | t :: ts, _, ⟨v, r, e, _, q⟩ => by rw [e]; simp [Rps.length q]
theorem Rps.get : ∀ {ts : List T} {vs : List V} {i : Nat} {t : T}, Rps G m H ts vs → ts[i]? = some t → ∃ v, vs[i]? = some v ∧ Rp G m H t v
  | [], _, i, t, _, e => by simp at e
  | u :: ts, _, 0, t, ⟨v, r, e, h, q⟩, e1 => by
    have : u = t := by simpa using e1
    subst this
    exact ⟨v, by rw [e]; rfl, h⟩
  | u :: ts, _, i + 1, t, ⟨v, r, e, h, q⟩, e1 => by
    obtain ⟨w, e2, h2⟩ := Rps.get (i := i) (t := t) q (by simpa using e1)
    exact ⟨w, by rw [e]; simpa using e2, h2⟩
theorem Rps.getV : ∀ {ts : List T} {vs : List V} {i : Nat} {v : V}, Rps G m H ts vs → vs[i]? = some v → ∃ t, ts[i]? = some t ∧ Rp G m H t v := fun {ts vs i v} h e => by
  have hi : i < ts.length := by rw [h.length]; exact (List.getElem?_eq_some_iff.mp e).1
  obtain ⟨w, e2, r⟩ := h.get (List.getElem?_eq_getElem hi)
  rw [e] at e2
  cases e2
  exact ⟨_, List.getElem?_eq_getElem hi, r⟩
theorem Rps.append : ∀ {ts us : List T} {vs ws : List V}, Rps G m H ts vs → Rps G m H us ws → Rps G m H (ts ++ us) (vs ++ ws)
  | [], _, _, _, h, h2 => by cases (show _ = _ from h); exact h2
  | t :: ts, us, _, ws, ⟨v, r, e, h, q⟩, h2 => ⟨v, r ++ ws, by rw [e]; rfl, h, Rps.append q h2⟩
theorem Rps.drop : ∀ {ts : List T} {vs : List V} (n : Nat), Rps G m H ts vs → Rps G m H (ts.drop n) (vs.drop n)
  | _, _, 0, h => h
  | [], _, _ + 1, h => by cases (show _ = _ from h); exact rfl
  | t :: ts, _, n + 1, ⟨v, r, e, h, q⟩ => by subst e; exact Rps.drop (ts := ts) (vs := r) n q
theorem Rps.take : ∀ {ts : List T} {vs : List V} (n : Nat), Rps G m H ts vs → Rps G m H (ts.take n) (vs.take n)
  | _, _, 0, h => rfl
  | [], _, _ + 1, h => by cases (show _ = _ from h); exact rfl
  | t :: ts, _, n + 1, ⟨v, r, e, h, q⟩ => by subst e; exact ⟨v, r.take n, rfl, h, Rps.take n q⟩
theorem Rps.cut {ts : List T} {vs : List V} (h : Rps G m H ts vs) (lo hi : Option Int) : Rps G m H (cut ts lo hi) (cutV vs lo hi) := by
  unfold Eg.cut cutV
  rw [h.length]
  exact (h.drop _).take _
theorem Rps.rep {ts : List T} {vs : List V} (h : Rps G m H ts vs) : ∀ k : Nat, Rps G m H (List.replicate k ts).flatten (List.replicate k vs).flatten
  | 0 => rfl
  | k + 1 => by
    rw [List.replicate_succ, List.flatten_cons, List.replicate_succ, List.flatten_cons]
    exact h.append (Rps.rep h k)
theorem Rps.nil_iff {ts : List T} {vs : List V} (h : Rps G m H ts vs) : vs = [] ↔ ts = [] := by
  have e := h.length
  constructor
  · intro q; subst q; exact List.length_eq_zero_iff.mp e
  · intro q; subst q; exact List.length_eq_zero_iff.mp e.symm
theorem Rps.ints : ∀ {ts : List T} {vs : List V} {ns : List Int}, Rps G m H ts vs → intsOf ts = some ns → vs = ns.map V.int
  | [], _, ns, h, e => by cases (show _ = _ from h); cases (show some [] = some ns from e); rfl
  | t :: ts, _, ns, ⟨v, r, e, h, q⟩, e1 => by
    cases t with
    | int i =>
      cases e2 : intsOf ts with
      | none => simp [intsOf, e2] at e1
      | some ms =>
        have e3 : i :: ms = ns := by simpa [intsOf, e2] using e1
        subst e3 e
        rw [Rps.ints q e2, show v = .int i from h]
        rfl
    | _ => simp [intsOf] at e1
theorem Rps.bls : ∀ {ts : List T} {vs : List V} {ns : List Bool}, Rps G m H ts vs → blsOf ts = some ns → vs = ns.map V.bl
  | [], _, ns, h, e => by cases (show _ = _ from h); cases (show some [] = some ns from e); rfl
  | t :: ts, _, ns, ⟨v, r, e, h, q⟩, e1 => by
    cases t with
    | bl i =>
      cases e2 : blsOf ts with
      | none => simp [blsOf, e2] at e1
      | some ms =>
        have e3 : i :: ms = ns := by simpa [blsOf, e2] using e1
        subst e3 e
        rw [Rps.bls q e2, show v = .bl i from h]
        rfl
    | _ => simp [blsOf] at e1
theorem Rp.own {t : T} {v : V} {xs : List T} (s : RSto G m H st) (r : Rp G m H t v) (e : ownL st t = some xs) : ∃ a vs, v = .ref a ∧ H a = some (.lst vs) ∧ Rps G m H xs vs := by
  cases t with
  | lst ys =>
    cases (show some ys = some xs from e)
    obtain ⟨a, vs, e1, h, q⟩ := r
    exact ⟨a, vs, e1, h.2, q⟩
  | loc l =>
    obtain ⟨a, e1, h⟩ := r
    cases e2 : st[l]? with
    | none => simp [ownL, e2] at e
    | some c =>
      cases c with
      | ins c ys => simp [ownL, e2] at e
      | dt ys => simp [ownL, e2] at e
      | dk ys => simp [ownL, e2] at e
      | lst ys =>
        have e3 : ys = xs := by simpa [ownL, e2] using e
        subst e3
        obtain ⟨vs, h1, q⟩ := s.cell l a _ h e2
        exact ⟨a, vs, e1, h1, q⟩
  | _ => simp [ownL] at e
theorem Rps.of_ints : ∀ ns : List Int, Rps G m H (ns.map T.int) (ns.map V.int)
  | [] => rfl
  | n :: ns => ⟨.int n, ns.map V.int, rfl, rfl, Rps.of_ints ns⟩
theorem Rp.lst {t : T} {v : V} {xs : List T} (s : RSto G m H st) (r : Rp G m H t v) (e : lstOf st t = some xs) : ∃ a vs, v = .ref a ∧ SqL G.K H a vs ∧ Rps G m H xs vs := by
  by_cases c : ∃ ns, t = .scr ns
  · obtain ⟨ns, rfl⟩ := c
    cases (show some (ns.map T.int) = some xs from e)
    obtain ⟨a, e1, h⟩ := r
    refine ⟨a, ns.map V.int, e1, ?_, Rps.of_ints ns⟩
    rcases h with h | h
    · exact .inl h.2
    · exact .inr h
  · have e' : ownL st t = some xs := by
      cases t with
      | scr ns => exact (c ⟨ns, rfl⟩).elim
      | _ => exact e
    obtain ⟨a, vs, e1, h, q⟩ := Rp.own s r e'
    exact ⟨a, vs, e1, .inl (.inl h), q⟩
theorem Rp.seq {t : T} {v : V} {xs : List T} (s : RSto G m H st) (r : Rp G m H t v) (e : seqOf st t = some xs) : ∃ a vs, v = .ref a ∧ (SqL G.K H a vs ∨ SqT G.K H a vs) ∧ Rps G m H xs vs := by
  by_cases ht : ∃ ys, t = .tup ys
  · obtain ⟨ys, rfl⟩ := ht
    cases (show some ys = some xs from e)
    obtain ⟨a, vs, e1, h, q⟩ := r
    exact ⟨a, vs, e1, .inr (.inl (.inl h.2)), q⟩
  · by_cases hp : ∃ ys, t = .ptp ys
    · obtain ⟨ys, rfl⟩ := hp
      cases (show some ys = some xs from e)
      obtain ⟨a, vs, e1, ⟨_, o, h, _⟩, q⟩ := r
      exact ⟨a, vs, e1, .inr (.inl (.inr ⟨o, h⟩)), q⟩
    · have e' : lstOf st t = some xs := by
        cases t with
        | tup ys => exact (ht ⟨ys, rfl⟩).elim
        | ptp ys => exact (hp ⟨ys, rfl⟩).elim
        | _ => exact e
      obtain ⟨a, vs, e1, h, q⟩ := Rp.lst s r e'
      exact ⟨a, vs, e1, .inl h, q⟩
end Eg
set_option Elab.async false
set_option linter.all false
set_option maxRecDepth 100000
set_option maxHeartbeats 2000000
namespace Eg
open PySem PySem.Spec PyProof.Rows L2
def RExc (G : Gh) (m : Mm) (H : Hp) : T → Value → Option Addr → Prop
  | .exc c [], cls, d => cls = .ref (G.cl c) ∧ d = none
  | .exc c [t], cls, d => cls = .ref (G.cl c) ∧ ∃ a v f, d = some a ∧ ¬ m.w a ∧ H a = some (.xd [(f, v)]) ∧ G.fl c = [f] ∧ Rp G m H t v
  | _, _, _ => False
section
variable {A B A' B' : Type}
def Rn (G : Gh) (W : WX) (σ : L2.St) (env : Env) (rel : Mm → Hp → A → B → Prop) (m : Mm) (H : Hp) (r : R A) (K : A → Sto → B → Hp → Mm → Prop) : Prop := match r with
  | .ok a st' => ∀ b H' m', RS G m' env st' σ H' → Stp m H m' H' → rel m' H' a b → K a st' b H' m'
  | .exc e st' => ∀ cls d H' m', RS G m' env st' σ H' → Stp m H m' H' → RExc G m' H' e cls d → W cls d σ H'
  | .bad => False
variable {G : Gh} {W : WX} {σ : L2.St} {env : Env} {rel : Mm → Hp → A → B → Prop} {rel' : Mm → Hp → A' → B' → Prop} {m m1 : Mm} {H H1 : Hp} {r : R A} {K K' : A → Sto → B → Hp → Mm → Prop} {st : Sto}
theorem Rn.base (x : Stp m H m1 H1) (h : Rn G W σ env rel m H r K) : Rn G W σ env rel m1 H1 r K := by
  cases r with
  | ok a s => exact fun b H' m' rs y q => h b H' m' rs (x.trans y) q
  | exc e s => exact fun cls d H' m' rs y q => h cls d H' m' rs (x.trans y) q
  | bad => exact h
theorem Rn.imp (h : Rn G W σ env rel m H r K) (k : ∀ a st' b H' m', RS G m' env st' σ H' → Stp m H m' H' → rel m' H' a b → K a st' b H' m' → K' a st' b H' m') : Rn G W σ env rel m H r K' := by
  cases r with
  | ok a s => exact fun b H' m' rs y q => k a s b H' m' rs y q (h b H' m' rs y q)
  | exc e s => exact h
  | bad => exact h
theorem Rn.bnd {x : R A} {f : A → Sto → R A'} {K : A' → Sto → B' → Hp → Mm → Prop} (h : Rn G W σ env rel' m H (x.bnd f) K) :
    Rn G W σ env rel m H x (fun a st1 _ H1 m1 => Rn G W σ env rel' m1 H1 (f a st1) K) := by
  cases x with
  | ok a s => exact fun b H' m' rs y q => Rn.base y h
  | exc e s => exact h
  | bad => exact h
theorem Rn.here {a : A} {b : B} (h : Rn G W σ env rel m H (.ok a st) K) (rs : RS G m env st σ H) (r : rel m H a b) : K a st b H m := h b H m rs (Stp.refl m H) r
theorem Rn.next {a : A} {b : B} (h : Rn G W σ env rel m H (.ok a st) K) (rs : RS G m1 env st σ H1) (x : Stp m H m1 H1) (r : rel m1 H1 a b) : K a st b H1 m1 := h b H1 m1 rs x r
end
def tE (G : Gh) (W : WX) (f : Env → Sto → R T) : TE := fun σ H Q => ∃ m env st, RS G m env st σ H ∧ Rn G W σ env (Rp G) m H (f env st) (fun _ _ v H' _ => Q v H')
def tA (G : Gh) (W : WX) (f : Env → Sto → R (List T)) : TA := fun σ H Q => ∃ m env st, RS G m env st σ H ∧ Rn G W σ env (Rps G) m H (f env st) (fun _ _ v H' _ => Q v H')
def tP (G : Gh) (W : WX) (f : Env → Sto → R (Option Int)) : TO := fun σ H Q => ∃ m env st, RS G m env st σ H ∧ Rn G W σ env (fun _ _ a b => b = a) m H (f env st) (fun _ _ v H' _ => Q v H')
theorem PE.imp {X : Cx} {e : Expr} {t t' : TE} (h : PE X e t) (k : ∀ σ H Q, t' σ H Q → t σ H Q) : PE X e t' := ⟨fun pins s σ H Q I q => h.run pins s σ H Q I (k σ H Q q)⟩
theorem PT.imp {X : Cx} {e : Expr} {t t' : TT} (h : PT X e t) (k : ∀ σ H Q, t' σ H Q → t σ H Q) : PT X e t' := ⟨fun pins s σ H Q I q => h.run pins s σ H Q I (k σ H Q q)⟩
theorem PW.imp {X : Cx} {e : Expr} {t t' : TT} (h : PW X e t) (k : ∀ σ H Q, t' σ H Q → t σ H Q) : PW X e t' := ⟨fun w pins s σ H Q I q => h.run w pins s σ H Q I (k σ H Q q)⟩
theorem PA.imp {X : Cx} {e : List Expr} {t t' : TA} (h : PA X e t) (k : ∀ σ H Q, t' σ H Q → t σ H Q) : PA X e t' := ⟨fun p pins s σ H Q I q => h.run p pins s σ H Q I (k σ H Q q)⟩
theorem PO.imp {X : Cx} {e : Option Expr} {t t' : TO} (h : PO X e t) (k : ∀ σ H Q, t' σ H Q → t σ H Q) : PO X e t' := ⟨fun pins s σ H Q I q => h.run pins s σ H Q I (k σ H Q q)⟩
section
variable {G : Gh} {W : WX} {σ : L2.St} {H : Hp} {A B : Type} {rel : Mm → Hp → A → B → Prop}
def At (G : Gh) (W : WX) (rel : Mm → Hp → A → B → Prop) (g : Env → Sto → R A) (σ : L2.St) (H : Hp) (K : A → Sto → B → Hp → Mm → Prop) : Prop :=
  ∃ m env st, RS G m env st σ H ∧ Rn G W σ env rel m H (g env st) K
theorem at1 {f : Env → Sto → R T} {g : Env → T → Sto → R A} {K : A → Sto → B → Hp → Mm → Prop} {P : V → Hp → Prop}
    (h : At G W rel (fun env st => (f env st).bnd fun x st1 => g env x st1) σ H K)
    (k : ∀ m env st t v H1, RS G m env st σ H1 → Rp G m H1 t v → Rn G W σ env rel m H1 (g env t st) K → P v H1) : tE G W f σ H P := by
  obtain ⟨m, env, st, rs, h⟩ := h
  exact ⟨m, env, st, rs, (Rn.bnd h).imp fun a st' b H' m' rs' _ r q => k m' env st' a b H' rs' r q⟩
theorem at2 {fa fb : Env → Sto → R T} {g : Env → T → T → Sto → R A} {K : A → Sto → B → Hp → Mm → Prop} {P : V → V → Hp → Prop}
    (h : At G W rel (fun env st => (fa env st).bnd fun x st1 => (fb env st1).bnd fun y st2 => g env x y st2) σ H K)
    (k : ∀ m env st t u v w H1, RS G m env st σ H1 → Rp G m H1 t v → Rp G m H1 u w → Rn G W σ env rel m H1 (g env t u st) K → P v w H1) :
    tE G W fa σ H fun v H1 => tE G W fb σ H1 fun w H2 => P v w H2 := by
  obtain ⟨m, env, st, rs, h⟩ := h
  refine ⟨m, env, st, rs, (Rn.bnd h).imp fun a st' b H' m' rs' _ r q => ⟨m', env, st', rs', (Rn.bnd q).imp fun a2 st2 b2 H2 m2 rs2 s2 r2 q2 => k m2 env st2 a a2 b b2 H2 rs2 (Rp.mov s2.toMov _ _ r) r2 q2⟩⟩
theorem atA {f : Env → Sto → R (List T)} {g : Env → List T → Sto → R A} {K : A → Sto → B → Hp → Mm → Prop} {P : List V → Hp → Prop}
    (h : At G W rel (fun env st => (f env st).bnd fun x st1 => g env x st1) σ H K)
    (k : ∀ m env st ts vs H1, RS G m env st σ H1 → Rps G m H1 ts vs → Rn G W σ env rel m H1 (g env ts st) K → P vs H1) : tA G W f σ H P := by
  obtain ⟨m, env, st, rs, h⟩ := h
  exact ⟨m, env, st, rs, (Rn.bnd h).imp fun a st' b H' m' rs' _ r q => k m' env st' a b H' rs' r q⟩
theorem tE.at {f : Env → Sto → R T} {Q : VK} (h : tE G W f σ H Q) : At G W (Rp G) f σ H (fun _ _ v H' _ => Q v H') := h
end
section
variable {X : Cx} {G : Gh} {W : WX} {σ : L2.St} {H : Hp} {m : Mm} {env : Env} {st : Sto} {Q : VK} {x y : V} {t u : T} {v w : V}
abbrev Kq (Q : VK) : T → Sto → V → Hp → Mm → Prop := fun _ _ v H' _ => Q v H'
theorem Rn.give {a : T} {b : V} (h : Rn G W σ env (Rp G) m H (.ok a st) (Kq Q)) (rs : RS G m env st σ H) (r : Rp G m H a b) : Q b H := Rn.here h rs r
theorem Rn.tup {xs : List T} {vs : List V} {p : Addr} (h : Rn G W σ env (Rp G) m H (.ok (.tup xs) st) (Kq Q)) (rs : RS G m env st σ H) (r : Rps G m H xs vs) (hp : H p = none) : Q (.ref p) (upd H p (.tup vs)) :=
  Rn.next (K := Kq Q) h (rs.fresh hp) (Stp.fresh hp) ⟨p, vs, rfl, ⟨rs.sto.free hp, upd_same⟩, Rps.mov (Stp.fresh hp).toMov _ _ r⟩
def rAddE (K : PySem.W.Frag) : R2 := fun x y H Q => rI0 (fun i j => .int (i + j)) x y H Q ∨ (∃ i j, x = .str i ∧ y = .str j ∧ i.length + j.length ≤ sizeLine ∧ Q (.str (i ++ j)) H) ∨ rCatA K x y H Q
theorem op_addE : OpR X (binaryOp .Add) (rAddE X.K) := OpR.or op_add (OpR.or op_add_str op_catA)
theorem add_ok (rs : RS G m env st σ H) (r1 : Rp G m H t v) (r2 : Rp G m H u w) (h : Rn G W σ env (Rp G) m H (R.opt (binT .Add t u) st) (Kq Q)) : rAddE G.K v w H Q := by
  have h : Rn G W σ env (Rp G) m H (R.opt (addT t u) st) (Kq Q) := h
  cases t with
  | int i =>
    cases u with
    | int j =>
      cases (show v = _ from r1); cases (show w = _ from r2)
      exact .inl ⟨i, j, rfl, rfl, Rn.give (b := .int (i + j)) h rs rfl⟩
    | _ => exact h.elim
  | str i =>
    cases u with
    | str j =>
      cases (show v = _ from r1); cases (show w = _ from r2)
      by_cases hl : i.length + j.length ≤ lim
      · have h : Rn G W σ env (Rp G) m H (R.opt (if i.length + j.length ≤ lim then some (T.str (i ++ j)) else none) st) (Kq Q) := h
        rw [if_pos hl] at h
        exact .inr (.inl ⟨i, j, rfl, rfl, lim_eq ▸ hl, Rn.give (b := .str (i ++ j)) h rs rfl⟩)
      · have h : Rn G W σ env (Rp G) m H (R.opt (if i.length + j.length ≤ lim then some (T.str (i ++ j)) else none) st) (Kq Q) := h
        rw [if_neg hl] at h
        exact h.elim
    | _ => exact h.elim
  | tup xs =>
    cases u with
    | tup ys =>
      obtain ⟨a, vs, rfl, ha, ra⟩ := r1
      obtain ⟨b, ws, rfl, hb, rb⟩ := r2
      by_cases hl : xs.length + ys.length ≤ lim
      · have h : Rn G W σ env (Rp G) m H (R.opt (if xs.length + ys.length ≤ lim then some (T.tup (xs ++ ys)) else none) st) (Kq Q) := h
        rw [if_pos hl] at h
        have h : Rn G W σ env (Rp G) m H (.ok (.tup (xs ++ ys)) st) (Kq Q) := h
        refine .inr (.inr ⟨a, b, vs, ws, rfl, rfl, .inl (.inl ha.2), .inl (.inl hb.2), ?_, fun e => ?_, fun e e2 => ?_, fun e e2 p hp => ?_⟩)
        · rw [← ra.length, ← rb.length, ← lim_eq]; exact hl
        · have e' := ra.nil_iff.mp e
          subst e'
          exact Rn.give h rs ⟨b, ws, rfl, hb, rb⟩
        · have e' := rb.nil_iff.mp e2
          subst e'
          rw [List.append_nil] at h
          exact Rn.give h rs ⟨a, vs, rfl, ha, ra⟩
        · exact Rn.tup h rs (ra.append rb) hp
      · have h : Rn G W σ env (Rp G) m H (R.opt (if xs.length + ys.length ≤ lim then some (T.tup (xs ++ ys)) else none) st) (Kq Q) := h
        rw [if_neg hl] at h
        exact h.elim
    | _ => exact h.elim
  | _ => exact h.elim
theorem if_some {c : Prop} [Decidable c] {a : T} (h : Rn G W σ env (Rp G) m H (R.opt (if c then some a else none) st) (Kq Q)) : c ∧ Rn G W σ env (Rp G) m H (.ok a st) (Kq Q) := by
  by_cases hc : c
  · rw [if_pos hc] at h; exact ⟨hc, h⟩
  · rw [if_neg hc] at h; exact h.elim
def CMulX (i j : Int) : Prop := i.natAbs.log2 + j.natAbs.log2 < 100000000
theorem CMulX.ok {i j : Int} (h : CMulX i j) : IntMulOk i j := by
  have b : ∀ x : Int, Builtin.Int.intBits x ≤ x.natAbs.log2 + 1 := fun x => by
    unfold Builtin.Int.intBits
    split <;> omega
  have h1 := b i
  have h2 := b j
  have h3 : i.natAbs.log2 + j.natAbs.log2 < 100000000 := h
  have e : bitsLine = 134217728 := by decide
  unfold IntMulOk
  intro z
  rw [Bool.and_eq_true] at z
  have z2 := z.2
  unfold Builtin.Int.intTooBig at z2
  have z3 := of_decide_eq_true z2
  rw [e] at z3
  omega
theorem op_mulX : OpR X (binaryOp .Mult) (rI CMulX fun i j => .int (i * j)) := opI fun _ _ _ _ _ _ _ hc q => mul_int q hc.ok
def rBin (K : PySem.W.Frag) : Operator → R2
  | .Add => rAddE K
  | .Sub => rI0 fun i j => .int (i - j)
  | .Mult => rI CMulX fun i j => .int (i * j)
  | .FloorDiv => rI CDivW fun i j => .int (i / j)
  | .Mod => rI (fun _ j => 0 < j) fun i j => .int (i % j)
  | .Pow => rI CPow fun i j => .int (i ^ j.toNat)
  | _ => fun _ _ _ _ => False
theorem op_bin : ∀ op, OpR X (binaryOp op) (rBin X.K op)
  | .Add => op_addE
  | .Sub => op_sub
  | .Mult => op_mulX
  | .FloorDiv => op_fdivW
  | .Mod => op_mod
  | .Pow => op_pow
  | .MatMult | .Div | .LShift | .RShift | .BitOr | .BitXor | .BitAnd => fun _ _ _ _ _ _ _ _ _ _ _ _ h => h.elim
theorem bin_ok {op : Operator} (rs : RS G m env st σ H) (r1 : Rp G m H t v) (r2 : Rp G m H u w) (h : Rn G W σ env (Rp G) m H (R.opt (binT op t u) st) (Kq Q)) : rBin G.K op v w H Q := by
  have none_of : ∀ {op}, (∀ i j, t = .int i → u = .int j → False) → op ≠ .Add → binT op t u = none := by
    intro op hh hne
    cases op <;> first | exact absurd rfl hne | (cases t <;> first | rfl | (cases u <;> first | rfl | exact (hh _ _ rfl rfl).elim))
  by_cases hA : op = .Add
  · subst hA; exact add_ok rs r1 r2 h
  · by_cases c : ∃ i j, t = .int i ∧ u = .int j
    · obtain ⟨i, j, rfl, rfl⟩ := c
      cases (show v = _ from r1); cases (show w = _ from r2)
      cases op with
      | Add => exact absurd rfl hA
      | Sub => exact ⟨i, j, rfl, rfl, Rn.give (b := .int (i - j)) h rs rfl⟩
      | Mult => obtain ⟨c, h⟩ := if_some h; exact ⟨i, j, rfl, rfl, c, Rn.give (b := .int (i * j)) h rs rfl⟩
      | FloorDiv => obtain ⟨c, h⟩ := if_some h; exact ⟨i, j, rfl, rfl, c, Rn.give (b := .int (i / j)) h rs rfl⟩
      | Mod => obtain ⟨c, h⟩ := if_some h; exact ⟨i, j, rfl, rfl, c, Rn.give (b := .int (i % j)) h rs rfl⟩
      | Pow => obtain ⟨c, h⟩ := if_some h; exact ⟨i, j, rfl, rfl, c, Rn.give (b := .int (i ^ j.toNat)) h rs rfl⟩
      | _ => exact h.elim
    · rw [none_of (fun i j e1 e2 => c ⟨i, j, e1, e2⟩) hA] at h
      exact h.elim
theorem s_bin {fa fb : Env → Sto → R T} {op : Operator} {a b : Expr} {pos : Pos} (hK : X.K = G.K) (ha : PE X a (tE G W fa)) (hb : PE X b (tE G W fb)) :
    PE X (.BinOp a op b pos) (tE G W fun env st => (fa env st).bnd fun x st1 => (fb env st1).bnd fun y st2 => R.opt (binT op x y) st2) := by
  refine PE.imp (pe_op (op_bin op) ha hb) fun σ H Q h => ?_
  refine at2 h fun m env st t u v w H1 rs r1 r2 q => ?_
  rw [hK]
  exact bin_ok rs r1 r2 q
end
end Eg
set_option Elab.async false
set_option linter.all false
set_option maxRecDepth 100000
set_option maxHeartbeats 2000000
namespace Eg
open PySem PySem.Spec PyProof.Rows L2
mutual
def toD : T → PyData
  | .bl b => .bool b
  | .int i => .int i
  | .str x => .str x
  | .tup xs => .tuple (toDs xs)
  | .lst xs => .list (toDs xs)
  | .edt => .dict []
  | _ => .none
def toDs : List T → List PyData
  | [] => []
  | x :: xs => toD x :: toDs xs
end
mutual
theorem canLay_toD : ∀ t : T, data t = true → (toD t).canLay0 = true
  | .non, _ => by simp [toD, PyData.canLay0]
  | .bl _, _ => by simp [toD, PyData.canLay0]
  | .int _, _ => by simp [toD, PyData.canLay0]
  | .str x, h => by simpa [toD, PyData.canLay0, data] using h
  | .tup xs, h => by simpa [toD, PyData.canLay0] using canLays_toD xs (by simpa [data] using h)
  | .lst xs, h => by simpa [toD, PyData.canLay0] using canLays_toD xs (by simpa [data] using h)
  | .obj _ _, h => by simp [data] at h
  | .exc _ _, h => by simp [data] at h
  | .loc _, h => by simp [data] at h
  | .scr _, h => by simp [data] at h
  | .cv _, h => by simp [data] at h
  | .ptp _, h => by simp [data] at h
  | .edt, h => by simp [data] at h
theorem canLays_toD : ∀ ts : List T, datas ts = true → PyData.canLayAll0 (toDs ts) = true
  | [], _ => by simp [toDs, PyData.canLayAll0]
  | t :: ts, h => by
    have h' : data t = true ∧ datas ts = true := by simpa [datas] using h
    simp [toDs, PyData.canLayAll0, canLay_toD t h'.1, canLays_toD ts h'.2]
end
mutual
theorem depth_toD : ∀ t : T, (toD t).depth = dep t
  | .non => by simp [toD, PyData.depth, dep]
  | .bl _ => by simp [toD, PyData.depth, dep]
  | .int _ => by simp [toD, PyData.depth, dep]
  | .str x => by simp [toD, PyData.depth, dep]
  | .tup xs => by simp [toD, PyData.depth, dep, depths_toD xs]
  | .lst xs => by simp [toD, PyData.depth, dep, depths_toD xs]
  | .obj _ _ => by simp [toD, PyData.depth, dep]
  | .exc _ _ => by simp [toD, PyData.depth, dep]
  | .loc _ => by simp [toD, PyData.depth, dep]
  | .scr _ => by simp [toD, PyData.depth, dep]
  | .cv _ => by simp [toD, PyData.depth, dep]
  | .ptp _ => by simp [toD, PyData.depth, dep]
  | .edt => by simp [toD, PyData.depth, PyData.depthKv, dep]
theorem depths_toD : ∀ ts : List T, PyData.depthAll (toDs ts) = deps ts
  | [] => by simp [toDs, PyData.depthAll, deps]
  | t :: ts => by simp [toDs, PyData.depthAll, deps, depth_toD t, depths_toD ts]
end
mutual
theorem eqv_toD : ∀ t u : T, data t = true → data u = true → PyData.eqv (toD t) (toD u) = eqv t u
  | .non, u, _, h => by cases u <;> simp [toD, PyData.eqv, eqv, data] at h ⊢
  | .bl _, u, _, h => by cases u <;> simp [toD, PyData.eqv, eqv, data] at h ⊢
  | .int _, u, _, h => by cases u <;> simp [toD, PyData.eqv, eqv, data] at h ⊢
  | .str _, u, _, h => by cases u <;> simp [toD, PyData.eqv, eqv, data] at h ⊢
  | .tup xs, u, h, h2 => by
    cases u with
    | tup ys => simpa [toD, PyData.eqv, eqv] using eqvs_toD xs ys (by simpa [data] using h) (by simpa [data] using h2)
    | _ => simp [toD, PyData.eqv, eqv, data] at h2 ⊢
  | .lst xs, u, h, h2 => by
    cases u with
    | lst ys => simpa [toD, PyData.eqv, eqv] using eqvs_toD xs ys (by simpa [data] using h) (by simpa [data] using h2)
    | _ => simp [toD, PyData.eqv, eqv, data] at h2 ⊢
  | .obj _ _, _, h, _ => by simp [data] at h
  | .exc _ _, _, h, _ => by simp [data] at h
  | .loc _, _, h, _ => by simp [data] at h
  | .scr _, _, h, _ => by simp [data] at h
  | .cv _, _, h, _ => by simp [data] at h
  | .ptp _, _, h, _ => by simp [data] at h
  | .edt, _, h, _ => by simp [data] at h
theorem eqvs_toD : ∀ ts us : List T, datas ts = true → datas us = true → PyData.eqvAll (toDs ts) (toDs us) = eqvs ts us
  | [], us, _, _ => by cases us <;> simp [toDs, PyData.eqvAll, eqvs]
  | t :: ts, us, h, h2 => by
    have h' : data t = true ∧ datas ts = true := by simpa [datas] using h
    cases us with
    | nil => simp [toDs, PyData.eqvAll, eqvs]
    | cons u us =>
      have h2' : data u = true ∧ datas us = true := by simpa [datas] using h2
      simp [toDs, PyData.eqvAll, eqvs, eqv_toD t u h'.1 h2'.1, eqvs_toD ts us h'.2 h2'.2]
end
theorem shaped_toD {t : T} (h : data t = true) (hd : dep t ≤ 60) : SeqAt.shaped (toD t) = true := by
  show ((toD t).canLay0 && decide ((toD t).depth ≤ 64)) = true
  rw [canLay_toD t h, depth_toD t, Bool.true_and]
  exact decide_eq_true (by omega)
variable {G : Gh} {m : Mm} {H : Hp} {st : Sto} {σ : L2.St} {env : Env}
mutual
theorem dp_of : ∀ (t : T) (v : V), data t = true → Rp G m H t v → Dp G.K H v (toD t)
  | .non, _, _, h => by cases (show _ = _ from h); exact .non
  | .bl b, _, _, h => by cases (show _ = _ from h); exact .bl b
  | .int i, _, _, h => by cases (show _ = _ from h); exact .int i
  | .str x, _, _, h => by cases (show _ = _ from h); exact .str x
  | .tup xs, _, h, ⟨a, vs, e, p, r⟩ => by subst e; exact .tup (.inl (.inl p.2)) (dps_of xs vs (by simpa [data] using h) r)
  | .lst xs, _, h, ⟨a, vs, e, p, r⟩ => by
    subst e
    exact .lst (.inl (.inl p.2)) (dps_of xs vs (by simpa [data] using h) r)
  | .obj _ _, _, h, _ => by simp [data] at h
  | .exc _ _, _, h, _ => by simp [data] at h
  | .loc _, _, h, _ => by simp [data] at h
  | .scr _, _, h, _ => by simp [data] at h
  | .cv _, _, h, _ => by simp [data] at h
  | .ptp _, _, h, _ => by simp [data] at h
  | .edt, _, h, _ => by simp [data] at h
theorem dps_of : ∀ (ts : List T) (vs : List V), datas ts = true → Rps G m H ts vs → DpAll G.K H vs (toDs ts)
  | [], _, _, h => by cases (show _ = _ from h); exact .nil
  | t :: ts, _, h, ⟨v, r, e, p, q⟩ => by
    have h' : data t = true ∧ datas ts = true := by simpa [datas] using h
    subst e
    exact .cons (dp_of t v h'.1 p) (dps_of ts r h'.2 q)
end
theorem froz_dp {t : T} {v : V} (s : RSto G m H st) (h : data (frozen st t) = true) (r : Rp G m H t v) : Dp G.K H v (toD (frozen st t)) := by
  unfold frozen at h ⊢
  cases e : lstOf st t with
  | none => rw [e] at h; exact dp_of t v h r
  | some xs =>
    rw [e] at h
    obtain ⟨a, vs, rfl, hs, q⟩ := Rp.lst s r e
    exact .lst hs (dps_of xs vs (by simpa [data] using h) q)
section
variable {X : Cx} {W : WX} {Q : VK} {t u : T} {v w : V}
def rInS (K : PySem.W.Frag) (n : Bool) : R2 := fun x y H Q => ∃ d ds, Dp K H x d ∧ (Dp K H y (.list ds) ∨ Dp K H y (.tuple ds)) ∧ SeqAt.shaped d = true ∧ PyData.canLayAll0 ds = true ∧ Q (.bl (if n then !ds.any fun z => PyData.eqv z d else ds.any fun z => PyData.eqv z d)) H
theorem op_inS (hu : X.A.units + 65 < cLine) : OpR X (compareOp .In) (rInS X.K false) := by
  intro pins s σ H x y v u Q I rx ry h
  obtain ⟨d, ds, hd, he, sd, se, q⟩ := h
  obtain ⟨as, r1⟩ := Dp.reads I d x v hd rx
  rcases he with he | he
  · obtain ⟨bs, r2⟩ := Dp.reads I (.list ds) y u he ry
    exact SeqAt.in_list_reads r2 r1 se (SeqAt.canLay_of_shaped sd) (room_in_shaped sd hu) ⟨.bl _, H, I, rfl, q⟩
  · obtain ⟨bs, r2⟩ := Dp.reads I (.tuple ds) y u he ry
    exact SeqAt.in_tuple_reads r2 r1 se (SeqAt.canLay_of_shaped sd) (room_in_shaped sd hu) ⟨.bl _, H, I, rfl, q⟩
theorem op_notInS (hu : X.A.units + 65 < cLine) : OpR X (compareOp .NotIn) (rInS X.K true) := by
  intro pins s σ H x y v u Q I rx ry h
  obtain ⟨d, ds, hd, he, sd, se, q⟩ := h
  obtain ⟨as, r1⟩ := Dp.reads I d x v hd rx
  rcases he with he | he
  · obtain ⟨bs, r2⟩ := Dp.reads I (.list ds) y u he ry
    exact SeqAt.notIn_list_reads r2 r1 se (SeqAt.canLay_of_shaped sd) (room_in_shaped sd hu) ⟨.bl _, H, I, rfl, q⟩
  · obtain ⟨bs, r2⟩ := Dp.reads I (.tuple ds) y u he ry
    exact SeqAt.notIn_tuple_reads r2 r1 se (SeqAt.canLay_of_shaped sd) (room_in_shaped sd hu) ⟨.bl _, H, I, rfl, q⟩
def rCmp (K : PySem.W.Frag) : CmpOp → R2
  | .Eq => rEqD K
  | .NotEq => rNeD K
  | .Lt => rI0 fun i j => .bl (decide (i < j))
  | .LtE => rI0 fun i j => .bl (decide (i ≤ j))
  | .Gt => rI0 fun i j => .bl (decide (j < i))
  | .GtE => rI0 fun i j => .bl (decide (j ≤ i))
  | .In => fun x y H Q => (∃ i j, x = .str i ∧ y = .str j ∧ Q (.bl (strIn i j)) H) ∨ rInS K false x y H Q
  | .NotIn => fun x y H Q => (∃ i j, x = .str i ∧ y = .str j ∧ Q (.bl (!strIn i j)) H) ∨ rInS K true x y H Q
  | _ => fun _ _ _ _ => False
theorem op_cmp (hu : X.A.units + 65 < cLine) : ∀ op, OpR X (compareOp op) (rCmp X.K op)
  | .Eq => op_eqD (by omega)
  | .NotEq => op_neD (by omega)
  | .Lt => op_lt
  | .LtE => op_le
  | .Gt => op_gt
  | .GtE => op_ge
  | .In => OpR.or op_in_str (op_inS hu)
  | .NotIn => OpR.or op_notin_str (op_notInS hu)
  | .Is | .IsNot => fun _ _ _ _ _ _ _ _ _ _ _ _ h => h.elim
theorem any_eqv {t : T} (ht : data t = true) : ∀ {us : List T}, datas us = true → ((toDs us).any fun z => PyData.eqv z (toD t)) = us.any fun z => eqv z t
  | [], _ => rfl
  | u :: us, h => by
    have h' : data u = true ∧ datas us = true := by simpa [datas] using h
    simp only [toDs, List.any_cons]
    rw [eqv_toD u t h'.1 ht, any_eqv ht h'.2]
theorem in_ok {n : Bool} {k : Bool} (s : RSto G m H st) (r1 : Rp G m H t v) (r2 : Rp G m H u w) (e : inT st t u = some k) (q : Q (.bl (if n then !k else k)) H) :
    (∃ i j, v = .str i ∧ w = .str j ∧ Q (.bl (if n then !strIn i j else strIn i j)) H) ∨ rInS G.K n v w H Q := by
  by_cases c : ∃ i j, t = .str i ∧ u = .str j
  · obtain ⟨i, j, rfl, rfl⟩ := c
    cases (show some (strIn i j) = some k from e)
    exact .inl ⟨i, j, r1, r2, q⟩
  · have e' : (match seqOf st u with
      | some ys => if data t && datas ys && decide (dep t ≤ 60) && decide (deps ys ≤ 60) then some (ys.any fun y => eqv y t) else none
      | none => none) = some k := by
      unfold inT at e
      split at e
      · exact (c ⟨_, _, rfl, rfl⟩).elim
      · exact e
    cases e1 : seqOf st u with
    | none => rw [e1] at e'; cases e'
    | some ys =>
      rw [e1] at e'
      have e' : (if (data t && datas ys && decide (dep t ≤ 60) && decide (deps ys ≤ 60)) = true then some (ys.any fun y => eqv y t) else none) = some k := e'
      by_cases hc : (data t && datas ys && decide (dep t ≤ 60) && decide (deps ys ≤ 60)) = true
      · rw [if_pos hc] at e'
        have hk := Option.some.inj e'
        simp only [Bool.and_eq_true, decide_eq_true_eq] at hc
        obtain ⟨⟨⟨h1, h2⟩, h3⟩, h4⟩ := hc
        obtain ⟨a, vs, rfl, hs, rq⟩ := Rp.seq s r2 e1
        refine .inr ⟨toD t, toDs ys, dp_of t v h1 r1, ?_, shaped_toD h1 h3, canLays_toD ys h2, ?_⟩
        · rcases hs with hs | hs
          · exact .inl (.lst hs (dps_of ys vs h2 rq))
          · exact .inr (.tup hs (dps_of ys vs h2 rq))
        · rw [any_eqv h1 h2, hk]
          exact q
      · rw [if_neg hc] at e'; cases e'
theorem cmp_ok {op : CmpOp} {k : Bool} (s : RSto G m H st) (r1 : Rp G m H t v) (r2 : Rp G m H u w) (e : cmpT st op t u = some k) (q : Q (.bl k) H) : rCmp G.K op v w H Q := by
  have eqs : ∀ k, eqT (frozen st t) (frozen st u) = some k → ∃ d e, Dp G.K H v d ∧ Dp G.K H w e ∧ SeqAt.shaped d = true ∧ SeqAt.shaped e = true ∧ PyData.eqv d e = k := by
    intro k e
    unfold eqT at e
    split at e
    · rename_i hc
      simp only [Bool.and_eq_true, decide_eq_true_eq] at hc
      obtain ⟨⟨⟨h1, h2⟩, h3⟩, h4⟩ := hc
      exact ⟨_, _, froz_dp s h1 r1, froz_dp s h2 r2, shaped_toD h1 h3, shaped_toD h2 h4, by rw [eqv_toD _ _ h1 h2]; exact Option.some.inj e⟩
    · cases e
  have intsC : ∀ {f : Int → Int → Bool}, (∀ i j, t = .int i → u = .int j → some (f i j) = some k) → ((∀ i j, t = .int i → u = .int j → False) → False) → rI0 (fun i j => .bl (f i j)) v w H Q := by
    intro f h1 h2
    by_cases c : ∃ i j, t = .int i ∧ u = .int j
    · obtain ⟨i, j, rfl, rfl⟩ := c
      refine ⟨i, j, r1, r2, ?_⟩
      have h3 := Option.some.inj (h1 i j rfl rfl)
      show Q (.bl (f i j)) H
      rw [h3]
      exact q
    · exact (h2 fun i j e1 e2 => c ⟨i, j, e1, e2⟩).elim
  cases op with
  | Eq =>
    obtain ⟨d, d', h1, h2, h3, h4, h5⟩ := eqs k e
    exact ⟨d, d', h1, h2, h3, h4, by rw [h5]; exact q⟩
  | NotEq =>
    have e : (eqT (frozen st t) (frozen st u)).map (!·) = some k := e
    cases e1 : eqT (frozen st t) (frozen st u) with
    | none => rw [e1] at e; cases e
    | some b =>
      rw [e1] at e
      have e : some (!b) = some k := e
      obtain ⟨d, d', h1, h2, h3, h4, h5⟩ := eqs b e1
      exact ⟨d, d', h1, h2, h3, h4, by rw [h5, Option.some.inj e]; exact q⟩
  | Lt => exact intsC (fun i j e1 e2 => by subst e1 e2; exact e) fun hh => by cases t <;> first | (cases e; done) | (cases u <;> first | exact hh _ _ rfl rfl | (cases e; done))
  | LtE => exact intsC (fun i j e1 e2 => by subst e1 e2; exact e) fun hh => by cases t <;> first | (cases e; done) | (cases u <;> first | exact hh _ _ rfl rfl | (cases e; done))
  | Gt => exact intsC (fun i j e1 e2 => by subst e1 e2; exact e) fun hh => by cases t <;> first | (cases e; done) | (cases u <;> first | exact hh _ _ rfl rfl | (cases e; done))
  | GtE => exact intsC (fun i j e1 e2 => by subst e1 e2; exact e) fun hh => by cases t <;> first | (cases e; done) | (cases u <;> first | exact hh _ _ rfl rfl | (cases e; done))
  | In => exact in_ok (n := false) s r1 r2 e q
  | NotIn =>
    have e : (inT st t u).map (!·) = some k := e
    cases e1 : inT st t u with
    | none => rw [e1] at e; cases e
    | some b =>
      rw [e1] at e
      have e : some (!b) = some k := e
      exact in_ok (n := true) s r1 r2 e1 (by rw [if_pos rfl, Option.some.inj e]; exact q)
  | Is => cases t <;> cases u <;> cases e
  | IsNot => cases t <;> cases u <;> cases e
end
section
variable {X : Cx} {W : WX} {fa fb fc : Env → Sto → R T} {a b c : Expr} {pos : Pos}
theorem cmp_imp {op : CmpOp} {σ : L2.St} {H : Hp} {Q : VK} (h : tE G W (fun env st => (fa env st).bnd fun x st1 => (fb env st1).bnd fun y st2 => R.opt ((cmpT st2 op x y).map .bl) st2) σ H Q) :
    tOp (rCmp G.K op) (tE G W fa) (tE G W fb) σ H Q := by
  refine at2 h fun m env st t u v w H1 rs r1 r2 q => ?_
  cases e : cmpT st op t u with
  | none => rw [e] at q; exact q.elim
  | some k =>
    rw [e] at q
    exact cmp_ok rs.sto r1 r2 e (Rn.give (b := .bl k) q rs rfl)
theorem s_cmp {op : CmpOp} (hK : X.K = G.K) (hu : X.A.units + 65 < cLine) (hm : behindInMarks op b = false) (ha : PE X a (tE G W fa)) (hb : PE X b (tE G W fb)) :
    PE X (.Compare a [op] [b] pos) (tE G W fun env st => (fa env st).bnd fun x st1 => (fb env st1).bnd fun y st2 => R.opt ((cmpT st2 op x y).map .bl) st2) :=
  PE.imp (pe_cmpR (op_cmp hu op) ha hb hm) fun σ H Q h => by rw [hK]; exact cmp_imp h
theorem t_cmp {op : CmpOp} (hK : X.K = G.K) (hu : X.A.units + 65 < cLine) (hm : behindInMarks op b = false) (ha : PE X a (tE G W fa)) (hb : PE X b (tE G W fb)) :
    PT X (.Compare a [op] [b] pos) (tTest (tE G W fun env st => (fa env st).bnd fun x st1 => (fb env st1).bnd fun y st2 => R.opt ((cmpT st2 op x y).map .bl) st2)) :=
  PT.imp (pt_cmpR (op_cmp hu op) ha hb hm) fun σ H Q h => by rw [hK]; exact cmp_imp h
theorem isN_imp {n : Bool} {σ : L2.St} {H : Hp} {Q : VK} (h : tE G W (fun env st => (fa env st).bnd fun x st1 => .ok (.bl (isNn n x)) st1) σ H Q) : tE G W fa σ H fun x H1 => Q (.bl (if n then !decide (x = .non) else decide (x = .non))) H1 := by
  refine at1 h fun m env st t v H1 rs r q => ?_
  have e : isNn n t = (if n then !decide (v = .non) else decide (v = .non)) := by
    cases t with
    | non => cases (show v = _ from r); cases n <;> rfl
    | bl _ => cases (show v = _ from r); cases n <;> rfl
    | int _ => cases (show v = _ from r); cases n <;> rfl
    | str _ => cases (show v = _ from r); cases n <;> rfl
    | tup _ => obtain ⟨a, vs, rfl, _⟩ := r; cases n <;> rfl
    | lst _ => obtain ⟨a, vs, rfl, _⟩ := r; cases n <;> rfl
    | obj _ _ => obtain ⟨a, dx, fv, rfl, _⟩ := r; cases n <;> rfl
    | exc _ _ => obtain ⟨y, vs, _, rfl, _⟩ := r; cases n <;> rfl
    | loc _ => obtain ⟨a, rfl, _⟩ := r; cases n <;> rfl
    | scr _ => obtain ⟨a, rfl, _⟩ := r; cases n <;> rfl
    | cv _ => cases (show v = _ from r); cases n <;> rfl
    | ptp _ => obtain ⟨a, vs, rfl, _⟩ := r; cases n <;> rfl
    | edt => obtain ⟨a, rfl, _⟩ := r; cases n <;> rfl
  rw [← e]
  exact Rn.give q rs rfl
theorem pe_isN {n : Bool} {j pos'} (ha : PE X a (tE G W fa)) : PE X (.Compare a [if n then .IsNot else .Is] [.Constant .none j pos'] pos) (tE G W fun env st => (fa env st).bnd fun x st1 => .ok (.bl (isNn n x)) st1) := by
  cases n with
  | false => exact PE.imp (pe_cmp (pc_isN ha) (by rfl)) fun σ H Q h => isN_imp h
  | true => exact PE.imp (pe_cmp (pc_notN ha) (by rfl)) fun σ H Q h => isN_imp h
theorem pt_isN {n : Bool} {j pos'} (ha : PE X a (tE G W fa)) : PT X (.Compare a [if n then .IsNot else .Is] [.Constant .none j pos'] pos) (tTest (tE G W fun env st => (fa env st).bnd fun x st1 => .ok (.bl (isNn n x)) st1)) := by
  cases n with
  | false => exact PT.imp (pt_cmp (pc_isN ha) (by rfl)) fun σ H Q h => isN_imp (n := false) h
  | true => exact PT.imp (pt_cmp (pc_notN ha) (by rfl)) fun σ H Q h => isN_imp (n := true) h
def fChain (o1 o2 : CmpOp) (fa fb fc : Env → Sto → R T) : Env → Sto → R T := fun env st => (fa env st).bnd fun x st1 => (fb env st1).bnd fun y st2 => (R.opt (cmpT st2 o1 x y) st2).bnd fun k st3 =>
      if k = true then (fc env st3).bnd fun z st4 => R.opt ((cmpT st4 o2 y z).map .bl) st4 else .ok (.bl false) st3
theorem chain_imp {o1 o2 : CmpOp} {σ : L2.St} {H : Hp} {Q : VK} (h : tE G W (fChain o1 o2 fa fb fc) σ H Q) : tChain (rCmp G.K o1) (rCmp G.K o2) (tE G W fa) (tE G W fb) (tE G W fc) σ H Q := by
  refine at2 h fun m env st t u v w H1 rs r1 r2 q => ?_
  cases e : cmpT st o1 t u with
  | none => rw [e] at q; exact q.elim
  | some k =>
    rw [e] at q
    refine cmp_ok rs.sto r1 r2 e ⟨k, rfl, ?_⟩
    have q : Rn G W σ env (Rp G) m H1 (if k = true then (fc env st).bnd fun z st4 => R.opt ((cmpT st4 o2 u z).map .bl) st4 else .ok (.bl false) st) (Kq Q) := q
    cases k with
    | false => exact Rn.give q rs rfl
    | true =>
      refine ⟨m, env, st, rs, (Rn.bnd q).imp fun z st' b H' m' rs' s r q2 => ?_⟩
      cases e2 : cmpT st' o2 u z with
      | none => rw [e2] at q2; exact q2.elim
      | some k2 =>
        rw [e2] at q2
        exact cmp_ok rs'.sto (Rp.mov s.toMov _ _ r2) r e2 (Rn.give (b := .bl k2) q2 rs' rfl)
theorem s_chain {o1 o2 : CmpOp} (hK : X.K = G.K) (hu : X.A.units + 65 < cLine) (hm : lastMarks [o1, o2] [b, c] = false) (ha : PE X a (tE G W fa)) (hb : PE X b (tE G W fb)) (hc : PE X c (tE G W fc)) :
    PE X (.Compare a [o1, o2] [b, c] pos) (tE G W (fChain o1 o2 fa fb fc)) := PE.imp (pe_chain (op_cmp hu o1) (op_cmp hu o2) ha hb hc hm) fun σ H Q h => by rw [hK]; exact chain_imp h
theorem t_chain {o1 o2 : CmpOp} (hK : X.K = G.K) (hu : X.A.units + 65 < cLine) (hm : lastMarks [o1, o2] [b, c] = false) (ha : PE X a (tE G W fa)) (hb : PE X b (tE G W fb)) (hc : PE X c (tE G W fc)) :
    PT X (.Compare a [o1, o2] [b, c] pos) (tTest (tE G W (fChain o1 o2 fa fb fc))) := PT.imp (pt_chain (op_cmp hu o1) (op_cmp hu o2) ha hb hc hm) fun σ H Q h => by rw [hK]; exact chain_imp h
theorem asB {σ : L2.St} {H : Hp} {P : Bool → Hp → Prop} {g : Env → Bool → Sto → R T} {Q : VK}
    (h : At G W (Rp G) (fun env st => (fa env st).bnd fun x st1 => match x with
      | .bl b => g env b st1
      | _ => .bad) σ H (Kq Q))
    (k : ∀ m env st b H1, RS G m env st σ H1 → Rn G W σ env (Rp G) m H1 (g env b st) (Kq Q) → P b H1) : tE G W fa σ H fun x H1 => ∃ c, x = .bl c ∧ P c H1 := by
  refine at1 h fun m env st t v H1 rs r q => ?_
  cases t with
  | bl b => exact ⟨b, r, k m env st b H1 rs q⟩
  | _ => exact q.elim
def fNot (fa : Env → Sto → R T) : Env → Sto → R T := fun env st => (fa env st).bnd fun x st1 => match x with
    | .bl b => .ok (.bl (!b)) st1
    | _ => .bad
theorem s_not (ha : PE X a (tE G W fa)) : PE X (.UnaryOp .Not a pos) (tE G W (fNot fa)) :=
  PE.imp (pe_not ha) fun σ H Q h => asB (P := fun c H1 => Q (.bl (!c)) H1) h fun m env st b H1 rs q => Rn.give (b := .bl (!b)) q rs rfl
theorem t_not (ha : PT X a (tTest (tE G W fa))) : PT X (.UnaryOp .Not a pos) (tTest (tE G W (fNot fa))) :=
  PT.imp (pt_not ha) fun σ H Q h => asB (P := fun c H1 => Q (!c) H1) h fun m env st b H1 rs q => by
    obtain ⟨k, e, q⟩ := Rn.give (b := .bl (!b)) q rs rfl
    cases e
    exact q
def fBl (fb : Env → Sto → R T) : Env → Sto → R T := fun env st => (fb env st).bnd fun y st2 => match y with
      | .bl c => .ok (.bl c) st2
      | _ => .bad
theorem fBl_imp {σ : L2.St} {H : Hp} {Q : VK} {m : Mm} {env : Env} {st : Sto} (rs : RS G m env st σ H) (q : Rn G W σ env (Rp G) m H (fBl fb env st) (Kq Q)) : tE G W fb σ H fun x H1 => ∃ c, x = .bl c ∧ Q x H1 := by
  refine ⟨m, env, st, rs, (Rn.bnd q).imp fun t st' v H' m' rs' _ r q => ?_⟩
  cases t with
  | bl c => exact ⟨c, r, by cases (show v = _ from r); exact Rn.give q rs' rfl⟩
  | _ => exact q.elim
theorem fBl_sub {σ : L2.St} {H : Hp} {Q : VK} {m : Mm} {env : Env} {st : Sto} (rs : RS G m env st σ H) (q : Rn G W σ env (Rp G) m H (fBl fb env st) (Kq Q)) : tE G W fb σ H Q := by
  obtain ⟨m', env', st', rs', q'⟩ := fBl_imp rs q
  exact ⟨m', env', st', rs', q'.imp fun _ _ _ _ _ _ _ _ z => z.choose_spec.2⟩
def fAnd (fa fb : Env → Sto → R T) : Env → Sto → R T := fun env st => (fa env st).bnd fun x st1 => match x with
    | .bl true => fBl fb env st1
    | .bl false => .ok (.bl false) st1
    | _ => .bad
def fOr (fa fb : Env → Sto → R T) : Env → Sto → R T := fun env st => (fa env st).bnd fun x st1 => match x with
    | .bl true => .ok (.bl true) st1
    | .bl false => fBl fb env st1
    | _ => .bad
def gAnd (fb : Env → Sto → R T) (env : Env) (b : Bool) (st : Sto) : R T := if b = true then fBl fb env st else .ok (.bl false) st
def gOr (fb : Env → Sto → R T) (env : Env) (b : Bool) (st : Sto) : R T := if b = true then .ok (.bl true) st else fBl fb env st
theorem fAnd_eq : fAnd fa fb = fun env st => (fa env st).bnd fun x st1 => match x with
      | .bl b => gAnd fb env b st1
      | _ => .bad := by
  funext env st
  unfold fAnd
  congr 1
  funext x st1
  cases x with
  | bl b => cases b <;> rfl
  | _ => rfl
theorem fOr_eq : fOr fa fb = fun env st => (fa env st).bnd fun x st1 => match x with
      | .bl b => gOr fb env b st1
      | _ => .bad := by
  funext env st
  unfold fOr
  congr 1
  funext x st1
  cases x with
  | bl b => cases b <;> rfl
  | _ => rfl
theorem and_imp {σ : L2.St} {H : Hp} {Q : VK} (h : tE G W (fAnd fa fb) σ H Q) : tAndV (tE G W fa) (tE G W fb) σ H Q := by
  rw [fAnd_eq] at h
  refine asB (P := fun c H1 => if c = true then tE G W fb σ H1 Q else Q (.bl false) H1) h fun m env st b H1 rs q => ?_
  cases b with
  | true => exact fBl_sub rs q
  | false => exact Rn.give q rs rfl
theorem and_impT {σ : L2.St} {H : Hp} {Q : Bool → Hp → Prop} (h : tTest (tE G W (fAnd fa fb)) σ H Q) : tAnd (tTest (tE G W fa)) (tTest (tE G W fb)) σ H Q := by
  have h : tE G W (fAnd fa fb) σ H fun x H' => ∃ k, x = .bl k ∧ Q k H' := h
  rw [fAnd_eq] at h
  refine asB (P := fun c H1 => if c = true then tTest (tE G W fb) σ H1 Q else Q false H1) h fun m env st b H1 rs q => ?_
  cases b with
  | true => exact fBl_sub rs q
  | false =>
    obtain ⟨k, e, z⟩ := Rn.give (b := .bl false) q rs rfl
    cases e
    exact z
theorem or_imp {σ : L2.St} {H : Hp} {Q : VK} (h : tE G W (fOr fa fb) σ H Q) : tOrV (tE G W fa) (tE G W fb) σ H Q := by
  rw [fOr_eq] at h
  refine asB (P := fun c H1 => if c = true then Q (.bl true) H1 else tE G W fb σ H1 Q) h fun m env st b H1 rs q => ?_
  cases b with
  | false => exact fBl_sub rs q
  | true => exact Rn.give q rs rfl
theorem or_impT {σ : L2.St} {H : Hp} {Q : Bool → Hp → Prop} (h : tTest (tE G W (fOr fa fb)) σ H Q) : tOr (tTest (tE G W fa)) (tTest (tE G W fb)) σ H Q := by
  have h : tE G W (fOr fa fb) σ H fun x H' => ∃ k, x = .bl k ∧ Q k H' := h
  rw [fOr_eq] at h
  refine asB (P := fun c H1 => if c = true then Q true H1 else tTest (tE G W fb) σ H1 Q) h fun m env st b H1 rs q => ?_
  cases b with
  | false => exact fBl_sub rs q
  | true =>
    obtain ⟨k, e, z⟩ := Rn.give (b := .bl true) q rs rfl
    cases e
    exact z
def fIte (fc fa fb : Env → Sto → R T) : Env → Sto → R T := fun env st => (fc env st).bnd fun x st1 => match x with
    | .bl true => fa env st1
    | .bl false => fb env st1
    | _ => .bad
theorem ite_imp {σ : L2.St} {H : Hp} {Q : VK} (h : tE G W (fIte fc fa fb) σ H Q) : tIf (tTest (tE G W fc)) (tE G W fa) (tE G W fb) σ H Q := by
  show tE G W fc σ H fun x H1 => ∃ c, x = .bl c ∧ if c = true then tE G W fa σ H1 Q else tE G W fb σ H1 Q
  refine at1 (g := fun env x st1 => match x with
    | .bl true => fa env st1
    | .bl false => fb env st1
    | _ => .bad) h fun m env st t v H1 rs r q => ?_
  cases t with
  | bl b =>
    refine ⟨b, r, ?_⟩
    cases b with
    | true => exact ⟨m, env, st, rs, q⟩
    | false => exact ⟨m, env, st, rs, q⟩
  | _ => exact q.elim
theorem s_ite (hc : PT X c (tTest (tE G W fc))) (ha : PE X a (tE G W fa)) (hb : PE X b (tE G W fb)) : PE X (.IfExp c a b pos) (tE G W (fIte fc fa fb)) := PE.imp (pe_ifExp hc ha hb) fun σ H Q h => ite_imp h
end
end Eg
set_option Elab.async false
set_option linter.all false
set_option maxRecDepth 100000
set_option maxHeartbeats 2000000
namespace Eg
open PySem PySem.Spec PyProof.Rows L2
def tL (G : Gh) (W : WX) (f : Env → Sto → R (List T)) : TE := fun σ H Q => ∃ m env st, RS G m env st σ H ∧ Rn G W σ env (Rps G) m H (f env st) (fun _ _ vs H' _ => ∀ p, H' p = none → Q (.ref p) (upd H' p (.lst vs)))
section
variable {X : Cx} {G : Gh} {W : WX} {fa fb fc : Env → Sto → R T} {fs : Env → Sto → R (List T)} {fl fh : Env → Sto → R (Option Int)} {a b c : Expr} {es : List Expr} {pos : Pos} {m : Mm} {H : Hp} {σ : L2.St} {env : Env} {st : Sto} {Q : VK}
theorem s_v {i : Nat} {x : Str} (hN : X.N[i]? = some x) (hv : Vis X.env.scope x) (hd : (x == ("__debug__" : Str)) = false) (hcd : (x == ("__classdict__" : Str)) = false) :
    PE X (.Name x pos) (tE G W (evV i)) := by
  refine PE.imp (pe_var hN hv hd hcd) fun σ H Q h => ?_
  obtain ⟨m, env, st, rs, h⟩ := h
  unfold evV at h
  cases e : env[i]? with
  | none => rw [e] at h; exact h.elim
  | some o =>
    cases o with
    | none => rw [e] at h; exact h.elim
    | some t =>
      rw [e] at h
      obtain ⟨v, e2, r⟩ := rs.env.2 i t e
      exact ⟨v, e2, Rn.give h rs r⟩
def kT : T → Option V
  | .non => some .non
  | .bl b => some (.bl b)
  | .int i => some (.int i)
  | .str x => some (.str x)
  | _ => none
theorem kT_rp {t : T} {v : V} (h : kT t = some v) : Rp G m H t v := by
  cases t <;> first | (cases h; done) | (cases (show some _ = some v from h); rfl)
theorem s_k {t : T} {v : V} {e : Expr} (h : kT t = some v) (he : PE X e (tC v)) : PE X e (tE G W fun _ st => .ok t st) :=
  PE.imp he fun σ H Q ⟨m, env, st, rs, q⟩ => Rn.give q rs (kT_rp h)
theorem s_nil : PA X [] (tA G W fun _ st => .ok [] st) := PA.imp pa_nil fun σ H Q ⟨m, env, st, rs, q⟩ => Rn.here (b := []) q rs rfl
theorem s_cons {e : Expr} (ha : PE X e (tE G W fa)) (hr : PA X es (tA G W fs)) (hs : starEach (e :: es) X.env = (false, eval e X.env) :: starEach es X.env) :
    PA X (e :: es) (tA G W fun env st => (fa env st).bnd fun x st1 => (fs env st1).bnd fun xs st2 => .ok (x :: xs) st2) := by
  refine PA.imp (pa_cons ha hr hs) fun σ H Q h => ?_
  show tE G W fa σ H fun x H1 => tA G W fs σ H1 fun xs H2 => Q (x :: xs) H2
  obtain ⟨m, env, st, rs, h⟩ := h
  refine ⟨m, env, st, rs, (Rn.bnd h).imp fun t st' v H' m' rs' _ r q => ⟨m', env, st', rs', (Rn.bnd q).imp fun ts st2 vs H2 m2 rs2 s2 r2 q2 => ?_⟩⟩
  exact Rn.here q2 rs2 ⟨v, vs, rfl, Rp.mov s2.toMov _ _ r, r2⟩
theorem s_tup {k : Nat} (h : PA X es (tA G W fs)) : PE X (.Tuple es k pos) (tE G W fun env st => (fs env st).bnd fun xs st1 => if xs.length ≤ lim then .ok (.tup xs) st1 else .bad) := by
  refine PE.imp (pe_tup h) fun σ H Q h => ?_
  refine atA h fun m env st ts vs H1 rs r q => ?_
  by_cases hl : ts.length ≤ lim
  · rw [if_pos hl] at q
    exact ⟨by rw [← r.length, ← lim_eq]; exact hl, fun p hp => Rn.tup q rs r hp⟩
  · rw [if_neg hl] at q; exact q.elim
theorem ix_ok {t u : T} {v w : V} {r : T} (s : RSto G m H st) (r1 : Rp G m H t v) (r2 : Rp G m H u w) (e : ixT st t u = some r) (q : ∀ b, Rp G m H r b → Q b H) : rIx G.K v w H Q := by
  cases u with
  | int i =>
    cases (show w = _ from r2)
    by_cases c : ∃ x, t = .str x
    · obtain ⟨x, rfl⟩ := c
      cases (show v = _ from r1)
      have e : (if x.length ≤ lim then (atI x.cps.toList i).map fun c => T.str ⟨#[c]⟩ else none) = some r := e
      by_cases hl : x.length ≤ lim
      · rw [if_pos hl] at e
        cases e2 : atI x.cps.toList i with
        | none => rw [e2] at e; cases e
        | some c =>
          rw [e2] at e
          cases (show some (T.str ⟨#[c]⟩) = some r from e)
          exact .inr (.inr ⟨x, i, c, rfl, rfl, lim_eq ▸ hl, e2, q _ rfl⟩)
      · rw [if_neg hl] at e; cases e
    · have e : (match seqOf st t with
        | some xs => atI xs i
        | none => none) = some r := by
        unfold ixT at e
        split at e
        · exact (c ⟨_, rfl⟩).elim
        · rename_i h1; cases h1; exact e
        · cases e
      cases e1 : seqOf st t with
      | none => rw [e1] at e; cases e
      | some xs =>
        rw [e1] at e
        have e : atI xs i = some r := e
        obtain ⟨a, vs, rfl, hs, rq⟩ := Rp.seq s r1 e1
        have hb : ∃ b, atI vs i = some b ∧ Rp G m H r b := by
          unfold atI at e ⊢
          rw [← rq.length]
          cases e3 : ixN xs.length i with
          | none => rw [e3] at e; cases e
          | some j =>
            rw [e3] at e
            obtain ⟨b, h1, h2⟩ := rq.get (show xs[j]? = some r from e)
            exact ⟨b, h1, h2⟩
        obtain ⟨b, h1, h2⟩ := hb
        rcases hs with hs | hs
        · exact .inl ⟨a, vs, i, b, rfl, rfl, hs, h1, q b h2⟩
        · exact .inr (.inl ⟨a, vs, i, b, rfl, rfl, hs, h1, q b h2⟩)
  | _ => cases t <;> cases e
theorem s_ix (hK : X.K = G.K) (hp : PlainIx b) (ha : PE X a (tE G W fa)) (hb : PE X b (tE G W fb)) :
    PE X (.Subscript a b pos) (tE G W fun env st => (fa env st).bnd fun x st1 => (fb env st1).bnd fun y st2 => R.opt (ixT st2 x y) st2) := by
  refine PE.imp (pe_ix (r := rIx X.K) ix_seq ha hb hp) fun σ H Q h => ?_
  refine at2 h fun m env st t u v w H1 rs r1 r2 q => ?_
  cases e : ixT st t u with
  | none => rw [e] at q; exact q.elim
  | some r =>
    rw [e] at q
    rw [hK]
    exact ix_ok rs.sto r1 r2 e fun b hb => Rn.give q rs hb
theorem p_none : PO X none (tP G W fun _ st => .ok none st) := PO.imp po_none fun σ H Q ⟨m, env, st, rs, q⟩ => Rn.here (b := none) q rs rfl
theorem p_some {e : Expr} (h : PE X e (tE G W fa)) : PO X (some e) (tP G W fun env st => (fa env st).bnd fun x st1 => match x with
    | .int i => .ok (some i) st1
    | _ => .bad) := by
  refine PO.imp (po_some h) fun σ H Q h => ?_
  show tE G W fa σ H fun x H1 => ∃ i, x = .int i ∧ Q (some i) H1
  refine at1 h fun m env st t v H1 rs r q => ?_
  cases t with
  | int i => exact ⟨i, r, Rn.here (b := some i) q rs rfl⟩
  | _ => exact q.elim
theorem at_sl {A B : Type} {rel : Mm → Hp → A → B → Prop} {g : Env → T → Option Int → Option Int → Sto → R A} {K : A → Sto → B → Hp → Mm → Prop} {P : V → Option Int → Option Int → Hp → Prop}
    (h : At G W rel (fun env st => (fa env st).bnd fun x st1 => (fl env st1).bnd fun l st2 => (fh env st2).bnd fun u st3 => g env x l u st3) σ H K)
    (k : ∀ m env st t v l u H1, RS G m env st σ H1 → Rp G m H1 t v → Rn G W σ env rel m H1 (g env t l u st) K → P v l u H1) :
    tE G W fa σ H fun x H1 => tP G W fl σ H1 fun l H2 => tP G W fh σ H2 fun u H3 => P x l u H3 := by
  obtain ⟨m, env, st, rs, h⟩ := h
  refine ⟨m, env, st, rs, (Rn.bnd h).imp fun t st' v H' m' rs' _ r q => ⟨m', env, st', rs', (Rn.bnd q).imp fun l st2 l' H2 m2 rs2 s2 r2 q2 => ⟨m2, env, st2, rs2, (Rn.bnd q2).imp fun u st3 u' H3 m3 rs3 s3 r3 q3 => ?_⟩⟩⟩
  subst r2 r3
  exact k m3 env st3 t v l' u' H3 rs3 (Rp.mov (s2.trans s3).toMov _ _ r) q3
theorem s_sl {lo hi : Option Expr} {p2 : Pos} (hK : X.K = G.K) (ha : PE X a (tE G W fa)) (hl : PO X lo (tP G W fl)) (hh : PO X hi (tP G W fh)) :
    PE X (.Subscript a (.Slice lo hi none p2) pos) (tE G W fun env st => (fa env st).bnd fun x st1 => (fl env st1).bnd fun l st2 => (fh env st2).bnd fun u st3 => match x with
      | .tup xs => .ok (.tup (cut xs l u)) st3
      | .str z => if z.length ≤ lim then .ok (.str (cutS z l u)) st3 else .bad
      | _ => .bad) := by
  refine PE.imp (pe_slice (SlR.or (r := rSlA X.K) (r' := rSlS) sl_tupA sl_str) ha hl hh) fun σ H Q h => ?_
  refine at_sl h fun m env st t v l u H1 rs r q => ?_
  cases t with
  | str z =>
    cases (show v = _ from r)
    by_cases c : z.length ≤ lim
    · simp only [if_pos c] at q
      exact .inr ⟨z, rfl, by rw [← lim_eq]; exact c, Rn.give (b := .str _) q rs rfl⟩
    · simp only [if_neg c] at q; exact q.elim
  | tup xs =>
    obtain ⟨p, vs, rfl, hp, rq⟩ := r
    refine .inl ⟨p, vs, rfl, .inl (.inl hp.2), fun hw => ?_, fun hw n hn => ?_⟩
    · refine Rn.give q rs ⟨p, vs, rfl, hp, ?_⟩
      have := rq.cut l u
      have e : cutV vs l u = vs := by
        unfold cutV
        rw [hw.1, hw.2]
        simp
      rw [e] at this
      exact this
    · exact Rn.tup q rs (rq.cut l u) hn
  | _ => exact q.elim
theorem maxI_spec : ∀ {ns : List Int}, ns ≠ [] → maxI ns ∈ ns ∧ ∀ y, y ∈ ns → y ≤ maxI ns
  | [], h => absurd rfl h
  | [a], _ => ⟨by simp [maxI], fun y hy => by simp at hy; simp [maxI, hy]⟩
  | a :: b :: r, _ => by
    obtain ⟨h1, h2⟩ := maxI_spec (ns := b :: r) (by simp)
    simp only [maxI]
    refine ⟨?_, fun y hy => ?_⟩
    · by_cases c : a ≤ maxI (b :: r)
      · rw [Int.max_eq_right c]; exact List.mem_cons_of_mem _ h1
      · rw [Int.max_eq_left (by omega)]; exact List.mem_cons_self
    · rcases List.mem_cons.mp hy with e | e
      · subst e; exact Int.le_max_left _ _
      · exact Int.le_trans (h2 y e) (Int.le_max_right _ _)
theorem minI_spec : ∀ {ns : List Int}, ns ≠ [] → minI ns ∈ ns ∧ ∀ y, y ∈ ns → minI ns ≤ y
  | [], h => absurd rfl h
  | [a], _ => ⟨by simp [minI], fun y hy => by simp at hy; simp [minI, hy]⟩
  | a :: b :: r, _ => by
    obtain ⟨h1, h2⟩ := minI_spec (ns := b :: r) (by simp)
    simp only [minI]
    refine ⟨?_, fun y hy => ?_⟩
    · by_cases c : a ≤ minI (b :: r)
      · rw [Int.min_eq_left c]; exact List.mem_cons_self
      · rw [Int.min_eq_right (by omega)]; exact List.mem_cons_of_mem _ h1
    · rcases List.mem_cons.mp hy with e | e
      · subst e; exact Int.min_le_left _ _
      · exact Int.le_trans (Int.min_le_right _ _) (h2 y e)
def biName : Bi → Str
  | .len => "len" | .sum => "sum" | .max => "max" | .min => "min" | .abs => "abs" | .int => "int" | .tuple => "tuple" | .all => "all" | .any => "any" | .divmod => "divmod"
def biVal : Bi → Value
  | .int => .type "int" | .tuple => .type "tuple"
  | .len => .builtin "len" | .sum => .builtin "sum" | .max => .builtin "max" | .min => .builtin "min" | .abs => .builtin "abs" | .all => .builtin "all" | .any => .builtin "any" | .divmod => .builtin "divmod"
def rBi (K : PySem.W.Frag) : Bi → List V → Hp → VK → Prop
  | .len => fun xs H Q => (∃ p ys, xs = [.ref p] ∧ (SqL K H p ys ∨ SqT K H p ys) ∧ Q (.int ys.length) H) ∨ (∃ z, xs = [.str z] ∧ z.length ≤ sizeLine ∧ Q (.int z.length) H)
  | .sum => fun xs H Q => rSum K xs H Q ∨ ∃ (a : Addr) (ns : List Int), xs = [V.ref a] ∧ SqT K H a (ns.map V.int) ∧ Q (.int ns.sum) H
  | .max => fun xs H Q => rMax K xs H Q ∨ (∃ i j, xs = [.int i, .int j] ∧ Q (.int (if j > i then j else i)) H) ∨ ∃ i j l, xs = [.int i, .int j, .int l] ∧ Q (.int (if l > (if j > i then j else i) then l else (if j > i then j else i))) H
  | .min => fun xs H Q => rMin K xs H Q ∨ (∃ i j, xs = [.int i, .int j] ∧ Q (.int (if j < i then j else i)) H) ∨ ∃ i j l, xs = [.int i, .int j, .int l] ∧ Q (.int (if l < (if j < i then j else i) then l else (if j < i then j else i))) H
  | .abs => fun xs H Q => ∃ i, xs = [.int i] ∧ Q (.int (if i < 0 then -i else i)) H
  | .int => fun xs H Q => ((∃ i, xs = [.int i] ∧ Q (.int i) H) ∨ ∃ k, xs = [.bl k] ∧ Q (.int (if k then 1 else 0)) H) ∨ ∃ a n, xs = [.str a] ∧ PySem.intText? a = some n ∧ a.length ≤ 640 ∧ Q (.int n) H
  | .tuple => fun xs H Q => ∃ p ys, xs = [.ref p] ∧ ((SqL K H p ys ∧ ∀ l, H l = none → Q (.ref l) (upd H l (.tup ys))) ∨ (SqT K H p ys ∧ Q (.ref p) H))
  | .all => rAll K
  | .any => rAny K
  | .divmod => fun xs H Q => ∃ i j, xs = [.int i, .int j] ∧ CDivP i j ∧ ∀ p, H p = none → Q (.ref p) (upd H p (.tup [.int (i / j), .int (i % j)]))
theorem sum_intTupG {prog : Program} {w : World} {A : Around} {E : Value → Shared → Prop} {s : Shared} {l : Addr} {xs : Array (Int × Tok)} {Q : Value → Shared → Prop} (hh : A.handled = none) (hl : s.heap.IsTuple l (intItems xs))
    (h : ∀ h' tk t', (∀ b o, s.heap.get? b = some o → h'.get? b = some o) → Q (.int (preSum (numAt xs) xs.size) t') { s with heap := h', toks := tk }) :
    wpAny (model prog w) A (call (.builtin "sum") [.ref l]) Q E s := by
  have hlt : l < s.heap.objs.size := by obtain ⟨_, e, _⟩ := hl; exact Heap.lt_size e
  refine call_sum_walkG (wpAny_pyIter_tuple hl ?_)
  refine ⟨_, _, _, _, _, _, numAt xs, rfl, Walks.tuple (A := A.in1) hh s.heap.objs.size l (Nat.ne_of_lt hlt) (intItems xs), ⟨⟨_, Heap.get?_push_size _ rfl, rfl, rfl⟩, hl.push _⟩, fun b hb => ?_, (fun _ _ => intItems_at), fun h' tk t' hk => ?_⟩
  · show b < (s.heap.push _).objs.size
    rw [Heap.size_push]
    rcases List.mem_cons.mp hb with rfl | hb
    · exact Nat.lt_succ_self _
    · rcases List.mem_cons.mp hb with rfl | hb
      · exact Nat.lt_succ_of_lt hlt
      · cases hb
  · have := h h' tk t' fun b o e => hk b o (fun hm => by
      rw [List.mem_singleton] at hm
      subst hm
      exact Nat.lt_irrefl _ (Heap.lt_size e)) (Heap.get?_push_of_some _ e)
    simpa [intItems] using this
theorem call_sumT (hc : X.calm = true) : CallR X (.builtin "sum") (fun xs H Q => ∃ (a : Addr) (ns : List Int), xs = [V.ref a] ∧ SqT X.K H a (ns.map V.int) ∧ Q (.int ns.sum) H) := by
  intro pins s σ H vs us Q I r h
  obtain ⟨a, ns, rfl, hs, q⟩ := h
  obtain ⟨its, rv, hl, _⟩ := I.tuple hs
  rw [Vals.ref1 r]
  have hi : IntsAre its ns := rv.ints
  obtain ⟨xs, e⟩ := hi.allInts.items
  have hn : numsOf (intItems xs).toList = ns := by rw [← e]; exact hi.numsOf
  rw [nums_intItems] at hn
  rw [e] at hl
  refine sum_intTupG (I.ok.hd hc) hl fun h' tk t' hk => ?_
  rw [preSum_eq, List.take_of_length_le (by simp), hn]
  exact ⟨.int _, H, I.kept hk, ⟨_, rfl⟩, q⟩
theorem call_max3 (hc : X.calm = true) : CallR X (.builtin "max") (fun xs H Q => ∃ i j l, xs = [.int i, .int j, .int l] ∧ Q (.int (if l > (if j > i then j else i) then l else (if j > i then j else i))) H) := by
  intro pins s σ H xs us Q I r h
  obtain ⟨i, j, l, rfl, q⟩ := h
  refine call_max3Nu hc pins s σ H _ us Q I r ⟨.int i, .int j, .int l, _, rfl, ?_, q⟩
  have e : ∀ a b : Int, nuMax2 (.int a) (.int b) = some (.int (if b > a then b else a)) := fun a b => by
    show some (if decide (a < b) = true then V.int b else V.int a) = _
    by_cases c : a < b <;> simp [c]
  unfold nuMax3
  rw [e, Option.bind_some, e]
theorem call_min3 (hc : X.calm = true) : CallR X (.builtin "min") (fun xs H Q => ∃ i j l, xs = [.int i, .int j, .int l] ∧ Q (.int (if l < (if j < i then j else i) then l else (if j < i then j else i))) H) := by
  intro pins s σ H xs us Q I r h
  obtain ⟨i, j, l, rfl, q⟩ := h
  refine call_min3Nu hc pins s σ H _ us Q I r ⟨.int i, .int j, .int l, _, rfl, ?_, q⟩
  have e : ∀ a b : Int, nuMin2 (.int a) (.int b) = some (.int (if b < a then b else a)) := fun a b => by
    show some (if decide (b < a) = true then V.int b else V.int a) = _
    by_cases c : b < a <;> simp [c]
  unfold nuMin3
  rw [e, Option.bind_some, e]
theorem call_bi (hc : X.calm = true) : ∀ b, CallR X (biVal b) (rBi X.K b)
  | .len => CallR.or call_len_seq call_len_str
  | .sum => CallR.or (cr_sum hc) (call_sumT hc)
  | .max => CallR.or (cr_max hc) (CallR.or (call_max2 hc) (call_max3 hc))
  | .min => CallR.or (cr_min hc) (CallR.or (call_min2 hc) (call_min3 hc))
  | .abs => call_abs
  | .int => fun pins s σ H xs us Q I r h => by
    rcases h with h | h
    · exact call_int1 pins s σ H xs us Q I r h
    · exact call_int_str pins s σ H xs us Q I r h
  | .tuple => call_tuple_of
  | .all => cr_all hc
  | .any => cr_any hc
  | .divmod => call_divmodW
theorem divp {i j : Int} (h : DivOk j) : CDivP i j := ⟨h.1, PyProof.noPylong_of_log2 h.2⟩
theorem one_of {ts : List T} {vs : List V} {t : T} (r : Rps G m H [t] vs) : ∃ v, vs = [v] ∧ Rp G m H t v := by
  obtain ⟨v, r, e, h, q⟩ := r
  cases (show _ = _ from q)
  exact ⟨v, e, h⟩
theorem two_of {vs : List V} {t u : T} (r : Rps G m H [t, u] vs) : ∃ v w, vs = [v, w] ∧ Rp G m H t v ∧ Rp G m H u w := by
  obtain ⟨v, r, e, h, w, r2, e2, h2, q⟩ := r
  cases (show _ = _ from q)
  subst e2
  exact ⟨v, w, e, h, h2⟩
theorem three_of {vs : List V} {t u x : T} (r : Rps G m H [t, u, x] vs) : ∃ v w z, vs = [v, w, z] ∧ Rp G m H t v ∧ Rp G m H u w ∧ Rp G m H x z := by
  obtain ⟨v, r, e, h, w, r2, e2, h2, z, r3, e3, h3, q⟩ := r
  cases (show _ = _ from q)
  subst e3
  subst e2
  exact ⟨v, w, z, e, h, h2, h3⟩
theorem lstI {t : T} {v : V} {ns : List Int} (s : RSto G m H st) (r : Rp G m H t v) (e : (lstOf st t).bind intsOf = some ns) : ∃ a, v = .ref a ∧ SqL G.K H a (ns.map V.int) := by
  cases e1 : lstOf st t with
  | none => rw [e1] at e; cases e
  | some xs =>
    rw [e1] at e
    obtain ⟨a, vs, rfl, hs, rq⟩ := Rp.lst s r e1
    exact ⟨a, rfl, by rw [← rq.ints (show intsOf xs = some ns from e)]; exact hs⟩
theorem lstB {t : T} {v : V} {ns : List Bool} (s : RSto G m H st) (r : Rp G m H t v) (e : (lstOf st t).bind blsOf = some ns) : ∃ a, v = .ref a ∧ SqL G.K H a (ns.map V.bl) := by
  cases e1 : lstOf st t with
  | none => rw [e1] at e; cases e
  | some xs =>
    rw [e1] at e
    obtain ⟨a, vs, rfl, hs, rq⟩ := Rp.lst s r e1
    exact ⟨a, rfl, by rw [← rq.bls (show blsOf xs = some ns from e)]; exact hs⟩
theorem bi_ok {b : Bi} {ts : List T} {vs : List V} (rs : RS G m env st σ H) (r : Rps G m H ts vs) (q : Rn G W σ env (Rp G) m H (R.opt (biT st b ts) st) (Kq Q)) : rBi G.K b vs H Q := by
  have s := rs.sto
  unfold biT at q
  split at q
  · -- len of a text
    rename_i x
    obtain ⟨v, rfl, h⟩ := one_of (ts := []) r
    cases (show v = _ from h)
    obtain ⟨c, q⟩ := if_some q
    exact .inr ⟨x, rfl, lim_eq ▸ c, Rn.give (b := .int x.length) q rs rfl⟩
  · rename_i a _
    obtain ⟨v, rfl, h⟩ := one_of (ts := []) r
    cases e : seqOf st a with
    | none => rw [e] at q; exact q.elim
    | some xs =>
      rw [e] at q
      obtain ⟨p, ys, rfl, hs, rq⟩ := Rp.seq s h e
      have q := Rn.give (b := .int xs.length) q rs rfl
      rw [rq.length] at q
      exact .inl ⟨p, ys, rfl, hs, q⟩
  · rename_i a
    obtain ⟨v, rfl, h⟩ := one_of (ts := []) r
    cases e : (seqOf st a).bind intsOf with
    | none => rw [e] at q; exact q.elim
    | some ns =>
      rw [e] at q
      cases e1 : seqOf st a with
      | none => rw [e1] at e; cases e
      | some xs =>
        rw [e1] at e
        obtain ⟨p, ys, rfl, hs, rq⟩ := Rp.seq s h e1
        have ei := rq.ints (show intsOf xs = some ns from e)
        rcases hs with hs | hs
        · exact .inl ⟨p, ns, rfl, by rw [← ei]; exact hs, Rn.give (b := .int ns.sum) q rs rfl⟩
        · exact .inr ⟨p, ns, rfl, by rw [← ei]; exact hs, Rn.give (b := .int ns.sum) q rs rfl⟩
  · rename_i a
    obtain ⟨v, rfl, h⟩ := one_of (ts := []) r
    cases e : (lstOf st a).bind intsOf with
    | none => rw [e] at q; exact q.elim
    | some ns =>
      rw [e] at q
      have q : Rn G W σ env (Rp G) m H (R.opt (if ns = [] then none else some (T.int (maxI ns))) st) (Kq Q) := q
      by_cases hn : ns = []
      · rw [if_pos hn] at q; exact q.elim
      · rw [if_neg hn] at q
        obtain ⟨p, rfl, hs⟩ := lstI s h e
        obtain ⟨h1, h2⟩ := maxI_spec hn
        refine .inl ⟨p, ns, rfl, hs, List.length_pos_iff.mpr hn, fun k hk hm => ?_⟩
        have : k = maxI ns := Int.le_antisymm (h2 k hk) (hm _ h1)
        subst this
        exact Rn.give q rs rfl
  · rename_i a
    obtain ⟨v, rfl, h⟩ := one_of (ts := []) r
    cases e : (lstOf st a).bind intsOf with
    | none => rw [e] at q; exact q.elim
    | some ns =>
      rw [e] at q
      have q : Rn G W σ env (Rp G) m H (R.opt (if ns = [] then none else some (T.int (minI ns))) st) (Kq Q) := q
      by_cases hn : ns = []
      · rw [if_pos hn] at q; exact q.elim
      · rw [if_neg hn] at q
        obtain ⟨p, rfl, hs⟩ := lstI s h e
        obtain ⟨h1, h2⟩ := minI_spec hn
        refine .inl ⟨p, ns, rfl, hs, List.length_pos_iff.mpr hn, fun k hk hm => ?_⟩
        have : k = minI ns := Int.le_antisymm (hm _ h1) (h2 k hk)
        subst this
        exact Rn.give q rs rfl
  · rename_i i j
    obtain ⟨v, w, rfl, h1, h2⟩ := two_of r
    cases (show v = _ from h1); cases (show w = _ from h2)
    exact .inr (.inl ⟨i, j, rfl, Rn.give (b := .int (if j > i then j else i)) q rs rfl⟩)
  · rename_i i j
    obtain ⟨v, w, rfl, h1, h2⟩ := two_of r
    cases (show v = _ from h1); cases (show w = _ from h2)
    exact .inr (.inl ⟨i, j, rfl, Rn.give (b := .int (if j < i then j else i)) q rs rfl⟩)
  · rename_i i j l
    obtain ⟨v, w, z, rfl, h1, h2, h3⟩ := three_of r
    cases (show v = _ from h1); cases (show w = _ from h2); cases (show z = _ from h3)
    exact .inr (.inr ⟨i, j, l, rfl, Rn.give (b := .int (if l > (if j > i then j else i) then l else (if j > i then j else i))) q rs rfl⟩)
  · rename_i i j l
    obtain ⟨v, w, z, rfl, h1, h2, h3⟩ := three_of r
    cases (show v = _ from h1); cases (show w = _ from h2); cases (show z = _ from h3)
    exact .inr (.inr ⟨i, j, l, rfl, Rn.give (b := .int (if l < (if j < i then j else i) then l else (if j < i then j else i))) q rs rfl⟩)
  · rename_i i
    obtain ⟨v, rfl, h⟩ := one_of (ts := []) r
    cases (show v = _ from h)
    exact ⟨i, rfl, Rn.give (b := .int (if i < 0 then -i else i)) q rs rfl⟩
  · rename_i i
    obtain ⟨v, rfl, h⟩ := one_of (ts := []) r
    cases (show v = _ from h)
    exact .inl (.inl ⟨i, rfl, Rn.give (b := .int i) q rs rfl⟩)
  · rename_i k
    obtain ⟨v, rfl, h⟩ := one_of (ts := []) r
    cases (show v = _ from h)
    exact .inl (.inr ⟨k, rfl, Rn.give (b := .int (if k then 1 else 0)) q rs rfl⟩)
  · rename_i x
    obtain ⟨v, rfl, h⟩ := one_of (ts := []) r
    cases (show v = V.str x from h)
    cases e : PySem.intText? x with
    | none => rw [e] at q; exact q.elim
    | some n =>
      rw [e] at q
      obtain ⟨c, q⟩ := if_some (a := T.int n) q
      exact .inr ⟨x, n, rfl, e, c, Rn.give (b := .int n) q rs rfl⟩
  · rename_i xs
    obtain ⟨v, rfl, h⟩ := one_of (ts := []) r
    have h0 := h
    obtain ⟨p, vs, rfl, ⟨_, o, hp, _⟩, rq⟩ := h
    exact ⟨p, vs, rfl, .inr ⟨.inl (.inr ⟨o, hp⟩), Rn.give q rs h0⟩⟩
  · rename_i a hna
    obtain ⟨v, rfl, h⟩ := one_of (ts := []) r
    cases e : seqOf st a with
    | none => rw [e] at q; exact q.elim
    | some xs =>
      rw [e] at q
      have q : Rn G W σ env (Rp G) m H (.ok (.tup xs) st) (Kq Q) := q
      by_cases c : ∃ ys, a = .tup ys
      · obtain ⟨ys, rfl⟩ := c
        cases (show some ys = some xs from e)
        obtain ⟨p, vs, rfl, hp, rq⟩ := h
        exact ⟨p, vs, rfl, .inr ⟨.inl (.inl hp.2), Rn.give q rs ⟨p, vs, rfl, hp, rq⟩⟩⟩
      · have e' : lstOf st a = some xs := by
          cases a with
          | tup ys => exact (c ⟨ys, rfl⟩).elim
          | ptp ys => exact (hna ys rfl).elim
          | _ => exact e
        obtain ⟨p, vs, rfl, hs, rq⟩ := Rp.lst s h e'
        exact ⟨p, vs, rfl, .inl ⟨hs, fun l hl => Rn.tup q rs rq hl⟩⟩
  · rename_i a
    obtain ⟨v, rfl, h⟩ := one_of (ts := []) r
    cases e : (lstOf st a).bind blsOf with
    | none => rw [e] at q; exact q.elim
    | some ns =>
      rw [e] at q
      obtain ⟨p, rfl, hs⟩ := lstB s h e
      exact ⟨p, ns, rfl, hs, Rn.give (b := .bl (ns.all id)) q rs rfl⟩
  · rename_i a
    obtain ⟨v, rfl, h⟩ := one_of (ts := []) r
    cases e : (lstOf st a).bind blsOf with
    | none => rw [e] at q; exact q.elim
    | some ns =>
      rw [e] at q
      obtain ⟨p, rfl, hs⟩ := lstB s h e
      exact ⟨p, ns, rfl, hs, Rn.give (b := .bl (ns.any id)) q rs rfl⟩
  · rename_i i j
    obtain ⟨v, w, rfl, h1, h2⟩ := two_of r
    cases (show v = _ from h1); cases (show w = _ from h2)
    obtain ⟨c, q⟩ := if_some q
    exact ⟨i, j, rfl, divp c, fun p hp => Rn.tup q rs ⟨_, _, rfl, rfl, _, _, rfl, rfl, rfl⟩ hp⟩
  · exact q.elim
theorem bi_boot : ∀ b, bootBuiltins (biName b) = some (biVal b)
  | .len => by decide +kernel | .sum => by decide +kernel | .max => by decide +kernel | .min => by decide +kernel | .abs => by decide +kernel | .int => by decide +kernel
  | .tuple => by decide +kernel | .all => by decide +kernel | .any => by decide +kernel | .divmod => by decide +kernel
theorem bi_nm : ∀ b, biName b ≠ "__name__"
  | .len => by decide | .sum => by decide | .max => by decide | .min => by decide | .abs => by decide | .int => by decide | .tuple => by decide | .all => by decide | .any => by decide | .divmod => by decide
theorem bi_db : ∀ b, (biName b == ("__debug__" : Str)) = false
  | .len => by decide | .sum => by decide | .max => by decide | .min => by decide | .abs => by decide | .int => by decide | .tuple => by decide | .all => by decide | .any => by decide | .divmod => by decide
theorem pl_of {e : Expr} {pos : Pos} (hpl : (starEach es X.env).all (fun x => !x.1) = true) : (backTo pos (starEach es X.env)).any (·.1) = false := by
  unfold backTo
  rw [List.any_map]
  rw [List.any_eq_false]
  intro x hx
  have := List.all_eq_true.mp hpl x hx
  simpa using this
theorem s_bi {b : Bi} {e : Expr} {p : Pos} (hK : X.K = G.K) (hc : X.calm = true) (hg : Gl X (biName b)) (hm : X.mg (biName b) = none) (ha : PA X (e :: es) (tA G W fs))
    (he : starEach (e :: es) X.env = (false, eval e X.env) :: starEach es X.env) (hpl : (starEach es X.env).all (fun x => !x.1) = true) :
    PE X (.Call (.Name (biName b) p) (e :: es) [] pos) (tE G W fun env st => (fs env st).bnd fun xs st1 => R.opt (biT st1 b xs) st1) := by
  have go : ∀ σ H Q, tE G W (fun env st => (fs env st).bnd fun xs st1 => R.opt (biT st1 b xs) st1) σ H Q → tCB (rBi X.K b) (tA G W fs) σ H Q := fun σ H Q h => by
    refine atA h fun m env st ts vs H1 rs r q => ?_
    rw [hK]
    exact bi_ok rs r q
  have hn := bi_nm b
  have hd := bi_db b
  have hv := bi_boot b
  have hp := pl_of (e := e) (pos := pos) hpl
  cases b with
  | int => exact PE.imp (pe_callTy (call_bi hc .int) hg hm hv ha hn hd he hp) go
  | tuple => exact PE.imp (pe_callTy (call_bi hc .tuple) hg hm hv ha hn hd he hp) go
  | len => exact PE.imp (pe_callB (call_bi hc .len) hg hm hv ha hn hd he hp) go
  | sum => exact PE.imp (pe_callB (call_bi hc .sum) hg hm hv ha hn hd he hp) go
  | max => exact PE.imp (pe_callB (call_bi hc .max) hg hm hv ha hn hd he hp) go
  | min => exact PE.imp (pe_callB (call_bi hc .min) hg hm hv ha hn hd he hp) go
  | abs => exact PE.imp (pe_callB (call_bi hc .abs) hg hm hv ha hn hd he hp) go
  | all => exact PE.imp (pe_callB (call_bi hc .all) hg hm hv ha hn hd he hp) go
  | any => exact PE.imp (pe_callB (call_bi hc .any) hg hm hv ha hn hd he hp) go
  | divmod => exact PE.imp (pe_callB (call_bi hc .divmod) hg hm hv ha hn hd he hp) go
end
end Eg
set_option Elab.async false
set_option linter.all false
set_option maxRecDepth 100000
set_option maxHeartbeats 2000000
namespace Eg
open PySem PySem.Spec PyProof.Rows L2
inductive Sk where
  | l | t
def sAt (K : PySem.W.Frag) : Sk → Hp → Addr → List V → Prop
  | .l, H, a, xs => SqL K H a xs
  | .t, H, a, xs => SqT K H a xs
def sIt : Sk → Heap → Addr → Addr → Nat → Prop
  | .l, h, it, a, i => h.IsListIter it a i
  | .t, h, it, a, i => h.IsTupleIter it a i
def sIs : Sk → Heap → Addr → Array Value → Prop
  | .l, h, a, xs => h.IsList a xs
  | .t, h, a, xs => h.IsTuple a xs
def sOb (a : Addr) : Sk → Obj
  | .l => { cls := .type "list_iterator", data := .fields #[.ref a, .int 0 0] }
  | .t => { cls := .type "tuple_iterator", data := .fields #[.ref a, .int 0 0] }
section
variable {X : Cx} {pins : List (Addr × Obj)} {σ : L2.St} {H : Hp} {s : Shared} {a b it : Addr} {xs ys : List V} {h h' : Heap} {i : Nat}
theorem src_vals {k : Sk} (I : Inv X pins σ H s) (hs : sAt X.K k H a xs) : ∃ its : List Value, Vals xs its ∧ sIs k s.heap a its.toArray := by
  cases k with
  | l => obtain ⟨its, r, p, _⟩ := I.list hs; exact ⟨its, r, p.isList⟩
  | t => obtain ⟨its, r, p, _⟩ := I.tuple hs; exact ⟨its, r, p⟩
theorem src_inj {k : Sk} (I : Inv X pins σ H s) (h1 : sAt X.K k H a xs) (h2 : sAt X.K k H a ys) : xs = ys := by
  cases k with
  | l => exact I.list_inj h1 h2
  | t => exact I.tuple_inj h1 h2
theorem sIt_keep {k : Sk} (x : sIt k h it a i) (hk : ∀ o, h.get? it = some o → h'.get? it = some o) : sIt k h' it a i := by
  cases k with
  | l => exact Heap.IsListIter.at x hk
  | t => exact Heap.IsTupleIter.at x hk
theorem sIt_obj {k : Sk} (x : sIt k h it a i) : ∃ o, h.get? it = some o ∧ ∀ v, o.data ≠ .cell v := by
  cases k with
  | l => obtain ⟨o, e, _, d⟩ := x; exact ⟨o, e, fun v q => by rw [d] at q; cases q⟩
  | t => obtain ⟨o, e, _, d⟩ := x; exact ⟨o, e, fun v q => by rw [d] at q; cases q⟩
theorem src_ob {k : Sk} {its : Array Value} {o : Obj} {n : String} (hs : sIs k h a its) (e : h.get? a = some o) (hc : o.cls = .type n) (hl : n ≠ "list") (ht : n ≠ "tuple") : False := by
  cases k with
  | l =>
    obtain ⟨o1, e1, c1, _⟩ := hs
    rw [e] at e1; cases e1
    rw [c1] at hc
    exact hl (Value.type.inj hc).symm
  | t =>
    obtain ⟨o1, e1, c1, _⟩ := hs
    rw [e] at e1; cases e1
    rw [c1] at hc
    exact ht (Value.type.inj hc).symm
theorem src_ne {k k' : Sk} {its : Array Value} (hs : sIs k h a its) (hi : sIt k' h it b i) : a ≠ it := fun z => by
  subst z
  cases k' with
  | l =>
    obtain ⟨o2, e2, c2, _⟩ := hi
    exact src_ob hs e2 c2 (by decide) (by decide)
  | t =>
    obtain ⟨o2, e2, c2, _⟩ := hi
    exact src_ob hs e2 c2 (by decide) (by decide)
theorem src_draws {prog : Program} {w : World} {A : Around} {k : Sk} (hh : A.handled = none) (hne : a ≠ it) (its : Array Value) :
    Draws prog w A it [it, a] its.size (fun i v => its[i]? = some v) (fun i h => sIt k h it a i ∧ sIs k h a its) := by
  cases k with
  | l => exact Draws.list hh it a hne its
  | t => exact Draws.tuple hh it a hne its
theorem src_begins (k : Sk) (a : Addr) (its : Array Value) : Begins (.ref a) (sOb a k) fun h => sIs k h a its := by
  cases k with
  | l => exact begins_list a its
  | t => exact begins_tuple a its
theorem src_begun {k : Sk} (e : h.get? it = some (sOb a k)) : sIt k h it a 0 := by
  cases k with
  | l => exact ⟨_, e, rfl, rfl⟩
  | t => exact ⟨_, e, rfl, rfl⟩
end
def Iten (K : PySem.W.Frag) (k : Sk) (a : Addr) : It :=
  ⟨fun i H => ∃ xs x, sAt K k H a xs ∧ xs[i]? = some x, fun i H v H' => ∃ T x, v = .ref T ∧ H T = none ∧ H' = upd H T (.tup [.int (i : Nat), x]) ∧ ∀ xs, sAt K k H a xs → xs[i]? = some x, fun i H => ∃ xs, sAt K k H a xs ∧ xs.length = i⟩
def Itpr (K : PySem.W.Frag) (k1 k2 : Sk) (a b : Addr) : It :=
  ⟨fun i H => ∃ xs ys x y, sAt K k1 H a xs ∧ sAt K k2 H b ys ∧ xs[i]? = some x ∧ ys[i]? = some y,
    fun i H v H' => ∃ T x y, v = .ref T ∧ H T = none ∧ H' = upd H T (.tup [x, y]) ∧ (∀ xs, sAt K k1 H a xs → xs[i]? = some x) ∧ ∀ ys, sAt K k2 H b ys → ys[i]? = some y,
    fun i H => ∃ xs ys, sAt K k1 H a xs ∧ sAt K k2 H b ys ∧ min xs.length ys.length = i⟩
section
variable {P : Program} {w : World} {K : PySem.W.Frag} {elts : List Expr} {kk : Nat} {tpos : Pos}
theorem turn_en (k : Sk) (a e it : Addr) : Turn P w K (.Tuple elts kk tpos) (Iten K k a) [e, it] e (fun i h => (∃ old, IsEnum h e it (0 + (i : Int)) old) ∧ sIt k h it a i ∧ e ≠ it) where
  mem := by simp
  obj := fun i h st b hb => by
    obtain ⟨⟨old, he⟩, hit, _⟩ := st
    simp only [List.mem_cons, List.not_mem_nil, or_false] at hb
    rcases hb with z | z
    · subst z; exact ⟨_, he, fun v q => nomatch q⟩
    · subst z; exact sIt_obj hit
  keep := fun i h h' st kp => ⟨⟨st.1.choose, kp e (by simp) _ st.1.choose_spec⟩, sIt_keep st.2.1 fun o q => kp it (by simp) o q, st.2.2⟩
  item := by
    intro X hP hw hK hc i pins s σ H E I hf st hg
    subst hP hw hK
    obtain ⟨hen, hit, hne⟩ := st
    obtain ⟨xs, x, hq, hx⟩ := hg
    obtain ⟨its, rv, hs⟩ := src_vals I hq
    obtain ⟨u, hu, ru⟩ := rv.get hx
    have hai : a ≠ it ∧ a ≠ e := ⟨src_ne hs hit, fun z => by obtain ⟨old, he⟩ := hen; subst z; exact src_ob hs he rfl (by decide) (by decide)⟩
    have D := src_draws (prog := X.prog) (w := X.w) (A := X.A.in1) (k := k) (I.ok.hd hc) hai.1 its.toArray
    have W := GoesN.enumFrom (elts := elts) (x1 := kk) (pos := tpos) 0 D e hne (by simp [hne, Ne.symm hai.2]) (by simp)
    have hlt : i < its.toArray.size := by
      have := (List.getElem?_eq_some_iff.mp hu).1
      simpa using this
    refine W.goes i s _ E hlt ⟨hen, hit, hs⟩ fun v h' tk hy hst hk htk => ?_
    obtain ⟨T, t, y, rfl, hT, hy, hIs⟩ := hy
    have hy' : its[i]? = some y := by simpa using hy
    rw [hu] at hy'
    cases hy'
    have new : ObjOk X.prog X.w (upd H T (.tup [.int (i : Nat), x])) h' T (.tup [.int (i : Nat), x]) := by
      refine ⟨by show 2 ≤ sizeLine; decide, [.int (i : Nat) t, u], .cons ⟨_, rfl⟩ (.cons ru .nil), ?_⟩
      have e0 : (0 : Int) + (i : Int) = ((i : Nat) : Int) := by omega
      rw [e0] at hIs
      exact hIs
    have I1 := I.turnedNew (t' := tk) (ch := [e, it]) hk hf hT new
    refine ⟨.ref T, _, I1, rfl, ⟨T, x, rfl, I.hok.fresh hT, rfl, fun ys hy => by rw [src_inj I hy hq]; exact hx⟩, ?_, fun b hb => ?_⟩
    · obtain ⟨⟨old, h1⟩, h2, _⟩ := hst
      exact ⟨⟨old, h1⟩, h2, hne⟩
    · have hb' : b < s.heap.objs.size := by
        simp only [List.mem_cons, List.not_mem_nil, or_false] at hb
        rcases hb with z | z
        · subst z; obtain ⟨old, he⟩ := hen; exact Heap.lt_size he
        · subst z; obtain ⟨o, q, _⟩ := sIt_obj hit; exact Heap.lt_size q
      rw [upd_ne (Nat.ne_of_lt (Nat.lt_of_lt_of_le hb' hT))]
      exact (hf b hb).1
  done := by
    intro X hP hw hK hc i pins s σ H E I hf st hg
    subst hP hw hK
    obtain ⟨hen, hit, hne⟩ := st
    obtain ⟨xs, hq, hx⟩ := hg
    obtain ⟨its, rv, hs⟩ := src_vals I hq
    have hai : a ≠ it ∧ a ≠ e := ⟨src_ne hs hit, fun z => by obtain ⟨old, he⟩ := hen; subst z; exact src_ob hs he rfl (by decide) (by decide)⟩
    have D := src_draws (prog := X.prog) (w := X.w) (A := X.A.in1) (k := k) (I.ok.hd hc) hai.1 its.toArray
    have W := GoesN.enumFrom (elts := elts) (x1 := kk) (pos := tpos) 0 D e hne (by simp [hne, Ne.symm hai.2]) (by simp)
    have hn : i = its.toArray.size := by
      have := rv.length
      simp only [List.size_toArray]
      omega
    subst hn
    exact W.stops s _ E ⟨hen, hit, hs⟩ fun h' tk hk htk => I.turnedL (t' := tk) (ch := [e, it]) hk hf
  self := fun A i s Q E st h => by
    obtain ⟨⟨old, he⟩, _, _⟩ := st
    exact wpAny_pyIter_enum he h
theorem turn_pr (k1 k2 : Sk) {a b z TI TO i1 i2 : Addr} (S : ZipSep2 z TI TO i1 i2 [i1, a] [i2, b]) :
    Turn P w K (.Tuple elts kk tpos) (Itpr K k1 k2 a b) [z, TI, TO, i1, i2] z (fun i h => IsZip h z TI TO .none ∧ IsTupOf2 h TI (.ref i1) (.ref i2) ∧ (∃ x y, IsTupOf2 h TO x y) ∧ sIt k1 h i1 a i ∧ sIt k2 h i2 b i) where
  mem := by simp
  obj := fun i h st c hb => by
    obtain ⟨h1, h2, ⟨x, y, h3⟩, h4, h5⟩ := st
    simp only [List.mem_cons, List.not_mem_nil, or_false] at hb
    rcases hb with q | q | q | q | q
    · subst q; exact ⟨_, h1, fun v q => nomatch q⟩
    · subst q; exact ⟨_, h2, fun v q => nomatch q⟩
    · subst q; exact ⟨_, h3, fun v q => nomatch q⟩
    · subst q; exact sIt_obj h4
    · subst q; exact sIt_obj h5
  keep := fun i h h' st kp => by
    obtain ⟨h1, h2, ⟨x, y, h3⟩, h4, h5⟩ := st
    exact ⟨kp z (by simp) _ h1, kp TI (by simp) _ h2, ⟨x, y, kp TO (by simp) _ h3⟩, sIt_keep h4 fun o q => kp i1 (by simp) o q, sIt_keep h5 fun o q => kp i2 (by simp) o q⟩
  item := by
    intro X hP hw hK hc i pins s σ H E I hf st hg
    subst hP hw hK
    have st' := st
    obtain ⟨h1, h2, ⟨x0, y0, h3⟩, h4, h5⟩ := st'
    obtain ⟨xs, ys, x, y, hq, hq2, hx, hy⟩ := hg
    obtain ⟨its, rv, hs⟩ := src_vals I hq
    obtain ⟨its2, rv2, hs2⟩ := src_vals I hq2
    obtain ⟨u, hu, ru⟩ := rv.get hx
    obtain ⟨u2, hu2, ru2⟩ := rv2.get hy
    have D := src_draws (prog := X.prog) (w := X.w) (A := X.A.in1) (k := k1) (I.ok.hd hc) (src_ne hs h4) its.toArray
    have D2 := src_draws (prog := X.prog) (w := X.w) (A := X.A.in1) (k := k2) (I.ok.hd hc) (src_ne hs2 h5) its2.toArray
    have W := GoesN.zip2 (elts := elts) (x1 := kk) (pos := tpos) S D D2
    have hlt : i < min its.toArray.size its2.toArray.size := by
      have := (List.getElem?_eq_some_iff.mp hu).1
      have := (List.getElem?_eq_some_iff.mp hu2).1
      simp only [List.size_toArray]
      omega
    refine W.goes i s _ E hlt ⟨h1, h2, ⟨x0, y0, h3⟩, ⟨h4, hs⟩, ⟨h5, hs2⟩⟩ fun v h' tk hyy hst hk htk => ?_
    obtain ⟨T, p, q, rfl, hT, hp1, hp2, hIs⟩ := hyy
    have e1 : its[i]? = some p := by simpa using hp1
    have e2 : its2[i]? = some q := by simpa using hp2
    rw [hu] at e1; cases e1
    rw [hu2] at e2; cases e2
    have new : ObjOk X.prog X.w (upd H T (.tup [x, y])) h' T (.tup [x, y]) := ⟨by show 2 ≤ sizeLine; decide, [u, u2], .cons ru (.cons ru2 .nil), hIs⟩
    have hf' : ∀ c ∈ [z, TO, i1, i2], FpOk X pins H c := fun c hc => hf c (by
      simp only [List.mem_cons, List.not_mem_nil, or_false] at hc ⊢
      rcases hc with q | q | q | q
      · exact .inl q
      · exact .inr (.inr (.inl q))
      · exact .inr (.inr (.inr (.inl q)))
      · exact .inr (.inr (.inr (.inr q))))
    have I1 := I.turnedNew (t' := tk) (ch := [z, TO, i1, i2]) hk hf' hT new
    refine ⟨.ref T, _, I1, rfl, ⟨T, x, y, rfl, I.hok.fresh hT, rfl, fun ys hy => by rw [src_inj I hy hq]; exact hx, fun ys hy' => by rw [src_inj I hy' hq2]; exact hy⟩, ?_, fun c hb => ?_⟩
    · obtain ⟨g1, g2, g3, g4, g5⟩ := hst
      exact ⟨g1, g2, g3, g4.1, g5.1⟩
    · have hb' : c < s.heap.objs.size := by
        simp only [List.mem_cons, List.not_mem_nil, or_false] at hb
        rcases hb with q | q | q | q | q
        · subst q; exact Heap.lt_size h1
        · subst q; exact Heap.lt_size h2
        · subst q; exact Heap.lt_size h3
        · subst q; obtain ⟨o, q, _⟩ := sIt_obj h4; exact Heap.lt_size q
        · subst q; obtain ⟨o, q, _⟩ := sIt_obj h5; exact Heap.lt_size q
      rw [upd_ne (Nat.ne_of_lt (Nat.lt_of_lt_of_le hb' hT))]
      exact (hf c hb).1
  done := by
    intro X hP hw hK hc i pins s σ H E I hf st hg
    subst hP hw hK
    obtain ⟨h1, h2, h3, h4, h5⟩ := st
    obtain ⟨xs, ys, hq, hq2, hx⟩ := hg
    obtain ⟨its, rv, hs⟩ := src_vals I hq
    obtain ⟨its2, rv2, hs2⟩ := src_vals I hq2
    have D := src_draws (prog := X.prog) (w := X.w) (A := X.A.in1) (k := k1) (I.ok.hd hc) (src_ne hs h4) its.toArray
    have D2 := src_draws (prog := X.prog) (w := X.w) (A := X.A.in1) (k := k2) (I.ok.hd hc) (src_ne hs2 h5) its2.toArray
    have W := GoesN.zip2 (elts := elts) (x1 := kk) (pos := tpos) S D D2
    have hn : i = min its.toArray.size its2.toArray.size := by
      have := rv.length
      have := rv2.length
      simp only [List.size_toArray]
      omega
    subst hn
    have hf' : ∀ c ∈ [z, TO, i1, i2], FpOk X pins H c := fun c hc => hf c (by
      simp only [List.mem_cons, List.not_mem_nil, or_false] at hc ⊢
      rcases hc with q | q | q | q
      · exact .inl q
      · exact .inr (.inr (.inl q))
      · exact .inr (.inr (.inr (.inl q)))
      · exact .inr (.inr (.inr (.inr q))))
    exact W.stops s _ E ⟨h1, h2, h3, ⟨h4, hs⟩, ⟨h5, hs2⟩⟩ fun h' tk hk htk => I.turnedL (t' := tk) (ch := [z, TO, i1, i2]) hk hf'
  self := fun A i s Q E st h => wpAny_pyIter_zip st.1 h
end
section
variable {X : Cx} {tg e e2 : Expr} {te : TE} {ta : TA}
def iSeq (K : PySem.W.Frag) (te : TE) : TI := fun σ H R => te σ H fun x H1 => (∃ a xs, x = .ref a ∧ SqL K H1 a xs ∧ R (Itl K a) H1) ∨ (∃ a xs, x = .ref a ∧ SqT K H1 a xs ∧ R (Itt K a) H1) ∨ ∃ y, x = .str y ∧ R (Its y) H1
theorem pi_seq (he : PE X e te) : PI X tg e (iSeq X.K te) := by
  refine ⟨fun pins s σ H R I h => ?_⟩
  refine thn (he.run pins s σ H _ I h) fun v s1 ⟨x, H1, I1, r1, q⟩ => ?_
  rcases q with ⟨a, xs, rfl, hs, q⟩ | ⟨a, xs, rfl, hs, q⟩ | ⟨y, rfl, q⟩
  · cases r1
    obtain ⟨its, rv, p, _⟩ := I1.list hs
    exact wpAny_pyIter_list p.isList (pi_one (tk := s1.toks) I1 _ (turn_list a _) ⟨_, Heap.get?_push_size _ rfl, rfl, rfl⟩ q)
  · cases r1
    obtain ⟨its, rv, p, _⟩ := I1.tuple hs
    exact wpAny_pyIter_tuple p (pi_one (tk := s1.toks) I1 _ (turn_tuple a _) ⟨_, Heap.get?_push_size _ rfl, rfl, rfl⟩ q)
  · obtain ⟨t, rfl⟩ := r1
    cases ha : y.cps.all (· < 128) with
    | false => exact wpAny_pyIter_wide ha (pi_one (tk := s1.toks) I1 _ (turn_str _ y t _ (.inr rfl)) ⟨_, Heap.get?_push_size _ rfl, rfl, rfl⟩ q)
    | true => exact wpAny_pyIter_ascii ha (pi_one (tk := s1.toks) I1 _ (turn_str _ y t _ (.inl rfl)) ⟨_, Heap.get?_push_size _ rfl, rfl, rfl⟩ q)
theorem fp_new {pins : List (Addr × Obj)} {σ : L2.St} {H : Hp} {s s' : Shared} (I : Inv X pins σ H s) (I' : Inv X pins σ H s') {b : Addr} (h : s.heap.objs.size ≤ b) : FpOk X pins H b :=
  I.fpOk h (I.hok.fresh h)
section
open PySem.AutoSeq1 (wpAny_loadPart')
set_option maxHeartbeats 2000000 in
theorem en_new {v : Value} {o : Obj} {Hv : Heap → Prop} (Bg : Begins v o Hv) :
    Meets (Builtin.«enumerate.__new__» ⟨[.type "enumerate", v], []⟩) (fun _ Rq s0 => Hv s0.heap ∧
      Rq (.ok (.ret (.ref (s0.heap.push o).objs.size))) { s0 with heap := (s0.heap.push o).push { cls := .type "enumerate", data := .fields #[.none, .bool false, .ref s0.heap.objs.size, rawInt 0, .none, .none] } }) :=
  .of_wp fun prog w A Rq s0 hh => by
    obtain ⟨hp, gn, dr, tks, os⟩ := s0
    obtain ⟨hv, hh⟩ := hh
    have hse := sub_enumerate
    have go : ∀ {A' : Around} {E' : Value → Shared → Prop} {Q' : Value → Shared → Prop}, Q' (.ref hp.objs.size) ⟨hp.push o, gn, dr, tks, os⟩ → wpAny (model prog w) A' (pyIter v) Q' E' ⟨hp, gn, dr, tks, os⟩ :=
      fun q' => Bg.iter prog w _ _ ⟨hp, gn, dr, tks, os⟩ _ hv q'
    wp_walk using go
    refine wpAny_stack_any fun stk => wpAny_pure ?_
    split
    · rename_i cc _ _ _ _ _
      cases (cc == Value.type "enumerate") <;> (wp_walk using go) <;> exact ⟨_, rfl, hh⟩
    · wp_walk using go
      exact ⟨_, rfl, hh⟩
theorem call_en {prog : Program} {w : World} {A : Around} {E : Value → Shared → Prop} {s : Shared} {v : Value} {o : Obj} {Hv : Heap → Prop} {Q : Value → Shared → Prop} (Bg : Begins v o Hv) (hv : Hv s.heap)
    (q : ∀ h', IsEnum h' (s.heap.objs.size + 1) s.heap.objs.size 0 .none → h'.get? s.heap.objs.size = some o → (∀ c u, s.heap.get? c = some u → h'.get? c = some u) → Q (.ref (s.heap.objs.size + 1)) { s with heap := h' }) :
    wpAny (model prog w) A (call (.type "enumerate") [v]) Q E s := by
  refine callType_new F.called_enumerate (by decide) (F.typeCall_enumerate_1 _) (F.newCall_enumerate_1 _) (fun ob => F.args_object_init_2 ob _) F.entry_enumerate_new (en_new Bg) ⟨hv, ?_⟩
  have sz : (s.heap.push o).objs.size = s.heap.objs.size + 1 := Heap.size_push ..
  show _ ∧ _
  rw [sz]
  have e1 : IsEnum ((s.heap.push o).push { cls := .type "enumerate", data := .fields #[.none, .bool false, .ref s.heap.objs.size, rawInt 0, .none, .none] }) (s.heap.objs.size + 1) s.heap.objs.size 0 .none := by
    have z := Heap.get?_push_size (s.heap.push o) (o := { cls := .type "enumerate", data := .fields #[.none, .bool false, .ref s.heap.objs.size, rawInt 0, .none, .none] }) rfl
    rw [sz] at z
    exact z
  exact ⟨⟨_, e1, rfl⟩, q _ e1 (Heap.get?_push_of_some _ (Heap.get?_push_size _ Bg.free)) fun c u x => Heap.get?_push_of_some _ (Heap.get?_push_of_some _ x)⟩
end
theorem src_lt {k : Sk} {h : Heap} {a : Addr} {its : Array Value} (hs : sIs k h a its) : a < h.objs.size := by
  cases k with
  | l => obtain ⟨o, e, _⟩ := hs; exact Heap.lt_size e
  | t => obtain ⟨o, e, _⟩ := hs; exact Heap.lt_size e
def iEn (K : PySem.W.Frag) (ta : TA) : TI := fun σ H R => ta σ H fun vs H1 => ∃ k a xs, vs = [.ref a] ∧ sAt K k H1 a xs ∧ R (Iten K k a) H1
theorem pi_en {p pos tpos : Pos} {elts : List Expr} {kk : Nat} (hg : Gl X "enumerate") (hm : X.mg "enumerate" = none) (ha : PA X [e] ta) (hs : starEach [e] X.env = [(false, eval e X.env)]) :
    PI X (.Tuple elts kk tpos) (.Call (.Name "enumerate" p) [e] [] pos) (iEn X.K ta) := by
  refine ⟨fun pins s σ H R I h => ?_⟩
  refine Call_ (ld_blt I hg hm boot_enumerate (PyProof.Rows.callWith_type1 (thn (ha.run pos pins s σ H _ I h) fun us s1 ⟨vs, H1, I1, r1, q1⟩ => ?_) hs rfl))
  obtain ⟨k, a, xs, rfl, hq, q⟩ := q1
  cases r1 with
  | cons r rr =>
    cases rr
    cases r
    obtain ⟨its, rv, hsr⟩ := src_vals I1 hq
    refine call_en (src_begins k a its.toArray) hsr fun h' he hb hk => wpAny_pyIter_enum he ?_
    have I2 : Inv X pins σ H1 { s1 with heap := h' } := I1.kept (t' := s1.toks) hk
    have he0 : IsEnum h' (s1.heap.objs.size + 1) s1.heap.objs.size (0 + ((0 : Nat) : Int)) .none := by
      have z : (0 : Int) + ((0 : Nat) : Int) = 0 := by omega
      rw [z]
      exact he
    refine ⟨s1.heap.objs.size + 1, [s1.heap.objs.size + 1, s1.heap.objs.size], _, _, H1, rfl, I2, turn_en k a (s1.heap.objs.size + 1) s1.heap.objs.size, ⟨⟨.none, he0⟩, src_begun hb, Nat.succ_ne_self _⟩, fun b hb => ?_, q⟩
    simp only [List.mem_cons, List.not_mem_nil, or_false] at hb
    rcases hb with z | z
    · subst z; exact fp_new I1 I1 (Nat.le_succ _)
    · subst z; exact fp_new I1 I1 (Nat.le_refl _)
def iPr (K : PySem.W.Frag) (ta : TA) : TI := fun σ H R => ta σ H fun vs H1 => ∃ k1 k2 a b xs ys, vs = [.ref a, .ref b] ∧ sAt K k1 H1 a xs ∧ sAt K k2 H1 b ys ∧ R (Itpr K k1 k2 a b) H1
theorem pi_pr {p pos tpos : Pos} {elts : List Expr} {kk : Nat} (hg : Gl X "zip") (hm : X.mg "zip" = none) (ha : PA X [e, e2] ta)
    (hs : starEach [e, e2] X.env = (false, eval e X.env) :: starEach [e2] X.env) (hpl : (backTo pos (starEach [e2] X.env)).any (·.1) = false) :
    PI X (.Tuple elts kk tpos) (.Call (.Name "zip" p) [e, e2] [] pos) (iPr X.K ta) := by
  refine ⟨fun pins s σ H R I h => ?_⟩
  refine Call_ (ld_blt I hg hm PyProof.Rows.boot_zip (PyProof.Rows.callWith_type1 (thn (ha.run pos pins s σ H _ I h) fun us s1 ⟨vs, H1, I1, r1, q1⟩ => ?_) hs hpl))
  obtain ⟨k1, k2, a, b, xs, ys, rfl, hq, hq2, q⟩ := q1
  cases r1 with
  | cons r rr =>
    cases rr with
    | cons r' rr =>
      cases rr
      cases r
      cases r'
      obtain ⟨its, rv, hsr⟩ := src_vals I1 hq
      obtain ⟨its2, rv2, hsr2⟩ := src_vals I1 hq2
      refine zip_begins2 (src_begins k1 a its.toArray) (src_begins k2 b its2.toArray) hsr hsr2 fun h' hz hT hO h1 h2 hsz hk => wpAny_pyIter_zip hz ?_
      have I2 : Inv X pins σ H1 { s1 with heap := h' } := I1.kept (t' := s1.toks) hk
      have S := zip_sep2 (N := s1.heap.objs.size) (fp1 := [a]) (fp2 := [b]) (fun c hc => by simp only [List.mem_singleton] at hc; subst hc; exact src_lt hsr) (fun c hc => by simp only [List.mem_singleton] at hc; subst hc; exact src_lt hsr2)
      refine ⟨s1.heap.objs.size + 4, [s1.heap.objs.size + 4, s1.heap.objs.size + 2, s1.heap.objs.size + 3, s1.heap.objs.size, s1.heap.objs.size + 1], _, _, H1, rfl, I2, turn_pr k1 k2 S, ⟨hz, hT, ⟨_, _, hO⟩, src_begun h1, src_begun h2⟩, fun c hb => fp_new I1 I1 ?_, q⟩
      simp only [List.mem_cons, List.not_mem_nil, or_false] at hb
      rcases hb with z | z | z | z | z
      · subst z; exact Nat.le_add_right _ _
      · subst z; exact Nat.le_add_right _ _
      · subst z; exact Nat.le_add_right _ _
      · subst z; exact Nat.le_refl _
      · subst z; exact Nat.le_add_right _ _
end
end Eg
set_option Elab.async false
set_option linter.all false
set_option maxRecDepth 100000
set_option maxHeartbeats 2000000
namespace Eg
open PySem PySem.Spec PyProof.Rows L2
section
variable {G : Gh} {m m1 m' : Mm} {H H1 H' H'' : Hp} {st st' : Sto} {σ σ' : L2.St} {env env' : Env} {a b p : Addr} {o : HO} {W : WX}
theorem Mov.trans (x : Mov m H m1 H1) (y : Mov m1 H1 m' H') : Mov m H m' H' := by
  have back : ∀ a, H1 a = none → a ∈ m.as ∨ H a = none := fun a z => by
    by_cases hm : a ∈ m.as
    · exact .inl hm
    · exact .inr (Decidable.byContradiction fun e => x.stay a hm e z)
  have out : ∀ a, a ∉ m.as → H a ≠ none → a ∉ m1.as := fun a hn h q => by
    rcases x.newA a q with z | z
    · exact hn z
    · exact h z
  refine ⟨fun a o h hT hn => y.keep a o (x.keep a o h hT hn) hT (out a hn (by rw [h]; simp)), fun a hn h => y.stay a (out a hn h) (x.stay a hn h), fun a h => ?_, fun a h => ?_, ?_⟩
  · rcases y.newA a h with z | z
    · exact x.newA a z
    · exact back a z
  · rcases y.newF a h with z | z
    · rcases x.w z with q | q
      · exact .inl q
      · exact .inr q
    · rcases back a z with q | q
      · exact .inl (.inl q)
      · exact .inr q
  · obtain ⟨n, e⟩ := x.pre
    obtain ⟨n', e'⟩ := y.pre
    exact ⟨n ++ n', by rw [e', e, List.append_assoc]⟩
structure Wk (G : Gh) (m : Mm) (H : Hp) (J : It) (xs : List T) : Prop where
  go : ∀ m' H', MovF m H m' H' → ∀ i, i < xs.length → J.go i H'
  stop : ∀ m' H', MovF m H m' H' → J.stop xs.length H'
  yld : ∀ m' H' st, MovF m H m' H' → RSto G m' H' st → ∀ i x H'', i < xs.length → J.yld i H' x H'' → (H'' = H' ∨ ∃ p o, H' p = none ∧ H'' = upd H' p o) ∧ ∃ t, xs[i]? = some t ∧ Rp G m' H'' t x
theorem get_len {ts : List T} {vs : List V} (r : Rps G m H ts vs) {i : Nat} (h : i < ts.length) : ∃ t v, ts[i]? = some t ∧ vs[i]? = some v ∧ Rp G m H t v := by
  obtain ⟨v, e, q⟩ := r.get (List.getElem?_eq_getElem h)
  exact ⟨_, v, List.getElem?_eq_getElem h, e, q⟩
theorem Wk.lst {xs : List T} {vs : List V} (s : SAt G m H a vs) (r : Rps G m H xs vs) : Wk G m H (Itl G.K a) xs := by
  have sq : ∀ {m' : Mm} {H' : Hp}, MovF m H m' H' → SqL G.K H' a vs := fun x => by
    rcases s.movF x with h | h
    · exact .inl h.2
    · exact .inr h
  refine ⟨fun m' H' x i hi => ?_, fun m' H' x => ⟨vs, sq x, Nat.le_of_eq r.length.symm⟩, fun m' H' st x _ i y H'' hi hy => ?_⟩
  · obtain ⟨t, v, _, e, _⟩ := get_len r hi
    exact ⟨vs, v, sq x, e⟩
  · obtain ⟨rfl, hy⟩ := hy
    obtain ⟨t, v, e1, e2, q⟩ := get_len r hi
    have := hy vs (sq x)
    rw [e2] at this
    cases this
    exact ⟨.inl rfl, t, e1, Rp.movF x t _ q⟩
theorem Wk.ptp {xs : List T} {vs : List V} (s : PAt m H a vs) (r : Rps G m H xs vs) : Wk G m H (Itt G.K a) xs := by
  have sq : ∀ {m' : Mm} {H' : Hp}, MovF m H m' H' → SqT G.K H' a vs := fun x => by
    obtain ⟨_, o, h, _⟩ := s.movF x
    exact .inl (.inr ⟨o, h⟩)
  refine ⟨fun m' H' x i hi => ?_, fun m' H' x => ⟨vs, sq x, Nat.le_of_eq r.length.symm⟩, fun m' H' st x _ i y H'' hi hy => ?_⟩
  · obtain ⟨t, v, _, e, _⟩ := get_len r hi
    exact ⟨vs, v, sq x, e⟩
  · obtain ⟨rfl, hy⟩ := hy
    obtain ⟨t, v, e1, e2, q⟩ := get_len r hi
    have := hy vs (sq x)
    rw [e2] at this
    cases this
    exact ⟨.inl rfl, t, e1, Rp.movF x t _ q⟩
theorem Wk.tup {xs : List T} {vs : List V} (s : TAt G m H a vs) (r : Rps G m H xs vs) : Wk G m H (Itt G.K a) xs := by
  have sq : ∀ {m' : Mm} {H' : Hp}, MovF m H m' H' → SqT G.K H' a vs := fun x => .inl (.inl (s.movF x).2)
  refine ⟨fun m' H' x i hi => ?_, fun m' H' x => ⟨vs, sq x, Nat.le_of_eq r.length.symm⟩, fun m' H' st x _ i y H'' hi hy => ?_⟩
  · obtain ⟨t, v, _, e, _⟩ := get_len r hi
    exact ⟨vs, v, sq x, e⟩
  · obtain ⟨rfl, hy⟩ := hy
    obtain ⟨t, v, e1, e2, q⟩ := get_len r hi
    have := hy vs (sq x)
    rw [e2] at this
    cases this
    exact ⟨.inl rfl, t, e1, Rp.movF x t _ q⟩
theorem Wk.str {y : Str} : Wk G m H (Its y) (chars y) := by
  have hl : (chars y).length = y.cps.size := by unfold chars; rw [List.length_map]; exact Array.length_toList
  refine ⟨fun m' H' x i hi => by rw [hl] at hi; exact hi, fun m' H' x => Nat.le_of_eq hl.symm, fun m' H' st x _ i v H'' hi hy => ?_⟩
  obtain ⟨rfl, c, e, rfl⟩ := hy
  refine ⟨.inl rfl, .str ⟨#[c]⟩, ?_, rfl⟩
  unfold chars
  rw [List.getElem?_map, Array.getElem?_toList, e]
  rfl
def sOf : Sk → T → Option (List T)
  | .l, .lst xs => some xs
  | .t, .tup xs => some xs
  | _, _ => none
theorem s_at {k : Sk} {t : T} {v : V} {xs : List T} (r : Rp G m H t v) (e : sOf k t = some xs) : ∃ a vs, v = .ref a ∧ Rps G m H xs vs ∧ ∀ {m' : Mm} {H' : Hp}, MovF m H m' H' → sAt G.K k H' a vs := by
  cases k with
  | l =>
    cases t with
    | lst ys =>
      cases (show some ys = some xs from e)
      obtain ⟨a, vs, rfl, h, q⟩ := r
      exact ⟨a, vs, rfl, q, fun x => .inl (.inl (h.movF x).2)⟩
    | _ => cases e
  | t =>
    cases t with
    | tup ys =>
      cases (show some ys = some xs from e)
      obtain ⟨a, vs, rfl, h, q⟩ := r
      exact ⟨a, vs, rfl, q, fun x => .inl (.inl (h.movF x).2)⟩
    | _ => cases e
theorem numbered_len : ∀ (xs : List T) (n : Nat), (numbered n xs).length = xs.length
  | [], _ => rfl
  | x :: xs, n => by simp [numbered, numbered_len xs (n + 1)]
theorem numbered_get : ∀ (xs : List T) (n i : Nat) (t : T), xs[i]? = some t → (numbered n xs)[i]? = some (.tup [.int ((n + i : Nat) : Int), t])
  | [], _, i, t, h => by simp at h
  | x :: xs, n, 0, t, h => by
    have : x = t := by simpa using h
    subst this
    rfl
  | x :: xs, n, i + 1, t, h => by
    have := numbered_get xs (n + 1) i t (by simpa using h)
    have e : n + (i + 1) = n + 1 + i := by omega
    rw [e]
    simpa [numbered] using this
theorem Mov.fresh (hp : H p = none) : Mov m H m (upd H p o) := (Stp.fresh hp).toMov
theorem Wk.en {k : Sk} {t : T} {v : V} {xs : List T} (r : Rp G m H t v) (e : sOf k t = some xs) : ∃ a vs, v = .ref a ∧ sAt G.K k H a vs ∧ Wk G m H (Iten G.K k a) (numbered 0 xs) := by
  obtain ⟨a, vs, rfl, q, sq⟩ := s_at r e
  refine ⟨a, vs, rfl, sq (Stp.refl m H).toMov.F, fun m' H' x i hi => ?_, fun m' H' x => ⟨vs, sq x, by rw [numbered_len, q.length]⟩, fun m' H' st x rs i y H'' hi hy => ?_⟩
  · rw [numbered_len] at hi
    obtain ⟨t, v, _, e, _⟩ := get_len q hi
    exact ⟨vs, v, sq x, e⟩
  · rw [numbered_len] at hi
    obtain ⟨T', y', rfl, hT, rfl, hy⟩ := hy
    obtain ⟨t, v, e1, e2, q'⟩ := get_len q hi
    have := hy vs (sq x)
    rw [e2] at this
    cases this
    refine ⟨.inr ⟨T', _, hT, rfl⟩, _, numbered_get xs 0 i t e1, T', _, rfl, ⟨rs.free hT, upd_same⟩, _, _, rfl, ?_, _, _, rfl, ?_, rfl⟩
    · show V.int _ = V.int _
      rw [Nat.zero_add]
    · exact Rp.mov (Mov.fresh hT) _ _ (Rp.movF x t _ q')
theorem pairs_len : ∀ xs ys : List T, (pairs xs ys).length = min xs.length ys.length
  | [], ys => by simp [pairs]
  | x :: xs, [] => by simp [pairs]
  | x :: xs, y :: ys => by simp only [pairs, List.length_cons, pairs_len xs ys]; omega
theorem pairs_get : ∀ (xs ys : List T) (i : Nat) (t u : T), xs[i]? = some t → ys[i]? = some u → (pairs xs ys)[i]? = some (.tup [t, u])
  | [], _, i, t, u, h, _ => by simp at h
  | x :: xs, [], i, t, u, _, h => by simp at h
  | x :: xs, y :: ys, 0, t, u, h, h2 => by
    have e1 : x = t := by simpa using h
    have e2 : y = u := by simpa using h2
    subst e1 e2
    rfl
  | x :: xs, y :: ys, i + 1, t, u, h, h2 => by simpa [pairs] using pairs_get xs ys i t u (by simpa using h) (by simpa using h2)
theorem Wk.pr {k1 k2 : Sk} {t1 t2 : T} {v1 v2 : V} {xs ys : List T} (r1 : Rp G m H t1 v1) (r2 : Rp G m H t2 v2) (e1 : sOf k1 t1 = some xs) (e2 : sOf k2 t2 = some ys) :
    ∃ a b vs ws, v1 = .ref a ∧ v2 = .ref b ∧ sAt G.K k1 H a vs ∧ sAt G.K k2 H b ws ∧ Wk G m H (Itpr G.K k1 k2 a b) (pairs xs ys) := by
  obtain ⟨a, vs, rfl, q1, sq1⟩ := s_at r1 e1
  obtain ⟨b, ws, rfl, q2, sq2⟩ := s_at r2 e2
  refine ⟨a, b, vs, ws, rfl, rfl, sq1 (Stp.refl m H).toMov.F, sq2 (Stp.refl m H).toMov.F, fun m' H' x i hi => ?_, fun m' H' x => ⟨vs, ws, sq1 x, sq2 x, by rw [pairs_len, q1.length, q2.length]⟩, fun m' H' st x rs i y H'' hi hy => ?_⟩
  · rw [pairs_len] at hi
    obtain ⟨t, v, _, e, _⟩ := get_len q1 (i := i) (by omega)
    obtain ⟨t2, v2, _, e2, _⟩ := get_len q2 (i := i) (by omega)
    exact ⟨vs, ws, v, v2, sq1 x, sq2 x, e, e2⟩
  · rw [pairs_len] at hi
    obtain ⟨T', x', y', rfl, hT, rfl, hx, hy⟩ := hy
    obtain ⟨t, v, f1, f2, q1'⟩ := get_len q1 (i := i) (by omega)
    obtain ⟨t2, v2, g1, g2, q2'⟩ := get_len q2 (i := i) (by omega)
    have z1 := hx vs (sq1 x)
    rw [f2] at z1; cases z1
    have z2 := hy ws (sq2 x)
    rw [g2] at z2; cases z2
    refine ⟨.inr ⟨T', _, hT, rfl⟩, _, pairs_get xs ys i t t2 f1 g1, T', _, rfl, ⟨rs.free hT, upd_same⟩, _, _, rfl, ?_, _, _, rfl, ?_, rfl⟩
    · exact Rp.mov (Mov.fresh hT) _ _ (Rp.movF x t _ q1')
    · exact Rp.mov (Mov.fresh hT) _ _ (Rp.movF x t2 _ q2')
theorem range_len (lo hi : Int) : (rangeT lo hi).length = (hi - lo).toNat := by simp [rangeT]
theorem Wk.rng {lo hi : Int} : Wk G m H (Itr lo (hi - lo).toNat) (rangeT lo hi) := by
  refine ⟨fun m' H' x i hi => by rw [range_len] at hi; exact hi, fun m' H' x => by rw [range_len]; exact Nat.le_refl _, fun m' H' st x _ i v H'' hi hy => ?_⟩
  obtain ⟨rfl, rfl⟩ := hy
  rw [range_len] at hi
  refine ⟨.inl rfl, .int (lo + (i : Nat)), ?_, rfl⟩
  unfold rangeT
  rw [List.getElem?_map, List.getElem?_range hi]
  rfl
def tI (G : Gh) (W : WX) (f : Env → Sto → R (List T)) : TI := fun σ H R => ∃ m env st, RS G m env st σ H ∧ Rn G W σ env (fun _ _ _ (_ : Unit) => True) m H (f env st) (fun xs _ _ H' m' => ∀ J, Wk G m' H' J xs → R J H')
theorem PI.imp {X : Cx} {tg e : Expr} {t t' : TI} (h : PI X tg e t) (k : ∀ σ H R, t' σ H R → t σ H R) : PI X tg e t' := ⟨fun pins s σ H R I q => h.run pins s σ H R I (k σ H R q)⟩
end
section
variable {X : Cx} {G : Gh} {W : WX} {fa fb : Env → Sto → R T} {e e2 tg : Expr} {pos : Pos}
def fSeq (fa : Env → Sto → R T) : Env → Sto → R (List T) := fun env st => (fa env st).bnd fun x st1 => match x with
    | .lst xs => .ok xs st1
    | .tup xs => .ok xs st1
    | .scr ns => .ok (ns.map .int) st1
    | .str y => .ok (chars y) st1
    | .ptp xs => .ok xs st1
    | _ => .bad
theorem i_seq (hK : X.K = G.K) (he : PE X e (tE G W fa)) : PI X tg e (tI G W (fSeq fa)) := by
  refine PI.imp (pi_seq he) fun σ H R h => ?_
  rw [hK]
  refine at1 h fun m env st t v H1 rs r q => ?_
  cases t with
  | lst xs =>
    obtain ⟨a, vs, rfl, h, rq⟩ := r
    have hs : SAt G m H1 a vs := .inl ⟨h.1, .inl h.2⟩
    exact .inl ⟨a, vs, rfl, .inl (.inl h.2), Rn.here (b := ()) q rs trivial _ (Wk.lst hs rq)⟩
  | tup xs =>
    obtain ⟨a, vs, rfl, h, rq⟩ := r
    exact .inr (.inl ⟨a, vs, rfl, .inl (.inl h.2), Rn.here (b := ()) q rs trivial _ (Wk.tup h rq)⟩)
  | scr ns =>
    obtain ⟨a, rfl, h⟩ := r
    have sq : SqL G.K H1 a (ns.map V.int) := by
      rcases h with h | h
      · exact .inl h.2
      · exact .inr h
    exact .inl ⟨a, _, rfl, sq, Rn.here (b := ()) q rs trivial _ (Wk.lst h (Rps.of_ints ns))⟩
  | str y => exact .inr (.inr ⟨y, r, Rn.here (b := ()) q rs trivial _ Wk.str⟩)
  | ptp xs =>
    obtain ⟨a, vs, rfl, h, rq⟩ := r
    obtain ⟨o, ho, _⟩ := h.2
    exact .inr (.inl ⟨a, vs, rfl, .inl (.inr ⟨o, ho⟩), Rn.here (b := ()) q rs trivial _ (Wk.ptp h rq)⟩)
  | _ => exact q.elim
def fEn (fa : Env → Sto → R T) : Env → Sto → R (List T) := fun env st => (fa env st).bnd fun x st1 => match x with
    | .lst xs => .ok (numbered 0 xs) st1
    | .tup xs => .ok (numbered 0 xs) st1
    | _ => .bad
theorem i_en {elts : List Expr} {kk : Nat} {p tpos : Pos} (hK : X.K = G.K) (hg : Gl X "enumerate") (hm : X.mg "enumerate" = none) (he : PE X e (tE G W fa)) (hs : starEach [e] X.env = [(false, eval e X.env)]) :
    PI X (.Tuple elts kk tpos) (.Call (.Name "enumerate" p) [e] [] pos) (tI G W (fEn fa)) := by
  refine PI.imp (pi_en hg hm (pa_cons he pa_nil hs) hs) fun σ H R h => ?_
  rw [hK]
  show tE G W fa σ H fun x H1 => ∃ k a xs, [x] = [V.ref a] ∧ sAt G.K k H1 a xs ∧ R (Iten G.K k a) H1
  refine at1 h fun m env st t v H1 rs r q => ?_
  cases t with
  | lst xs =>
    obtain ⟨a, vs, rfl, hs, hw⟩ := Wk.en (k := .l) r rfl
    exact ⟨_, a, vs, rfl, hs, Rn.here (b := ()) q rs trivial _ hw⟩
  | tup xs =>
    obtain ⟨a, vs, rfl, hs, hw⟩ := Wk.en (k := .t) r rfl
    exact ⟨_, a, vs, rfl, hs, Rn.here (b := ()) q rs trivial _ hw⟩
  | _ => exact q.elim
def fPr (fa fb : Env → Sto → R T) : Env → Sto → R (List T) := fun env st => (fa env st).bnd fun x st1 => (fb env st1).bnd fun y st2 => match x, y with
    | .lst xs, .lst ys => .ok (pairs xs ys) st2
    | .tup xs, .tup ys => .ok (pairs xs ys) st2
    | .lst xs, .tup ys => .ok (pairs xs ys) st2
    | .tup xs, .lst ys => .ok (pairs xs ys) st2
    | _, _ => .bad
theorem i_pr {elts : List Expr} {kk : Nat} {p tpos : Pos} (hK : X.K = G.K) (hg : Gl X "zip") (hm : X.mg "zip" = none) (he : PE X e (tE G W fa)) (he2 : PE X e2 (tE G W fb))
    (hs : starEach [e, e2] X.env = (false, eval e X.env) :: starEach [e2] X.env) (hs2 : starEach [e2] X.env = [(false, eval e2 X.env)]) :
    PI X (.Tuple elts kk tpos) (.Call (.Name "zip" p) [e, e2] [] pos) (tI G W (fPr fa fb)) := by
  refine PI.imp (pi_pr hg hm (pa_cons he (pa_cons he2 pa_nil hs2) hs) hs (by rw [hs2]; rfl)) fun σ H R h => ?_
  rw [hK]
  show tE G W fa σ H fun x H1 => tE G W fb σ H1 fun y H2 => ∃ k1 k2 a b xs ys, [x, y] = [V.ref a, V.ref b] ∧ sAt G.K k1 H2 a xs ∧ sAt G.K k2 H2 b ys ∧ R (Itpr G.K k1 k2 a b) H2
  refine at2 h fun m env st t u v w H1 rs r1 r2 q => ?_
  have fin : ∀ {k1 k2 : Sk} {xs ys : List T}, sOf k1 t = some xs → sOf k2 u = some ys → Rn G W σ env (fun _ _ _ (_ : Unit) => True) m H1 (.ok (pairs xs ys) st) (fun xs _ _ H' m' => ∀ J, Wk G m' H' J xs → R J H') →
      ∃ k1 k2 a b xs ys, [v, w] = [V.ref a, V.ref b] ∧ sAt G.K k1 H1 a xs ∧ sAt G.K k2 H1 b ys ∧ R (Itpr G.K k1 k2 a b) H1 := fun e1 e2 q => by
    obtain ⟨a, b, vs, ws, rfl, rfl, h1, h2, hw⟩ := Wk.pr r1 r2 e1 e2
    exact ⟨_, _, a, b, vs, ws, rfl, h1, h2, Rn.here (b := ()) q rs trivial _ hw⟩
  cases t with
  | lst xs =>
    cases u with
    | lst ys => exact fin (k1 := .l) (k2 := .l) rfl rfl q
    | tup ys => exact fin (k1 := .l) (k2 := .t) rfl rfl q
    | _ => exact q.elim
  | tup xs =>
    cases u with
    | lst ys => exact fin (k1 := .t) (k2 := .l) rfl rfl q
    | tup ys => exact fin (k1 := .t) (k2 := .t) rfl rfl q
    | _ => exact q.elim
  | _ => exact q.elim
def fRg1 (fa : Env → Sto → R T) : Env → Sto → R (List T) := fun env st => (fa env st).bnd fun x st1 => match x with
    | .int j => if RgOk j then .ok (rangeT 0 j) st1 else .bad
    | _ => .bad
theorem i_rg1 {p : Pos} (hg : Gl X "range") (hm : X.mg "range" = none) (he : PE X e (tE G W fa)) (hs : starEach [e] X.env = [(false, eval e X.env)]) :
    PI X tg (.Call (.Name "range" p) [e] [] pos) (tI G W (fRg1 fa)) := by
  refine PI.imp (pi_range1 hg hm (pa_cons he pa_nil hs) hs) fun σ H R h => ?_
  show tE G W fa σ H fun x H1 => ∃ j : Int, [x] = [V.int j] ∧ -(2 ^ 62) ≤ j ∧ j < 2 ^ 62 ∧ R (Itr 0 j.toNat) H1
  refine at1 h fun m env st t v H1 rs r q => ?_
  cases t with
  | int j =>
    cases (show v = _ from r)
    have q : Rn G W σ env (fun _ _ _ (_ : Unit) => True) m H1 (if RgOk j then .ok (rangeT 0 j) st else .bad) (fun xs _ _ H' m' => ∀ J, Wk G m' H' J xs → R J H') := q
    by_cases c : RgOk j
    · rw [if_pos c] at q
      have z := Rn.here (b := ()) q rs trivial _ (Wk.rng (lo := 0) (hi := j))
      rw [Int.sub_zero] at z
      exact ⟨j, rfl, c.1, c.2, z⟩
    · rw [if_neg c] at q; exact q.elim
  | _ => exact q.elim
def fRg2 (fa fb : Env → Sto → R T) : Env → Sto → R (List T) := fun env st => (fa env st).bnd fun x st1 => (fb env st1).bnd fun y st2 => match x, y with
    | .int i, .int j => if RgOk i ∧ RgOk j then .ok (rangeT i j) st2 else .bad
    | _, _ => .bad
theorem i_rg2 {p : Pos} (hg : Gl X "range") (hm : X.mg "range" = none) (he : PE X e (tE G W fa)) (he2 : PE X e2 (tE G W fb)) (hs : starEach [e, e2] X.env = [(false, eval e X.env), (false, eval e2 X.env)]) (hs2 : starEach [e2] X.env = [(false, eval e2 X.env)]) :
    PI X tg (.Call (.Name "range" p) [e, e2] [] pos) (tI G W (fRg2 fa fb)) := by
  refine PI.imp (pi_range2 hg hm (pa_cons he (pa_cons he2 pa_nil hs2) (by rw [hs, hs2])) hs hs2) fun σ H R h => ?_
  show tE G W fa σ H fun x H1 => tE G W fb σ H1 fun y H2 => ∃ i j : Int, [x, y] = [V.int i, V.int j] ∧ (-(2 ^ 62) ≤ i ∧ i < 2 ^ 62 ∧ -(2 ^ 62) ≤ j ∧ j < 2 ^ 62) ∧ R (Itr i (j - i).toNat) H2
  refine at2 h fun m env st t u v w H1 rs r1 r2 q => ?_
  cases t with
  | int i =>
    cases u with
    | int j =>
      cases (show v = _ from r1)
      cases (show w = _ from r2)
      have q : Rn G W σ env (fun _ _ _ (_ : Unit) => True) m H1 (if RgOk i ∧ RgOk j then .ok (rangeT i j) st else .bad) (fun xs _ _ H' m' => ∀ J, Wk G m' H' J xs → R J H') := q
      by_cases c : RgOk i ∧ RgOk j
      · rw [if_pos c] at q
        exact ⟨i, j, rfl, ⟨c.1.1, c.1.2, c.2.1, c.2.2⟩, Rn.here (b := ()) q rs trivial _ Wk.rng⟩
      · rw [if_neg c] at q; exact q.elim
    | _ => exact q.elim
  | _ => exact q.elim
end
end Eg
set_option Elab.async false
set_option linter.all false
set_option maxRecDepth 100000
set_option maxHeartbeats 2000000
namespace Eg
open PySem PySem.Spec PyProof.Rows L2
structure CC where
  N : List Str
  sc : Scope
  fn : Str → Bool
  hot : Bool
  lam : Bool
def cold (c : CC) : Bool := !c.hot
def visC (c : CC) (i : Nat) (x : Str) : Bool := decide (c.N[i]? = some x) && (match c.sc.names.lookup x with
  | some .local => true
  | some .cell => true
  | some .free => true
  | _ => false) && !(x == ("__debug__" : Str)) && !(x == ("__classdict__" : Str))
def locC (c : CC) (i : Nat) (x : Str) : Bool := decide (c.N[i]? = some x) && (match c.sc.names.lookup x with
  | some .local => true
  | some .cell => c.fn x
  | _ => false)
mutual
def chkG (c : CC) : IG → Expr → Bool
  | .name i, .Name x _ => locC c i x
  | .tup gs, .Tuple es _ _ => chkGs c gs es && cold c
  | _, _ => false
def chkGs (c : CC) : List IG → List Expr → Bool
  | [], [] => true
  | g :: gs, e :: es => chkG c g e && chkGs c gs es
  | _, _ => false
end
mutual
def IG.slots : IG → List Nat
  | .name i => [i]
  | .tup gs => slotsL gs
def slotsL : List IG → List Nat
  | [] => []
  | g :: gs => g.slots ++ slotsL gs
end
section
variable {G : Gh} {m m1 m' : Mm} {H H1 H' : Hp} {st st' : Sto} {σ σ' : L2.St} {env env' : Env} {a D : Addr} {o : HO}
def tG (G : Gh) (g : IG) : TG := fun v σ H Q => ∃ m env st t env', RS G m env st σ H ∧ Rp G m H t v ∧ g.set t env = some env' ∧ ∀ σ', RS G m env' st σ' H → σ'.length = σ.length → (∀ i, i ∉ g.slots → σ'[i]? = σ[i]?) → Q σ' H
def tGs (G : Gh) (gs : List IG) : TGs := fun vs σ H Q => ∃ m env st ts env', RS G m env st σ H ∧ Rps G m H ts vs ∧ IG.set.sets gs ts env = some env' ∧ ∀ σ', RS G m env' st σ' H → σ'.length = σ.length → (∀ i, i ∉ slotsL gs → σ'[i]? = σ[i]?) → Q σ' H
theorem PG.imp {X : Cx} {e : Expr} {t t' : TG} (h : PG X e t) (k : ∀ v σ H Q, t' v σ H Q → t v σ H Q) : PG X e t' := ⟨fun pins s σ H v u Q I r q => h.run pins s σ H v u Q I r (k v σ H Q q)⟩
theorem PGs.imp {X : Cx} {e : List Expr} {t t' : TGs} (h : PGs X e t) (k : ∀ v σ H Q, t' v σ H Q → t v σ H Q) : PGs X e t' := ⟨fun pins s σ H v u Q I r q => h.run pins s σ H v u Q I r (k v σ H Q q)⟩
theorem RS.set {i : Nat} {t : T} {v : V} (rs : RS G m env st σ H) (hi : i < env.length) (r : Rp G m H t v) : RS G m (env.set i (some t)) st (σ.set i (some v)) H := by
  refine ⟨⟨by rw [List.length_set, List.length_set]; exact rs.env.1, fun j u e => ?_⟩, rs.sto⟩
  by_cases hj : j = i
  · subst hj
    rw [List.getElem?_set_self hi] at e
    cases e
    exact ⟨v, List.getElem?_set_self (by rw [← rs.env.1]; exact hi), r⟩
  · rw [List.getElem?_set_ne (Ne.symm hj)] at e
    obtain ⟨w, e2, r2⟩ := rs.env.2 j u e
    exact ⟨w, by rw [List.getElem?_set_ne (Ne.symm hj)]; exact e2, r2⟩
theorem tGs_nil : ∀ vs σ H Q, tGs G [] vs σ H Q → gNil vs σ H Q := fun vs σ H Q ⟨m, env, st, ts, env', rs, r, e, k⟩ => by
  cases ts with
  | nil =>
    cases (show some env = some env' from e)
    exact ⟨r, k σ rs rfl fun _ _ => rfl⟩
  | cons t ts => cases e
theorem tGs_cons {g : IG} {gs : List IG} : ∀ vs σ H Q, tGs G (g :: gs) vs σ H Q → gCons (tG G g) (tGs G gs) vs σ H Q := fun vs σ H Q ⟨m, env, st, ts, env', rs, r, e, k⟩ => by
  cases ts with
  | nil => cases e
  | cons t ts =>
    obtain ⟨v, w, rfl, r1, r2⟩ := r
    have e : (match g.set t env with
      | some env' => IG.set.sets gs ts env'
      | none => none) = some env' := e
    cases e1 : g.set t env with
    | none => rw [e1] at e; cases e
    | some env1 =>
      rw [e1] at e
      refine ⟨v, w, rfl, m, env, st, t, env1, rs, r1, e1, fun σ1 rs1 l1 k1 => ⟨m, env1, st, ts, env', rs1, r2, e, fun σ2 rs2 l2 k2 => ?_⟩⟩
      refine k σ2 rs2 (l2.trans l1) fun i hi => ?_
      have hi' : i ∉ g.slots ∧ i ∉ slotsL gs := by
        constructor
        · exact fun z => hi (by simp [slotsL, z])
        · exact fun z => hi (by simp [slotsL, z])
      exact (k2 i hi'.2).trans (k1 i hi'.1)
variable {X : Cx} {c : CC}
theorem chkG_star {g : IG} {e : Expr} (h : chkG c g e = true) (es : List Expr) (env : PySem.Env) : assignEach (e :: es) env = (false, assign e env) :: assignEach es env := by
  cases e <;> first | rfl | (cases g <;> simp [chkG] at h)
theorem chkGs_each (env : PySem.Env) : ∀ {gs : List IG} {es : List Expr}, chkGs c gs es = true → (assignEach es env).length = gs.length ∧ (assignEach es env).findIdx? (·.1) = none
  | [], [], _ => ⟨rfl, rfl⟩
  | [], _ :: _, h => by simp [chkGs] at h
  | _ :: _, [], h => by simp [chkGs] at h
  | g :: gs, e :: es, h => by
    simp only [chkGs, Bool.and_eq_true] at h
    obtain ⟨h1, h2⟩ := chkGs_each env h.2
    rw [chkG_star h.1 es env]
    refine ⟨by simp [h1], ?_⟩
    rw [List.findIdx?_cons, h2]
    rfl
theorem sets_len : ∀ {gs : List IG} {ts : List T} {env env' : Env}, IG.set.sets gs ts env = some env' → ts.length = gs.length
  | [], [], _, _, _ => rfl
  | [], _ :: _, _, _, h => by cases h
  | _ :: _, [], _, _, h => by cases h
  | g :: gs, t :: ts, env, env', h => by
    have h : (match g.set t env with
      | some env' => IG.set.sets gs ts env'
      | none => none) = some env' := h
    cases e1 : g.set t env with
    | none => rw [e1] at h; cases h
    | some env1 =>
      rw [e1] at h
      simp [sets_len (gs := gs) (ts := ts) h]
theorem loc_of {i : Nat} {x : Str} (h : locC c i x = true) (hN : X.N = c.N) (hs : X.env.scope = c.sc) (hf : X.fn = c.fn) : X.N[i]? = some x ∧ L2.Loc X.env.scope x ∧ (X.fn x = true ∨ X.env.scope.names.lookup x = some .local) := by
  unfold locC at h
  rw [Bool.and_eq_true, decide_eq_true_eq] at h
  rw [hN, hs, hf]
  refine ⟨h.1, ?_⟩
  have h2 := h.2
  unfold L2.Loc
  split at h2
  · rename_i e; exact ⟨.inl e, .inr e⟩
  · rename_i e; exact ⟨.inr e, .inl h2⟩
  · cases h2
theorem PG.or {e : Expr} {t t' : TG} (h : PG X e t) (h' : PG X e t') : PG X e (fun v σ H Q => t v σ H Q ∨ t' v σ H Q) := ⟨fun pins s σ H v u Q I r hw => by
  rcases hw with hw | hw
  · exact h.run pins s σ H v u Q I r hw
  · exact h'.run pins s σ H v u Q I r hw⟩
mutual
theorem g_ok (hN : X.N = c.N) (hs : X.env.scope = c.sc) (hf : X.fn = c.fn) (nd : X.N.Nodup) (hK : X.K = G.K) (hc : cold c = true → X.calm = true) : ∀ (g : IG) (e : Expr), chkG c g e = true → PG X e (tG G g)
  | .name i, e, h => by
    cases e with
    | Name x pos =>
      obtain ⟨h1, h2, h3⟩ := loc_of (X := X) h hN hs hf
      refine PG.imp (pg_name nd h1 h2 h3) fun v σ H Q ⟨m, env, st, t, env', rs, r, e, k⟩ => ?_
      have e : (if i < env.length then some (env.set i (some t)) else none) = some env' := e
      by_cases hi : i < env.length
      · rw [if_pos hi] at e
        cases e
        refine k _ (rs.set hi r) (by rw [List.length_set]) fun j hj => ?_
        have : j ≠ i := fun z => hj (by simp [IG.slots, z])
        rw [List.getElem?_set_ne (Ne.symm this)]
      · rw [if_neg hi] at e; cases e
    | _ => simp [chkG] at h
  | .tup gs, e, h => by
    cases e with
    | Tuple es k pos =>
      have h : chkGs c gs es = true ∧ cold c = true := by simpa [chkG] using h
      have hc1 := hc h.2
      have h := h.1
      obtain ⟨h1, h2⟩ := chkGs_each X.env h
      refine PG.imp (PG.or (pg_tup (n := gs.length) hc1 (gs_ok hN hs hf nd hK hc gs es h) h1 h2) (pg_lst (n := gs.length) hc1 (gs_ok hN hs hf nd hK hc gs es h) h1 h2)) fun v σ H Q ⟨m, env, st, t, env', rs, r, e, k⟩ => ?_
      cases t with
      | tup ts =>
        obtain ⟨a, vs, rfl, ha, rr⟩ := r
        have e : IG.set.sets gs ts env = some env' := e
        refine .inl ⟨a, vs, rfl, .inl (.inl ha.2), by rw [← rr.length, sets_len e], m, env, st, ts, env', rs, rr, e, fun σ' rs' l' k' => k σ' rs' l' fun i hi => k' i ?_⟩
        simpa [IG.slots] using hi
      | lst ts =>
        obtain ⟨a, vs, rfl, ha, rr⟩ := r
        have e : IG.set.sets gs ts env = some env' := e
        refine .inr ⟨a, vs, rfl, SqL.of ha.2, by rw [← rr.length, sets_len e], m, env, st, ts, env', rs, rr, e, fun σ' rs' l' k' => k σ' rs' l' fun i hi => k' i ?_⟩
        simpa [IG.slots] using hi
      | _ => cases e
    | _ => simp [chkG] at h
theorem gs_ok (hN : X.N = c.N) (hs : X.env.scope = c.sc) (hf : X.fn = c.fn) (nd : X.N.Nodup) (hK : X.K = G.K) (hc : cold c = true → X.calm = true) : ∀ (gs : List IG) (es : List Expr), chkGs c gs es = true → PGs X es (tGs G gs)
  | [], [], _ => PGs.imp pgs_nil tGs_nil
  | [], _ :: _, h => by simp [chkGs] at h
  | _ :: _, [], h => by simp [chkGs] at h
  | g :: gs, e :: es, h => by
    have h' : chkG c g e = true ∧ chkGs c gs es = true := by simpa [chkGs] using h
    exact PGs.imp (pgs_cons (g_ok hN hs hf nd hK hc g e h'.1) (gs_ok hN hs hf nd hK hc gs es h'.2) (by rw [chkG_star h'.1 es X.env]; rfl)) tGs_cons
end
end
section
variable {G : Gh} {m m1 m' : Mm} {H H1 H' : Hp} {st st' : Sto} {σ σ' : L2.St} {env env' : Env} {a D : Addr} {o : HO}
def era (H : Hp) (D : Addr) : Hp := fun b => if b = D then none else H b
theorem era_ne (h : a ≠ D) : era H D a = H a := if_neg h
theorem era_at : era H D D = none := if_pos rfl
theorem era_upd (h : H D = some o) : upd (era H D) D o = H := by
  funext b
  unfold upd
  by_cases hb : b = D
  · rw [if_pos hb, hb, h]
  · rw [if_neg hb, era_ne hb]
mutual
theorem Rp.sub (k : ∀ a, ¬ m.w a → H' a = H a) (w : ∀ a, m'.w a → m.w a) (e : m'.as = m.as) : ∀ (t : T) (v : V), Rp G m H t v → Rp G m' H' t v
  | .non, _, h => h
  | .bl _, _, h => h
  | .int _, _, h => h
  | .str _, _, h => h
  | .tup xs, _, ⟨a, vs, e1, h, r⟩ => ⟨a, vs, e1, ⟨fun z => h.1 (w a z), by rw [k a h.1]; exact h.2⟩, Rps.sub k w e xs vs r⟩
  | .lst xs, _, ⟨a, vs, e1, h, r⟩ => ⟨a, vs, e1, ⟨fun z => h.1 (w a z), by rw [k a h.1]; exact h.2⟩, Rps.sub k w e xs vs r⟩
  | .obj c xs, _, ⟨a, dx, fv, e1, hn, h, hf, r⟩ => ⟨a, dx, fv, e1, fun z => hn (w a z), by rw [k a hn]; exact h, hf, Rps.sub k w e xs _ r⟩
  | .exc c ts, _, ⟨y, vs, e1, e2, e3, r, q⟩ => ⟨y, vs, e1, e2, e3, Rps.sub k w e ts vs r, q.imp id fun ⟨dx, f, w', h1, h2, h3, h4, h5⟩ => ⟨dx, f, w', h1, h2, fun z => h3 (w dx z), by rw [k dx h3]; exact h4, h5⟩⟩
  | .loc l, _, ⟨a, e1, h⟩ => ⟨a, e1, by rw [e]; exact h⟩
  | .scr ns, _, ⟨a, e1, h⟩ => ⟨a, e1, by
    rcases h with ⟨hn, h⟩ | h
    · refine .inl ⟨fun z => hn (w a z), ?_⟩
      unfold Rd at h ⊢
      rw [k a hn]
      exact h
    · exact .inr h⟩
  | .cv _, _, h => h
  | .ptp xs, _, ⟨a, vs, e1, ⟨hn, o, h, hd⟩, r⟩ => ⟨a, vs, e1, ⟨fun z => hn (w a z), o, by rw [k a hn]; exact h, hd⟩, Rps.sub k w e xs vs r⟩
  | .edt, _, ⟨a, e1, hn, h⟩ => ⟨a, e1, fun z => hn (w a z), by rw [k a hn]; exact h⟩
theorem Rps.sub (k : ∀ a, ¬ m.w a → H' a = H a) (w : ∀ a, m'.w a → m.w a) (e : m'.as = m.as) : ∀ (ts : List T) (vs : List V), Rps G m H ts vs → Rps G m' H' ts vs
  | [], _, h => h
  | t :: ts, _, ⟨v, r, e1, h, q⟩ => ⟨v, r, e1, Rp.sub k w e t v h, Rps.sub k w e ts r q⟩
end
theorem RKs.sub {κ : Type} (k : ∀ a, ¬ m.w a → H' a = H a) (w : ∀ a, m'.w a → m.w a) (e : m'.as = m.as) : ∀ (ts : List (κ × T)) (vs : List (κ × V)), RKs G m H ts vs → RKs G m' H' ts vs
  | [], _, h => h
  | p :: ts, _, ⟨v, r, e1, h, q⟩ => ⟨v, r, e1, Rp.sub k w e p.2 v h, RKs.sub k w e ts r q⟩
theorem REnv.sub (k : ∀ a, ¬ m.w a → H' a = H a) (w : ∀ a, m'.w a → m.w a) (e : m'.as = m.as) (h : REnv G m H env σ) : REnv G m' H' env σ :=
  ⟨h.1, fun i t q => let ⟨v, e1, r⟩ := h.2 i t q; ⟨v, e1, Rp.sub k w e t v r⟩⟩
theorem RSto.sub (k : ∀ a, ¬ m.fo a → H' a = H a) (w : ∀ a, m'.fo a → m.fo a) (e : m'.as = m.as) (fs : ∀ a, m'.fo a → H' a ≠ none) (tb : LamX.Tabs G.tb H') (s : RSto G m H st) : RSto G m' H' st where
  nd := by rw [e]; exact s.nd
  fd := fun a h z => s.fd a (e ▸ h) (w a z)
  len := by rw [e]; exact s.len
  cell := fun i a c h1 h2 => by
    rw [e] at h1
    have hk : H' a = H a := k a (s.fd a (List.mem_of_getElem? h1))
    have k' : ∀ a, ¬ m.w a → H' a = H a := fun a h => k a fun z => h (.inr z)
    have w' : ∀ a, m'.w a → m.w a := fun a h => by
      rcases h with h | h
      · exact .inl (e ▸ h)
      · exact .inr (w a h)
    cases c with
    | lst xs =>
      obtain ⟨vs, e1, r⟩ := s.cell i a _ h1 h2
      exact ⟨vs, by rw [hk]; exact e1, Rps.sub k' w' e xs vs r⟩
    | ins c xs =>
      obtain ⟨dx, fv, e1, e2, e3, r⟩ := s.cell i a _ h1 h2
      exact ⟨dx, fv, by rw [hk]; exact e1, e2, e3, Rps.sub k' w' e xs _ r⟩
    | dt kvs =>
      obtain ⟨vs, e1, r⟩ := s.cell i a _ h1 h2
      exact ⟨vs, by rw [hk]; exact e1, RKs.sub k' w' e kvs vs r⟩
    | dk kvs =>
      obtain ⟨vs, e1, r⟩ := s.cell i a _ h1 h2
      exact ⟨vs, by rw [hk]; exact e1, RKs.sub k' w' e kvs vs r⟩
  foS := fs
  tab := tb
def Mm.add (m : Mm) (D : Addr) : Mm := ⟨m.as, fun a => m.fo a ∨ a = D⟩
theorem Mov.add (hD : H D = none) : Mov m H (m.add D) (upd H D o) :=
  ⟨fun a u h _ _ => by rw [upd_ne (ne_of_none h hD)]; exact h, fun a _ h z => by
    by_cases e : a = D
    · exact h (by rw [e]; exact hD)
    · rw [upd_ne e] at z; exact h z, fun _ h => .inl h, fun a h => by
    rcases h with h | h
    · exact .inl (.inr h)
    · subst h; exact .inr hD, ⟨[], by simp [Mm.add]⟩⟩
theorem RSto.add (s : RSto G m H st) (hD : H D = none) : RSto G (m.add D) (upd H D o) st where
  nd := s.nd
  fd := fun a h z => by
    rcases z with z | z
    · exact s.fd a h z
    · subst z; exact s.mem h hD
  len := s.len
  cell := fun i a c h1 h2 => RCell.mov (Mov.add hD) (upd_ne fun z => s.mem (z ▸ List.mem_of_getElem? h1) hD) (s.cell i a c h1 h2)
  foS := fun a h => by
    rcases h with h | h
    · rw [upd_ne (fun z => s.foS a h (by rw [z]; exact hD))]
      exact s.foS a h
    · subst h; rw [upd_same]; simp
  tab := tab_upd s.tab (fun ps z => by rw [hD] at z; cases z) fun q z => by rw [hD] at z; cases z
theorem tab_lst {vs : List V} (h : LamX.Tabs G.tb H) (hD : H D = some (.lst vs)) : LamX.Tabs G.tb (L2.upd H D o) := tab_upd h (fun ps z => by rw [hD] at z; cases z) fun q z => by
  rw [hD] at z
  have z : HO.lst vs = LamX.CodeO D q := Option.some.inj z
  unfold LamX.CodeO at z
  cases z
theorem tab_era {vs : List V} (h : LamX.Tabs G.tb H) (hD : H D = some (.lst vs)) : LamX.Tabs G.tb (era H D) := fun x hx => by
  obtain ⟨ps, h1, h2, h3⟩ := h x hx
  have e : x.1 ≠ D := fun z => by rw [z, hD] at h1; cases h1
  refine ⟨ps, by rw [era_ne e]; exact h1, h2, fun pos cv hc => ?_⟩
  obtain ⟨c, e1, e2⟩ := h3 pos cv hc
  have ne : c ≠ D := fun z => by
    rw [z, hD] at e2
    have e2 : HO.lst vs = LamX.CodeO D x.2 := Option.some.inj e2
    unfold LamX.CodeO at e2
    cases e2
  exact ⟨c, e1, by rw [era_ne ne]; exact e2⟩
theorem RSto.upd {vs : List V} (s : RSto G m H st) (hD : m.fo D) (hL : H D = some (.lst vs)) : RSto G m (L2.upd H D o) st :=
  RSto.sub (fun a h => upd_ne fun z => h (z ▸ hD)) (fun _ h => h) rfl (fun a h => by
    by_cases e : a = D
    · subst e; rw [upd_same]; simp
    · rw [upd_ne e]; exact s.foS a h) (tab_lst s.tab hL) s
theorem REnv.upd (h : REnv G m H env σ) (hD : m.fo D) : REnv G m (L2.upd H D o) env σ := h.sub (fun a hn => upd_ne fun z => hn (.inr (z ▸ hD))) (fun _ h => h) rfl
theorem Rps.upd {ts : List T} {vs : List V} (h : Rps G m H ts vs) (hD : m.fo D) : Rps G m (L2.upd H D o) ts vs := Rps.sub (fun a hn => upd_ne fun z => hn (.inr (z ▸ hD))) (fun _ h => h) rfl _ _ h
end
section
variable {G : Gh} {m m1 m' : Mm} {H H1 H' : Hp} {st st' : Sto} {σ σ' : L2.St} {env env' : Env}
theorem wipeE_len (env : Env) : ∀ vs : List Nat, (wipeE env vs).length = env.length
  | [] => rfl
  | v :: vs => by rw [wipeE, List.length_set, wipeE_len env vs]
theorem wipeE_some {i : Nat} {t : T} : ∀ {vs : List Nat}, (wipeE env vs)[i]? = some (some t) → env[i]? = some (some t) ∧ i ∉ vs
  | [], h => ⟨h, by simp⟩
  | v :: vs, h => by
    by_cases hv : i = v
    · subst hv
      by_cases hl : i < (wipeE env vs).length
      · rw [wipeE, List.getElem?_set_self hl] at h; cases h
      · rw [wipeE, List.getElem?_eq_none (by rw [List.length_set]; omega)] at h; cases h
    · rw [wipeE, List.getElem?_set_ne (Ne.symm hv)] at h
      obtain ⟨h1, h2⟩ := wipeE_some (vs := vs) h
      exact ⟨h1, by simp [hv, h2]⟩
theorem REnv.wipe (h : REnv G m H env σ) (vs : List Nat) : REnv G m H (wipeE env vs) (L2.wipe σ vs) := by
  refine ⟨by rw [wipeE_len, wipe_length, h.1], fun i t e => ?_⟩
  obtain ⟨e1, hn⟩ := wipeE_some e
  obtain ⟨v, e2, r⟩ := h.2 i t e1
  exact ⟨v, by rw [wipe_out hn]; exact e2, r⟩
theorem wipe_none {i : Nat} : ∀ {vs : List Nat}, i ∈ vs → i < σ.length → (wipe σ vs)[i]? = some none
  | v :: vs, h, hl => by
    rw [L2.wipe]
    by_cases hv : i = v
    · subst hv
      rw [List.getElem?_set_self (by rw [wipe_length]; exact hl)]
    · rw [List.getElem?_set_ne (Ne.symm hv)]
      exact wipe_none ((List.mem_cons.mp h).resolve_left hv) hl
theorem wipe_same {vs : List Nat} (hl : σ'.length = σ.length) (h : ∀ i, i ∉ vs → σ'[i]? = (wipe σ vs)[i]?) : wipe σ' vs = wipe σ vs := by
  apply List.ext_getElem?
  intro i
  by_cases hi : i ∈ vs
  · by_cases hl' : i < σ.length
    · rw [wipe_none hi hl', wipe_none hi (by rw [hl]; exact hl')]
    · rw [List.getElem?_eq_none (by rw [wipe_length]; omega), List.getElem?_eq_none (by rw [wipe_length]; omega)]
  · rw [wipe_out hi, h i hi]
end
end Eg
set_option Elab.async false
set_option linter.all false
set_option maxRecDepth 100000
set_option maxHeartbeats 2000000
namespace Eg
open PySem PySem.Spec PyProof.Rows L2
abbrev W0 : WX := fun _ _ _ _ => False
section
variable {X : Cx} {G : Gh} {W : WX} {fa fb : Env → Sto → R T} {fs : Env → Sto → R (List T)} {fl fh : Env → Sto → R (Option Int)} {a b : Expr} {es : List Expr} {pos : Pos}
theorem s_fz {e : Expr} (h : PE X e (tL G W fs)) : PE X e (tE G W fun env st => (fs env st).bnd fun xs st1 => .ok (.lst xs) st1) := by
  refine PE.imp h fun σ H Q ⟨m, env, st, rs, h⟩ => ⟨m, env, st, rs, (Rn.bnd h).imp fun xs st' vs H' m' rs' _ r q p hp => ?_⟩
  exact Rn.next (K := Kq Q) q (rs'.fresh hp) (Stp.fresh hp) ⟨p, vs, rfl, ⟨rs'.sto.free hp, upd_same⟩, Rps.mov (Stp.fresh hp).toMov _ _ r⟩
def fDl (fs : Env → Sto → R (List T)) : Env → Sto → R (List T) := fun env st => (fs env st).bnd fun xs st1 => if xs.length ≤ lim then .ok xs st1 else .bad
theorem l_lst (h : PA X es (tA G W fs)) : PE X (.List es pos) (tL G W (fDl fs)) := by
  refine PE.imp (pe_lst h) fun σ H Q h => ?_
  show tA G W fs σ H fun xs H1 => xs.length ≤ sizeLine ∧ ∀ p, H1 p = none → Q (.ref p) (upd H1 p (.lst xs))
  refine atA h fun m env st ts vs H1 rs r q => ?_
  by_cases hl : ts.length ≤ lim
  · have hl' : vs.length ≤ sizeLine := by rw [← r.length, ← lim_eq]; exact hl
    rw [if_pos hl] at q
    exact ⟨hl', fun p hp => Rn.here q rs r p hp⟩
  · rw [if_neg hl] at q; exact q.elim
def fCat (fa fb : Env → Sto → R T) : Env → Sto → R (List T) := fun env st => (fa env st).bnd fun x st1 => (fb env st1).bnd fun y st2 => match ownL st2 x, ownL st2 y with
    | some xs, some ys => if xs.length + ys.length ≤ lim then .ok (xs ++ ys) st2 else .bad
    | _, _ => .bad
theorem l_cat (ha : PE X a (tE G W fa)) (hb : PE X b (tE G W fb)) : PE X (.BinOp a .Add b pos) (tL G W (fCat fa fb)) := by
  refine PE.imp (pe_op op_cat ha hb) fun σ H Q h => ?_
  refine at2 h fun m env st t u v w H1 rs r1 r2 q => ?_
  cases e1 : ownL st t with
  | none => rw [e1] at q; exact q.elim
  | some xs =>
    cases e2 : ownL st u with
    | none => rw [e1, e2] at q; exact q.elim
    | some ys =>
      rw [e1, e2] at q
      have q : Rn G W σ env (Rps G) m H1 (if xs.length + ys.length ≤ lim then .ok (xs ++ ys) st else .bad) _ := q
      by_cases hl : xs.length + ys.length ≤ lim
      · rw [if_pos hl] at q
        obtain ⟨l, vs, rfl, h1, rq1⟩ := Rp.own rs.sto r1 e1
        obtain ⟨l2, ws, rfl, h2, rq2⟩ := Rp.own rs.sto r2 e2
        have hl' : vs.length + ws.length ≤ sizeLine := by rw [← rq1.length, ← rq2.length, ← lim_eq]; exact hl
        exact ⟨l, l2, vs, ws, rfl, rfl, h1, h2, hl', fun p hp => Rn.here q rs (rq1.append rq2) p hp⟩
      · rw [if_neg hl] at q; exact q.elim
def fLi (fa : Env → Sto → R T) : Env → Sto → R (List T) := fun env st => (fa env st).bnd fun x st1 => R.opt (seqOf st1 x) st1
theorem l_list {p : Pos} (hK : X.K = G.K) (hg : Gl X "list") (hm : X.mg "list" = none) (ha : PE X a (tE G W fa)) (hs : starEach [a] X.env = [(false, eval a X.env)]) :
    PE X (.Call (.Name "list" p) [a] [] pos) (tL G W (fLi fa)) := by
  refine PE.imp (pe_callTy call_list_of hg hm (by decide +kernel) (pa_cons ha pa_nil hs) (by decide) (by decide) (by rw [hs]; rfl) rfl) fun σ H Q h => ?_
  rw [hK]
  show tE G W fa σ H fun x H1 => ∃ p ys, [x] = [V.ref p] ∧ (SqL G.K H1 p ys ∨ SqT G.K H1 p ys) ∧ ∀ l, H1 l = none → Q (.ref l) (upd H1 l (.lst ys))
  refine at1 h fun m env st t v H1 rs r q => ?_
  cases e : seqOf st t with
  | none => rw [e] at q; exact q.elim
  | some xs =>
    rw [e] at q
    obtain ⟨a, vs, rfl, hs, rq⟩ := Rp.seq rs.sto r e
    exact ⟨a, vs, rfl, hs, fun l hl => Rn.here q rs rq l hl⟩
def fSlL (fa : Env → Sto → R T) (fl fh : Env → Sto → R (Option Int)) : Env → Sto → R (List T) := fun env st => (fa env st).bnd fun x st1 => (fl env st1).bnd fun l st2 => (fh env st2).bnd fun u st3 => match lstOf st3 x with
    | some xs => .ok (cut xs l u) st3
    | none => .bad
theorem l_sl {lo hi : Option Expr} {p2 : Pos} (hK : X.K = G.K) (ha : PE X a (tE G W fa)) (hl : PO X lo (tP G W fl)) (hh : PO X hi (tP G W fh)) :
    PE X (.Subscript a (.Slice lo hi none p2) pos) (tL G W (fSlL fa fl fh)) := by
  refine PE.imp (pe_slice (r := rSlL X.K) sl_list ha hl hh) fun σ H Q h => ?_
  refine at_sl h fun m env st t v l u H1 rs r q => ?_
  rw [hK]
  cases e : lstOf st t with
  | none => rw [e] at q; exact q.elim
  | some xs =>
    rw [e] at q
    obtain ⟨p, vs, rfl, hs, rq⟩ := Rp.lst rs.sto r e
    exact ⟨p, vs, rfl, hs, fun n hn => Rn.here q rs (rq.cut l u) n hn⟩
def tT0 (G : Gh) (f : Env → Sto → R Bool) : TT := fun σ H Q => ∃ m env st, RS G m env st σ H ∧ Rn G W0 σ env (fun _ _ a b => b = a) m H (f env st) (fun _ _ b H' _ => Q b H')
def fYes : Env → Sto → R Bool := fun _ st => .ok true st
def fTst (fa : Env → Sto → R T) : Env → Sto → R Bool := fun env st => (fa env st).bnd fun x st1 => R.opt (asBl x) st1
theorem PTs.imp {X : Cx} {e : List Expr} {t t' : TT} (h : PTs X e t) (k : ∀ σ H Q, t' σ H Q → t σ H Q) : PTs X e t' := ⟨fun pins s σ H Q I q => h.run pins s σ H Q I (k σ H Q q)⟩
theorem ts_nil : PTs X [] (tT0 G fYes) := PTs.imp pts_nil fun σ H Q ⟨m, env, st, rs, q⟩ => Rn.here (b := true) q rs rfl
theorem ts_one {e : Expr} (h : PT X e (tTest (tE G W0 fa))) : PTs X [e] (tT0 G (fTst fa)) := by
  refine PTs.imp (pts_one h) fun σ H Q h => ?_
  show tE G W0 fa σ H fun x H' => ∃ k, x = .bl k ∧ Q k H'
  refine at1 h fun m env st t v H1 rs r q => ?_
  cases t with
  | bl b => exact ⟨b, r, Rn.here (b := b) q rs rfl⟩
  | _ => exact q.elim
def fTurn (own : List Nat) (fe : Env → Sto → R T) (g : IG) (ft : Env → Sto → R Bool) (env : Env) (x : T) (st2 : Sto) : R (Option T) := match g.set x (wipeE env own) with
    | none => .bad
    | some env1 => (ft env1 st2).bnd fun b st3 => if b = true then (fe env1 st3).bnd fun y st4 => .ok (some y) st4 else .ok none st3
def fLc (own : List Nat) (fe : Env → Sto → R T) (g : IG) (fit : Env → Sto → R (List T)) (ft : Env → Sto → R Bool) : Env → Sto → R (List T) := fun env st => (fit env st).bnd fun xs st1 =>
    if xs.length ≤ lim then (each (fTurn own fe g ft env) xs st1).nox else .bad
theorem bnd_ok {A B : Type} {x : R A} {f : A → Sto → R B} {b : B} {s : Sto} (h : x.bnd f = .ok b s) : ∃ a s1, x = .ok a s1 ∧ f a s1 = .ok b s := by
  cases x with
  | ok a s1 => exact ⟨a, s1, rfl, h⟩
  | exc e s1 => cases h
  | bad => cases h
theorem each_cons {f : T → Sto → R (Option T)} {x : T} {xs r : List T} {st s : Sto} (h : each f (x :: xs) st = .ok r s) : ∃ o st1 r1, f x st = .ok o st1 ∧ each f xs st1 = .ok r1 s ∧ r = (match o with
    | some y => y :: r1
    | none => r1) := by
  obtain ⟨o, st1, h1, h⟩ := bnd_ok h
  obtain ⟨r1, st2, h2, h⟩ := bnd_ok h
  cases h
  exact ⟨o, st1, r1, h1, h2, rfl⟩
theorem lc_imp {own : List Nat} {fe : Env → Sto → R T} {g : IG} {fit : Env → Sto → R (List T)} {ft : Env → Sto → R Bool} (hg : ∀ i, i ∈ g.slots → i ∈ own) {σ : L2.St} {H : Hp} {Q : VK}
    (h : tL G W (fLc own fe g fit ft) σ H Q) : tLc (tI G W fit) (tG G g) (tT0 G ft) (tE G W0 fe) own σ H Q := by
  obtain ⟨m0, env, st0, rs0, h⟩ := h
  refine ⟨m0, env, st0, rs0, (Rn.bnd h).imp fun xs st1 _ H1 m1 rs1 _ _ q J hJ D hD => ?_⟩
  by_cases hl : xs.length ≤ lim
  case neg => rw [if_neg hl] at q; exact q.elim
  rw [if_pos hl] at q
  cases eE : each (fTurn own fe g ft env) xs st1 with
  | exc e s => rw [eE] at q; exact q.elim
  | bad => rw [eE] at q; exact q.elim
  | ok r stE =>
  rw [eE] at q
  have q : Rn G W σ env (Rps G) m1 H1 (.ok r stE) _ := q
  have M0 : Mov m1 H1 (m1.add D) (upd H1 D (.lst [])) := Mov.add hD
  let Gp : Hp → Prop := fun Hx => ∃ m' st', Mov m1 H1 m' Hx ∧ RSto G m' Hx st'
  let Y : Nat → Hp → V → Hp → Prop := fun i Hx x H'' => (H'' = Hx ∨ ∃ p o, Hx p = none ∧ H'' = upd Hx p o) ∧ ∃ t, xs[i]? = some t ∧ ∀ m' st', Mov m1 H1 m' Hx → RSto G m' Hx st' → Rp G m' H'' t x
  have w : Walk J xs.length Gp Y := by
    refine ⟨fun i Hx hi ⟨m', st', x, _⟩ => hJ.go m' Hx x.F i hi, fun Hx ⟨m', st', x, _⟩ => hJ.stop m' Hx x.F, fun i Hx y H'' hi ⟨m', st', x, s⟩ hy => ?_⟩
    obtain ⟨h1, t, h2, h3⟩ := hJ.yld m' Hx st' x.F s i y H'' hi hy
    refine ⟨h1, t, h2, fun m2 st2 x2 s2 => ?_⟩
    obtain ⟨_, t2, h4, h5⟩ := hJ.yld m2 Hx st2 x2.F s2 i y H'' hi hy
    rw [h2] at h4; cases h4
    exact h5
  let Pv : Nat → Hp → Prop := fun i Hx => ∃ m' st' acc vs r', Mov m1 H1 m' Hx ∧ m'.fo = (m1.add D).fo ∧ REnv G m' Hx env σ ∧ RSto G m' Hx st' ∧ Hx D = some (.lst vs) ∧ Rps G m' Hx acc vs ∧ acc.length ≤ i ∧
    each (fTurn own fe g ft env) (xs.drop i) st' = .ok r' stE ∧ r = acc ++ r'
  refine lc_it w Pv ?h0 ?hG ?hs ?hd
  case h0 =>
    exact ⟨m1.add D, st1, [], [], r, M0, rfl, rs1.env.mov M0, rs1.sto.add hD, upd_same, rfl, Nat.le_refl _, by simpa using eE, rfl⟩
  case hG =>
    rintro i Hx _ ⟨m', st', acc, vs, r', x, _, _, s, _⟩
    exact ⟨m', st', x, s⟩
  case hd =>
    rintro Hx ⟨m', st', acc, vs, r', x, hfo, re, s, hDx, ra, _, eD, er⟩
    rw [List.drop_length] at eD
    have eD : R.ok [] st' = R.ok r' stE := eD
    cases eD
    rw [List.append_nil] at er
    subst er
    have hfoD : m'.fo D := by rw [hfo]; exact .inr rfl
    have nD : ¬ m1.fo D := fun z => rs1.sto.foS D z hD
    have k1 : ∀ a, ¬ m'.fo a → era Hx D a = Hx a := fun a h => era_ne fun z => h (z ▸ hfoD)
    have k2 : ∀ a, ¬ m'.w a → era Hx D a = Hx a := fun a h => k1 a fun z => h (.inr z)
    have f1 : ∀ a, m1.fo a → m'.fo a := fun a h => by rw [hfo]; exact .inl h
    have w1 : ∀ a, (⟨m'.as, m1.fo⟩ : Mm).w a → m'.w a := fun a h => by
      rcases h with h | h
      · exact .inl h
      · exact .inr (f1 a h)
    have s2 : RSto G ⟨m'.as, m1.fo⟩ (era Hx D) stE := RSto.sub k1 f1 rfl (fun a h => by
      have hne : a ≠ D := fun z => nD (z ▸ h)
      rw [era_ne hne]
      exact s.foS a (f1 a h)) (tab_era s.tab hDx) s
    have st : Stp m1 H1 ⟨m'.as, m1.fo⟩ (era Hx D) := by
      have x2 := x
      refine ⟨⟨fun a o h hT hn => ?_, fun a hn h => ?_, fun a h => x2.newA a h, fun a h => .inl (.inr h), x2.pre⟩, rfl⟩
      · have hne : a ≠ D := fun z => by subst z; rw [h] at hD; cases hD
        rw [era_ne hne]
        exact x2.keep a o h hT hn
      · have hne : a ≠ D := fun z => by subst z; exact h hD
        rw [era_ne hne]
        exact x2.stay a hn h
    have z := q vs (era Hx D) ⟨m'.as, m1.fo⟩ ⟨re.sub k2 w1 rfl, s2⟩ st (Rps.sub k2 w1 rfl _ _ ra) D era_at
    rw [era_upd hDx] at z
    exact z
  case hs =>
    rintro i y Hx H'' hi ⟨m', st', acc, vs, r', x, hfo, re, s, hDx, ra, hla, eD, er⟩ ⟨hH, t, ht, hrp⟩
    have rt := hrp m' st' x s
    have hdr : xs.drop i = t :: xs.drop (i + 1) := by
      obtain ⟨h1, h2⟩ := List.getElem?_eq_some_iff.mp ht
      rw [List.drop_eq_getElem_cons h1, h2]
    rw [hdr] at eD
    obtain ⟨o, st2, r2, e1, e2, e3⟩ := each_cons eD
    unfold fTurn at e1
    cases eg : g.set t (wipeE env own) with
    | none => rw [eg] at e1; cases e1
    | some env1 =>
    rw [eg] at e1
    obtain ⟨b, st3, e4, e1⟩ := bnd_ok e1
    have hfoD : m'.fo D := by rw [hfo]; exact .inr rfl
    have S2 : Stp m' Hx m' H'' := by
      rcases hH with rfl | ⟨p, o, hp, rfl⟩
      · exact Stp.refl _ _
      · exact Stp.fresh hp
    have s2 : RSto G m' H'' st' := by
      rcases hH with rfl | ⟨p, o, hp, rfl⟩
      · exact s
      · exact s.fresh hp
    have re2 := re.mov S2.toMov
    have nDa : D ∉ m'.as := fun z => s.fd D z hfoD
    have hD2 : H'' D = some (.lst vs) := S2.keep D _ hDx True.intro nDa
    refine ⟨m', wipeE env own, st', t, env1, ⟨re2.wipe own, s2⟩, rt, eg, fun σ2 rs2 l2 k2 => ⟨?_, ?_⟩⟩
    · refine wipe_same ?_ fun j hj => k2 j fun z => hj (hg j z)
      rw [l2, wipe_length]
    · refine ⟨m', env1, st', rs2, ?_⟩
      rw [e4]
      intro b' H3 m3 rs3 S3 hb
      subst hb
      have fin : ∀ {H4 : Hp} {m4 : Mm} {st4 : Sto}, Stp m' H'' m4 H4 → RSto G m4 H4 st4 → Mov m1 H1 m4 H4 ∧ m4.fo = (m1.add D).fo ∧ REnv G m4 H4 env σ ∧ H4 D = some (.lst vs) ∧ Rps G m4 H4 acc vs := fun {H4 m4 st4} S4 s4 =>
        ⟨x.trans (S2.trans S4).toMov, S4.fo.trans hfo, re2.mov S4.toMov, S4.keep D _ hD2 True.intro nDa, Rps.mov (S2.trans S4).toMov _ _ ra⟩
      cases b' with
      | false =>
        rw [if_neg (by decide)] at e1 ⊢
        cases e1
        obtain ⟨f1, f2, f3, f4, f5⟩ := fin S3 rs3.sto
        exact ⟨m3, st2, acc, vs, r2, f1, f2, f3, rs3.sto, f4, f5, Nat.le_succ_of_le hla, e2, by rw [er, e3]⟩
      | true =>
        rw [if_pos rfl] at e1 ⊢
        obtain ⟨yt, st4, e5, e1⟩ := bnd_ok e1
        cases e1
        refine ⟨m3, env1, st3, rs3, ?_⟩
        rw [e5]
        intro v H4 m4 rs4 S4 rv
        have S34 := S3.trans S4
        obtain ⟨f1, f2, f3, f4, f5⟩ := fin S34 rs4.sto
        have hfo4 : m4.fo D := by rw [f2]; exact .inr rfl
        refine ⟨vs, f4, ?_, m4, st2, acc ++ [yt], vs ++ [v], r2, ?_, f2, f3.upd hfo4, rs4.sto.upd hfo4 f4, upd_same, Rps.upd (f5.append ⟨v, [], rfl, rv, rfl⟩) hfo4, by rw [List.length_append, List.length_singleton]; omega, e2, by rw [er, e3, List.append_assoc]; rfl⟩
        · rw [← f5.length, ← lim_eq]; omega
        · refine ⟨fun a o h hT hn => ?_, fun a hn h => ?_, f1.newA, f1.newF, f1.pre⟩
          · by_cases ha : a = D
            · subst ha; rw [hD] at h; cases h
            · rw [upd_ne ha]; exact f1.keep a o h hT hn
          · by_cases ha : a = D
            · subst ha; exact absurd hD h
            · rw [upd_ne ha]; exact f1.stay a hn h
end
end Eg
set_option Elab.async false
set_option linter.all false
set_option maxRecDepth 100000
set_option maxHeartbeats 2000000
namespace Eg
open PySem PySem.Spec PyProof.Rows L2
theorem walk_it {J : It} {n : Nat} {Gp : Hp → Prop} {Y : Nat → Hp → V → Hp → Prop} (w : Walk J n Gp Y) {Qd : Hp → Prop} {H0 : Hp} {B : V → Hp → (Hp → Prop) → Prop} (Pv : Nat → Hp → Prop) (h0 : Pv 0 H0) (hG : ∀ i H, i ≤ n → Pv i H → Gp H)
    (hs : ∀ i x H H', i < n → Pv i H → Y i H x H' → B x H' (Pv (i + 1))) (hd : ∀ H, Pv n H → Qd H) :
    ∃ W : Nat → Nat → Hp → Prop, (∃ m, W 0 m H0) ∧ ∀ i m H, W i m H →
      (J.stop i H ∧ Qd H) ∨ (J.go i H ∧ ∃ Nx : Hp → Prop, (∀ H', Nx H' → ∃ m', m' < m ∧ W (i + 1) m' H') ∧ ∀ x H', J.yld i H x H' → B x H' Nx) := by
  refine ⟨fun i m H => m = n - i ∧ i ≤ n ∧ Pv i H, ⟨n, by simp, Nat.zero_le _, h0⟩, ?_⟩
  rintro i m H ⟨rfl, hi, p⟩
  have q := hG i H hi p
  by_cases c : i < n
  · refine .inr ⟨w.goes i H c q, Pv (i + 1), fun H' p' => ⟨n - (i + 1), by omega, rfl, c, p'⟩, fun x H' y => ?_⟩
    exact hs i x H H' c p (w.yields i H x H' c q y)
  · have e : i = n := by omega
    subst e
    exact .inl ⟨w.stops H q, hd H p⟩
section
variable {G : Gh} {W : WX}
theorem wk_walk {m1 : Mm} {H1 : Hp} {J : It} {xs : List T} (hJ : Wk G m1 H1 J xs) : Walk J xs.length (fun Hx => ∃ m' st', MovF m1 H1 m' Hx ∧ RSto G m' Hx st')
    (fun i Hx x H'' => (H'' = Hx ∨ ∃ p o, Hx p = none ∧ H'' = upd Hx p o) ∧ ∃ t, xs[i]? = some t ∧ ∀ m' st', MovF m1 H1 m' Hx → RSto G m' Hx st' → Rp G m' H'' t x) := by
  refine ⟨fun i Hx hi ⟨m', st', x, _⟩ => hJ.go m' Hx x i hi, fun Hx ⟨m', st', x, _⟩ => hJ.stop m' Hx x, fun i Hx y H'' hi ⟨m', st', x, s⟩ hy => ?_⟩
  obtain ⟨h1, t, h2, h3⟩ := hJ.yld m' Hx st' x s i y H'' hi hy
  refine ⟨h1, t, h2, fun m2 st2 x2 s2 => ?_⟩
  obtain ⟨_, t2, h4, h5⟩ := hJ.yld m2 Hx st2 x2 s2 i y H'' hi hy
  rw [h2] at h4; cases h4
  exact h5
def eachL (f : T → Sto → R (List T)) : List T → Sto → R (List T)
  | [], st => .ok [] st
  | x :: xs, st => (f x st).bnd fun r st1 => (eachL f xs st1).bnd fun rs st2 => .ok (r ++ rs) st2
theorem eachL_cons {f : T → Sto → R (List T)} {x : T} {xs r : List T} {st s : Sto} (h : eachL f (x :: xs) st = .ok r s) : ∃ r1 st1 r2, f x st = .ok r1 st1 ∧ eachL f xs st1 = .ok r2 s ∧ r = r1 ++ r2 := by
  obtain ⟨o, st1, h1, h⟩ := bnd_ok h
  obtain ⟨r1, st2, h2, h⟩ := bnd_ok h
  cases h
  exact ⟨o, st1, r1, h1, h2, rfl⟩
def fTurnL (own vs1 : List Nat) (fe : Env → Sto → R T) (g : IG) (ft : Env → Sto → R Bool) (g1 : IG) (fit1 : Env → Sto → R (List T)) (ft1 : Env → Sto → R Bool) (env : Env) (x : T) (st2 : Sto) : R (List T) := match g.set x (wipeE env own) with
    | none => .bad
    | some env1 => (ft env1 st2).bnd fun b st3 => if b = true then (fit1 env1 st3).bnd fun ys st4 => if ys.length ≤ lim then each (fTurn vs1 fe g1 ft1 env1) ys st4 else .bad else .ok [] st3
def fLc2 (own vs1 : List Nat) (fe : Env → Sto → R T) (g : IG) (fit : Env → Sto → R (List T)) (ft : Env → Sto → R Bool) (g1 : IG) (fit1 : Env → Sto → R (List T)) (ft1 : Env → Sto → R Bool) : Env → Sto → R (List T) := fun env st => (fit env st).bnd fun xs st1 =>
    if xs.length ≤ lim then ((eachL (fTurnL own vs1 fe g ft g1 fit1 ft1 env) xs st1).bnd fun r st2 => if r.length ≤ lim then .ok r st2 else .bad).nox else .bad
theorem MovF.upd {m1 m : Mm} {H1 H : Hp} {D : Addr} {o : HO} (x : MovF m1 H1 m H) (hD : m1.fo D) : MovF m1 H1 m (upd H D o) := by
  refine ⟨fun a u h hT hn => ?_, x.newA, x.newF, x.pre, fun a hm h => ?_⟩
  · have hne : a ≠ D := fun z => hn (.inr (z ▸ hD))
    rw [upd_ne hne]; exact x.keep a u h hT hn
  · by_cases e : a = D
    · subst e; rw [upd_same]; simp
    · rw [upd_ne e]; exact x.stay a hm h
theorem lc2_imp {own vs1 : List Nat} {fe : Env → Sto → R T} {g g1 : IG} {fit fit1 : Env → Sto → R (List T)} {ft ft1 : Env → Sto → R Bool} (hg : ∀ i, i ∈ g.slots → i ∈ own) (hg1 : ∀ i, i ∈ g1.slots → i ∈ vs1) {σ : L2.St} {H : Hp} {Q : VK}
    (h : tL G W (fLc2 own vs1 fe g fit ft g1 fit1 ft1) σ H Q) : tLc2 (tI G W fit) (tG G g) (tT0 G ft) (tI G W0 fit1) (tG G g1) (tT0 G ft1) (tE G W0 fe) own vs1 σ H Q := by
  obtain ⟨m0, env, st0, rs0, h⟩ := h
  refine ⟨m0, env, st0, rs0, (Rn.bnd h).imp fun xs st1 _ H1 m1 rs1 _ _ q J hJ D hD => ?_⟩
  by_cases hl : xs.length ≤ lim
  case neg => rw [if_neg hl] at q; exact q.elim
  rw [if_pos hl] at q
  cases eE : eachL (fTurnL own vs1 fe g ft g1 fit1 ft1 env) xs st1 with
  | exc e s => rw [eE] at q; exact q.elim
  | bad => rw [eE] at q; exact q.elim
  | ok r stE =>
  rw [eE] at q
  by_cases hrl : r.length ≤ lim
  case neg =>
    have : ((R.ok r stE).bnd fun r st2 => if r.length ≤ lim then R.ok r st2 else .bad).nox = .bad := by
      show (if r.length ≤ lim then R.ok r stE else .bad).nox = .bad
      rw [if_neg hrl]; rfl
    rw [this] at q; exact q.elim
  have hq : ((R.ok r stE).bnd fun r st2 => if r.length ≤ lim then R.ok r st2 else .bad).nox = .ok r stE := by
    show (if r.length ≤ lim then R.ok r stE else .bad).nox = _
    rw [if_pos hrl]; rfl
  rw [hq] at q
  have q : Rn G W σ env (Rps G) m1 H1 (.ok r stE) _ := q
  have M0 : Mov m1 H1 (m1.add D) (upd H1 D (.lst [])) := Mov.add hD
  let Pv : Nat → Hp → Prop := fun i Hx => ∃ m' st' acc vs r', Mov m1 H1 m' Hx ∧ m'.fo = (m1.add D).fo ∧ REnv G m' Hx env σ ∧ RSto G m' Hx st' ∧ Hx D = some (.lst vs) ∧ Rps G m' Hx acc vs ∧
    eachL (fTurnL own vs1 fe g ft g1 fit1 ft1 env) (xs.drop i) st' = .ok r' stE ∧ r = acc ++ r'
  refine walk_it (wk_walk hJ) Pv ?h0 ?hG ?hs ?hd
  case h0 =>
    exact ⟨m1.add D, st1, [], [], r, M0, rfl, rs1.env.mov M0, rs1.sto.add hD, upd_same, rfl, by simpa using eE, rfl⟩
  case hG =>
    rintro i Hx _ ⟨m', st', acc, vs, r', x, _, _, s, _⟩
    exact ⟨m', st', x.F, s⟩
  case hd =>
    rintro Hx ⟨m', st', acc, vs, r', x, hfo, re, s, hDx, ra, eD, er⟩
    rw [List.drop_length] at eD
    have eD : R.ok [] st' = R.ok r' stE := eD
    cases eD
    rw [List.append_nil] at er
    subst er
    have hfoD : m'.fo D := by rw [hfo]; exact .inr rfl
    have nD : ¬ m1.fo D := fun z => rs1.sto.foS D z hD
    have k1 : ∀ a, ¬ m'.fo a → era Hx D a = Hx a := fun a h => era_ne fun z => h (z ▸ hfoD)
    have k2 : ∀ a, ¬ m'.w a → era Hx D a = Hx a := fun a h => k1 a fun z => h (.inr z)
    have f1 : ∀ a, m1.fo a → m'.fo a := fun a h => by rw [hfo]; exact .inl h
    have w1 : ∀ a, (⟨m'.as, m1.fo⟩ : Mm).w a → m'.w a := fun a h => by
      rcases h with h | h
      · exact .inl h
      · exact .inr (f1 a h)
    have s2 : RSto G ⟨m'.as, m1.fo⟩ (era Hx D) stE := RSto.sub k1 f1 rfl (fun a h => by
      have hne : a ≠ D := fun z => nD (z ▸ h)
      rw [era_ne hne]
      exact s.foS a (f1 a h)) (tab_era s.tab hDx) s
    have st : Stp m1 H1 ⟨m'.as, m1.fo⟩ (era Hx D) := by
      refine ⟨⟨fun a o h hT hn => ?_, fun a hn h => ?_, fun a h => x.newA a h, fun a h => .inl (.inr h), x.pre⟩, rfl⟩
      · have hne : a ≠ D := fun z => by subst z; rw [h] at hD; cases hD
        rw [era_ne hne]
        exact x.keep a o h hT hn
      · have hne : a ≠ D := fun z => by subst z; exact h hD
        rw [era_ne hne]
        exact x.stay a hn h
    have z := q vs (era Hx D) ⟨m'.as, m1.fo⟩ ⟨re.sub k2 w1 rfl, s2⟩ st (Rps.sub k2 w1 rfl _ _ ra) D era_at
    rw [era_upd hDx] at z
    exact z
  case hs =>
    rintro i y Hx H'' hi ⟨m', st', acc, vs, r', x, hfo, re, s, hDx, ra, eD, er⟩ ⟨hH, t, ht, hrp⟩
    have rt := hrp m' st' x.F s
    have hdr : xs.drop i = t :: xs.drop (i + 1) := by
      obtain ⟨h1, h2⟩ := List.getElem?_eq_some_iff.mp ht
      rw [List.drop_eq_getElem_cons h1, h2]
    rw [hdr] at eD
    obtain ⟨r1, st2, r2, e1, e2, e3⟩ := eachL_cons eD
    unfold fTurnL at e1
    cases eg : g.set t (wipeE env own) with
    | none => rw [eg] at e1; cases e1
    | some env1 =>
    rw [eg] at e1
    obtain ⟨b, st3, e4, e1⟩ := bnd_ok e1
    have hfoD : m'.fo D := by rw [hfo]; exact .inr rfl
    have S2 : Stp m' Hx m' H'' := by
      rcases hH with rfl | ⟨p, o, hp, rfl⟩
      · exact Stp.refl _ _
      · exact Stp.fresh hp
    have s2 : RSto G m' H'' st' := by
      rcases hH with rfl | ⟨p, o, hp, rfl⟩
      · exact s
      · exact s.fresh hp
    have re2 := re.mov S2.toMov
    have nDa : D ∉ m'.as := fun z => s.fd D z hfoD
    have hD2 : H'' D = some (.lst vs) := S2.keep D _ hDx True.intro nDa
    refine ⟨m', wipeE env own, st', t, env1, ⟨re2.wipe own, s2⟩, rt, eg, fun σ2 rs2 l2 k2 => ⟨?_, ?_⟩⟩
    · refine wipe_same ?_ fun j hj => k2 j fun z => hj (hg j z)
      rw [l2, wipe_length]
    · refine ⟨m', env1, st', rs2, ?_⟩
      rw [e4]
      intro b' H3 m3 rs3 S3 hb
      subst hb
      have fin : ∀ {H4 : Hp} {m4 : Mm} {st4 : Sto}, Stp m' H'' m4 H4 → RSto G m4 H4 st4 → Mov m1 H1 m4 H4 ∧ m4.fo = (m1.add D).fo ∧ REnv G m4 H4 env σ ∧ H4 D = some (.lst vs) ∧ Rps G m4 H4 acc vs := fun {H4 m4 st4} S4 s4 =>
        ⟨x.trans (S2.trans S4).toMov, S4.fo.trans hfo, re2.mov S4.toMov, S4.keep D _ hD2 True.intro nDa, Rps.mov (S2.trans S4).toMov _ _ ra⟩
      cases b' with
      | false =>
        rw [if_neg (by decide)] at e1 ⊢
        cases e1
        obtain ⟨f1, f2, f3, f4, f5⟩ := fin S3 rs3.sto
        exact ⟨m3, st2, acc, vs, r2, f1, f2, f3, rs3.sto, f4, f5, e2, by rw [er, e3]; rfl⟩
      | true =>
        rw [if_pos rfl] at e1 ⊢
        obtain ⟨ys, st4, e5, e1⟩ := bnd_ok e1
        by_cases hl1 : ys.length ≤ lim
        case neg => rw [if_neg hl1] at e1; cases e1
        rw [if_pos hl1] at e1
        refine ⟨m3, env1, st3, rs3, ?_⟩
        rw [e5]
        intro _ H4 m4 rs4 S4 _ J1 hJ1
        have S34 := S3.trans S4
        obtain ⟨f1, f2, f3, f4, f5⟩ := fin S34 rs4.sto
        have hfo4 : m4.fo D := by rw [f2]; exact .inr rfl
        let Pi : Nat → Hp → Prop := fun j Hy => ∃ n' st' acc vs r1', Mov m1 H1 n' Hy ∧ MovF m4 H4 n' Hy ∧ n'.fo = (m1.add D).fo ∧ REnv G n' Hy env σ ∧ REnv G n' Hy env1 σ2 ∧ RSto G n' Hy st' ∧ Hy D = some (.lst vs) ∧ Rps G n' Hy acc vs ∧
          each (fTurn vs1 fe g1 ft1 env1) (ys.drop j) st' = .ok r1' st2 ∧ r = acc ++ (r1' ++ r2)
        refine walk_it (B := fun x1 H' Nx1 => tG G g1 x1 (L2.wipe σ2 vs1) H' fun σ3 H5 => L2.wipe σ3 vs1 = L2.wipe σ2 vs1 ∧ tT0 G ft1 σ3 H5 fun b H6 =>
          if b = true then tE G W0 fe σ3 H6 fun y H7 => ∃ acc, H7 D = some (.lst acc) ∧ acc.length < sizeLine ∧ Nx1 (upd H7 D (.lst (acc ++ [y]))) else Nx1 H6) (wk_walk hJ1) Pi ?i0 ?iG ?is ?id
        case i0 =>
          exact ⟨m4, st4, acc, vs, r1, f1, (Stp.refl m4 H4).toMov.F, f2, f3, rs4.env, rs4.sto, f4, f5, by simpa using e1, by rw [er, e3]⟩
        case iG =>
          rintro j Hy _ ⟨n', st', _, _, _, _, x, _, _, _, s, _⟩
          exact ⟨n', st', x, s⟩
        case id =>
          rintro Hy ⟨n', st', acc, vs, r1', x, _, hf, re3, _, s, hDy, ra3, eD, er3⟩
          rw [List.drop_length] at eD
          have eD : R.ok [] st' = R.ok r1' st2 := eD
          cases eD
          exact ⟨n', st2, acc, vs, r2, x, hf, re3, s, hDy, ra3, e2, by rw [er3]; rfl⟩
        case is =>
          rintro j y1 Hy Hz hj ⟨n', st', acc, vs, r1', x, xF, hf, re3, re4, s, hDy, ra3, eD, er3⟩ ⟨hH, u, hu, hru⟩
          have ru := hru n' st' xF s
          have hdr : ys.drop j = u :: ys.drop (j + 1) := by
            obtain ⟨h1, h2⟩ := List.getElem?_eq_some_iff.mp hu
            rw [List.drop_eq_getElem_cons h1, h2]
          rw [hdr] at eD
          obtain ⟨o, st5, r3, g1', g2, g3⟩ := each_cons eD
          unfold fTurn at g1'
          cases eg1 : g1.set u (wipeE env1 vs1) with
          | none => rw [eg1] at g1'; cases g1'
          | some env2 =>
          rw [eg1] at g1'
          obtain ⟨b1, st6, g4, g1'⟩ := bnd_ok g1'
          have hfoDn : n'.fo D := by rw [hf]; exact .inr rfl
          have T2 : Stp n' Hy n' Hz := by
            rcases hH with rfl | ⟨p, o, hp, rfl⟩
            · exact Stp.refl _ _
            · exact Stp.fresh hp
          have t2 : RSto G n' Hz st' := by
            rcases hH with rfl | ⟨p, o, hp, rfl⟩
            · exact s
            · exact s.fresh hp
          have nDn : D ∉ n'.as := fun z => s.fd D z hfoDn
          have hD5 : Hz D = some (.lst vs) := T2.keep D _ hDy True.intro nDn
          refine ⟨n', wipeE env1 vs1, st', u, env2, ⟨(re4.mov T2.toMov).wipe vs1, t2⟩, ru, eg1, fun σ3 rs5 l5 k5 => ⟨?_, ?_⟩⟩
          · refine wipe_same ?_ fun j hj => k5 j fun z => hj (hg1 j z)
            rw [l5, wipe_length]
          · refine ⟨n', env2, st', rs5, ?_⟩
            rw [g4]
            intro b'' H6 m6 rs6 S6 hb
            subst hb
            have fin1 : ∀ {H7 : Hp} {m7 : Mm} {st7 : Sto}, Stp n' Hz m7 H7 → RSto G m7 H7 st7 → Mov m1 H1 m7 H7 ∧ MovF m4 H4 m7 H7 ∧ m7.fo = (m1.add D).fo ∧ REnv G m7 H7 env σ ∧ REnv G m7 H7 env1 σ2 ∧ H7 D = some (.lst vs) ∧ Rps G m7 H7 acc vs := fun {H7 m7 st7} S7 s7 =>
              ⟨x.trans (T2.trans S7).toMov, xF.trans (T2.trans S7).toMov, S7.fo.trans hf, re3.mov (T2.trans S7).toMov, re4.mov (T2.trans S7).toMov, S7.keep D _ hD5 True.intro nDn, Rps.mov (T2.trans S7).toMov _ _ ra3⟩
            cases b'' with
            | false =>
              rw [if_neg (by decide)] at g1' ⊢
              cases g1'
              obtain ⟨a1, a2, a3, a4, a5, a6, a7⟩ := fin1 S6 rs6.sto
              exact ⟨m6, st5, acc, vs, r3, a1, a2, a3, a4, a5, rs6.sto, a6, a7, g2, by rw [er3, g3]⟩
            | true =>
              rw [if_pos rfl] at g1' ⊢
              obtain ⟨yt, st8, g5, g1'⟩ := bnd_ok g1'
              cases g1'
              refine ⟨m6, env2, st6, rs6, ?_⟩
              rw [g5]
              intro v H7 m7 rs7 S7 rv
              have S67 := S6.trans S7
              obtain ⟨a1, a2, a3, a4, a5, a6, a7⟩ := fin1 S67 rs7.sto
              have hfo7 : m7.fo D := by rw [a3]; exact .inr rfl
              refine ⟨vs, a6, ?_, m7, st5, acc ++ [yt], vs ++ [v], r3, ?_, a2.upd hfo4, a3, a4.upd hfo7, a5.upd hfo7, rs7.sto.upd hfo7 a6, upd_same, Rps.upd (a7.append ⟨v, [], rfl, rv, rfl⟩) hfo7, g2, by rw [er3, g3, List.append_assoc]; rfl⟩
              · rw [← a7.length, ← lim_eq]
                have := congrArg List.length er3
                rw [g3, List.length_append, List.length_append, List.length_cons] at this
                omega
              · refine ⟨fun a o h hT hn => ?_, fun a hn h => ?_, a1.newA, a1.newF, a1.pre⟩
                · by_cases ha : a = D
                  · subst ha; rw [hD] at h; cases h
                  · rw [upd_ne ha]; exact a1.keep a o h hT hn
                · by_cases ha : a = D
                  · subst ha; exact absurd hD h
                  · rw [upd_ne ha]; exact a1.stay a hn h
end
end Eg
set_option Elab.async false
set_option linter.all false
set_option maxRecDepth 100000
set_option maxHeartbeats 4000000
namespace Eg
open PySem PySem.Spec PyProof.Rows L2
section
variable {X : Cx}
end
section
variable {X : Cx} {G : Gh} {W : WX} {fa fb : Env → Sto → R T} {a b : Expr} {pos : Pos}
end
end Eg
set_option Elab.async false
set_option linter.all false
set_option maxRecDepth 100000
set_option maxHeartbeats 2000000
namespace Eg
open PySem PySem.Spec PyProof.Rows
section
variable {prog : Program} {w : World} {A : Around} {E : Value → Shared → Prop} {s : Shared} {z TI TO i1 i2 i3 : Addr} {fp1 fp2 fp3 : List Addr} {n1 n2 n3 i : Nat} {P1 P2 P3 : Nat → Value → Prop} {St1 St2 St3 : Nat → Heap → Prop}
end
section
variable {prog : Program} {w : World} {A : Around} {E : Value → Shared → Prop} {s : Shared} {z TI TO i1 i2 i3 S : Addr} {fp1 fp2 fp3 : List Addr} {n1 n2 n3 i : Nat} {P1 P2 P3 : Nat → Value → Prop} {St1 St2 St3 : Nat → Heap → Prop}
def Z3 (z TI TO i1 i2 i3 S : Addr) (St1 St2 St3 : Nat → Heap → Prop) (i : Nat) (h : Heap) : Prop := IsTupOf3 h TI (.ref i1) (.ref i2) (.ref i3) ∧ St1 i h ∧ St2 i h ∧ St3 i h ∧
  ((IsZip h z TI TO .none ∧ ∃ a b c, IsTupOf3 h TO a b c) ∨ ∃ T f o, IsZipHeld h z TI TO T f ∧ h.get? T = some o ∧ S < T)
structure Z3Lo (z TI TO i1 i2 i3 S : Addr) (fp1 fp2 fp3 : List Addr) : Prop where
  z : z < S
  TI : TI < S
  TO : TO < S
  f1 : ∀ b ∈ fp1, b < S
  f2 : ∀ b ∈ fp2, b < S
  f3 : ∀ b ∈ fp3, b < S
structure Z3G (P1 P2 P3 : Nat → Value → Prop) (lo : Addr) (h : Heap) (as : List Addr) : Prop where
  rise : as.Pairwise (· < ·)
  above : ∀ a ∈ as, lo < a
  tups : ∀ (j : Nat) (a : Addr), as[j]? = some a → ∃ x y u, P1 j x ∧ P2 j y ∧ P3 j u ∧ IsTupOf3 h a x y u
theorem Z3G.there {lo : Addr} {h : Heap} {as : List Addr} (g : Z3G P1 P2 P3 lo h as) {a : Addr} (ha : a ∈ as) : a < h.objs.size := by
  obtain ⟨j, hj⟩ := List.mem_iff_getElem?.mp ha
  obtain ⟨_, _, _, _, _, _, e⟩ := g.tups j a hj
  exact Heap.lt_size e
theorem Z3.keep (D1 : Draws prog w A i1 fp1 n1 P1 St1) (D2 : Draws prog w A i2 fp2 n2 P2 St2) (D3 : Draws prog w A i3 fp3 n3 P3 St3) (L : Z3Lo z TI TO i1 i2 i3 S fp1 fp2 fp3) {h h' : Heap} (x : Z3 z TI TO i1 i2 i3 S St1 St2 St3 i h)
    (hk : ∀ b o, b ≠ S → h.get? b = some o → h'.get? b = some o) : Z3 z TI TO i1 i2 i3 S St1 St2 St3 i h' := by
  obtain ⟨a, b, c, d, e⟩ := x
  refine ⟨hk _ _ (Nat.ne_of_lt L.TI) a, D1.frame _ _ _ b fun q hq o e => hk q o (Nat.ne_of_lt (L.f1 q hq)) e, D2.frame _ _ _ c fun q hq o e => hk q o (Nat.ne_of_lt (L.f2 q hq)) e, D3.frame _ _ _ d fun q hq o e => hk q o (Nat.ne_of_lt (L.f3 q hq)) e, ?_⟩
  rcases e with ⟨e, a, b, c, e2⟩ | ⟨T, f, o, e, e2, e3⟩
  · exact .inl ⟨hk _ _ (Nat.ne_of_lt L.z) e, a, b, c, hk _ _ (Nat.ne_of_lt L.TO) e2⟩
  · exact .inr ⟨T, f, o, hk _ _ (Nat.ne_of_lt L.z) e, hk _ _ (Nat.ne_of_gt e3) e2, e3⟩
end
section
variable {prog : Program} {w : World} {A : Around} {s : Shared} {R : Result → Shared → Prop} {z TI TO i1 i2 i3 S : Addr} {fp1 fp2 fp3 : List Addr} {n1 n2 n3 : Nat} {P1 P2 P3 : Nat → Value → Prop} {St1 St2 St3 : Nat → Heap → Prop}
end
section
variable {prog : Program} {w : World} {A : Around} {E : Value → Shared → Prop} {s : Shared} {z TI TO i1 i2 i3 : Addr} {fp1 fp2 fp3 : List Addr} {n1 n2 n3 : Nat} {P1 P2 P3 : Nat → Value → Prop} {St1 St2 St3 : Nat → Heap → Prop}
end
end Eg
set_option Elab.async false
set_option linter.all false
set_option maxRecDepth 100000
set_option maxHeartbeats 2000000
namespace Eg
open PySem PySem.Spec PyProof.Rows L2
def updT (H : Hp) : List Addr → List (List V) → Hp
  | p :: ps, c :: cs => updT (upd H p (.tup c)) ps cs
  | _, _ => H
section
variable {X : Cx} {G : Gh} {W : WX} {σ : L2.St} {H : Hp} {m : Mm} {env : Env} {st : Sto} {pos pos2 : Pos}
end
section
variable {X : Cx} {G : Gh} {W : WX} {σ : L2.St} {H : Hp} {m : Mm} {env : Env} {st : Sto} {pos pos2 : Pos} {A B : Type} {rel : Mm → Hp → A → B → Prop}
theorem Rn.tups : ∀ {cs : List (List T)} {ds : List (List V)} {ps : List Addr} {H : Hp}, RS G m env st σ H → cs.length = ds.length → ps.length = ds.length → (∀ (j : Nat) (c : List T), cs[j]? = some c → ∃ d, ds[j]? = some d ∧ Rps G m H c d) → ps.Nodup → (∀ p, p ∈ ps → H p = none) →
    RS G m env st σ (updT H ps ds) ∧ Stp m H m (updT H ps ds) ∧ Rps G m (updT H ps ds) (cs.map T.tup) (ps.map V.ref)
  | [], [], [], H, rs, h1, h2, h3, h4, h5 => ⟨rs, Stp.refl m H, rfl⟩
  | [], [], _ :: _, H, rs, h1, h2, h3, h4, h5 => by cases h2
  | [], _ :: _, ps, H, rs, h1, h2, h3, h4, h5 => by cases h1
  | _ :: _, [], ps, H, rs, h1, h2, h3, h4, h5 => by cases h1
  | c :: cs, d :: ds, [], H, rs, h1, h2, h3, h4, h5 => by cases h2
  | c :: cs, d :: ds, p :: ps, H, rs, h1, h2, h3, h4, h5 => by
    have hp := h5 p List.mem_cons_self
    obtain ⟨d', e, r⟩ := h3 0 c rfl
    cases e
    obtain ⟨n1, n2⟩ := List.nodup_cons.mp h4
    have sf : Stp m H m (upd H p (.tup d)) := Stp.fresh hp
    obtain ⟨a1, a2, a3⟩ := Rn.tups (cs := cs) (ds := ds) (ps := ps) (H := upd H p (.tup d)) (rs.fresh hp) (by simpa using h1) (by simpa using h2) (fun j c e => by
      obtain ⟨d, e2, r⟩ := h3 (j + 1) c e
      exact ⟨d, e2, Rps.mov sf.toMov _ _ r⟩) n2 (fun q hq => by rw [upd_ne (fun z => n1 (by rw [← z]; exact hq))]; exact h5 q (List.mem_cons_of_mem _ hq))
    have r1 : Rp G m (upd H p (.tup d)) (.tup c) (.ref p) := ⟨p, d, rfl, ⟨rs.sto.free hp, upd_same⟩, Rps.mov sf.toMov _ _ r⟩
    exact ⟨a1, sf.trans a2, _, _, rfl, Rp.mov a2.toMov _ _ r1, a3⟩
end
end Eg
set_option Elab.async false
set_option linter.all false
set_option maxRecDepth 100000
set_option maxHeartbeats 2000000
namespace Eg
open PySem PySem.Spec PyProof.Rows L2
def Spec (G : Gh) (F : List T → Sto → R T) : Sp := fun vs H Q E => ∃ m st ts, RS G m [] st [] H ∧ Rps G m H ts vs ∧ Rn G (fun cls d _ H' => E cls d H') [] [] (Rp G) m H (F ts st) (Kq Q)
structure FnG (P : Program) (w : World) (K : PySem.W.Frag) (mg : Str → Option Value) (base : Heap) (lv : Nat) (f : Addr) (fd : FuncData) (ps : List Str) (sp : Sp) : Prop where
  go : ∀ (A : Around) (outer : List PySem.Env) (s : Shared) (H : Hp) (args : Args) (us : List Value) (vs : List V) (Q : VK) (E : XK), Room lv A → A.guards = some [] → Env0 P w K mg base A outer s H →
    BindsTo s fd args (ps.zip us) → Vals vs us → vs.length = ps.length → sp vs H Q E → codeAny (model P w) A (.call (.ref f) args) (CR (L2.CX P w) outer P w H s Q E) s
def Cal (P : Program) (w : World) (K : PySem.W.Frag) (mg : Str → Option Value) (base : Heap) (lv : Nat) (G : Gh) (kn : List Str) (F : List T → Sto → R T) (f : Addr) : Prop :=
  ∀ (A : Around) (outer : List PySem.Env) (s : Shared) (H : Hp) (us ws : List Value) (vs zs : List V) (Q : VK) (E : XK), Room lv A → A.guards = some [] → Env0 P w K mg base A outer s H →
    Vals vs us → Vals zs ws → zs.length = kn.length → Spec G F (vs ++ zs) H Q E → codeAny (model P w) A (.call (.ref f) ⟨us, kn.zip ws⟩) (CR (L2.CX P w) outer P w H s Q E) s
section
variable {P : Program} {w : World} {K : PySem.W.Frag} {mg : Str → Option Value} {base : Heap} {lv j : Nat} {G : Gh} {kn ps : List Str} {F : List T → Sto → R T} {f : Addr} {fd : FuncData}
theorem Cal.mono (c : Cal P w K mg base j G kn F f) (h : j ≤ lv) : Cal P w K mg base lv G kn F f := fun A outer s H us ws vs zs Q E r g e v z l q => c A outer s H us ws vs zs Q E (r.mono h) g e v z l q
theorem Spec.imp {F' : List T → Sto → R T} {vs : List V} {H : Hp} {Q : VK} {E : XK} (h : Spec G F' vs H Q E) (e : ∀ ts st, F' ts st = .bad ∨ F' ts st = F ts st) : Spec G F vs H Q E := by
  obtain ⟨m, st, ts, rs, r, q⟩ := h
  refine ⟨m, st, ts, rs, r, ?_⟩
  rcases e ts st with z | z
  · rw [z] at q; exact q.elim
  · rw [z] at q; exact q
def kTs : List T → Option (List V)
  | [] => some []
  | t :: ts => match kT t, kTs ts with
    | some v, some vs => some (v :: vs)
    | _, _ => none
theorem kTs_rp {m : Mm} {H : Hp} : ∀ {ts : List T} {vs : List V}, kTs ts = some vs → Rps G m H ts vs
  | [], _, h => by cases h; rfl
  | t :: ts, vs, h => by
    have h : (match kT t, kTs ts with
      | some v, some vs => some (v :: vs)
      | _, _ => none) = some vs := h
    cases e1 : kT t with
    | none => rw [e1] at h; cases h
    | some v =>
      cases e2 : kTs ts with
      | none => rw [e1, e2] at h; cases h
      | some r =>
        rw [e1, e2] at h
        cases h
        exact ⟨v, r, rfl, kT_rp e1, kTs_rp e2⟩
def padF (n : Nat) (dts : List T) (F : List T → Sto → R T) : List T → Sto → R T := fun ts st => if ts.length = n then F (ts ++ dts) st else .bad
theorem cal_pad {n : Nat} {dts : List T} {dvs : List V} {ds : List Value} (c : FnG P w K mg base lv f fd ps (Spec G F)) (hb : Binds K fd ps ds) (hd : Vals dvs ds) (hk : kTs dts = some dvs) (hn : n + dts.length = ps.length) :
    Cal P w K mg base lv G [] (padF n dts F) f := fun A outer s H us ws vs zs Q E hr hg e0 rv rz lz q => by
  have hz : zs = [] := List.length_eq_zero_iff.mp lz
  subst hz
  obtain ⟨m, st, ts, rs, r, q⟩ := q
  rw [List.append_nil] at r
  unfold padF at q
  by_cases hl : ts.length = n
  · rw [if_pos hl] at q
    have r2 := rv.append hd
    have hkl : dts.length = dvs.length := (kTs_rp (G := G) (m := m) (H := H) hk).length
    have l1 : (vs ++ dvs).length = ps.length := by rw [List.length_append, ← r.length, hl, ← hkl]; exact hn
    have kin : K.In s.heap := e0.mod.kin.keeps fun b o z => (e0.bs b o z).1
    exact c.go A outer s H ⟨us, []⟩ (us ++ ds) (vs ++ dvs) Q E hr hg e0 (hb s us kin (by rw [← r2.length]; exact l1)) r2 l1 ⟨m, st, ts ++ dts, rs, r.append (kTs_rp hk), q⟩
  · rw [if_neg hl] at q; exact q.elim
structure Kwd (K : PySem.W.Frag) (fd : FuncData) (ps : List Str) (n : Nat) (kn : List Str) (gT : List T → List T) : Prop where
  ex : ∃ (g : List Value → List Value → List Value) (gV : List V → List V → List V), KBn K fd ps n kn g gV ∧
    (∀ us ws : List Value, us.length = n → ws.length = kn.length → (g us ws).length = ps.length) ∧
    ∀ (G : Gh) (m : Mm) (H : Hp) (ts : List T) (vs zs : List V), vs.length = n → Rps G m H ts (vs ++ zs) → Rps G m H (gT ts) (gV vs zs)
def kwF (n k : Nat) (gT : List T → List T) (F : List T → Sto → R T) : List T → Sto → R T := fun ts st => if ts.length = n + k then F (gT ts) st else .bad
theorem cal_kw {n : Nat} {gT : List T → List T} (c : FnG P w K mg base lv f fd ps (Spec G F)) (hb : Kwd K fd ps n kn gT) : Cal P w K mg base lv G kn (kwF n kn.length gT F) f := fun A outer s H us ws vs zs Q E hr hg e0 rv rz lz q => by
  obtain ⟨m, st, ts, rs, r, q⟩ := q
  unfold kwF at q
  by_cases hl : ts.length = n + kn.length
  · rw [if_pos hl] at q
    have e := r.length
    rw [List.length_append, hl, lz] at e
    have l1 : vs.length = n := by omega
    obtain ⟨g, gV, kb, hlen, hg2⟩ := hb.ex
    have kin : K.In s.heap := e0.mod.kin.keeps fun b o z => (e0.bs b o z).1
    have u1 : us.length = n := by rw [← rv.length]; exact l1
    have u2 : ws.length = kn.length := by rw [← rz.length]; exact lz
    have rr := kb.rel rv rz
    exact c.go A outer s H ⟨us, kn.zip ws⟩ (g us ws) (gV vs zs) Q E hr hg e0 (kb.to s us ws kin u1 u2) rr (by rw [rr.length]; exact hlen us ws u1 u2) ⟨m, st, gT ts, rs, hg2 G m H ts vs zs l1 r, q⟩
  · rw [if_neg hl] at q; exact q.elim
end
section
variable {X : Cx} {G : Gh} {W : WX} {lv : Nat} {kn : List Str} {F : List T → Sto → R T} {f : Addr} {x : Str} {p pos : Pos} {e : Expr} {es : List Expr} {kws : List Keyword} {fs fk : Env → Sto → R (List T)}
theorem RS.bare {m : Mm} {env : Env} {st : Sto} {σ : L2.St} {H : Hp} (rs : RS G m env st σ H) : RS G m [] st [] H := ⟨⟨rfl, fun i t e => by simp at e⟩, rs.sto⟩
theorem spec_of {m : Mm} {env : Env} {st : Sto} {σ : L2.St} {H : Hp} {ts : List T} {vs : List V} {Q : VK} (rs : RS G m env st σ H) (r : Rps G m H ts vs) (q : Rn G W σ env (Rp G) m H (F ts st) (Kq Q)) : Spec G F vs H Q (WE W σ) := by
  refine ⟨m, st, ts, rs.bare, r, ?_⟩
  cases eF : F ts st with
  | ok a s2 =>
    rw [eF] at q
    exact fun b H' m' rs' y rr => q b H' m' ⟨rs.env.mov y.toMov, rs'.sto⟩ y rr
  | exc a s2 =>
    rw [eF] at q
    exact fun cls d H' m' rs' y rr => q cls d H' m' ⟨rs.env.mov y.toMov, rs'.sto⟩ y rr
  | bad => rw [eF] at q; exact q.elim
theorem run_cal {pins : List (Addr × Obj)} {σ : L2.St} {H : Hp} {s : Shared} {Q : VK} {us ws : List Value} {vs zs : List V} (c : Cal X.prog X.w X.K X.mg X.base lv G kn F f) (hr : Room lv X.A) (hg : X.A.guards = some []) (tk : Takes X W)
    (I : Inv X pins σ H s) (rv : Vals vs us) (rz : Vals zs ws) (lz : zs.length = kn.length) (q : Spec G F (vs ++ zs) H Q (WE W σ)) : wpAny (model X.prog X.w) X.A (call (.ref f) us (kn.zip ws)) (EP X pins σ Q) X.xe s := by
  refine wpAny_call (codeAny_mono (c X.A X.stack s H us ws vs zs Q (WE W σ) hr hg I.env0 rv rz lz q) fun r s2 hr2 => ?_)
  match r, hr2 with
  | .error e, hr2 => exact passAt tk σ pins H s e s2 I hr2
  | .ok (.ret u), hr2 => exact I.after hr2
  | .ok .next, hr2 => exact hr2.elim
  | .ok .brk, hr2 => exact hr2.elim
  | .ok .cont, hr2 => exact hr2.elim
def fCall (F : List T → Sto → R T) (fs : Env → Sto → R (List T)) : Env → Sto → R T := fun env st => (fs env st).bnd fun xs st1 => F xs st1
theorem PK.imp {t t' : TA} (h : PK X kws t) (k : ∀ σ H Q, t' σ H Q → t σ H Q) : PK X kws t' := ⟨fun p pins s σ H Q I q => h.run p pins s σ H Q I (k σ H Q q)⟩
theorem k_nil : PK X [] (tA G W fun _ st => .ok [] st) := PK.imp pk_nil fun σ H Q ⟨m, env, st, rs, q⟩ => Rn.here (b := []) q rs rfl
theorem k_cons {nm : Option Str} {kp : Pos} {fa : Env → Sto → R T} (ha : PE X e (tE G W fa)) (hr : PK X kws (tA G W fs)) :
    PK X (⟨nm, e, kp⟩ :: kws) (tA G W fun env st => (fa env st).bnd fun x st1 => (fs env st1).bnd fun xs st2 => .ok (x :: xs) st2) := by
  refine PK.imp (pk_cons ha hr) fun σ H Q h => ?_
  show tE G W fa σ H fun x H1 => tA G W fs σ H1 fun xs H2 => Q (x :: xs) H2
  obtain ⟨m, env, st, rs, h⟩ := h
  refine ⟨m, env, st, rs, (Rn.bnd h).imp fun t st' v H' m' rs' _ r q => ⟨m', env, st', rs', (Rn.bnd q).imp fun ts st2 vs H2 m2 rs2 s2 r2 q2 => ?_⟩⟩
  exact Rn.here q2 rs2 ⟨v, vs, rfl, Rp.mov s2.toMov _ _ r, r2⟩
theorem tA2 {g : Env → List T → List T → Sto → R T} {σ : L2.St} {H : Hp} {Q : VK} {Pp : List V → List V → Hp → Prop} (h : tE G W (fun env st => (fs env st).bnd fun xs st1 => (fk env st1).bnd fun ys st2 => g env xs ys st2) σ H Q)
    (k : ∀ m env st ts us vs ws H1, RS G m env st σ H1 → Rps G m H1 ts vs → Rps G m H1 us ws → Rn G W σ env (Rp G) m H1 (g env ts us st) (Kq Q) → Pp vs ws H1) :
    tA G W fs σ H fun vs H1 => tA G W fk σ H1 fun ws H2 => Pp vs ws H2 := by
  obtain ⟨m, env, st, rs, h⟩ := h
  refine ⟨m, env, st, rs, (Rn.bnd h).imp fun ts st1 vs H1 m1 rs1 _ r q => ⟨m1, env, st1, rs1, (Rn.bnd q).imp fun us st2 ws H2 m2 rs2 s2 r2 q2 => ?_⟩⟩
  exact k m2 env st2 ts us vs ws H2 rs2 (Rps.mov s2.toMov _ _ r) r2 q2
end
end Eg
set_option Elab.async false
set_option linter.all false
set_option maxRecDepth 100000
set_option maxHeartbeats 2000000
namespace Eg
open PySem PySem.Spec PyProof.Rows L2
inductive O where
  | nx (env : Env) (st : Sto) | rt (t : T) (st : Sto) | bk (env : Env) (st : Sto) | ct (env : Env) (st : Sto) | exc (e : T) (env : Env) (st : Sto) | bad
def O.seq (o : O) (f : Env → Sto → O) : O := match o with
  | .nx env st => f env st
  | .rt t st => .rt t st
  | .bk env st => .bk env st
  | .ct env st => .ct env st
  | .exc e env st => .exc e env st
  | .bad => .bad
def R.go {A : Type} (r : R A) (env : Env) (f : A → Sto → O) : O := match r with
  | .ok a st => f a st
  | .exc e st => .exc e env st
  | .bad => .bad
abbrev Fs := Env → Sto → O
section
variable {G : Gh} {W : WX} {D D' : Ends} {m m1 m' : Mm} {H H1 H' : Hp} {o : O} {σ : L2.St} {env : Env} {st : Sto}
def Out (G : Gh) (W : WX) (D : Ends) (m : Mm) (H : Hp) : O → Prop
  | .nx env st => ∀ σ' H' m', RS G m' env st σ' H' → Stp m H m' H' → D.nx σ' H'
  | .bk env st => ∀ σ' H' m', RS G m' env st σ' H' → Stp m H m' H' → D.bk σ' H'
  | .ct env st => ∀ σ' H' m', RS G m' env st σ' H' → Stp m H m' H' → D.ct σ' H'
  | .rt t st => ∀ v H' m', RSto G m' H' st → Stp m H m' H' → Rp G m' H' t v → D.rt v H'
  | .exc e env st => ∀ cls d σ' H' m', RS G m' env st σ' H' → Stp m H m' H' → RExc G m' H' e cls d → W cls d σ' H'
  | .bad => False
theorem Out.base (x : Stp m H m1 H1) (h : Out G W D m H o) : Out G W D m1 H1 o := by
  cases o with
  | nx env st => exact fun σ' H' m' rs y => h σ' H' m' rs (x.trans y)
  | bk env st => exact fun σ' H' m' rs y => h σ' H' m' rs (x.trans y)
  | ct env st => exact fun σ' H' m' rs y => h σ' H' m' rs (x.trans y)
  | rt t st => exact fun v H' m' rs y => h v H' m' rs (x.trans y)
  | exc e env st => exact fun cls d σ' H' m' rs y => h cls d σ' H' m' rs (x.trans y)
  | bad => exact h
theorem Out.imp (h : Out G W D m H o) (n : ∀ σ H, D.nx σ H → D'.nx σ H) (r : ∀ v H, D.rt v H → D'.rt v H) (b : ∀ σ H, D.bk σ H → D'.bk σ H) (c : ∀ σ H, D.ct σ H → D'.ct σ H) : Out G W D' m H o := by
  cases o with
  | nx env st => exact fun σ' H' m' rs y => n _ _ (h σ' H' m' rs y)
  | bk env st => exact fun σ' H' m' rs y => b _ _ (h σ' H' m' rs y)
  | ct env st => exact fun σ' H' m' rs y => c _ _ (h σ' H' m' rs y)
  | rt t st => exact fun v H' m' rs y q => r _ _ (h v H' m' rs y q)
  | exc e env st => exact h
  | bad => exact h
def tS (G : Gh) (W : WX) (f : Fs) : TS := fun D σ H => ∃ m env st, RS G m env st σ H ∧ Out G W D m H (f env st)
theorem PS.imp {X : Cx} {e : Stmt} {t t' : TS} (h : PS X e t) (k : ∀ D σ H, t' D σ H → t D σ H) : PS X e t' := ⟨fun pins s σ H D I q => h.run pins s σ H D I (k D σ H q)⟩
theorem PSs.imp {X : Cx} {e : List Stmt} {t t' : TS} (h : PSs X e t) (k : ∀ D σ H, t' D σ H → t D σ H) : PSs X e t' := ⟨fun pins s σ H D I q => h.run pins s σ H D I (k D σ H q)⟩
theorem Out.seq {f : Fs} (h : Out G W D m H (o.seq f)) : Out G W { D with nx := tS G W f D } m H o := by
  cases o with
  | nx env st => exact fun σ' H' m' rs y => ⟨m', env, st, rs, Out.base y h⟩
  | bk env st => exact h
  | ct env st => exact h
  | rt t st => exact h
  | exc e env st => exact h
  | bad => exact h
theorem Out.go {A B : Type} {rel : Mm → Hp → A → B → Prop} {r : R A} {f : A → Sto → O} (h : Out G W D m H (r.go env f)) : Rn G W σ env rel m H r fun a st' _ H' m' => Out G W D m' H' (f a st') := by
  cases r with
  | ok a s => exact fun b H' m' rs y q => Out.base y h
  | exc e s => exact fun cls d H' m' rs y q => h cls d σ H' m' rs y q
  | bad => exact h
theorem go1 {fa : Env → Sto → R T} {g : Env → T → Sto → O} {P : V → Hp → Prop} (h : tS G W (fun env st => (fa env st).go env fun t st1 => g env t st1) D σ H)
    (k : ∀ m env st t v H1, RS G m env st σ H1 → Rp G m H1 t v → Out G W D m H1 (g env t st) → P v H1) : tE G W fa σ H P := by
  obtain ⟨m, env, st, rs, h⟩ := h
  exact ⟨m, env, st, rs, (Out.go h).imp fun a st' b H' m' rs' _ r q => k m' env st' a b H' rs' r q⟩
end
section
variable {X : Cx} {G : Gh} {W : WX} {f g : Fs} {fa fb : Env → Sto → R T} {fs : Env → Sto → R (List T)} {a b e : Expr} {s1 : Stmt} {rest : List Stmt} {pos : Pos}
def fNx : Fs := fun env st => .nx env st
theorem S_nil : PSs X [] (tS G W fNx) := PSs.imp pss_nil fun D σ H ⟨m, env, st, rs, h⟩ => h σ H m rs (Stp.refl m H)
theorem S_cons (h1 : PS X s1 (tS G W f)) (h2 : PSs X rest (tS G W g)) : PSs X (s1 :: rest) (tS G W fun env st => (f env st).seq g) :=
  PSs.imp (pss_cons h1 h2) fun D σ H ⟨m, env, st, rs, h⟩ => ⟨m, env, st, rs, Out.seq h⟩
theorem S_pass : PS X (.Pass pos) (tS G W fNx) := PS.imp ps_pass fun D σ H ⟨m, env, st, rs, h⟩ => h σ H m rs (Stp.refl m H)
theorem S_break : PS X (.Break pos) (tS G W fun env st => .bk env st) := PS.imp ps_break fun D σ H ⟨m, env, st, rs, h⟩ => h σ H m rs (Stp.refl m H)
theorem S_cont : PS X (.Continue pos) (tS G W fun env st => .ct env st) := PS.imp ps_continue fun D σ H ⟨m, env, st, rs, h⟩ => h σ H m rs (Stp.refl m H)
theorem S_doc {x j p2} : PS X (.Expr (.Constant (.str x) j pos) p2) (tS G W fNx) := PS.imp ps_doc fun D σ H ⟨m, env, st, rs, h⟩ => h σ H m rs (Stp.refl m H)
def fExp (fa : Env → Sto → R T) : Fs := fun env st => (fa env st).go env fun _ st1 => .nx env st1
theorem S_expr (he : PE X e (tE G W fa)) (hs : swapsWith e none pos.line X.env = pure false) : PS X (.Expr e pos) (tS G W (fExp fa)) := by
  refine PS.imp (ps_expr he hs) fun D σ H h => ?_
  refine go1 (g := fun env _ st1 => .nx env st1) h fun m env st t v H1 rs r q => q σ H1 m rs (Stp.refl m H1)
def fRet (fa : Env → Sto → R T) : Fs := fun env st => (fa env st).go env fun t st1 => .rt t st1
theorem S_ret (he : PE X e (tE G W fa)) : PS X (.Return (some e) pos) (tS G W (fRet fa)) := by
  refine PS.imp (ps_ret he) fun D σ H h => ?_
  refine go1 (g := fun _ t st1 => .rt t st1) h fun m env st t v H1 rs r q => q v H1 m rs.sto (Stp.refl m H1) r
theorem S_retN : PS X (.Return none pos) (tS G W fun _ st => .rt .non st) := PS.imp ps_retN fun D σ H ⟨m, env, st, rs, h⟩ => h .non H m rs.sto (Stp.refl m H) rfl
def fIf (fc : Env → Sto → R T) (f g : Fs) : Fs := fun env st => (fc env st).go env fun t st1 => match t with
  | .bl true => f env st1
  | .bl false => g env st1
  | _ => .bad
theorem S_if {c : Expr} {x y : List Stmt} (hc : PT X c (tTest (tE G W fa))) (hx : PSs X x (tS G W f)) (hy : PSs X y (tS G W g)) : PS X (.If c x y pos) (tS G W (fIf fa f g)) := by
  refine PS.imp (ps_if hc hx hy) fun D σ H h => ?_
  show tE G W fa σ H fun v H1 => ∃ k, v = .bl k ∧ (if k = true then tS G W f D σ H1 else tS G W g D σ H1)
  refine go1 (g := fun env t st1 => match t with
    | .bl true => f env st1
    | .bl false => g env st1
    | _ => .bad) h fun m env st t v H1 rs r q => ?_
  cases t with
  | bl k =>
    cases k with
    | true => exact ⟨true, r, by rw [if_pos rfl]; exact ⟨m, env, st, rs, q⟩⟩
    | false => exact ⟨false, r, by rw [if_neg (by decide)]; exact ⟨m, env, st, rs, q⟩⟩
  | _ => exact q.elim
abbrev Ft := T → Env → Sto → O
def OutN (G : Gh) (W : WX) (Q : L2.St → Hp → Prop) (m : Mm) (H : Hp) : O → Prop
  | .nx env st => ∀ σ' H' m', RS G m' env st σ' H' → Stp m H m' H' → Q σ' H'
  | .exc e env st => ∀ cls d σ' H' m', RS G m' env st σ' H' → Stp m H m' H' → RExc G m' H' e cls d → W cls d σ' H'
  | _ => False
theorem OutN.base {Q : L2.St → Hp → Prop} {m m1 : Mm} {H H1 : Hp} {o : O} (x : Stp m H m1 H1) (h : OutN G W Q m H o) : OutN G W Q m1 H1 o := by
  cases o with
  | nx env st => exact fun σ' H' m' rs y => h σ' H' m' rs (x.trans y)
  | exc e env st => exact fun cls d σ' H' m' rs y => h cls d σ' H' m' rs (x.trans y)
  | _ => exact h
theorem OutN.go {A B : Type} {rel : Mm → Hp → A → B → Prop} {Q : L2.St → Hp → Prop} {m : Mm} {H : Hp} {σ : L2.St} {env : Env} {r : R A} {f : A → Sto → O} (h : OutN G W Q m H (r.go env f)) :
    Rn G W σ env rel m H r fun a st' _ H' m' => OutN G W Q m' H' (f a st') := by
  cases r with
  | ok a s => exact fun b H' m' rs y q => OutN.base y h
  | exc e s => exact fun cls d H' m' rs y q => h cls d σ H' m' rs y q
  | bad => exact h
def tT (G : Gh) (W : WX) (f : Ft) : TG := fun v σ H Q => ∃ m env st t, RS G m env st σ H ∧ Rp G m H t v ∧ OutN G W Q m H (f t env st)
def tTs (G : Gh) (W : WX) (f : List T → Env → Sto → O) : TGs := fun vs σ H Q => ∃ m env st ts, RS G m env st σ H ∧ Rps G m H ts vs ∧ OutN G W Q m H (f ts env st)
def fG (g : IG) : Ft := fun t env st => match g.set t env with
  | some env' => .nx env' st
  | none => .bad
theorem T_g {g : IG} (h : PG X e (tG G g)) : PG X e (tT G W (fG g)) := by
  refine PG.imp h fun v σ H Q ⟨m, env, st, t, rs, r, q⟩ => ?_
  unfold fG at q
  cases eg : g.set t env with
  | none => rw [eg] at q; exact q.elim
  | some env' => rw [eg] at q; exact ⟨m, env, st, t, env', rs, r, eg, fun σ' rs' _ _ => q σ' H m rs' (Stp.refl m H)⟩
theorem RSto.setc {m : Mm} {H : Hp} {st : Sto} {l : Nat} {a : Addr} {vs : List V} {ts : List T} (s : RSto G m H st) (e : m.as[l]? = some a) (r : Rps G m H ts vs) : RSto G m (L2.upd H a (.lst vs)) (st.set l (.lst ts)) ∧ Stp m H m (L2.upd H a (.lst vs)) := by
  have ha : a ∈ m.as := List.mem_of_getElem? e
  have S : Stp m H m (L2.upd H a (.lst vs)) := ⟨⟨fun b o h _ hn => by
    have hne : b ≠ a := fun z => hn (by rw [z]; exact ha)
    rw [upd_ne hne]; exact h, fun _ _ h => upd_some h, fun _ h => .inl h, fun _ h => .inl (.inr h), ⟨[], by simp⟩⟩, rfl⟩
  refine ⟨⟨s.nd, s.fd, by rw [List.length_set]; exact s.len, fun i b c h1 h2 => ?_, fun b h => ?_, s.tabs ha⟩, S⟩
  · by_cases hi : i = l
    · subst hi
      rw [e] at h1
      cases h1
      have hl : i < st.length := by rw [← s.len]; exact (List.getElem?_eq_some_iff.mp e).1
      rw [List.getElem?_set_self hl] at h2
      cases h2
      exact ⟨vs, upd_same, Rps.mov S.toMov _ _ r⟩
    · rw [List.getElem?_set_ne (Ne.symm hi)] at h2
      have hne : b ≠ a := fun z => by
        subst z
        exact hi ((List.getElem?_inj (List.getElem?_eq_some_iff.mp h1).1 s.nd).mp (h1.trans e.symm))
      exact RCell.mov S.toMov (upd_ne hne) (s.cell i b c h1 h2)
  · have hne : b ≠ a := fun z => s.fd a ha (z ▸ h)
    rw [upd_ne hne]
    exact s.foS b h
theorem Rps.setAt {m : Mm} {H : Hp} {t : T} {v : V} (h : Rp G m H t v) : ∀ {ts : List T} {vs : List V} (j : Nat), Rps G m H ts vs → Rps G m H (ts.set j t) (vs.set j v)
  | [], _, _, r => by cases (show _ = _ from r); exact rfl
  | x :: ts, _, 0, ⟨w, r, e, h1, q⟩ => by subst e; exact ⟨v, r, rfl, h, q⟩
  | x :: ts, _, j + 1, ⟨w, r, e, h1, q⟩ => by subst e; exact ⟨w, r.set j v, rfl, h1, Rps.setAt h j q⟩
def lstAt (st : Sto) : T → Option (Nat × List T)
  | .loc l => match st[l]? with
    | some (.lst xs) => some (l, xs)
    | _ => none
  | _ => none
theorem lstAt_ok {m : Mm} {H : Hp} {st : Sto} {t : T} {v : V} {l : Nat} {xs : List T} (s : RSto G m H st) (r : Rp G m H t v) (e : lstAt st t = some (l, xs)) : ∃ a vs, v = .ref a ∧ m.as[l]? = some a ∧ H a = some (.lst vs) ∧ Rps G m H xs vs := by
  cases t with
  | loc k =>
    obtain ⟨a, e1, h⟩ := r
    have e : (match st[k]? with
      | some (.lst xs) => some (k, xs)
      | _ => none) = some (l, xs) := e
    cases e2 : st[k]? with
    | none => rw [e2] at e; cases e
    | some c =>
      cases c with
      | ins c ys => rw [e2] at e; cases e
      | dt ys => rw [e2] at e; cases e
      | dk ys => rw [e2] at e; cases e
      | lst ys =>
        rw [e2] at e
        cases e
        obtain ⟨vs, h1, q⟩ := s.cell _ a _ h e2
        exact ⟨a, vs, e1, h, h1, q⟩
  | _ => cases e
def fSub (fa fb : Env → Sto → R T) : Ft := fun t env st => (fa env st).go env fun x st1 => (fb env st1).go env fun y st2 => match lstAt st2 x, y with
  | some (l, xs), .int k => match ixN xs.length k with
    | some j => .nx env (st2.set l (.lst (xs.set j t)))
    | none => .bad
  | _, _ => .bad
theorem T_sub (ha : PE X a (tE G W fa)) (hb : PE X b (tE G W fb)) (hx : ∀ v, assign (.Subscript a b pos) X.env v = (do
      let ov ← holding [v] (eval a X.env)
      let iv ← holding [v, ov] (eval b X.env)
      standAt pos
      holding [v, ov, iv] (setItem ov iv v)
      release [v, ov, iv] [])) : PG X (.Subscript a b pos) (tT G W (fSub fa fb)) := by
  refine PG.imp (pg_sub ha hb set_list hx) fun v σ H Q ⟨m, env, st, t, rs, r, h⟩ => ?_
  refine ⟨m, env, st, rs, (OutN.go h).imp fun x st1 xv H1 m1 rs1 S1 r1 h => ⟨m1, env, st1, rs1, (OutN.go h).imp fun y st2 yv H2 m2 rs2 S2 r2 h => ?_⟩⟩
  cases e1 : lstAt st2 x with
  | none => rw [e1] at h; exact h.elim
  | some p =>
    obtain ⟨l, xs⟩ := p
    cases y with
    | int k =>
      cases (show yv = _ from r2)
      cases e2 : ixN xs.length k with
      | none => rw [e1] at h; simp only [e2] at h; exact h.elim
      | some j =>
        rw [e1] at h
        simp only [e2] at h
        obtain ⟨p, vs, rfl, hp, hH, rq⟩ := lstAt_ok rs2.sto (Rp.mov S2.toMov _ _ r1) e1
        refine ⟨p, vs, k, j, rfl, rfl, hH, by rw [← rq.length]; exact e2, ?_⟩
        have rt : Rp G m2 H2 t v := Rp.mov S2.toMov _ _ (Rp.mov S1.toMov _ _ r)
        obtain ⟨s3, S3⟩ := rs2.sto.setc hp (rq.setAt rt j)
        exact h σ _ m2 ⟨rs2.env.mov S3.toMov, s3⟩ S3
    | _ => rw [e1] at h; exact h.elim
def fNo : List T → Env → Sto → O := fun ts env st => match ts with
  | [] => .nx env st
  | _ => .bad
def fCo (f : Ft) (g : List T → Env → Sto → O) : List T → Env → Sto → O := fun ts env st => match ts with
  | t :: ts => (f t env st).seq fun env1 st1 => g ts env1 st1
  | [] => .bad
def fTu (n : Nat) (g : List T → Env → Sto → O) : Ft := fun t env st => match t with
  | .tup ts => if ts.length = n then g ts env st else .bad
  | _ => .bad
theorem T_no : PGs X [] (tTs G W fNo) := PGs.imp pgs_nil fun vs σ H Q ⟨m, env, st, ts, rs, r, h⟩ => by
  cases ts with
  | nil => exact ⟨r, h σ H m rs (Stp.refl m H)⟩
  | cons t ts => exact h.elim
theorem T_co {es : List Expr} {ft : Ft} {gt : List T → Env → Sto → O} (h1 : PG X e (tT G W ft)) (h2 : PGs X es (tTs G W gt)) (hs : (assignEach (e :: es) X.env).map (·.2) = assign e X.env :: (assignEach es X.env).map (·.2)) : PGs X (e :: es) (tTs G W (fCo ft gt)) := by
  refine PGs.imp (pgs_cons h1 h2 hs) fun vs σ H Q ⟨m, env, st, ts, rs, r, h⟩ => ?_
  cases ts with
  | nil => exact h.elim
  | cons t ts =>
    obtain ⟨v, w, rfl, r1, r2⟩ := r
    refine ⟨v, w, rfl, m, env, st, t, rs, r1, ?_⟩
    have h : OutN G W Q m H ((ft t env st).seq fun env1 st1 => gt ts env1 st1) := h
    cases eo : ft t env st with
    | nx env1 st1 =>
      rw [eo] at h
      exact fun σ1 H1 m1 rs1 S1 => ⟨m1, env1, st1, ts, rs1, Rps.mov S1.toMov _ _ r2, OutN.base S1 h⟩
    | exc e1 env1 st1 => rw [eo] at h; exact h
    | _ => rw [eo] at h; exact h.elim
theorem T_tu {es : List Expr} {k n : Nat} {gt : List T → Env → Sto → O} (hc : X.calm = true) (h : PGs X es (tTs G W gt)) (hn : (assignEach es X.env).length = n) (hst : (assignEach es X.env).findIdx? (·.1) = none) : PG X (.Tuple es k pos) (tT G W (fTu n gt)) := by
  refine PG.imp (pg_tup hc h hn hst) fun v σ H Q ⟨m, env, st, t, rs, r, h⟩ => ?_
  cases t with
  | tup ts =>
    obtain ⟨p, vs, rfl, hp, rr⟩ := r
    have h : OutN G W Q m H (if ts.length = n then gt ts env st else .bad) := h
    by_cases hl : ts.length = n
    · rw [if_pos hl] at h
      exact ⟨p, vs, rfl, .inl (.inl hp.2), by rw [← rr.length]; exact hl, m, env, st, ts, rs, rr, h⟩
    · rw [if_neg hl] at h; exact h.elim
  | _ => exact h.elim
def fAsg (fa : Env → Sto → R T) (ft : Ft) : Fs := fun env st => (fa env st).go env fun t st1 => match ft t env st1 with
  | .nx env' st' => .nx env' st'
  | .exc e env' st' => .exc e env' st'
  | _ => .bad
theorem OutN.of {D : Ends} {m : Mm} {H : Hp} {o : O} (h : Out G W D m H (match o with
  | .nx env' st' => .nx env' st'
  | .exc e env' st' => .exc e env' st'
  | _ => .bad)) : OutN G W D.nx m H o := by cases o <;> exact h
theorem asg_imp {ft : Ft} {D : Ends} {σ : L2.St} {H : Hp} (h : tS G W (fAsg fa ft) D σ H) : tAsg (tE G W fa) (tT G W ft) D σ H := by
  show tE G W fa σ H fun v H1 => tT G W ft v σ H1 D.nx
  refine go1 (g := fun env t st1 => match ft t env st1 with
    | .nx env' st' => .nx env' st'
    | .exc e env' st' => .exc e env' st'
    | _ => .bad) h fun m env st t v H1 rs r q => ⟨m, env, st, t, rs, r, OutN.of q⟩
theorem S_asg {ft : Ft} {tg : Expr} (he : PE X e (tE G W fa)) (hg : PG X tg (tT G W ft)) (hs : swapsWithSole [tg] e pos.line X.env = pure false) (hw : swappedStores [tg] e X.env = pure none)
    (h1 : (assignEach [tg] X.env).map (·.2) = [assign tg X.env]) : PS X (.Assign [tg] e pos) (tS G W (fAsg fa ft)) := PS.imp (ps_asg he hg hs hw h1) fun D σ H h => asg_imp h
def fPar2 (i j : Nat) (fs : Env → Sto → R (List T)) : Fs := fun env st => (fs env st).go env fun ts st1 => match ts with
  | [t, u] => if i < env.length ∧ j < env.length then .nx ((env.set i (some t)).set j (some u)) st1 else .bad
  | _ => .bad
def fPar3 (i j l : Nat) (fs : Env → Sto → R (List T)) : Fs := fun env st => (fs env st).go env fun ts st1 => match ts with
  | [t, u, w] => if i < env.length ∧ j < env.length ∧ l < env.length then .nx (((env.set i (some t)).set j (some u)).set l (some w)) st1 else .bad
  | _ => .bad
theorem goA {D : Ends} {σ : L2.St} {H : Hp} {g : Env → List T → Sto → O} {P : List V → Hp → Prop} (h : tS G W (fun env st => (fs env st).go env fun t st1 => g env t st1) D σ H)
    (k : ∀ m env st t v H1, RS G m env st σ H1 → Rps G m H1 t v → Out G W D m H1 (g env t st) → P v H1) : tA G W fs σ H P := by
  obtain ⟨m, env, st, rs, h⟩ := h
  exact ⟨m, env, st, rs, (Out.go h).imp fun a st' b H' m' rs' _ r q => k m' env st' a b H' rs' r q⟩
theorem par2_imp {i j : Nat} {D : Ends} {σ : L2.St} {H : Hp} (h : tS G W (fPar2 i j fs) D σ H) : tPar i j (tA G W fs) D σ H := by
  refine goA (g := fun env ts st1 => match ts with
    | [t, u] => if i < env.length ∧ j < env.length then .nx ((env.set i (some t)).set j (some u)) st1 else .bad
    | _ => .bad) h fun m env st ts vs H1 rs r q => ?_
  match ts, r, q with
  | [t, u], r, q =>
    obtain ⟨v, w, rfl, h1, h2⟩ := two_of r
    have q : Out G W D m H1 (if i < env.length ∧ j < env.length then .nx ((env.set i (some t)).set j (some u)) st else .bad) := q
    by_cases c : i < env.length ∧ j < env.length
    · rw [if_pos c] at q
      exact ⟨v, w, rfl, q _ H1 m ((rs.set c.1 h1).set (by rw [List.length_set]; exact c.2) h2) (Stp.refl m H1)⟩
    · rw [if_neg c] at q; exact q.elim
  | [], _, q => exact q.elim
  | [_], _, q => exact q.elim
  | _ :: _ :: _ :: _, _, q => exact q.elim
theorem par3_imp {i j l : Nat} {D : Ends} {σ : L2.St} {H : Hp} (h : tS G W (fPar3 i j l fs) D σ H) : tPar3 i j l (tA G W fs) D σ H := by
  refine goA (g := fun env ts st1 => match ts with
    | [t, u, w] => if i < env.length ∧ j < env.length ∧ l < env.length then .nx (((env.set i (some t)).set j (some u)).set l (some w)) st1 else .bad
    | _ => .bad) h fun m env st ts vs H1 rs r q => ?_
  match ts, r, q with
  | [t, u, w], r, q =>
    obtain ⟨v1, x, rfl, h1, r⟩ := r
    obtain ⟨v2, v3, rfl, h2, h3⟩ := two_of r
    have q : Out G W D m H1 (if i < env.length ∧ j < env.length ∧ l < env.length then .nx (((env.set i (some t)).set j (some u)).set l (some w)) st else .bad) := q
    by_cases c : i < env.length ∧ j < env.length ∧ l < env.length
    · rw [if_pos c] at q
      exact ⟨v1, v2, v3, rfl, q _ H1 m (((rs.set c.1 h1).set (by rw [List.length_set]; exact c.2.1) h2).set (by rw [List.length_set, List.length_set]; exact c.2.2) h3) (Stp.refl m H1)⟩
    · rw [if_neg c] at q; exact q.elim
  | [], _, q => exact q.elim
  | [_], _, q => exact q.elim
  | [_, _], _, q => exact q.elim
  | _ :: _ :: _ :: _ :: _, _, q => exact q.elim
end
end Eg
set_option Elab.async false
set_option linter.all false
set_option maxRecDepth 100000
set_option maxHeartbeats 2000000
namespace Eg
open PySem PySem.Spec PyProof.Rows L2
mutual
inductive RdE (h : Heap) : Value → PyData → Prop
  | non : RdE h .none .none
  | bl (b : Bool) : RdE h (.bool b) (.bool b)
  | int (i : Int) (t : Tok) : RdE h (.int i t) (.int i)
  | str (x : Str) (t : Tok) : RdE h (.str x t) (.str x)
  | lst {a : Addr} {o : Obj} {vs : Array Value} {n : Nat} {xs : List PyData} : h.get? a = some o → o.cls = .type "list" → o.data = .seq vs n → RdEs h vs.toList xs → RdE h (.ref a) (.list xs)
  | tup {a : Addr} {o : Obj} {vs : Array Value} {n : Nat} {xs : List PyData} : h.get? a = some o → o.cls = .type "tuple" → o.data = .seq vs n → RdEs h vs.toList xs → RdE h (.ref a) (.tuple xs)
  | ed {a : Addr} {o : Obj} {es : Array DictEntry} {n : Nat} : h.get? a = some o → o.cls = .type "dict" → o.data = .dict es n → es.toList = [] → (a == sysModules) = false → RdE h (.ref a) (.dict [])
inductive RdEs (h : Heap) : List Value → List PyData → Prop
  | nil : RdEs h [] []
  | cons {v : Value} {vs : List Value} {d : PyData} {ds : List PyData} : RdE h v d → RdEs h vs ds → RdEs h (v :: vs) (d :: ds)
end
mutual
theorem RdE.reads {h : Heap} : ∀ {v : Value} {d : PyData}, RdE h v d → ∃ as, Reads h v d as
  | _, _, .non => ⟨_, .none⟩
  | _, _, .bl b => ⟨_, .bool b⟩
  | _, _, .int i t => ⟨_, .int i t⟩
  | _, _, .str x t => ⟨_, .str x t⟩
  | _, _, .lst h1 h2 h3 h4 => let ⟨_, r⟩ := RdEs.reads h4; ⟨_, .list h1 h2 h3 r⟩
  | _, _, .tup h1 h2 h3 h4 => let ⟨_, r⟩ := RdEs.reads h4; ⟨_, .tuple h1 h2 h3 r⟩
  | _, _, .ed h1 h2 h3 h4 _ => ⟨_, .dict h1 h2 h3 (by rw [h4]; exact .nil) (by rw [h4]; exact .nil)⟩
theorem RdEs.reads {h : Heap} : ∀ {vs : List Value} {ds : List PyData}, RdEs h vs ds → ∃ as, ReadsAll h vs ds as
  | _, _, .nil => ⟨_, .nil⟩
  | _, _, .cons r q => let ⟨_, r1⟩ := RdE.reads r; let ⟨_, q1⟩ := RdEs.reads q; ⟨_, .cons r1 q1⟩
end
section
variable {prog : Program} {w : World} {h : Heap}
mutual
theorem RdE.rep : ∀ {v : Value} {d : PyData}, RdE h v d → d.showable = true → d.shown.length ≤ sizeLine → ∃ cs, ReadAtMost h d.depth cs ∧ ReprK prog w cs h d.depth v d.shown
  | _, _, .non, _, _ => ⟨[], nofun, by simp only [PyData.shown]; exact ReprK.of_is ReprIs.none [] h _⟩
  | _, _, .bl b, _, _ => ⟨[], nofun, by simp only [PyData.shown]; exact ReprK.of_is (ReprIs.bool b) [] h _⟩
  | _, _, .int i t, hs, _ => ⟨[], nofun, by simp only [PyData.shown]; exact ReprK.of_is (ReprIs.int t (by simpa [PyData.showable] using hs)) [] h _⟩
  | _, _, .str x t, _, z => ⟨[], nofun, by simp only [PyData.shown]; exact ReprK.of_is (ReprIs.str x t (by simpa only [PyData.shown] using z)) [] h _⟩
  | _, _, .lst (a := a) (vs := vs) (xs := xs) h1 h2 h3 h4, hs, z => by
    have z1 : (listText (PyData.shownAll xs)).length ≤ sizeLine := by simpa only [PyData.shown] using z
    obtain ⟨cs, m, k⟩ := RdEs.rep h4 (by simpa [PyData.showable] using hs) fun t ht => Nat.le_trans (listText_mem_le ht) z1
    obtain ⟨as, r⟩ := RdE.reads (.lst h1 h2 h3 h4)
    have na : a ∉ cs := not_mem_of_deeper r (by simp only [PyData.depth]; omega) m
    refine ⟨a :: cs, ReadAtMost.cons r (by simp only [PyData.depth]; omega) m, ?_⟩
    simp only [PyData.depth, PyData.shown]
    obtain ⟨l⟩ := vs
    cases l with
    | nil =>
      have h5 : RdEs h [] xs := h4
      cases h5
      simp only [PyData.shownAll, listText_nil]
      exact ReprK.listEmpty h1 h2 h3
    | cons x l => exact ReprK.list h1 h2 h3 na (by have := k.length_eq; simpa using this) fun i y e => k.item i y (by simpa using e)
  | _, _, .tup (a := a) (xs := xs) h1 h2 h3 h4, hs, z => by
    have z1 : (tupleText (PyData.shownAll xs)).length ≤ sizeLine := by simpa only [PyData.shown] using z
    obtain ⟨cs, m, k⟩ := RdEs.rep h4 (by simpa [PyData.showable] using hs) fun t ht => Nat.le_trans (tupleText_mem_le ht) z1
    obtain ⟨as, r⟩ := RdE.reads (.tup h1 h2 h3 h4)
    have na : a ∉ cs := not_mem_of_deeper r (by simp only [PyData.depth]; omega) m
    refine ⟨a :: cs, ReadAtMost.cons r (by simp only [PyData.depth]; omega) m, ?_⟩
    simp only [PyData.depth, PyData.shown]
    exact ReprK.tuple h1 h2 h3 na k
  | _, _, .ed (a := a) (es := es) h1 h2 h3 h4 h5, _, _ => by
    obtain ⟨as, r⟩ := RdE.reads (.ed h1 h2 h3 h4 h5)
    have m : ReadAtMost h (PyData.depthKv []) [] := nofun
    refine ⟨[a], ReadAtMost.cons r (by simp only [PyData.depth]; omega) m, ?_⟩
    simp only [PyData.depth, PyData.shown, PyData.shownKv]
    exact ReprK.dict h1 h2 h3 h5 (by simp) (by rw [h4]; exact .nil)
theorem RdEs.rep : ∀ {vs : List Value} {ds : List PyData}, RdEs h vs ds → PyData.showableAll ds = true → (∀ t ∈ PyData.shownAll ds, t.length ≤ sizeLine) → ∃ cs, ReadAtMost h (PyData.depthAll ds) cs ∧ ReprAllK prog w cs h (PyData.depthAll ds) vs (PyData.shownAll ds)
  | _, _, .nil, _, _ => ⟨[], nofun, by simp only [PyData.shownAll]; exact .nil⟩
  | _, _, .cons (d := d) (ds := ds) r q, hs, z => by
    have hs2 : d.showable = true ∧ PyData.showableAll ds = true := by simpa [PyData.showableAll] using hs
    obtain ⟨c1, m1, k1⟩ := RdE.rep r hs2.1 (z _ (by simp only [PyData.shownAll]; exact List.mem_cons_self))
    obtain ⟨c2, m2, k2⟩ := RdEs.rep q hs2.2 fun t ht => z t (by simp only [PyData.shownAll]; exact List.mem_cons_of_mem _ ht)
    refine ⟨c1 ++ c2, fun b hb => ?_, ?_⟩
    · simp only [PyData.depthAll]
      rcases List.mem_append.mp hb with hb | hb
      · obtain ⟨e, as, r1, l⟩ := m1 b hb
        exact ⟨e, as, r1, by omega⟩
      · obtain ⟨e, as, r1, l⟩ := m2 b hb
        exact ⟨e, as, r1, by omega⟩
    · simp only [PyData.depthAll, PyData.shownAll]
      exact .cons (ReprK.level_le (ReprK.more k1 fun b hb => List.mem_append_left _ hb) (by omega)) (ReprAllK.more_le (fun b hb => List.mem_append_right _ hb) (by omega) k2)
end
theorem RdE.shows {a : Addr} {d : PyData} (r : RdE h (.ref a) d) (hs : d.showable = true) (z : d.shown.length ≤ sizeLine) : ∃ T idr, ShowsBy prog w h a d T idr := by
  cases r with
  | lst h1 h2 h3 h4 =>
    rename_i o vs n xs
    have z1 : (listText (PyData.shownAll xs)).length ≤ sizeLine := by simpa only [PyData.shown] using z
    obtain ⟨cs, m, k⟩ := RdEs.rep (prog := prog) (w := w) h4 (by simpa [PyData.showable] using hs) fun t ht => Nat.le_trans (listText_mem_le ht) z1
    obtain ⟨as, r⟩ := RdE.reads (.lst h1 h2 h3 h4)
    have na : a ∉ cs := not_mem_of_deeper r (by simp only [PyData.depth]; omega) m
    refine ⟨"list", "list.__repr__", F.slot_list_repr.toG, F.slot_list_str, F.slot_list_format, fun s k0 => ⟨o, k0 _ _ h1, h2⟩, fun A E s Q g u k0 q => ?_⟩
    simp only [PyData.depth] at u
    simp only [PyData.shown] at q
    obtain ⟨l⟩ := vs
    cases l with
    | nil =>
      have h5 : RdEs h [] xs := h4
      cases h5
      simp only [PyData.shownAll, listText_nil] at q
      exact call_list_repr_empty ⟨o, k0 _ _ h1, h2⟩ (k0 _ _ h1) h3 (q s.heap _ _ fun _ _ e => e)
    | cons x l => exact call_list_reprK h1 h2 h3 na (by have := k.length_eq; simpa using this) (fun i y e => k.item i y (by simpa using e)) g (fun b _ => Clear.nil b) u k0 q z1
  | tup h1 h2 h3 h4 =>
    rename_i o vs n xs
    have z1 : (tupleText (PyData.shownAll xs)).length ≤ sizeLine := by simpa only [PyData.shown] using z
    obtain ⟨cs, m, k⟩ := RdEs.rep (prog := prog) (w := w) h4 (by simpa [PyData.showable] using hs) fun t ht => Nat.le_trans (tupleText_mem_le ht) z1
    obtain ⟨as, r⟩ := RdE.reads (.tup h1 h2 h3 h4)
    have na : a ∉ cs := not_mem_of_deeper r (by simp only [PyData.depth]; omega) m
    refine ⟨"tuple", "tuple.__repr__", F.slot_tuple_repr, F.slot_tuple_str, F.slot_tuple_format, fun s k0 => ⟨o, k0 _ _ h1, h2⟩, fun A E s Q g u k0 q => ?_⟩
    simp only [PyData.depth] at u
    simp only [PyData.shown] at q
    exact call_tuple_reprK h1 h2 h3 na k g (fun b _ => Clear.nil b) u k0 q z1
  | ed h1 h2 h3 h4 h5 =>
    rename_i o es n
    refine ⟨"dict", "dict.__repr__", F.slot_dict_repr, F.slot_dict_str, F.slot_dict_format, fun s k0 => ⟨o, k0 _ _ h1, h2⟩, fun A E s Q g u k0 q => ?_⟩
    simp only [PyData.depth, PyData.depthKv] at u
    simp only [PyData.shown, PyData.shownKv] at q
    exact call_dict_reprK (as := []) (d := 0) h1 h2 h3 h5 (by simp) (by rw [h4]; exact .nil) g (fun b _ => Clear.nil b) u k0 q (by simpa only [PyData.shown, PyData.shownKv] using z)
theorem RdE.repr_ref {A : Around} {E : Value → Shared → Prop} {s : Shared} {Q : Value → Shared → Prop} {a : Addr} {d : PyData} (r : RdE s.heap (.ref a) d) (hs : d.showable = true) (z : d.shown.length ≤ sizeLine) (g : A.guards = some []) (u : A.units + (d.depth + 1) < cLine)
    (q : ∀ h' t tk, (∀ b o, s.heap.get? b = some o → h'.get? b = some o) → Q (.str d.shown t) { s with heap := h', toks := tk }) : wpAny (model prog w) A (call (.builtin "repr") [.ref a]) Q E s := by
  obtain ⟨T, idr, S⟩ := RdE.shows (prog := prog) (w := w) r hs z
  exact call_repr_slot (by omega) (S.typeIs s fun _ _ e => e) S.slotRepr (S.call A.in1 E s _ g (by show A.units + 1 + d.depth < cLine; omega) (fun _ _ e => e) fun h' t tk k => ⟨_, _, rfl, q h' t tk k⟩)
end
mutual
inductive DpE (K : PySem.W.Frag) (H : Hp) : V → PyData → Prop
  | non : DpE K H .non .none
  | bl (b : Bool) : DpE K H (.bl b) (.bool b)
  | int (i : Int) : DpE K H (.int i) (.int i)
  | str (x : Str) : DpE K H (.str x) (.str x)
  | lst {a : Addr} {xs : List V} {ds : List PyData} : SqL K H a xs → DpEs K H xs ds → DpE K H (.ref a) (.list ds)
  | tup {a : Addr} {xs : List V} {ds : List PyData} : SqT K H a xs → DpEs K H xs ds → DpE K H (.ref a) (.tuple ds)
  | ed {a : Addr} : H a = some (.dK []) → DpE K H (.ref a) (.dict [])
inductive DpEs (K : PySem.W.Frag) (H : Hp) : List V → List PyData → Prop
  | nil : DpEs K H [] []
  | cons {v : V} {vs : List V} {d : PyData} {ds : List PyData} : DpE K H v d → DpEs K H vs ds → DpEs K H (v :: vs) (d :: ds)
end
section
variable {X : Cx} {pins : List (Addr × Obj)} {σ : L2.St} {H : Hp} {s : Shared}
mutual
theorem DpE.rd (I : Inv X pins σ H s) : ∀ {v : V} {d : PyData} {u : Value}, DpE X.K H v d → RelV v u → RdE s.heap u d
  | _, _, _, .non, r => by cases r; exact .non
  | _, _, _, .bl b, r => by cases r; exact .bl b
  | _, _, _, .int i, r => by obtain ⟨t, rfl⟩ := r; exact .int i t
  | _, _, _, .str x, r => by obtain ⟨t, rfl⟩ := r; exact .str x t
  | _, _, _, .lst hs ha, r => by
    cases r
    obtain ⟨its, rv, ⟨o, n, ho, hc, _, hd⟩, _⟩ := I.list hs
    exact .lst ho hc hd (by simpa using DpEs.rd I ha rv)
  | _, _, _, .tup hs ha, r => by
    cases r
    obtain ⟨its, rv, ⟨o, ho, hc, n, hd⟩, _⟩ := I.tuple hs
    exact .tup ho hc hd (by simpa using DpEs.rd I ha rv)
  | _, _, _, .ed h, r => by
    cases r
    obtain ⟨_, hn, vs, kv, o, es, ep, h1, h2, h3, _, h5, _⟩ := dk_of I.hok h
    cases kv
    exact .ed h1 h2.1 h3 (by cases e : es.toList with
      | nil => rfl
      | cons x l => rw [e] at h5; cases h5) hn
theorem DpEs.rd (I : Inv X pins σ H s) : ∀ {vs : List V} {ds : List PyData} {us : List Value}, DpEs X.K H vs ds → Vals vs us → RdEs s.heap us ds
  | _, _, _, .nil, r => by cases r; exact .nil
  | _, _, _, .cons h1 h2, r => by
    cases r with
    | cons r1 r2 => exact .cons (DpE.rd I h1 r1) (DpEs.rd I h2 r2)
end
end
def eqzR (x y : T) (st : Sto) : R T := match x, y with
  | .tup xs, .tup [] => .ok (.bl xs.isEmpty) st
  | _, _ => .bad
def fEqz (fa fb : Env → Sto → R T) : Env → Sto → R T := fun env st => (fa env st).bnd fun x st1 => (fb env st1).bnd fun y st2 => eqzR x y st2
def rEqz (K : PySem.W.Frag) : R2 := fun x y H Q => ∃ a b xs, x = .ref a ∧ y = .ref b ∧ SqT K H a xs ∧ SqT K H b [] ∧ Q (.bl xs.isEmpty) H
section
variable {X : Cx} {G : Gh} {W : WX} {fa fb : Env → Sto → R T} {a b : Expr} {pos : Pos}
theorem op_eqz (hu : X.A.units < cLine) : OpR X (compareOp .Eq) (rEqz X.K) := by
  intro pins s σ H x y v u Q I rx ry h
  obtain ⟨a, b, xs, rfl, rfl, h1, h2, q⟩ := h
  cases rx
  cases ry
  obtain ⟨its, rv, ⟨o, ho, hc, n, hd⟩, _⟩ := I.tuple h1
  obtain ⟨its2, rv2, ⟨o2, ho2, hc2, n2, hd2⟩, _⟩ := I.tuple h2
  cases rv2
  have k := SeqAt.RcAt.tuples (A := X.A) (e := fun _ => true) ⟨o, ho, hc, n, hd⟩ ⟨o2, ho2, hc2, n2, hd2⟩ hu (fun j _ z => absurd z (by simp))
  have e : ((List.range (min its.toArray.size ([] : List Value).toArray.size)).all (fun _ => true) && its.toArray.size == ([] : List Value).toArray.size) = xs.isEmpty := by
    cases xs with
    | nil => cases rv; rfl
    | cons x l => cases rv; rfl
  rw [e] at k
  exact k _ _ _ _ ⟨.bl _, H, I, rfl, q⟩
theorem eqz_imp {σ : L2.St} {H : Hp} {Q : VK} (h : tE G W (fEqz fa fb) σ H Q) : tOp (rEqz G.K) (tE G W fa) (tE G W fb) σ H Q := by
  refine at2 h fun m env st t u v w H1 rs r1 r2 q => ?_
  unfold eqzR at q
  split at q
  · rename_i xs
    obtain ⟨a, vs, rfl, p1, q1⟩ := r1
    obtain ⟨b, ws, rfl, p2, q2⟩ := r2
    cases (show ws = [] from q2)
    have e : vs.isEmpty = xs.isEmpty := by
      cases xs with
      | nil => cases (show vs = [] from q1); rfl
      | cons x l => obtain ⟨v, r, rfl, _⟩ := q1; rfl
    exact ⟨a, b, vs, rfl, rfl, .inl (.inl p1.2), .inl (.inl p2.2), by rw [e]; exact Rn.give (b := .bl _) q rs rfl⟩
  · exact q.elim
theorem s_eqz (hK : X.K = G.K) (hu : X.A.units < cLine) (hm : behindInMarks .Eq b = false) (ha : PE X a (tE G W fa)) (hb : PE X b (tE G W fb)) : PE X (.Compare a [.Eq] [b] pos) (tE G W (fEqz fa fb)) :=
  PE.imp (pe_cmpR (op_eqz hu) ha hb hm) fun σ H Q h => by rw [hK]; exact eqz_imp h
theorem t_eqz (hK : X.K = G.K) (hu : X.A.units < cLine) (hm : behindInMarks .Eq b = false) (ha : PE X a (tE G W fa)) (hb : PE X b (tE G W fb)) : PT X (.Compare a [.Eq] [b] pos) (tTest (tE G W (fEqz fa fb))) :=
  PT.imp (pt_cmpR (op_eqz hu) ha hb hm) fun σ H Q h => by rw [hK]; exact eqz_imp h
end
section
variable {prog : Program} {w : World} {A : Around} {E : Value → Shared → Prop} {s : Shared} {Q : Value → Shared → Prop} {l : Addr}
end
section
variable {X : Cx} {G : Gh} {W : WX} {fa : Env → Sto → R T} {a : Expr} {pos p : Pos}
end
end Eg
set_option Elab.async false
set_option linter.all false
set_option maxRecDepth 100000
set_option maxHeartbeats 2000000
namespace Eg
open PySem PySem.Spec PyProof.Rows L2
def walkO (g : IG) (f : Fs) : List T → Env → Sto → O
  | [], env, st => .nx env st
  | x :: xs, env, st => match g.set x env with
    | none => .bad
    | some env1 => match f env1 st with
      | .nx env2 st2 => walkO g f xs env2 st2
      | .ct env2 st2 => walkO g f xs env2 st2
      | .bk env2 st2 => .nx env2 st2
      | o => o
def fFor (fit : Env → Sto → R (List T)) (g : IG) (f : Fs) : Fs := fun env st => (fit env st).go env fun xs st1 => walkO g f xs env st1
section
variable {X : Cx} {G : Gh} {W : WX} {f : Fs} {fa fb : Env → Sto → R T} {fit : Env → Sto → R (List T)} {e tg iter : Expr} {body : List Stmt} {pos : Pos}
theorem for_imp {g : IG} {D : Ends} {σ : L2.St} {H : Hp} (h : tS G W (fFor fit g f) D σ H) : tFor (tI G W fit) (tG G g) (tS G W f) D σ H := by
  obtain ⟨m0, env0, st0, rs0, h⟩ := h
  refine ⟨m0, env0, st0, rs0, (Out.go h).imp fun xs st1 _ H1 m1 rs1 _ _ q J hJ => ?_⟩
  let Pv : Nat → L2.St → Hp → Prop := fun i σ Hx => ∃ m' env st', Mov m1 H1 m' Hx ∧ RS G m' env st' σ Hx ∧ Out G W D m' Hx (walkO g f (xs.drop i) env st')
  refine ⟨fun i n σ Hx => i ≤ xs.length ∧ n = xs.length - i ∧ Pv i σ Hx, ⟨xs.length, Nat.zero_le _, rfl, m1, env0, st1, (Stp.refl m1 H1).toMov, rs1, q⟩, ?_⟩
  rintro i n σ2 Hx ⟨hi, hn, m', env, st', x, rs, q⟩
  by_cases he : i = xs.length
  · refine .inl ⟨by rw [he]; exact hJ.stop m' Hx x.F, ?_⟩
    rw [he, List.drop_length] at q
    exact q σ2 Hx m' rs (Stp.refl m' Hx)
  · have hlt : i < xs.length := by omega
    refine .inr ⟨hJ.go m' Hx x.F i hlt, Pv (i + 1), fun σ' H' p => ⟨xs.length - (i + 1), by omega, by omega, rfl, p⟩, fun y H'' hy => ?_⟩
    obtain ⟨hH, t, ht, hr⟩ := hJ.yld m' Hx st' x.F rs.sto i y H'' hlt hy
    have S2 : Stp m' Hx m' H'' := by
      rcases hH with rfl | ⟨p, o, hp, rfl⟩
      · exact Stp.refl _ _
      · exact Stp.fresh hp
    have rs2 : RS G m' env st' σ2 H'' := by
      rcases hH with rfl | ⟨p, o, hp, rfl⟩
      · exact rs
      · exact rs.fresh hp
    have hdr : xs.drop i = t :: xs.drop (i + 1) := by
      obtain ⟨h1, h2⟩ := List.getElem?_eq_some_iff.mp ht
      rw [List.drop_eq_getElem_cons h1, h2]
    rw [hdr] at q
    unfold walkO at q
    cases eg : g.set t env with
    | none => rw [eg] at q; exact q.elim
    | some env1 =>
      rw [eg] at q
      refine ⟨m', env, st', t, env1, rs2, hr, eg, fun σ3 rs3 _ _ => ⟨m', env1, st', rs3, ?_⟩⟩
      have q : Out G W D m' Hx (match f env1 st' with
        | .nx env2 st2 => walkO g f (xs.drop (i + 1)) env2 st2
        | .ct env2 st2 => walkO g f (xs.drop (i + 1)) env2 st2
        | .bk env2 st2 => .nx env2 st2
        | o => o) := q
      have go : ∀ {env2 : Env} {st2 : Sto}, Out G W D m' Hx (walkO g f (xs.drop (i + 1)) env2 st2) → ∀ σ' H' m2, RS G m2 env2 st2 σ' H' → Stp m' H'' m2 H' → Pv (i + 1) σ' H' := fun {env2 st2} q σ' H' m2 rs' S =>
        ⟨m2, env2, st2, x.trans (S2.trans S).toMov, rs', Out.base (S2.trans S) q⟩
      cases ef : f env1 st' with
      | nx env2 st2 => rw [ef] at q; exact go q
      | ct env2 st2 => rw [ef] at q; exact go q
      | bk env2 st2 => rw [ef] at q; exact fun σ' H' m2 rs' S => q σ' H' m2 rs' (S2.trans S)
      | rt t2 st2 => rw [ef] at q; exact fun v H' m2 rs' S => q v H' m2 rs' (S2.trans S)
      | exc e2 env2 st2 => rw [ef] at q; exact fun cls d σ' H' m2 rs' S => q cls d σ' H' m2 rs' (S2.trans S)
      | bad => rw [ef] at q; exact q.elim
theorem S_for {g : IG} (hp : PassesOwn (model X.prog X.w) X.A X.env X.xe) (hc : X.calm = true) (hi : PI X tg iter (tI G W fit)) (hg : PG X tg (tG G g)) (hb : PSs X body (tS G W f)) (hs : ∀ x, foldedSetIterable iter X.env x = pure x) :
    PS X (.For tg iter body [] pos) (tS G W (fFor fit g f)) := PS.imp (ps_for hp hc hi hg hb hs) fun D σ H h => for_imp h
def whO (fc : Env → Sto → R T) (f : Fs) : Nat → Env → Sto → O
  | 0, _, _ => .bad
  | n + 1, env, st => (fc env st).go env fun t st1 => match t with
    | .bl true => match f env st1 with
      | .nx env2 st2 => whO fc f n env2 st2
      | .ct env2 st2 => whO fc f n env2 st2
      | .bk env2 st2 => .nx env2 st2
      | o => o
    | .bl false => .nx env st1
    | _ => .bad
open Classical in
noncomputable def fWh (fc : Env → Sto → R T) (f : Fs) : Fs := fun env st => if h : ∃ n, whO fc f n env st ≠ .bad then whO fc f h.choose env st else .bad
theorem wh_imp {fc : Env → Sto → R T} {D : Ends} {σ : L2.St} {H : Hp} (h : tS G W (fWh fc f) D σ H) : tWhile (tTest (tE G W fc)) (tS G W f) D σ H := by
  obtain ⟨m0, env0, st0, rs0, h⟩ := h
  refine ⟨fun n σ Hx => ∃ m' env st', RS G m' env st' σ Hx ∧ Out G W D m' Hx (whO fc f n env st'), ?_, ?_⟩
  · unfold fWh at h
    by_cases hx : ∃ n, whO fc f n env0 st0 ≠ .bad
    · rw [dif_pos hx] at h
      exact ⟨hx.choose, m0, env0, st0, rs0, h⟩
    · rw [dif_neg hx] at h; exact h.elim
  · rintro n σ2 Hx ⟨m', env, st', rs, q⟩
    cases n with
    | zero => exact q.elim
    | succ n =>
      unfold whO at q
      show tE G W fc σ2 Hx fun v H1 => ∃ k, v = .bl k ∧ (if k = true then _ else D.nx σ2 H1)
      refine ⟨m', env, st', rs, (Out.go q).imp fun t st1 v H1 m1 rs1 S1 r q => ?_⟩
      cases t with
      | bl k =>
        refine ⟨k, r, ?_⟩
        cases k with
        | false => rw [if_neg (by decide)]; exact q σ2 H1 m1 rs1 (Stp.refl m1 H1)
        | true =>
          rw [if_pos rfl]
          refine ⟨fun σ Hx => ∃ m' env st', RS G m' env st' σ Hx ∧ Out G W D m' Hx (whO fc f n env st'), fun σ' H' p => ⟨n, Nat.lt_succ_self n, p⟩, m1, env, st1, rs1, ?_⟩
          have q : Out G W D m1 H1 (match f env st1 with
            | .nx env2 st2 => whO fc f n env2 st2
            | .ct env2 st2 => whO fc f n env2 st2
            | .bk env2 st2 => .nx env2 st2
            | o => o) := q
          cases ef : f env st1 with
          | nx env2 st2 => rw [ef] at q; exact fun σ' H' m2 rs' S => ⟨m2, env2, st2, rs', Out.base S q⟩
          | ct env2 st2 => rw [ef] at q; exact fun σ' H' m2 rs' S => ⟨m2, env2, st2, rs', Out.base S q⟩
          | bk env2 st2 => rw [ef] at q; exact q
          | rt t2 st2 => rw [ef] at q; exact q
          | exc e2 env2 st2 => rw [ef] at q; exact q
          | bad => rw [ef] at q; exact q.elim
      | _ => exact q.elim
theorem S_while {c : Expr} (hp : PassesOwn (model X.prog X.w) X.A X.env X.xe) (hc : PT X c (tTest (tE G W fa))) (hb : PSs X body (tS G W f)) : PS X (.While c body [] pos) (tS G W (fWh fa f)) := PS.imp (ps_while hp hc hb) fun D σ H h => wh_imp h
end
section
variable {X : Cx} {G : Gh} {W : WX} {fa fb fc : Env → Sto → R T} {fl : Env → Sto → R (List T)} {a b e : Expr} {pos apos : Pos}
def fNew (fl : Env → Sto → R (List T)) : Env → Sto → R T := fun env st => (fl env st).bnd fun xs st1 => .ok (.loc st1.length) (st1 ++ [.lst xs])
theorem RSto.push {m : Mm} {H : Hp} {st : Sto} {p : Addr} {vs : List V} {ts : List T} (s : RSto G m H st) (hp : H p = none) (r : Rps G m H ts vs) :
    RSto G ⟨m.as ++ [p], m.fo⟩ (L2.upd H p (.lst vs)) (st ++ [.lst ts]) ∧ Stp m H ⟨m.as ++ [p], m.fo⟩ (L2.upd H p (.lst vs)) := by
  have hpa : p ∉ m.as := fun z => s.mem z hp
  have S : Stp m H ⟨m.as ++ [p], m.fo⟩ (L2.upd H p (.lst vs)) := ⟨⟨fun b o h _ hn => by rw [upd_ne (ne_of_none h hp)]; exact h, fun _ _ h => upd_some h, fun b h => by
    rcases List.mem_append.mp h with h | h
    · exact .inl h
    · rw [List.mem_singleton.mp h]; exact .inr hp, fun _ h => .inl (.inr h), ⟨[p], rfl⟩⟩, rfl⟩
  refine ⟨⟨?_, fun a h => ?_, by simp [s.len], fun i b c h1 h2 => ?_, fun b h => ?_, (s.fresh hp).tab⟩, S⟩
  · rw [List.nodup_append]
    exact ⟨s.nd, by simp, fun a ha b hb => by rw [List.mem_singleton.mp hb]; exact fun z => hpa (z ▸ ha)⟩
  · rcases List.mem_append.mp h with h | h
    · exact s.fd a h
    · rw [List.mem_singleton.mp h]; exact fun z => s.foS p z hp
  · by_cases hi : i < st.length
    · rw [List.getElem?_append_left (by rw [s.len]; exact hi)] at h1
      rw [List.getElem?_append_left hi] at h2
      exact RCell.mov S.toMov (upd_ne fun z => hpa (z ▸ List.mem_of_getElem? h1)) (s.cell i b c h1 h2)
    · have hi2 : i = st.length := by
        have := (List.getElem?_eq_some_iff.mp h2).1
        simp at this
        omega
      subst hi2
      rw [List.getElem?_append_right (Nat.le_refl _)] at h2
      rw [List.getElem?_append_right (by rw [s.len]; exact Nat.le_refl _)] at h1
      have e1 : p = b := by simpa [s.len] using h1
      have e2 : Cell.lst ts = c := by simpa using h2
      subst e1 e2
      exact ⟨vs, upd_same, Rps.mov S.toMov _ _ r⟩
  · have hne : b ≠ p := fun z => s.foS b h (by rw [z]; exact hp)
    rw [upd_ne hne]
    exact s.foS b h
theorem s_new (h : PE X e (tL G W fl)) : PE X e (tE G W (fNew fl)) := by
  refine PE.imp h fun σ H Q ⟨m, env, st, rs, h⟩ => ⟨m, env, st, rs, (Rn.bnd h).imp fun xs st' vs H' m' rs' _ r q p hp => ?_⟩
  obtain ⟨s2, S2⟩ := rs'.sto.push hp r
  exact Rn.next (K := Kq Q) q ⟨rs'.env.mov S2.toMov, s2⟩ S2 ⟨p, rfl, by show (m'.as ++ [p])[st'.length]? = some p; rw [← rs'.sto.len]; simp⟩
theorem loc_lst {m : Mm} {H : Hp} {st : Sto} {t : T} {v : V} {l : Nat} {xs : List T} (s : RSto G m H st) (r : Rp G m H t v) (e : lstAt st t = some (l, xs)) (K : PySem.W.Frag) : tyV K "list" v H := by
  obtain ⟨a, vs, rfl, _, hH, _⟩ := lstAt_ok s r e
  exact .inl ⟨rfl, vs, .inl (.inl hH)⟩
end
end Eg
set_option Elab.async false
set_option linter.all false
set_option maxRecDepth 100000
set_option maxHeartbeats 2000000
namespace Eg
open PySem PySem.Spec PyProof.Rows L2
inductive Mu where
  | append | insert | pop | extend
  deriving DecidableEq
def muName : Mu → Str
  | .append => "append" | .insert => "insert" | .pop => "pop" | .extend => "extend"
def muT : Mu → List T → List T → Option (T × List T)
  | .append, xs, [y] => if xs.length < lim then some (.non, xs ++ [y]) else none
  | .insert, xs, [.int i, y] => if xs.length < lim ∧ 0 ≤ i ∧ i < 2 ^ 63 then some (.non, xs.take i.toNat ++ [y] ++ xs.drop i.toNat) else none
  | .pop, xs, [] => match xs[xs.length - 1]? with
    | some y => some (y, xs.dropLast)
    | none => none
  | .extend, xs, [.lst ys] => if xs.length + ys.length ≤ lim then some (.non, xs ++ ys) else none
  | _, _, _ => none
def fMu (o : Mu) (fa : Env → Sto → R T) (fs : Env → Sto → R (List T)) : Env → Sto → R T := fun env st => (fa env st).bnd fun x st1 => if (lstAt st1 x).isSome then (fs env st1).bnd fun ys st2 => match lstAt st2 x with
  | some (l, xs) => match muT o xs ys with
    | some (r, xs') => .ok r (st2.set l (.lst xs'))
    | none => .bad
  | none => .bad else .bad
section
variable {X : Cx} {G : Gh} {W : WX} {fa fb fc : Env → Sto → R T} {fs : Env → Sto → R (List T)} {a b e : Expr} {es : List Expr} {pos apos p : Pos} {m : Mm} {H : Hp} {σ : L2.St} {env : Env} {st : Sto} {Q : VK}
def rInsE : V → List V → Hp → VK → Prop := fun x vs H Q => ∃ (l : Addr) (xs : List V) (i : Int) (y : V), x = .ref l ∧ vs = [.int i, y] ∧ H l = some (.lst xs) ∧ xs.length < sizeLine ∧ 0 ≤ i ∧ i < 2 ^ 63 ∧
    Q .non (upd H l (.lst (xs.take i.toNat ++ [y] ++ xs.drop i.toNat)))
def rMu : Mu → V → List V → Hp → VK → Prop
  | .append => rAppend | .insert => rInsE | .pop => rPop | .extend => rExtend
theorem Rps.last {ts : List T} {vs : List V} (h : Rps G m H ts vs) : Rps G m H ts.dropLast vs.dropLast := by
  rw [List.dropLast_eq_take, List.dropLast_eq_take, h.length]
  exact h.take _
theorem mu_ok {o : Mu} {ts us : List T} {vs : List V} {v : V} {x : T} {l : Nat} {r : T} {ts' : List T} (rs : RS G m env st σ H) (r1 : Rp G m H x v) (r2 : Rps G m H us vs) (e1 : lstAt st x = some (l, ts)) (e2 : muT o ts us = some (r, ts'))
    (q : Rn G W σ env (Rp G) m H (.ok r (st.set l (.lst ts'))) (Kq Q)) : rMu o v vs H Q := by
  obtain ⟨p, xs, rfl, hp, hH, rq⟩ := lstAt_ok rs.sto r1 e1
  have fin : ∀ {xs' : List V} {w : V}, Rps G m H ts' xs' → Rp G m H r w → Q w (upd H p (.lst xs')) := fun {xs' w} h1 h2 => by
    obtain ⟨s3, S3⟩ := rs.sto.setc hp h1
    exact Rn.next (K := Kq Q) q ⟨rs.env.mov S3.toMov, s3⟩ S3 (Rp.mov S3.toMov _ _ h2)
  unfold muT at e2
  split at e2
  · rename_i y
    split at e2
    · rename_i hl
      cases e2
      obtain ⟨w, rfl, hw⟩ := one_of (ts := []) r2
      exact ⟨p, xs, w, rfl, rfl, hH, by rw [← rq.length, ← lim_eq]; exact hl, fin (rq.append ⟨w, [], rfl, hw, rfl⟩) rfl⟩
    · cases e2
  · rename_i i y
    split at e2
    · rename_i hl
      cases e2
      obtain ⟨w1, w, rfl, h1, hw⟩ := two_of r2
      cases (show w1 = _ from h1)
      exact ⟨p, xs, i, w, rfl, rfl, hH, by rw [← rq.length, ← lim_eq]; exact hl.1, hl.2.1, hl.2.2, fin (((rq.take _).append (ts := _) (us := [y]) (ws := [w]) ⟨w, [], rfl, hw, rfl⟩).append (rq.drop _)) rfl⟩
    · cases e2
  · split at e2
    · rename_i y hy
      cases e2
      cases (show vs = [] from r2)
      obtain ⟨w, hw1, hw2⟩ := rq.get hy
      rw [rq.length] at hw1
      exact ⟨p, xs, w, rfl, rfl, hH, hw1, fin rq.last hw2⟩
    · cases e2
  · rename_i ys
    split at e2
    · rename_i hl
      cases e2
      obtain ⟨w, rfl, hw⟩ := one_of (ts := []) r2
      obtain ⟨p2, zs, rfl, hz, rz⟩ := hw
      exact ⟨p, p2, xs, zs, rfl, rfl, hH, hz.2, by rw [← rq.length, ← rz.length, ← lim_eq]; exact hl, fin (rq.append rz) rfl⟩
    · cases e2
  · cases e2
theorem mu_imp {o : Mu} (h : tE G W (fMu o fa fs) σ H Q) : tE G W fa σ H fun x H1 => tyV X.K "list" x H1 ∧ tA G W fs σ H1 fun xs H2 => rMu o x xs H2 Q := by
  obtain ⟨m, env, st, rs, h⟩ := h
  refine ⟨m, env, st, rs, (Rn.bnd h).imp fun x st1 v H1 m1 rs1 S1 r1 q => ?_⟩
  cases e1 : lstAt st1 x with
  | none => rw [e1] at q; exact q.elim
  | some pp =>
    rw [e1] at q
    have q := (if_pos (c := (some pp).isSome = true) rfl) ▸ q
    refine ⟨loc_lst (l := pp.1) (xs := pp.2) rs1.sto r1 e1 _, m1, env, st1, rs1, (Rn.bnd q).imp fun us st2 vs H2 m2 rs2 S2 r2 q => ?_⟩
    cases e2 : lstAt st2 x with
    | none => rw [e2] at q; exact q.elim
    | some pq =>
      obtain ⟨l, xs⟩ := pq
      rw [e2] at q
      simp only at q
      cases e3 : muT o xs us with
      | none => rw [e3] at q; exact q.elim
      | some rr =>
        obtain ⟨r, xs'⟩ := rr
        rw [e3] at q
        exact mu_ok rs2 (Rp.mov S2.toMov _ _ r1) r2 e2 e3 q
def Few (X : Cx) (es : List Expr) (cpos : Pos) : Prop := ((backTo cpos (starEach es X.env)).all (fun x => !x.1) && (backToKw cpos (keywordEach [] X.env)).all (fun x => x.1.isSome)
      && decide (es.length + ([] : List Keyword).length + (if ([] : List Keyword).isEmpty then 0 else 1) < 30)) = true
theorem s_mu {o : Mu} (ha : PE X a (tE G W fa)) (hes : PA X (e :: es) (tA G W fs)) (hne : o ≠ .pop) (hbase : attributeBase a (muName o) X.env (eval a X.env) = eval a X.env) (hfew : Few X (e :: es) pos)
    (hline : (apos.endLine == pos.line) = true) (he : starEach (e :: es) X.env = (false, eval e X.env) :: starEach es X.env) (hpl : (starEach es X.env).all (fun x => !x.1) = true) :
    PE X (.Call (.Attribute a (muName o) apos) (e :: es) [] pos) (tE G W (fMu o fa fs)) := by
  have hp := pl_of (e := e) (pos := pos) hpl
  cases o with
  | append => exact PE.imp (pe_bm (r := rAppend) PySem.F.plainAttrs_list PySem.F.slot_list_append PySem.F.type_list_append mt_append ha hes hbase hfew hline he hp) fun σ H Q h => mu_imp h
  | insert => exact PE.imp (pe_bm (r := rInsE) PySem.F.plainAttrs_list PySem.F.slot_list_insert PySem.F.type_list_insert mt_insert ha hes hbase hfew hline he hp) fun σ H Q h => mu_imp h
  | extend => exact PE.imp (pe_bm (r := rExtend) PySem.F.plainAttrs_list PySem.F.slot_list_extend PySem.F.type_list_extend mt_extend ha hes hbase hfew hline he hp) fun σ H Q h => mu_imp h
  | pop => exact absurd rfl hne
theorem s_pop (ha : PE X a (tE G W fa)) (hbase : attributeBase a "pop" X.env (eval a X.env) = eval a X.env) (hline : (apos.endLine == pos.line) = true) :
    PE X (.Call (.Attribute a "pop" apos) [] [] pos) (tE G W (fMu .pop fa fun _ st => .ok [] st)) := by
  refine PE.imp (pe_bm0 (r := rPop) PySem.F.plainAttrs_list PySem.F.slot_list_pop PySem.F.type_list_pop mt_pop ha hbase hline) fun σ H Q h => ?_
  obtain ⟨m, env, st, rs, h⟩ := mu_imp (X := X) h
  refine ⟨m, env, st, rs, h.imp fun x st' v H1 m' rs' _ _ ⟨q1, m2, env2, st2, rs2, q2⟩ => ⟨q1, Rn.here q2 rs2 rfl⟩⟩
mutual
def Z29 : T → Bool
  | .edt => true
  | .non => true
  | .bl _ => true
  | .int _ => true
  | .str x => PyData.strOk x
  | .tup xs => datasE xs
  | .lst xs => datasE xs
  | .obj _ _ => false
  | .exc _ _ => false
  | .loc _ => false
  | .scr _ => false
  | .cv _ => false
  | .ptp _ => false
def datasE : List T → Bool
  | [] => true
  | x :: xs => Z29 x && datasE xs
end
mutual
theorem data_E : ∀ t : T, data t = true → Z29 t = true
  | .non, _ => rfl
  | .bl _, _ => rfl
  | .int _, _ => rfl
  | .str _, h => by simpa only [data, Z29] using h
  | .tup xs, h => by simp only [Z29]; exact datas_E xs (by simpa [data] using h)
  | .lst xs, h => by simp only [Z29]; exact datas_E xs (by simpa [data] using h)
  | .obj _ _, h => by simp [data] at h
  | .exc _ _, h => by simp [data] at h
  | .loc _, h => by simp [data] at h
  | .scr _, h => by simp [data] at h
  | .cv _, h => by simp [data] at h
  | .ptp _, h => by simp [data] at h
  | .edt, _ => rfl
theorem datas_E : ∀ xs : List T, datas xs = true → datasE xs = true
  | [], _ => rfl
  | x :: xs, h => by
    simp only [datas, Bool.and_eq_true] at h
    simp only [datasE, data_E x h.1, datas_E xs h.2, Bool.and_self]
end
mutual
theorem dpE_of {G : Gh} {m : Mm} {H : Hp} : ∀ (t : T) (v : V), Z29 t = true → Rp G m H t v → DpE G.K H v (toD t)
  | .non, _, _, h => by cases (show _ = _ from h); exact .non
  | .bl b, _, _, h => by cases (show _ = _ from h); exact .bl b
  | .int i, _, _, h => by cases (show _ = _ from h); exact .int i
  | .str x, _, _, h => by cases (show _ = _ from h); exact .str x
  | .tup xs, _, h, ⟨a, vs, e, p, r⟩ => by subst e; exact .tup (.inl (.inl p.2)) (dpsE_of xs vs (by simpa [Z29] using h) r)
  | .lst xs, _, h, ⟨a, vs, e, p, r⟩ => by subst e; exact .lst (.inl (.inl p.2)) (dpsE_of xs vs (by simpa [Z29] using h) r)
  | .obj _ _, _, h, _ => by simp [Z29] at h
  | .exc _ _, _, h, _ => by simp [Z29] at h
  | .loc _, _, h, _ => by simp [Z29] at h
  | .scr _, _, h, _ => by simp [Z29] at h
  | .cv _, _, h, _ => by simp [Z29] at h
  | .ptp _, _, h, _ => by simp [Z29] at h
  | .edt, _, _, ⟨a, e, _, p⟩ => by subst e; exact .ed p
theorem dpsE_of {G : Gh} {m : Mm} {H : Hp} : ∀ (ts : List T) (vs : List V), datasE ts = true → Rps G m H ts vs → DpEs G.K H vs (toDs ts)
  | [], _, _, h => by cases (show _ = _ from h); exact .nil
  | t :: ts, _, h, ⟨v, r, e, p, q⟩ => by
    have h' : Z29 t = true ∧ datasE ts = true := by simpa [datasE] using h
    subst e
    exact .cons (dpE_of t v h'.1 p) (dpsE_of ts r h'.2 q)
end
theorem froz_dpE {G : Gh} {m : Mm} {H : Hp} {st : Sto} {t : T} {v : V} (s : RSto G m H st) (h : Z29 (frozen st t) = true) (r : Rp G m H t v) : DpE G.K H v (toD (frozen st t)) := by
  unfold frozen at h ⊢
  cases e : lstOf st t with
  | none => rw [e] at h; exact dpE_of t v h r
  | some xs =>
    rw [e] at h
    obtain ⟨a, vs, rfl, hs, q⟩ := Rp.lst s r e
    exact .lst hs (dpsE_of xs vs (by simpa [Z29] using h) q)
def okShow (t : T) : Bool := Z29 t && (toD t).showable && decide (dep t ≤ 60) && decide ((toD t).shown.length ≤ lim)
def reprT (st : Sto) (t : T) : Option T := if okShow (frozen st t) then some (.str (toD (frozen st t)).shown) else none
def fRepr (fa : Env → Sto → R T) : Env → Sto → R T := fun env st => (fa env st).bnd fun x st1 => R.opt (reprT st1 x) st1
def rRepr (K : PySem.W.Frag) : List V → Hp → VK → Prop := fun xs H Q => ∃ v d, xs = [v] ∧ DpE K H v d ∧ d.showable = true ∧ d.depth ≤ 60 ∧ d.shown.length ≤ sizeLine ∧ Q (.str d.shown) H
theorem call_repr (hg : X.A.guards = some []) (hu : X.A.units + 65 < cLine) : CallR X (.builtin "repr") (rRepr X.K) := by
  intro pins s σ H xs us Q I r h
  obtain ⟨v, d, rfl, hd, hs, hdep, hsz, q⟩ := h
  obtain ⟨u, rfl, ru⟩ := vals1 r
  have rd := DpE.rd I hd ru
  have go : ∀ a, u = .ref a → wpAny (model X.prog X.w) X.A (call (.builtin "repr") [u]) (EP X pins σ Q) X.xe s := fun a e => by
    subst e
    exact RdE.repr_ref rd hs hsz hg (by omega) fun h' u tk hk => ⟨.str _, H, I.kept hk, ⟨_, rfl⟩, q⟩
  cases rd with
  | non => exact PySem.P.repr_of_none ⟨.str _, H, I.tok _, ⟨_, rfl⟩, q⟩
  | bl b => exact PySem.P.repr_of_bool ⟨.str _, H, I.tok _, ⟨_, rfl⟩, q⟩
  | int i t => exact PySem.P.repr_of_int (by simpa [PyData.showable] using hs) ⟨.str _, H, I.tok _, ⟨_, rfl⟩, q⟩
  | str x t => exact PySem.P.repr_of_str ⟨.str _, H, I.tok _, ⟨_, rfl⟩, q⟩ hsz
  | lst => exact go _ rfl
  | tup => exact go _ rfl
  | ed => exact go _ rfl
theorem s_repr (hK : X.K = G.K) (hG : X.A.guards = some []) (hu : X.A.units + 65 < cLine) (hg : Gl X "repr") (hm : X.mg "repr" = none) (ha : PE X a (tE G W fa)) (hs : starEach [a] X.env = [(false, eval a X.env)]) :
    PE X (.Call (.Name "repr" p) [a] [] pos) (tE G W (fRepr fa)) := by
  refine PE.imp (pe_callB (call_repr hG hu) hg hm (by decide +kernel) (pa_cons ha pa_nil hs) (by decide) (by decide) (by rw [hs]; rfl) rfl) fun σ H Q h => ?_
  rw [hK]
  show tE G W fa σ H fun v H1 => rRepr G.K [v] H1 Q
  refine at1 h fun m env st t v H1 rs r q => ?_
  cases e : reprT st t with
  | none => rw [e] at q; exact q.elim
  | some w =>
    rw [e] at q
    unfold reprT at e
    split at e
    · rename_i hk
      cases e
      unfold okShow at hk
      simp only [Bool.and_eq_true, decide_eq_true_eq] at hk
      obtain ⟨⟨⟨h1, h2⟩, h3⟩, h4⟩ := hk
      exact ⟨v, _, rfl, froz_dpE rs.sto h1 r, h2, by rw [depth_toD]; exact h3, lim_eq ▸ h4, Rn.give q rs rfl⟩
    · cases e
def strT : T → Option T
  | .int i => if i.natAbs.log2 < 1920 then some (.str (toString i)) else none
  | .str x => some (.str x)
  | _ => none
def fStr (fa : Env → Sto → R T) : Env → Sto → R T := fun env st => (fa env st).bnd fun x st1 => R.opt (strT x) st1
theorem s_str (hg : Gl X "str") (hm : X.mg "str" = none) (ha : PE X a (tE G W fa)) (hs : starEach [a] X.env = [(false, eval a X.env)]) :
    PE X (.Call (.Name "str" p) [a] [] pos) (tE G W (fStr fa)) := by
  refine PE.imp (pe_callTy (CallR.or call_str_int SkE.call_str_str) hg hm (by decide +kernel) (pa_cons ha pa_nil hs) (by decide) (by decide) (by rw [hs]; rfl) rfl) fun σ H Q h => ?_
  show tE G W fa σ H fun v H1 => (∃ i, [v] = [V.int i] ∧ i.natAbs.log2 < 1920 ∧ Q (.str (toString i)) H1) ∨ (∃ a, [v] = [V.str a] ∧ Q (.str a) H1)
  refine at1 h fun m env st t v H1 rs r q => ?_
  cases t with
  | int i =>
    cases (show v = _ from r)
    obtain ⟨c, q⟩ := if_some q
    exact .inl ⟨i, rfl, c, Rn.give (b := .str (toString i)) q rs rfl⟩
  | str x =>
    cases (show v = _ from r)
    exact .inr ⟨x, rfl, Rn.give (b := .str x) q rs rfl⟩
  | _ => exact q.elim
end
end Eg
set_option Elab.async false
set_option linter.all false
set_option maxRecDepth 100000
set_option maxHeartbeats 2000000
namespace Eg
open PySem PySem.Spec PyProof.Rows L2
def fldIx : List Str → Str → Option Nat
  | [], _ => none
  | g :: gs, f => if g = f then some 0 else (fldIx gs f).map (· + 1)
def insOf (st : Sto) : T → Option (Nat × List T)
  | .obj c vs => some (c, vs)
  | .loc l => match st[l]? with
    | some (.ins c vs) => some (c, vs)
    | _ => none
  | _ => none
structure ClsOk (P : Program) (w : World) (K : PySem.W.Frag) (mg : Str → Option Value) (base : Heap) (lv : Nat) (G : Gh) (c : Nat) (ci : Ci) : Prop where
  fl : G.fl c = ci.fl
  cls : Cls K (G.cl c)
  ha : PySem.W.findIn K (.ref (G.cl c)) "__class__" = some (some (.builtin "object.__class__"))
  hn : PySem.W.specialIn K (.builtin "object.__class__") "__get__" = some (some (.builtin "getset_descriptor.__get__"))
  htk : PySem.W.takesIn K (.builtin "object.__class__") = some true
  hm : PySem.W.mroIn K (G.cl c) (.type "object") = some true
  na : ∀ f, f ∈ ci.fl → NoAttr K (G.cl c) f
  nd : ci.fl.Nodup
  few : ci.fl.length < 1000
  props : ∀ (f : Str) F, ci.props.lookup f = some F → ∃ p g, PropOf K (G.cl c) f p g ∧ Cal P w K mg base lv G [] F g
  meths : ∀ (k : Str) fn, ci.meths.lookup k = some fn → fn.name ∉ ci.fl ∧ ∃ g, Meth K (G.cl c) fn.name g ∧ Cal P w K mg base lv G fn.ks fn.F g
section
variable {G : Gh} {m : Mm} {H : Hp} {st : Sto}
theorem ins_at {t : T} {v : V} {c : Nat} {vs : List T} (s : RSto G m H st) (r : Rp G m H t v) (e : insOf st t = some (c, vs)) : ∃ a dx fv, v = .ref a ∧ H a = some (.ins (G.cl c) dx fv) ∧ fv.map (·.1) = (G.fl c).take vs.length ∧ Rps G m H vs (fv.map (·.2)) := by
  cases t with
  | obj c2 ws =>
    cases (show some (c2, ws) = some (c, vs) from e)
    obtain ⟨a, dx, fv, e1, _, h, hf, q⟩ := r
    refine ⟨a, dx, fv, e1, h, ?_, q⟩
    have hl : vs.length = (G.fl c).length := by
      have := congrArg List.length hf
      rw [List.length_map] at this
      rw [q.length, List.length_map]
      exact this
    rw [hf, hl, List.take_length]
  | loc l =>
    obtain ⟨a, e1, h⟩ := r
    have e : (match st[l]? with
      | some (.ins c vs) => some (c, vs)
      | _ => none) = some (c, vs) := e
    cases e2 : st[l]? with
    | none => rw [e2] at e; cases e
    | some cc =>
      cases cc with
      | lst xs => rw [e2] at e; cases e
      | dt xs => rw [e2] at e; cases e
      | dk xs => rw [e2] at e; cases e
      | ins c2 ws =>
        rw [e2] at e
        cases e
        obtain ⟨dx, fv, h1, h2, _, q⟩ := s.cell l a _ h e2
        exact ⟨a, dx, fv, e1, h1, h2, q⟩
  | _ => cases e
theorem fld_look : ∀ {fl : List Str} {fv : List (Str × V)} {n i : Nat} {f : Str} {v : V}, fv.map (·.1) = fl.take n → fldIx fl f = some i → (fv.map (·.2))[i]? = some v → fv.lookup f = some v
  | [], fv, n, i, f, v, _, e, _ => by cases e
  | g :: gs, [], n, i, f, v, _, _, h => by simp at h
  | g :: gs, (k, w) :: fv, 0, i, f, v, h, _, _ => by simp at h
  | g :: gs, (k, w) :: fv, n + 1, i, f, v, h, e, hv => by
    simp only [List.map_cons, List.take_succ_cons, List.cons.injEq] at h
    obtain ⟨rfl, h⟩ := h
    have e : (if k = f then some 0 else (fldIx gs f).map (· + 1)) = some i := e
    by_cases hk : k = f
    · rw [if_pos hk] at e
      cases e
      have : w = v := by simpa using hv
      subst this hk
      simp
    · rw [if_neg hk] at e
      cases e2 : fldIx gs f with
      | none => rw [e2] at e; cases e
      | some j =>
        rw [e2] at e
        cases e
        rw [List.lookup_cons, show (f == k) = false from beq_eq_false_iff_ne.mpr (Ne.symm hk)]
        exact fld_look (fl := gs) (n := n) h e2 (by simpa using hv)
theorem fldIx_mem : ∀ {fl : List Str} {i : Nat} {f : Str}, fldIx fl f = some i → f ∈ fl
  | [], _, _, e => by cases e
  | g :: gs, i, f, e => by
    have e : (if g = f then some 0 else (fldIx gs f).map (· + 1)) = some i := e
    by_cases hk : g = f
    · subst hk; exact List.mem_cons_self
    · rw [if_neg hk] at e
      cases e2 : fldIx gs f with
      | none => rw [e2] at e; cases e
      | some j => exact List.mem_cons_of_mem _ (fldIx_mem e2)
end
section
variable {X : Cx} {G : Gh} {W : WX} {lv : Nat} {cs : List Ci} {fa fb : Env → Sto → R T} {fs : Env → Sto → R (List T)} {a b e : Expr} {es : List Expr} {f : Str} {pos apos p : Pos}
def fAttr (cs : List Ci) (f : Str) (fa : Env → Sto → R T) : Env → Sto → R T := fun env st => (fa env st).bnd fun x st1 => match insOf st1 x with
  | some (c, vs) => match cs[c]? with
    | some ci => match fldIx ci.fl f with
      | some i => R.opt vs[i]? st1
      | none => match ci.props.lookup f with
        | some F => (F [x] st1).nox
        | none => .bad
    | none => .bad
  | none => .bad
theorem own_prop {pins : List (Addr × Obj)} {σ : L2.St} {H : Hp} {s : Shared} {Q : VK} {b : Bool} {E' : Value → Shared → Prop} {C x dx pa g : Addr} {fv : List (Str × V)} {F : List T → Sto → R T} (I : Inv X pins σ H s) (ea : H x = some (.ins C dx fv)) (c : Cls X.K C) (hp : PropOf X.K C f pa g)
    (cal : Cal X.prog X.w X.K X.mg X.base lv G [] F g) (hr : Room (lv + 1) X.A) (hg : X.A.guards = some []) (h : Spec G F [.ref x] H Q (fun _ _ _ => False)) :
    wpAny (model X.prog X.w) X.A (getAttr (.ref x) f b) (EP X pins σ Q) E' s := by
  obtain ⟨mA, O, _⟩ := ins_get I.hok ea
  obtain ⟨od, J, _⟩ := O.look
  obtain ⟨tail, hrec⟩ := hp.rec_
  have J1 := I.tok (s.toks + 1)
  have there : (PySem.W.clsIn X.K C).isSome = true := by
    obtain ⟨cd, hc, _⟩ := PySem.W.any_some c.hd
    rw [hc]; rfl
  refine PySem.W.get_bind I.kIn J (PySem.W.plainGet_of (c.get f)).1 (PySem.W.findObj_data there hp.at_ hp.get hp.tak) (PySem.W.plainGet_of (c.get f)).2 (wpAny_call (PySem.W.prop_get (s := { s with toks := s.toks + 1 }) I.kIn hrec ?_))
  refine codeAny_mono (cal X.A.in1 X.stack { s with toks := s.toks + 1 } H [.ref x] [] [.ref x] [] Q (fun _ _ _ => False) hr.in1 hg J1.env0.in1 (.cons rfl .nil) .nil rfl h) fun r s2 hq => ?_
  match r, hq with
  | .error e, hq =>
    obtain ⟨_, _, _, _, _, _, _, _, _, _, _, _, z⟩ := hq
    exact z.elim
  | .ok (.ret u), hq =>
    obtain ⟨v, H2, I2, rv, q2⟩ := J1.after hq
    show wpAny _ _ (handedOut u) _ _ _
    rw [PySem.W.handedOut_of (handed_of rv)]
    exact wpAny_pure ⟨v, H2, I2, rv, q2⟩
  | .ok .next, hq => exact hq.elim
  | .ok .brk, hq => exact hq.elim
  | .ok .cont, hq => exact hq.elim
theorem spec_nox {F : List T → Sto → R T} {m : Mm} {env : Env} {st : Sto} {σ : L2.St} {H : Hp} {ts : List T} {vs : List V} {Q : VK} (rs : RS G m env st σ H) (r : Rps G m H ts vs) (q : Rn G W σ env (Rp G) m H (F ts st).nox (Kq Q)) : Spec G F vs H Q (fun _ _ _ => False) := by
  refine ⟨m, st, ts, rs.bare, r, ?_⟩
  cases eF : F ts st with
  | ok x s2 =>
    rw [eF] at q
    exact fun b H' m' rs' y rr => q b H' m' ⟨rs.env.mov y.toMov, rs'.sto⟩ y rr
  | exc x s2 => rw [eF] at q; exact q.elim
  | bad => rw [eF] at q; exact q.elim
theorem s_attr (hcs : ∀ c ci, cs[c]? = some ci → ClsOk X.prog X.w X.K X.mg X.base lv G c ci) (hr : Room (lv + 1) X.A) (hg : X.A.guards = some []) (he : PE X e (tE G W fa)) (hb : attributeBase e f X.env (eval e X.env) = eval e X.env) :
    PE X (.Attribute e f pos) (tE G W (fAttr cs f fa)) := by
  refine ⟨fun pins s σ H Q I h => ?_⟩
  have h2 : tE G W fa σ H fun v H1 => (∃ x C dx fv w, v = .ref x ∧ H1 x = some (.ins C dx fv) ∧ Cls X.K C ∧ NoAttr X.K C f ∧ fv.lookup f = some w ∧ Q w H1) ∨
      (∃ x C dx fv pa g F, v = .ref x ∧ H1 x = some (.ins C dx fv) ∧ Cls X.K C ∧ PropOf X.K C f pa g ∧ Cal X.prog X.w X.K X.mg X.base lv G [] F g ∧ Spec G F [.ref x] H1 Q (fun _ _ _ => False)) := by
    refine at1 (g := fun _ x st1 => match insOf st1 x with
      | some (c, vs) => match cs[c]? with
        | some ci => match fldIx ci.fl f with
          | some i => R.opt vs[i]? st1
          | none => match ci.props.lookup f with
            | some F => (F [x] st1).nox
            | none => .bad
        | none => .bad
      | none => .bad) h fun m env st t v H1 rs r q => ?_
    cases e1 : insOf st t with
    | none => rw [e1] at q; exact q.elim
    | some pr =>
      obtain ⟨c, vs⟩ := pr
      rw [e1] at q
      simp only at q
      cases e2 : cs[c]? with
      | none => rw [e2] at q; exact q.elim
      | some ci =>
        rw [e2] at q
        simp only at q
        have ok := hcs c ci e2
        obtain ⟨x, dx, fv, rfl, hH, hf, rq⟩ := ins_at rs.sto r e1
        cases e3 : fldIx ci.fl f with
        | some i =>
          rw [e3] at q
          simp only at q
          cases e4 : vs[i]? with
          | none => rw [e4] at q; exact q.elim
          | some t2 =>
            rw [e4] at q
            obtain ⟨w, hw, rw2⟩ := rq.get e4
            rw [ok.fl] at hf
            exact .inl ⟨x, _, dx, fv, w, rfl, hH, ok.cls, ok.na f (fldIx_mem e3), fld_look hf e3 hw, Rn.give q rs rw2⟩
        | none =>
          rw [e3] at q
          simp only at q
          cases e4 : ci.props.lookup f with
          | none => rw [e4] at q; exact q.elim
          | some F =>
            rw [e4] at q
            simp only at q
            obtain ⟨pa, g, hp, cal⟩ := ok.props f F e4
            exact .inr ⟨x, _, dx, fv, pa, g, F, rfl, hH, ok.cls, hp, cal, spec_nox (W := W) (ts := [t]) rs ⟨_, [], rfl, r, rfl⟩ q⟩
  refine attr_of hb (thn (he.run pins s σ H _ I h2) fun u s1 ⟨v, H1, I1, rv, alt⟩ => ?_)
  rcases alt with ⟨x, C, dx, fv, w, rfl, ea, c, n, l, q⟩ | ⟨x, C, dx, fv, pa, g, F, rfl, ea, c, hp, cal, q⟩
  · obtain rfl : u = Value.ref x := rv
    exact getattr_ok I1 ea c n l fun u2 s2 I2 ru => ⟨w, H1, I2, ru, q⟩
  · obtain rfl : u = Value.ref x := rv
    exact own_prop I1 ea c hp cal hr hg q
def tyOf (st : Sto) : T → Option Ty
  | .non => some .non
  | .bl _ => some .bl
  | .int _ => some .int
  | .str _ => some .str
  | .tup _ => some .tup
  | .lst _ => some .lst
  | .obj c _ => some (.cls c)
  | .edt => some .dct
  | .loc l => match st[l]? with
    | some (.lst _) => some .lst
    | some (.ins c _) => some (.cls c)
    | _ => none
  | _ => none
def tyVal (G : Gh) : Ty → Value
  | .non => .type "NoneType" | .bl => .type "bool" | .int => .type "int" | .str => .type "str" | .tup => .type "tuple" | .lst => .type "list" | .cls c => .ref (G.cl c) | .dct => .type "dict"
def tgVal (G : Gh) : Tg → Value
  | .ty n => .type n | .cls c => .ref (G.cl c)
def tgV (G : Gh) : Tg → V
  | .ty n => .ty n | .cls c => .ref (G.cl c)
theorem ty_ok {m : Mm} {H : Hp} {st : Sto} {t : T} {v : V} {ty : Ty} (hcs : ∀ c ci, cs[c]? = some ci → ClsOk X.prog X.w X.K X.mg X.base lv G c ci) (s : RSto G m H st) (r : Rp G m H t v) (e : tyOf st t = some ty) (hc : ∀ c, ty = .cls c → c < cs.length) : TyX X.K H v (tyVal G ty) := by
  have ins : ∀ {c : Nat} {a dx : Addr} {fv : List (Str × V)}, c < cs.length → H a = some (.ins (G.cl c) dx fv) → TyX X.K H (.ref a) (.ref (G.cl c)) := fun {c a dx fv} hl h => by
    have ok := hcs c _ (List.getElem?_eq_getElem hl)
    exact .base (.ins h ok.cls ok.ha ok.hn ok.htk ok.hm)
  cases t with
  | non => cases e; cases (show v = _ from r); exact .base .non
  | bl b => cases e; cases (show v = _ from r); exact .base (.bl b)
  | int b => cases e; cases (show v = _ from r); exact .base (.int b)
  | str b => cases e; cases (show v = _ from r); exact .base (.str b)
  | tup xs => cases e; obtain ⟨a, vs, rfl, h, _⟩ := r; exact .base (.tup h.2)
  | lst xs => cases e; obtain ⟨a, vs, rfl, h, _⟩ := r; exact .base (.lst h.2)
  | obj c vs => cases e; obtain ⟨a, dx, fv, rfl, _, h, _⟩ := r; exact ins (hc c rfl) h
  | edt => cases e; obtain ⟨a, rfl, _, h⟩ := r; exact .base (.dK h)
  | loc l =>
    obtain ⟨a, rfl, h⟩ := r
    have e : (match st[l]? with
      | some (.lst _) => some Ty.lst
      | some (.ins c _) => some (.cls c)
      | _ => none) = some ty := e
    cases e2 : st[l]? with
    | none => rw [e2] at e; cases e
    | some cc =>
      rw [e2] at e
      cases cc with
      | lst xs => cases e; obtain ⟨vs, h1, _⟩ := s.cell l a _ h e2; exact .base (.lst h1)
      | ins c vs => cases e; obtain ⟨dx, fv, h1, _⟩ := s.cell l a _ h e2; exact ins (hc c rfl) h1
      | dt kvs => cases e
      | dk kvs => cases e
  | _ => cases e
def tyIn (n : Nat) : Ty → Bool
  | .cls c => decide (c < n)
  | _ => true
def isiT (n : Nat) (tb : List ((Ty × Tg) × Bool)) (g : Tg) (st : Sto) (t : T) : Option Bool := match tyOf st t with
  | some ty => if tyIn n ty = true then tb.lookup (ty, g) else none
  | none => none
def fIsi (n : Nat) (tb : List ((Ty × Tg) × Bool)) (g : Tg) (fa : Env → Sto → R T) : Env → Sto → R T := fun env st => (fa env st).bnd fun x st1 => R.opt ((isiT n tb g st1 x).map .bl) st1
theorem s_isi {tb : List ((Ty × Tg) × Bool)} {g : Tg} {c : Expr} (hcs : ∀ c ci, cs[c]? = some ci → ClsOk X.prog X.w X.K X.mg X.base lv G c ci) (htb : ∀ ty g k, tb.lookup (ty, g) = some k → PySem.W.kitOne X.K (tyVal G ty) (tgVal G g) = some k)
    (hg : Gl X "isinstance") (hm : X.mg "isinstance" = none) (ha : PE X a (tE G W fa)) (hc : PE X c (tC (tgV G g))) (hs : starEach [a, c] X.env = (false, eval a X.env) :: starEach [c] X.env) (hs2 : starEach [c] X.env = [(false, eval c X.env)]) :
    PE X (.Call (.Name "isinstance" p) [a, c] [] pos) (tE G W (fIsi cs.length tb g fa)) := by
  refine PE.imp (pe_callB call_isi hg hm (by decide +kernel) (pa_cons ha (pa_cons hc pa_nil hs2) hs) (by decide) (by decide) hs (by rw [hs2]; rfl)) fun σ H Q h => ?_
  show tE G W fa σ H fun v H1 => rIsi X.K [v, tgV G g] H1 Q
  refine at1 h fun m env st t v H1 rs r q => ?_
  cases e : isiT cs.length tb g st t with
  | none => rw [e] at q; exact q.elim
  | some k =>
    rw [e] at q
    unfold isiT at e
    cases e1 : tyOf st t with
    | none => rw [e1] at e; cases e
    | some ty =>
      rw [e1] at e
      have e : (if tyIn cs.length ty = true then tb.lookup (ty, g) else none) = some k := e
      by_cases hq : tyIn cs.length ty = true
      · rw [if_pos hq] at e
        have hlt : ∀ c, ty = .cls c → c < cs.length := fun c z => by subst z; simpa [tyIn] using hq
        refine ⟨v, tgV G g, tyVal G ty, tgVal G g, k, rfl, ?_, ty_ok hcs rs.sto r e1 hlt, htb ty g k e, Rn.give (b := .bl k) q rs rfl⟩
        cases g with
        | ty n => exact .ty n
        | cls c => exact .own _
      · rw [if_neg hq] at e; cases e
end
end Eg
set_option Elab.async false
set_option linter.all false
set_option maxRecDepth 100000
set_option maxHeartbeats 2000000
namespace Eg
open PySem PySem.Spec PyProof.Rows L2
mutual
def frzW (f : Nat → Option T) : T → Option T
  | .loc l => f l
  | .tup xs => (frzWs f xs).map .tup
  | .lst xs => (frzWs f xs).map .lst
  | .obj c xs => (frzWs f xs).map (.obj c)
  | .exc c xs => (frzWs f xs).map (.exc c)
  | .non => some .non
  | .bl b => some (.bl b)
  | .int i => some (.int i)
  | .str x => some (.str x)
  | .scr ns => some (.scr ns)
  | .cv c => some (.cv c)
  | .ptp xs => (frzWs f xs).map .ptp
  | .edt => some .edt
def frzWs (f : Nat → Option T) : List T → Option (List T)
  | [] => some []
  | x :: xs => match frzW f x, frzWs f xs with
    | some y, some ys => some (y :: ys)
    | _, _ => none
end
def whole (cs : List Ci) (c n : Nat) : Bool := match cs[c]? with
  | some ci => decide (ci.fl.length = n)
  | none => false
def frzL (cs : List Ci) (st : Sto) (ren : Nat → Option Nat) : Nat → Nat → Option T
  | 0, l => (ren l).map .loc
  | k + 1, l => match ren l with
    | some i => some (.loc i)
    | none => match st[l]? with
      | some (.lst xs) => (frzWs (frzL cs st ren k) xs).map .lst
      | some (.ins c vs) => if whole cs c vs.length = true then (frzWs (frzL cs st ren k) vs).map (.obj c) else none
      | _ => none
def frzC (f : Nat → Option T) : Cell → Option Cell
  | .lst xs => (frzWs f xs).map .lst
  | .ins c xs => (frzWs f xs).map (.ins c)
  | .dt kvs => (frzWs f (kvs.map (·.2))).map fun us => .dt ((kvs.map (·.1)).zip us)
  | .dk kvs => (frzWs f (kvs.map (·.2))).map fun us => .dk ((kvs.map (·.1)).zip us)
def frzCs (f : Nat → Option T) : List Cell → Option (List Cell)
  | [] => some []
  | c :: cs => match frzC f c, frzCs f cs with
    | some d, some ds => some (d :: ds)
    | _, _ => none
abbrev frz (cs : List Ci) (st : Sto) (ren : Nat → Option Nat) : Nat → Option T := frzL cs st ren 3
def kept (md : Bool) (n : Nat) : T → Option Nat
  | .loc l => if md = true ∧ n ≤ l then some l else none
  | _ => none
def ren (n : Nat) (kp : Option Nat) (i : Nat) : Option Nat := if i < n then some i else if kp = some i then some n else none
def more {A : Type} (xs : List A) : Option Nat → List A
  | some l => xs[l]?.toList
  | none => []
def finR (cs : List Ci) (md : Bool) (n : Nat) (t : T) (st : Sto) : R T :=
  match frzCs (frz cs st (ren n (kept md n t))) (st.take n ++ more st (kept md n t)), frzW (frz cs st (ren n (kept md n t))) t with
  | some st', some t' => .ok t' st'
  | _, _ => .bad
def finO (cs : List Ci) (md : Bool) (n : Nat) : O → R T
  | .nx _ st => finR cs false n .non st
  | .rt t st => finR cs md n t st
  | .exc (.exc c ts) _ st => match frzCs (frz cs st (ren n none)) (st.take n ++ more st none), frzWs (frz cs st (ren n none)) ts with
    | some st', some us => .exc (.exc c us) st'
    | _, _ => .bad
  | _ => .bad
section
variable {G : Gh} {m m' m2 : Mm} {H H' : Hp} {st : Sto} {f : Nat → Option T} {cs : List Ci}
mutual
theorem frzW_ok (hw : ∀ a, m2.w a → m'.w a) (hf : ∀ l t v, f l = some t → Rp G m' H (.loc l) v → Rp G m2 H t v) : ∀ (t t' : T) (v : V), frzW f t = some t' → Rp G m' H t v → Rp G m2 H t' v
  | .loc l, t', v, e, r => hf l t' v (by rw [frzW] at e; exact e) r
  | .tup xs, t', v, e, r => by
    rw [frzW] at e
    obtain ⟨ys, e1, rfl⟩ := Option.map_eq_some_iff.mp e
    obtain ⟨a, vs, rfl, h, q⟩ := r
    exact ⟨a, vs, rfl, ⟨fun z => h.1 (hw a z), h.2⟩, frzWs_ok hw hf xs ys vs e1 q⟩
  | .lst xs, t', v, e, r => by
    rw [frzW] at e
    obtain ⟨ys, e1, rfl⟩ := Option.map_eq_some_iff.mp e
    obtain ⟨a, vs, rfl, h, q⟩ := r
    exact ⟨a, vs, rfl, ⟨fun z => h.1 (hw a z), h.2⟩, frzWs_ok hw hf xs ys vs e1 q⟩
  | .obj c xs, t', v, e, r => by
    rw [frzW] at e
    obtain ⟨ys, e1, rfl⟩ := Option.map_eq_some_iff.mp e
    obtain ⟨a, dx, fv, rfl, hn, h, hl, q⟩ := r
    exact ⟨a, dx, fv, rfl, fun z => hn (hw a z), h, hl, frzWs_ok hw hf xs ys _ e1 q⟩
  | .exc c xs, t', v, e, r => by
    rw [frzW] at e
    obtain ⟨ys, e1, rfl⟩ := Option.map_eq_some_iff.mp e
    obtain ⟨y, vs, h1, h2, h3, q, h4⟩ := r
    exact ⟨y, vs, h1, h2, h3, frzWs_ok hw hf xs ys vs e1 q, h4.imp id fun ⟨dx, f, w', k1, k2, k3, k4, k5⟩ => ⟨dx, f, w', k1, k2, fun z => k3 (hw dx z), k4, k5⟩⟩
  | .non, t', v, e, r => by rw [frzW] at e; cases e; exact r
  | .bl b, t', v, e, r => by rw [frzW] at e; cases e; exact r
  | .int b, t', v, e, r => by rw [frzW] at e; cases e; exact r
  | .str b, t', v, e, r => by rw [frzW] at e; cases e; exact r
  | .cv b, t', v, e, r => by rw [frzW] at e; cases e; exact r
  | .edt, t', v, e, r => by
    rw [frzW] at e; cases e
    obtain ⟨a, rfl, hn, h⟩ := r
    exact ⟨a, rfl, fun z => hn (hw a z), h⟩
  | .ptp xs, t', v, e, r => by
    rw [frzW] at e
    obtain ⟨ys, e1, rfl⟩ := Option.map_eq_some_iff.mp e
    obtain ⟨a, vs, rfl, ⟨hn, o, h, hd⟩, q⟩ := r
    exact ⟨a, vs, rfl, ⟨fun z => hn (hw a z), o, h, hd⟩, frzWs_ok hw hf xs ys vs e1 q⟩
  | .scr ns, t', v, e, r => by
    rw [frzW] at e; cases e
    obtain ⟨a, rfl, h⟩ := r
    refine ⟨a, rfl, ?_⟩
    rcases h with ⟨hn, h⟩ | h
    · exact .inl ⟨fun z => hn (hw a z), h⟩
    · exact .inr h
theorem frzWs_ok (hw : ∀ a, m2.w a → m'.w a) (hf : ∀ l t v, f l = some t → Rp G m' H (.loc l) v → Rp G m2 H t v) : ∀ (ts ts' : List T) (vs : List V), frzWs f ts = some ts' → Rps G m' H ts vs → Rps G m2 H ts' vs
  | [], ts', vs, e, r => by rw [frzWs] at e; cases e; exact r
  | x :: xs, ts', vs, e, r => by
    rw [frzWs] at e
    obtain ⟨v, w, rfl, h, q⟩ := r
    cases e1 : frzW f x with
    | none => rw [e1] at e; cases e
    | some y =>
      cases e2 : frzWs f xs with
      | none => rw [e1, e2] at e; cases e
      | some ys =>
        rw [e1, e2] at e
        cases e
        exact ⟨v, w, rfl, frzW_ok hw hf x y v e1 h, frzWs_ok hw hf xs ys w e2 q⟩
end
def KnowC (G : Gh) (cs : List Ci) : Prop := ∀ c ci, cs[c]? = some ci → G.fl c = ci.fl
theorem frzWs_len {f : Nat → Option T} : ∀ {ts us : List T}, frzWs f ts = some us → us.length = ts.length
  | [], us, e => by rw [frzWs] at e; cases e; rfl
  | x :: xs, us, e => by
    rw [frzWs] at e
    cases e1 : frzW f x with
    | none => rw [e1] at e; cases e
    | some y =>
      cases e2 : frzWs f xs with
      | none => rw [e1, e2] at e; cases e
      | some ys => rw [e1, e2] at e; cases e; simp [frzWs_len e2]
theorem frzL_ok (kc : KnowC G cs) {rn : Nat → Option Nat} (s : RSto G m' H st) (hw : ∀ a, m2.w a → m'.w a) (hlt : ∀ l i a, rn l = some i → m'.as[l]? = some a → m2.as[i]? = some a) (hge : ∀ l a, rn l = none → m'.as[l]? = some a → ¬ m2.w a) :
    ∀ (k l : Nat) (t : T) (v : V), frzL cs st rn k l = some t → Rp G m' H (.loc l) v → Rp G m2 H t v
  | 0, l, t, v, e, ⟨a, ev, h⟩ => by
    unfold frzL at e
    obtain ⟨i, e1, rfl⟩ := Option.map_eq_some_iff.mp e
    exact ⟨a, ev, hlt l i a e1 h⟩
  | k + 1, l, t, v, e, ⟨a, ev, h⟩ => by
    unfold frzL at e
    cases er : rn l with
    | some i => rw [er] at e; cases e; exact ⟨a, ev, hlt l i a er h⟩
    | none =>
      rw [er] at e
      simp only at e
      cases e2 : st[l]? with
      | none => rw [e2] at e; cases e
      | some c =>
        rw [e2] at e
        cases c with
        | lst xs =>
          obtain ⟨ys, e3, rfl⟩ := Option.map_eq_some_iff.mp e
          obtain ⟨vs, h1, q⟩ := s.cell l a _ h e2
          exact ⟨a, vs, ev, ⟨hge l a er h, h1⟩, frzWs_ok hw (frzL_ok kc s hw hlt hge k) xs ys vs e3 q⟩
        | ins c vs =>
          have e : (if whole cs c vs.length = true then (frzWs (frzL cs st rn k) vs).map (T.obj c) else none) = some t := e
          by_cases hwh : whole cs c vs.length = true
          · rw [if_pos hwh] at e
            obtain ⟨ys, e3, rfl⟩ := Option.map_eq_some_iff.mp e
            obtain ⟨dx, fv, h1, h2, _, q⟩ := s.cell l a _ h e2
            refine ⟨a, dx, fv, ev, hge l a er h, h1, ?_, frzWs_ok hw (frzL_ok kc s hw hlt hge k) vs ys _ e3 q⟩
            unfold whole at hwh
            cases e4 : cs[c]? with
            | none => rw [e4] at hwh; cases hwh
            | some ci =>
              rw [e4] at hwh
              have : ci.fl.length = vs.length := by simpa using hwh
              rw [h2, kc c ci e4, ← this, List.take_length]
          · rw [if_neg hwh] at e; cases e
        | dt kvs => cases e
        | dk kvs => cases e
theorem frzK_ok {κ : Type} (hw : ∀ a, m2.w a → m'.w a) (hf : ∀ l t v, f l = some t → Rp G m' H (.loc l) v → Rp G m2 H t v) : ∀ (kvs : List (κ × T)) (us : List T) (vs : List (κ × V)), frzWs f (kvs.map (·.2)) = some us → RKs G m' H kvs vs → RKs G m2 H ((kvs.map (·.1)).zip us) vs
  | [], us, vs, e, r => by rw [List.map_nil, frzWs] at e; cases e; exact r
  | p :: kvs, us, vs, e, r => by
    obtain ⟨v, w, rfl, h, q⟩ := r
    rw [List.map_cons, frzWs] at e
    cases e1 : frzW f p.2 with
    | none => rw [e1] at e; cases e
    | some y =>
      cases e2 : frzWs f (kvs.map (·.2)) with
      | none => rw [e1, e2] at e; cases e
      | some ys =>
        rw [e1, e2] at e
        cases e
        exact ⟨v, w, rfl, frzW_ok hw hf p.2 y v e1 h, frzK_ok hw hf kvs ys w e2 q⟩
theorem frzC_ok (hw : ∀ a, m2.w a → m'.w a) (hf : ∀ l t v, f l = some t → Rp G m' H (.loc l) v → Rp G m2 H t v) {c d : Cell} {a : Addr} (e : frzC f c = some d) (r : RCell G m' H a c) : RCell G m2 H a d := by
  cases c with
  | lst xs =>
    obtain ⟨ys, e1, rfl⟩ := Option.map_eq_some_iff.mp (show (frzWs f xs).map Cell.lst = some d from e)
    obtain ⟨vs, h, q⟩ := r
    exact ⟨vs, h, frzWs_ok hw hf xs ys vs e1 q⟩
  | ins c xs =>
    obtain ⟨ys, e1, rfl⟩ := Option.map_eq_some_iff.mp (show (frzWs f xs).map (Cell.ins c) = some d from e)
    obtain ⟨dx, fv, h, h1, h2, q⟩ := r
    have hl := frzWs_len e1
    exact ⟨dx, fv, h, by rw [hl]; exact h1, by rw [hl]; exact h2, frzWs_ok hw hf xs ys _ e1 q⟩
  | dt kvs =>
    obtain ⟨us, e1, rfl⟩ := Option.map_eq_some_iff.mp (show (frzWs f (kvs.map (·.2))).map (fun us => Cell.dt ((kvs.map (·.1)).zip us)) = some d from e)
    obtain ⟨vs, h, q⟩ := r
    exact ⟨vs, h, frzK_ok hw hf kvs us vs e1 q⟩
  | dk kvs =>
    obtain ⟨us, e1, rfl⟩ := Option.map_eq_some_iff.mp (show (frzWs f (kvs.map (·.2))).map (fun us => Cell.dk ((kvs.map (·.1)).zip us)) = some d from e)
    obtain ⟨vs, h, q⟩ := r
    exact ⟨vs, h, frzK_ok hw hf kvs us vs e1 q⟩
theorem frzCs_get {f : Nat → Option T} : ∀ {cs ds : List Cell}, frzCs f cs = some ds → ds.length = cs.length ∧ ∀ (i : Nat) c, cs[i]? = some c → ∃ d, ds[i]? = some d ∧ frzC f c = some d
  | [], ds, e => by cases e; exact ⟨rfl, fun i c h => by simp at h⟩
  | c :: cs, ds, e => by
    have e : (match frzC f c, frzCs f cs with
      | some d, some ds => some (d :: ds)
      | _, _ => none) = some ds := e
    cases e1 : frzC f c with
    | none => rw [e1] at e; cases e
    | some d =>
      cases e2 : frzCs f cs with
      | none => rw [e1, e2] at e; cases e
      | some r =>
        rw [e1, e2] at e
        cases e
        obtain ⟨h1, h2⟩ := frzCs_get e2
        refine ⟨by simp [h1], fun i c' h => ?_⟩
        cases i with
        | zero => simp at h; subst h; exact ⟨d, rfl, e1⟩
        | succ i => obtain ⟨d', h3, h4⟩ := h2 i c' (by simpa using h); exact ⟨d', by simpa using h3, h4⟩
theorem more_len {A B : Type} {xs : List A} {ys : List B} (h : xs.length = ys.length) : ∀ kp : Option Nat, (more xs kp).length = (more ys kp).length
  | none => rfl
  | some l => by
    show (xs[l]?.toList).length = (ys[l]?.toList).length
    by_cases hl : l < xs.length
    · rw [List.getElem?_eq_getElem hl, List.getElem?_eq_getElem (by omega)]; rfl
    · rw [List.getElem?_eq_none (by omega), List.getElem?_eq_none (by omega)]; rfl
structure FinOk (G : Gh) (m : Mm) (H : Hp) (m' : Mm) (H' : Hp) (m2 : Mm) (st' : Sto) (f : Nat → Option T) : Prop where
  hw : ∀ a, m2.w a → m'.w a
  hf : ∀ l t v, f l = some t → Rp G m' H' (.loc l) v → Rp G m2 H' t v
  sto : RSto G m2 H' st'
  stp : Stp m H m2 H'
theorem fin_ok (kc : KnowC G cs) {n : Nat} {st' : Sto} (kp : Option Nat) (hkp : ∀ l, kp = some l → n ≤ l) (x : Stp m H m' H') (hn : m.as.length = n) (s : RSto G m' H' st)
    (e : frzCs (frz cs st (ren n kp)) (st.take n ++ more st kp) = some st') : FinOk G m H m' H' ⟨m.as ++ more m'.as kp, m.fo⟩ st' (frz cs st (ren n kp)) := by
  obtain ⟨nw, hpre⟩ := x.pre
  have sub : ∀ a, a ∈ m.as ++ more m'.as kp → a ∈ m'.as := fun a h => by
    rcases List.mem_append.mp h with h | h
    · rw [hpre]; exact List.mem_append_left _ h
    · cases kp with
      | none => cases h
      | some l =>
        cases e1 : m'.as[l]? with
        | none => simp [more, e1] at h
        | some b => simp [more, e1] at h; rw [h]; exact List.mem_of_getElem? e1
  have hw : ∀ a, (⟨m.as ++ more m'.as kp, m.fo⟩ : Mm).w a → m'.w a := fun a h => by
    rcases h with h | h
    · exact .inl (sub a h)
    · exact .inr (by rw [x.fo]; exact h)
  have inj : ∀ {i l a}, m'.as[i]? = some a → m'.as[l]? = some a → i = l := fun {i l a} h1 h2 => (List.getElem?_inj (List.getElem?_eq_some_iff.mp h1).1 s.nd).mp (h1.trans h2.symm)
  have old : ∀ i a, m.as[i]? = some a → m'.as[i]? = some a := fun i a h => by rw [hpre, List.getElem?_append_left (List.getElem?_eq_some_iff.mp h).1]; exact h
  have hlt : ∀ l i a, ren n kp l = some i → m'.as[l]? = some a → (m.as ++ more m'.as kp)[i]? = some a := fun l i a hr h => by
    unfold ren at hr
    by_cases h1 : l < n
    · rw [if_pos h1] at hr; cases hr
      rw [hpre, List.getElem?_append_left (by rw [hn]; exact h1)] at h
      rw [List.getElem?_append_left (by rw [hn]; exact h1)]
      exact h
    · rw [if_neg h1] at hr
      by_cases h2 : kp = some l
      · rw [if_pos h2] at hr; cases hr
        rw [List.getElem?_append_right (by rw [hn]; exact Nat.le_refl _), hn, h2]
        simp [more, h]
      · rw [if_neg h2] at hr; cases hr
  have hge : ∀ l a, ren n kp l = none → m'.as[l]? = some a → ¬ (⟨m.as ++ more m'.as kp, m.fo⟩ : Mm).w a := fun l a hr h z => by
    unfold ren at hr
    by_cases h1 : l < n
    · rw [if_pos h1] at hr; cases hr
    · rw [if_neg h1] at hr
      by_cases h2 : kp = some l
      · rw [if_pos h2] at hr; cases hr
      · rcases z with z | z
        · rcases List.mem_append.mp z with z | z
          · obtain ⟨i, hi, hia⟩ := List.mem_iff_getElem.mp z
            have := inj (old i a (by rw [List.getElem?_eq_getElem hi, hia])) h
            omega
          · cases kp with
            | none => cases z
            | some j =>
              cases e1 : m'.as[j]? with
              | none => simp [more, e1] at z
              | some b =>
                simp [more, e1] at z
                subst z
                exact h2 (by rw [inj e1 h])
        · exact s.fd a (List.mem_of_getElem? h) (by rw [x.fo]; exact z)
  have hf := frzL_ok kc s hw hlt hge 3
  obtain ⟨hl, hg⟩ := frzCs_get e
  have hle : n ≤ st.length := by rw [← s.len, hpre, List.length_append, hn]; omega
  refine ⟨hw, hf, ⟨?_, fun a h z => s.fd a (sub a h) (by rw [x.fo]; exact z), ?_, fun i a c h1 h2 => ?_, fun a h => s.foS a (by rw [x.fo]; exact h), s.tab⟩, ⟨⟨x.keep, x.stay, fun a h => ?_, fun a h => .inl (.inr h), ⟨_, rfl⟩⟩, rfl⟩⟩
  · have nd := s.nd
    rw [List.nodup_append]
    refine ⟨?_, ?_, fun a ha b hb z => ?_⟩
    · rw [hpre, List.nodup_append] at nd; exact nd.1
    · cases kp with
      | none => simp [more]
      | some l => cases e1 : m'.as[l]? <;> simp [more, e1]
    · cases kp with
      | none => cases hb
      | some l =>
        cases e1 : m'.as[l]? with
        | none => simp [more, e1] at hb
        | some b' =>
          simp [more, e1] at hb
          subst hb z
          obtain ⟨i, hi, hia⟩ := List.mem_iff_getElem.mp ha
          have := inj (old i a (by rw [List.getElem?_eq_getElem hi, hia])) e1
          have := hkp l rfl
          omega
  · rw [hl, List.length_append, List.length_append, hn, List.length_take, more_len s.len kp]; omega
  · have key : ∃ j : Nat, (st.take n ++ more st kp)[i]? = st[j]? ∧ m'.as[j]? = some a := by
      by_cases hi : i < n
      · refine ⟨i, ?_, ?_⟩
        · rw [List.getElem?_append_left (by rw [List.length_take]; omega)]
          exact List.getElem?_take_of_lt hi
        · rw [List.getElem?_append_left (by rw [hn]; exact hi)] at h1
          exact old i a h1
      · rw [List.getElem?_append_right (by rw [hn]; omega), hn] at h1
        cases kp with
        | none => simp [more] at h1
        | some l =>
          cases e1 : m'.as[l]? with
          | none => simp [more, e1] at h1
          | some b =>
            have h3 : i - n = 0 := by
              rcases Nat.eq_zero_or_pos (i - n) with z | z
              · exact z
              · rw [List.getElem?_eq_none (by simp [more, e1]; omega)] at h1; cases h1
            rw [h3] at h1
            have : b = a := by simpa [more, e1] using h1
            subst this
            refine ⟨l, ?_, e1⟩
            rw [List.getElem?_append_right (by rw [List.length_take]; omega), List.length_take, Nat.min_eq_left hle, h3]
            have hlt2 : l < st.length := by rw [← s.len]; exact (List.getElem?_eq_some_iff.mp e1).1
            simp [more, List.getElem?_eq_getElem hlt2]
    obtain ⟨j, h3, h4⟩ := key
    have hj : j < st.length := by rw [← s.len]; exact (List.getElem?_eq_some_iff.mp h4).1
    obtain ⟨d, h5, h6⟩ := hg i st[j] (by rw [h3]; exact List.getElem?_eq_getElem hj)
    rw [h2] at h5
    cases h5
    exact frzC_ok hw hf h6 (s.cell j a _ h4 (List.getElem?_eq_getElem hj))
  · rcases x.newA a (sub a h) with z | z
    · exact .inl z
    · exact .inr z
theorem finR_ok {Q : VK} {W : WX} {md : Bool} {n : Nat} {t : T} {v : V} (kc : KnowC G cs) (x : Stp m H m' H') (hn : m.as.length = n) (s : RSto G m' H' st) (r : Rp G m' H' t v) (q : Rn G W [] [] (Rp G) m H (finR cs md n t st) (Kq Q)) : Q v H' := by
  unfold finR at q
  cases e1 : frzCs (frz cs st (ren n (kept md n t))) (st.take n ++ more st (kept md n t)) with
  | none => rw [e1] at q; exact q.elim
  | some st' =>
    cases e2 : frzW (frz cs st (ren n (kept md n t))) t with
    | none => rw [e1, e2] at q; exact q.elim
    | some t' =>
      rw [e1, e2] at q
      have F := fin_ok kc (kept md n t) (fun l h => by
        unfold kept at h
        split at h
        · split at h
          · rename_i z; cases h; exact z.2
          · cases h
        · cases h) x hn s e1
      exact q v H' _ ⟨⟨rfl, fun i t e => by simp at e⟩, F.sto⟩ F.stp (frzW_ok F.hw F.hf t t' v e2 r)
theorem fin_exc {n : Nat} {c : Nat} {ts us : List T} {st' : Sto} {cls : Value} {d : Option Addr} (kc : KnowC G cs) (x : Stp m H m' H') (hn : m.as.length = n) (s : RSto G m' H' st) (e1 : frzCs (frz cs st (ren n none)) (st.take n ++ more st none) = some st')
    (e2 : frzWs (frz cs st (ren n none)) ts = some us) (r : RExc G m' H' (.exc c ts) cls d) : ∃ m2, RSto G m2 H' st' ∧ Stp m H m2 H' ∧ RExc G m2 H' (.exc c us) cls d := by
  have F := fin_ok kc none (fun l h => by cases h) x hn s e1
  refine ⟨_, F.sto, F.stp, ?_⟩
  match ts, e2, r with
  | [], e2, r => rw [frzWs] at e2; cases e2; exact r
  | [t], e2, r =>
    rw [frzWs] at e2
    cases e3 : frzW (frz cs st (ren n none)) t with
    | none => rw [e3] at e2; cases e2
    | some y =>
      rw [e3] at e2
      simp only [frzWs] at e2
      cases e2
      obtain ⟨h1, a, v, f, h2, h3, h4, h5, h6⟩ := r
      exact ⟨h1, a, v, f, h2, fun z => h3 (F.hw a z), h4, h5, frzW_ok F.hw F.hf t y v e3 h6⟩
  | _ :: _ :: _, _, r => exact r.elim
end
end Eg
set_option Elab.async false
set_option linter.all false
set_option maxRecDepth 100000
set_option maxHeartbeats 2000000
namespace Eg
open PySem PySem.Spec PyProof.Rows L2
def env0 (n : Nat) (ts : List T) : Env := ts.map some ++ List.replicate (n - ts.length) none
def den (cs : List Ci) (md : Bool) (k n : Nat) (f : Fs) : List T → Sto → R T := fun ts st => if ts.length = k then finO cs md st.length (f (env0 n ts) st) else .bad
section
variable {G : Gh} {m : Mm} {H : Hp} {cs : List Ci}
theorem env0_ok {N : List Str} {ts : List T} {vs : List V} (r : Rps G m H ts vs) : REnv G m H (env0 N.length ts) (L2.start N vs) := by
  have hl := r.length
  refine ⟨by unfold env0 L2.start; simp [hl], fun i t e => ?_⟩
  unfold env0 at e
  by_cases hi : i < ts.length
  · rw [List.getElem?_append_left (by simpa using hi), List.getElem?_map, List.getElem?_eq_getElem hi] at e
    have e2 : ts[i] = t := by simpa using e
    obtain ⟨v, hv, rv⟩ := r.get (List.getElem?_eq_getElem hi)
    rw [e2] at rv
    refine ⟨v, ?_, rv⟩
    unfold L2.start
    rw [List.getElem?_append_left (by rw [List.length_map, ← hl]; exact hi), List.getElem?_map, hv]
    rfl
  · rw [List.getElem?_append_right (by rw [List.length_map]; omega), List.getElem?_replicate] at e
    split at e <;> cases e
theorem den_imp {fb : Fs} {md : Bool} {k : Nat} {N : List Str} {vs : List V} {Q : VK} {E : XK} (kc : KnowC G cs) (h : Spec G (den cs md k N.length fb) vs H Q E) :
    vs.length = k ∧ tS G (fun cls d _ H => E cls d H) fb { nx := fun _ H' => Q .non H', rt := Q } (L2.start N vs) H := by
  obtain ⟨m, st, ts, rs, r, q⟩ := h
  unfold den at q
  by_cases hl : ts.length = k
  · rw [if_pos hl] at q
    refine ⟨r.length.symm.trans hl, m, env0 N.length ts, st, ⟨env0_ok r, rs.sto⟩, ?_⟩
    have hn : m.as.length = st.length := rs.sto.len
    generalize fb (env0 N.length ts) st = o at q ⊢
    cases o with
    | nx env' st' => exact fun σ' H' m' rs' S => finR_ok (t := .non) (v := .non) kc S hn rs'.sto rfl q
    | rt t st' => exact fun v H' m' s' S rv => finR_ok kc S hn s' rv q
    | bk env' st' => exact q.elim
    | ct env' st' => exact q.elim
    | bad => exact q.elim
    | exc e env' st' =>
      intro cls d σ' H' m' rs' S re
      cases e with
      | exc c us =>
        have q : Rn G (fun cls d _ H => E cls d H) [] [] (Rp G) m H (match frzCs (frz cs st' (ren st.length none)) (st'.take st.length ++ more st' none), frzWs (frz cs st' (ren st.length none)) us with
          | some st', some us => .exc (.exc c us) st'
          | _, _ => .bad) (Kq Q) := q
        cases e1 : frzCs (frz cs st' (ren st.length none)) (st'.take st.length ++ more st' none) with
        | none => rw [e1] at q; exact q.elim
        | some st2 =>
          cases e2 : frzWs (frz cs st' (ren st.length none)) us with
          | none => rw [e1, e2] at q; exact q.elim
          | some us2 =>
            rw [e1, e2] at q
            obtain ⟨m2, s2, S2, r2⟩ := fin_exc kc S hn rs'.sto e1 e2 re
            exact q cls d H' m2 ⟨⟨rfl, fun i t e => by simp at e⟩, s2⟩ S2 r2
      | _ => exact re.elim
  · rw [if_neg hl] at q; exact q.elim
end
section
variable {P : Program} {w : World} {K : PySem.W.Frag} {mg : Str → Option Value} {base : Heap} {lv : Nat} {G : Gh} {cs : List Ci}
theorem fnG_of {fp : Addr} {nm qual : Str} {prm : Arguments} {body : List Stmt} {sc : Scope} {dV kV doc pm cdv ct oc : Value} {an od : Option Addr} {osl : Array (Option Value)} {N ps : List Str} {fb : Fs} {md : Bool} (kc : KnowC G cs)
    (look : K.lookup fp = some ⟨oc, od, .func (PySem.W.fnOf nm qual prm body sc dV kV doc pm an cdv ct), osl⟩) (code : PySem.W.codeIn K cdv qual = true) (S : FnScope N ps sc)
    (walk : ∀ (A : Around) (outer : List PySem.Env) (s : Shared) (H : Hp) (E : XK), Room lv (A.deeper (envOfC qual sc s.heap.objs.size fp cdv)) → A.guards = some [] →
      PSs (cxOf (L2.CX P w) P w K mg base N qual sc fp cdv A outer s H E) body (tS G (fun cls d _ H => E cls d H) fb)) :
    FnG P w K mg base (lv + 1) fp (PySem.W.fnOf nm qual prm body sc dV kV doc pm an cdv ct) ps (Spec G (den cs md ps.length N.length fb)) := by
  refine ⟨fun A outer s H args us vs Q E room grd e0 bnd rv lenv spec => ?_⟩
  obtain ⟨_, wish⟩ := den_imp (N := N) kc spec
  have inH : K.In s.heap := e0.mod.kin.keeps fun b o z => (e0.bs b o z).1
  have unl : s.heap.NoLimit := e0.mod.nolimit.keeps fun b o z => (e0.bs b o z).1
  have kinds : ∀ y ∈ ps.zip us, sc.names.lookup y.1 = some .local ∨ (sc.names.lookup y.1 = some .cell ∧ ((cellsFrom (s.heap.objs.size + 1) sc.names []).lookup y.1).isSome = true) := fun y hy => by
    rcases S.par y.1 (List.of_mem_zip (a := y.1) (b := y.2) hy).1 with z | z
    · exact .inl z
    · exact .inr ⟨z, PySem.W.cellsFrom_some sc.names _ _ (.inl z)⟩
  refine codeAny_call_function room.depth (inH fp _ look) rfl S.co S.gen rfl (PySem.W.codeRec_of inH code) (bnd _ _ _ _ ?_)
  refine wpAny_newFunctionEnv_cells S.kind kinds fun env same s1 inC => ?_
  subst same
  refine ⟨unl.keeps inC.toInCall.keep, codeAny_func ?_⟩
  have J : Inv (cxOf (L2.CX P w) P w K mg base N qual sc fp cdv A outer s H E) [] (L2.start N vs) H s1 := inv_start S room.hd e0 lenv rv inC
  refine wpAny_mono ((walk A outer s H E (room.deeper _) grd).run [] s1 (L2.start N vs) H _ J wish) (fun fl s2 z => ?_) fun _ _ z => z
  have out : ∀ {σ2 : L2.St} {H2 : Hp} {v : V} {u : Value}, Inv (cxOf (L2.CX P w) P w K mg base N qual sc fp cdv A outer s H E) [] σ2 H2 s2 → RelV v u → Q v H2 → CE outer P w H s Q u s2 :=
    fun {σ2 H2 v u} J2 r2 q2 => ⟨v, H2, J2.os, J2.bare, J2.base, J2.hok, r2, q2⟩
  match fl, z with
  | .ret u, ⟨v, _, _, J2, r2, q2⟩ => exact out J2 r2 q2
  | .next, ⟨_, _, J2, q2⟩ => exact out (v := V.non) (u := Value.none) J2 rfl q2
  | .brk, ⟨_, _, _, q2⟩ => exact q2.elim
  | .cont, ⟨_, _, _, q2⟩ => exact q2.elim
def mkF (cs : List Ci) (c : Nat) (F : List T → Sto → R T) : List T → Sto → R T := fun ts st => (F (.loc st.length :: ts) (st ++ [.ins c []])).bnd fun r st1 => match r with
  | .non => finR cs false st.length (.loc st.length) st1
  | _ => .bad
def mkL (cs : List Ci) (c : Nat) (F : List T → Sto → R T) : List T → Sto → R T := fun ts st => (F (.loc st.length :: ts) (st ++ [.ins c []])).bnd fun r st1 => match r with
  | .non => .ok (.loc st.length) st1
  | _ => .bad
theorem made_sto {m : Mm} {H : Hp} {st : Sto} {x dx : Addr} {c : Nat} (s : RSto G m H st) (hx : H x = none) (hd : H dx = none) (hne : dx ≠ x) :
    RSto G ⟨m.as ++ [x], m.fo⟩ (L2.upd (L2.upd H dx (.own x)) x (.ins (G.cl c) dx [])) (st ++ [.ins c []]) ∧ Stp m H ⟨m.as ++ [x], m.fo⟩ (L2.upd (L2.upd H dx (.own x)) x (.ins (G.cl c) dx [])) := by
  have hxa : x ∉ m.as := fun z => s.mem z hx
  have keep : ∀ a o, H a = some o → (L2.upd (L2.upd H dx (.own x)) x (.ins (G.cl c) dx [])) a = some o := fun a o h => by
    rw [upd_ne (ne_of_none h hx), upd_ne (ne_of_none h hd)]; exact h
  have St : Stp m H ⟨m.as ++ [x], m.fo⟩ (L2.upd (L2.upd H dx (.own x)) x (.ins (G.cl c) dx [])) := ⟨⟨fun a o h _ _ => keep a o h, fun _ _ h => upd_some (upd_some h), fun b h => by
    rcases List.mem_append.mp h with h | h
    · exact .inl h
    · rw [List.mem_singleton.mp h]; exact .inr hx, fun _ h => .inl (.inr h), ⟨[x], rfl⟩⟩, rfl⟩
  refine ⟨⟨?_, fun a h => ?_, by simp [s.len], fun i b cc h1 h2 => ?_, fun b h => ?_, ((s.fresh (o := .own x) hd).fresh (o := .ins (G.cl c) dx []) (by rw [upd_ne (Ne.symm hne)]; exact hx)).tab⟩, St⟩
  · rw [List.nodup_append]
    exact ⟨s.nd, by simp, fun a ha b hb => by rw [List.mem_singleton.mp hb]; exact fun z => hxa (z ▸ ha)⟩
  · rcases List.mem_append.mp h with h | h
    · exact s.fd a h
    · rw [List.mem_singleton.mp h]; exact fun z => s.foS x z hx
  · by_cases hi : i < st.length
    · rw [List.getElem?_append_left (by rw [s.len]; exact hi)] at h1
      rw [List.getElem?_append_left hi] at h2
      have hb : H b ≠ none := s.mem (List.mem_of_getElem? h1)
      refine RCell.mov St.toMov ?_ (s.cell i b cc h1 h2)
      rw [upd_ne (fun z => hb (by rw [z]; exact hx)), upd_ne (fun z => hb (by rw [z]; exact hd))]
    · have hi2 : i = st.length := by
        have := (List.getElem?_eq_some_iff.mp h2).1
        simp at this
        omega
      subst hi2
      rw [List.getElem?_append_right (Nat.le_refl _)] at h2
      rw [List.getElem?_append_right (by rw [s.len]; exact Nat.le_refl _)] at h1
      have e1 : x = b := by simpa [s.len] using h1
      have e2 : Cell.ins c [] = cc := by simpa using h2
      subst e1 e2
      exact ⟨dx, [], upd_same, by simp, Nat.zero_le _, rfl⟩
  · have hb := s.foS b h
    rw [upd_ne (fun z => hb (by rw [z]; exact hx)), upd_ne (fun z => hb (by rw [z]; exact hd))]
    exact hb
theorem cal_make {c : Nat} {f : Addr} {kn : List Str} {F : List T → Sto → R T} {md : Bool} (M : Mk K (G.cl c) f) (kc : KnowC G cs) (cal : Cal P w K mg base lv G kn F f) :
    Cal P w K mg base (lv + 1) G kn (if md = true then mkL cs c F else mkF cs c F) (G.cl c) := fun A outer s H us ws vs zs Q E hr hg e0 rv rz lz q => by
  have inH : K.In s.heap := e0.mod.kin.keeps fun b o z => (e0.bs b o z).1
  have hx : H (s.heap.objs.size + 1) = none := e0.hok.fresh (Nat.le_succ _)
  have hd : H s.heap.objs.size = none := e0.hok.fresh (Nat.le_refl _)
  have hne : s.heap.objs.size ≠ s.heap.objs.size + 1 := Nat.ne_of_lt (Nat.lt_succ_self _)
  obtain ⟨m, st, ts, rs, r, q⟩ := q
  obtain ⟨s2, S2⟩ := made_sto (c := c) rs.sto hx hd hne
  have e1 : (s.heap.push PySem.W.emptyDict).get? s.heap.objs.size = some PySem.W.emptyDict := Heap.get?_push_size s.heap rfl
  have e2 : ((s.heap.push PySem.W.emptyDict).push (PySem.W.instObj (G.cl c) s.heap.objs.size)).get? (s.heap.objs.size + 1) = some (PySem.W.instObj (G.cl c) s.heap.objs.size) := by
    have := Heap.get?_push_size (s.heap.push PySem.W.emptyDict) (o := PySem.W.instObj (G.cl c) s.heap.objs.size) rfl
    rwa [Heap.size_push] at this
  have e3 : (s.heap.push PySem.W.emptyDict).Ns s.heap.objs.size (fun _ => none) := ⟨PySem.W.emptyDict, #[], _, e1, rfl, (fun e he => absurd he (by simp)), fun _ => rfl⟩
  have hp1 : ∀ b o, s.heap.get? b = some o → (s.heap.push PySem.W.emptyDict).get? b = some o := fun b o z => Heap.get?_push_of_some _ z
  have hp2 : ∀ b o, s.heap.get? b = some o → ((s.heap.push PySem.W.emptyDict).push (PySem.W.instObj (G.cl c) s.heap.objs.size)).get? b = some o := fun b o z => Heap.get?_push_of_some _ (hp1 b o z)
  have ok1 : HOk P w (L2.upd H s.heap.objs.size (.own (s.heap.objs.size + 1))) (s.heap.push PySem.W.emptyDict) := e0.hok.laid hp1 (Nat.le_refl _) ⟨_, e1⟩
  have ok2 : HOk P w (L2.upd (L2.upd H s.heap.objs.size (.own (s.heap.objs.size + 1))) (s.heap.objs.size + 1) (.ins (G.cl c) s.heap.objs.size [])) ((s.heap.push PySem.W.emptyDict).push (PySem.W.instObj (G.cl c) s.heap.objs.size)) := by
    refine ok1.laid (fun b o z => Heap.get?_push_of_some _ z) (Nat.le_of_eq (Heap.size_push _ _)) ?_
    refine ⟨by rw [upd_ne hne, upd_same], Nat.zero_le _, hne, e2, fun _ => none, (Heap.Ns1.of_empty e3).at fun o z => Heap.get?_push_of_some _ z, fun _ => True.intro, fun y hy => absurd rfl hy⟩
  have fr : ∀ b, H b ≠ none ∨ (∃ o, s.heap.get? b = some o) → (L2.upd (L2.upd H s.heap.objs.size (.own (s.heap.objs.size + 1))) (s.heap.objs.size + 1) (.ins (G.cl c) s.heap.objs.size [])) b = H b := fun b hb => by
    have hlt : b < s.heap.objs.size := by
      rcases hb with hb | ⟨o, hb⟩
      · cases eb : H b with
        | none => exact absurd eb hb
        | some o => exact e0.hok.lt eb
      · exact Heap.lt_size hb
    rw [upd_ne (Nat.ne_of_lt (Nat.lt_succ_of_lt hlt)), upd_ne (Nat.ne_of_lt hlt)]
  have e0' : Env0 P w K mg base A outer { s with heap := (s.heap.push PySem.W.emptyDict).push (PySem.W.instObj (G.cl c) s.heap.objs.size) } (L2.upd (L2.upd H s.heap.objs.size (.own (s.heap.objs.size + 1))) (s.heap.objs.size + 1) (.ins (G.cl c) s.heap.objs.size [])) :=
    ⟨e0.frames, e0.mod, fun b o z => ⟨hp2 b o (e0.bs b o z).1, by rw [fr b (.inr ⟨o, (e0.bs b o z).1⟩)]; exact (e0.bs b o z).2⟩, Nat.le_trans e0.bsz (by show _ ≤ (Heap.push _ _).objs.size; rw [Heap.size_push, Heap.size_push]; omega),
      Heap.FunFrames.of_keeps (fun b o z _ => ⟨o, hp2 b o z, rfl⟩) e0.funs, fun b hb => by
        obtain ⟨_, o, ho, _⟩ := e0.funs.mem hb
        rw [fr b (.inr ⟨o, ho⟩)]; exact e0.frf b hb, ok2, e0.bare⟩
  have unOut : ∀ {H3 : Hp} {h3 : Heap}, Un (frs outer) [] (L2.upd (L2.upd H s.heap.objs.size (.own (s.heap.objs.size + 1))) (s.heap.objs.size + 1) (.ins (G.cl c) s.heap.objs.size [])) H3 ((s.heap.push PySem.W.emptyDict).push (PySem.W.instObj (G.cl c) s.heap.objs.size)) h3 → Un (frs outer) [] H H3 s.heap h3 := fun {H3 h3} u =>
    ⟨fun b o z n hb hx => u.keep b o (hp2 b o z) (by rw [fr b (.inr ⟨o, z⟩)]; exact n) hb hx, fun b o z n hb hx => u.slot b o (hp2 b o z) (by rw [fr b (.inr ⟨o, z⟩)]; exact n) hb hx, fun b o z n hx => u.free b o (hp2 b o z) (by rw [fr b (.inr ⟨o, z⟩)]; exact n) hx,
      fun b o z hx => u.there b o (hp2 b o z) hx, fun b xs z => u.tups b xs (by rw [fr b (.inl (by rw [z]; exact nofun))]; exact z), fun b o x2 z => u.frzs b o x2 (by rw [fr b (.inl (by rw [z]; exact nofun))]; exact z), fun b p2 z => u.tbls b p2 (by rw [fr b (.inl (by rw [z]; exact nofun))]; exact z)⟩
  refine make_map (f := f) inH M.makes M.init (beq_iff_eq.mp M.fn) (codeAny_mono (cal _ outer _ _ (Value.ref (s.heap.objs.size + 1) :: us) ws (V.ref (s.heap.objs.size + 1) :: vs) zs (fun v H3 => v = .non ∧ Q (.ref (s.heap.objs.size + 1)) H3) E (hr.make (G.cl c) us (kn.zip ws)) ?g (e0'.make (G.cl c) us (kn.zip ws)) (.cons rfl rv) rz lz ?sp) fun rr s3 hq => ?_)
  case g => first | exact hg | (simpa [Around.under, Code.guards, Code.isGuard, pushGuards] using hg)
  case sp =>
    refine ⟨_, st ++ [.ins c []], .loc st.length :: ts, ⟨⟨rfl, fun i t e => by simp at e⟩, s2⟩, ⟨_, _, rfl, ⟨_, rfl, by rw [← rs.sto.len]; simp⟩, Rps.mov S2.toMov _ _ r⟩, ?_⟩
    cases eF : F (.loc st.length :: ts) (st ++ [.ins c []]) with
    | bad =>
      cases md with
      | true => have q : Rn G (fun cls d _ H' => E cls d H') [] [] (Rp G) m H (mkL cs c F ts st) (Kq Q) := q; unfold mkL at q; rw [eF] at q; exact q.elim
      | false => have q : Rn G (fun cls d _ H' => E cls d H') [] [] (Rp G) m H (mkF cs c F ts st) (Kq Q) := q; unfold mkF at q; rw [eF] at q; exact q.elim
    | exc e st1 =>
      intro cls d H' m' rs' y re
      cases md with
      | true =>
        have q : Rn G (fun cls d _ H' => E cls d H') [] [] (Rp G) m H (mkL cs c F ts st) (Kq Q) := q
        unfold mkL at q; rw [eF] at q
        exact q cls d H' m' rs' (S2.trans y) re
      | false =>
        have q : Rn G (fun cls d _ H' => E cls d H') [] [] (Rp G) m H (mkF cs c F ts st) (Kq Q) := q
        unfold mkF at q; rw [eF] at q
        exact q cls d H' m' rs' (S2.trans y) re
    | ok t st1 =>
      intro b H' m' rs' y rb
      have hloc : Rp G m' H' (.loc st.length) (.ref (s.heap.objs.size + 1)) := ⟨_, rfl, pre_get y.toMov (by rw [← rs.sto.len]; simp)⟩
      cases md with
      | true =>
        have q : Rn G (fun cls d _ H' => E cls d H') [] [] (Rp G) m H (mkL cs c F ts st) (Kq Q) := q
        unfold mkL at q; rw [eF] at q
        cases t with
        | non => exact ⟨rb, q _ H' m' rs' (S2.trans y) hloc⟩
        | _ => exact q.elim
      | false =>
        have q : Rn G (fun cls d _ H' => E cls d H') [] [] (Rp G) m H (mkF cs c F ts st) (Kq Q) := q
        unfold mkF at q; rw [eF] at q
        cases t with
        | non => exact ⟨rb, finR_ok kc (S2.trans y) rs.sto.len rs'.sto hloc q⟩
        | _ => exact q.elim
  · match rr, hq with
    | .error e, hq =>
      obtain ⟨a, B, H3, cls, d, ea, fl, hok, ub, na, os, ag, z⟩ := hq
      refine ⟨a, B, H3, cls, d, ea, fl, hok, ⟨fun b o zz n hb => ub.keep b o (hp2 b o zz) (by rw [fr b (.inr ⟨o, zz⟩)]; exact n) hb, fun b o zz hb => ub.slot b o (hp2 b o zz) hb, fun b o zz n => ub.free b o (hp2 b o zz) (by rw [fr b (.inr ⟨o, zz⟩)]; exact n),
        fun b o zz hb => ub.there b o (hp2 b o zz) hb, fun b xs zz => ub.tups b xs (by rw [fr b (.inl (by rw [zz]; exact nofun))]; exact zz), fun b o x2 zz => ub.frzs b o x2 (by rw [fr b (.inl (by rw [zz]; exact nofun))]; exact zz), fun b p2 zz => ub.tbls b p2 (by rw [fr b (.inl (by rw [zz]; exact nofun))]; exact zz)⟩, na, os, ag, z⟩
    | .ok (.ret u), hq =>
      obtain ⟨v, H3, os, bare, un, hok, rv2, ev, q3⟩ := hq
      subst ev
      exact ⟨rv2, ⟨V.ref (s.heap.objs.size + 1), H3, os, bare, unOut un, hok, rfl, q3⟩⟩
    | .ok .next, hq => exact hq.elim
    | .ok .brk, hq => exact hq.elim
    | .ok .cont, hq => exact hq.elim
end
end Eg
set_option Elab.async false
set_option linter.all false
set_option maxRecDepth 100000
set_option maxHeartbeats 4000000
namespace Eg
open PySem PySem.Spec PyProof.Rows L2
inductive XB where
  | val | look | arith
def XB.nm : XB → String
  | .val => "ValueError"
  | .look => "LookupError"
  | .arith => "ArithmeticError"
def XB.newId : XB → String
  | .val => "ValueError.__new__"
  | .look => "LookupError.__new__"
  | .arith => "ArithmeticError.__new__"
def XB.initId : XB → String
  | .val => "ValueError.__init__"
  | .look => "LookupError.__init__"
  | .arith => "ArithmeticError.__init__"
def XB.tl : XB → List Value
  | .val => [.type "ValueError", .type "Exception", .type "BaseException", .type "object"]
  | .look => [.type "LookupError", .type "Exception", .type "BaseException", .type "object"]
  | .arith => [.type "ArithmeticError", .type "Exception", .type "BaseException", .type "object"]
theorem XB.base : ∀ b : XB, ExcBaseFacts b.nm b.newId b.initId b.tl
  | .val => PySem.F.excBase_ValueError
  | .look => PySem.F.excBase_LookupError
  | .arith => PySem.F.excBase_ArithmeticError
theorem XB.pass (self : Value) : ∀ b : XB, refuseLoop self "__setattr__" b.tl = pure ()
  | .val => PySem.F.store_ValueError.passes self
  | .look => PySem.F.store_LookupError.passes self
  | .arith => PySem.F.store_ArithmeticError.passes self
theorem XB.obj : ∀ b : XB, b.tl.contains (.type "object") = true
  | .val => by decide +kernel
  | .look => by decide +kernel
  | .arith => by decide +kernel
def refsX (b : XB) : List Value → Bool
  | .ref _ :: r => refsX b r
  | l => l == b.tl
theorem refsX_cases {b : XB} : ∀ l : List Value, refsX b l = true → (∃ c r, l = .ref c :: r ∧ refsX b r = true) ∨ l = b.tl
  | [], e => .inr (beq_iff_eq.mp e)
  | .ref c :: r, e => .inl ⟨c, r, rfl, e⟩
  | .none :: _, e => .inr (beq_iff_eq.mp e)
  | .ellipsis :: _, e => .inr (beq_iff_eq.mp e)
  | .notImplemented :: _, e => .inr (beq_iff_eq.mp e)
  | .bool _ :: _, e => .inr (beq_iff_eq.mp e)
  | .int _ _ :: _, e => .inr (beq_iff_eq.mp e)
  | .float _ _ :: _, e => .inr (beq_iff_eq.mp e)
  | .str _ _ :: _, e => .inr (beq_iff_eq.mp e)
  | .bytes _ _ :: _, e => .inr (beq_iff_eq.mp e)
  | .type _ :: _, e => .inr (beq_iff_eq.mp e)
  | .builtin _ :: _, e => .inr (beq_iff_eq.mp e)
theorem refsX_nil {b : XB} : refsX b [] = true → False := fun e => by
  have := beq_iff_eq.mp (show (([] : List Value) == b.tl) = true from e)
  cases b <;> cases this
theorem refsX_pass {b : XB} (self : Value) : ∀ l : List Value, refsX b l = true → refuseLoop self "__setattr__" l = pure () := by
  intro l
  induction l with
  | nil => intro e; exact (refsX_nil e).elim
  | cons a r ih =>
    intro e
    rcases refsX_cases (a :: r) e with ⟨c, r', q, h⟩ | q
    · obtain ⟨rfl, rfl⟩ := List.cons.inj q
      rw [PySem.refuseLoop_ref]; exact ih h
    · rw [q]; exact XB.pass self b
theorem refsX_contains {b : XB} (X : String) : ∀ l : List Value, refsX b l = true → l.contains (.type X) = b.tl.contains (.type X) := by
  intro l
  induction l with
  | nil => intro e; exact (refsX_nil e).elim
  | cons a r ih =>
    intro e
    rcases refsX_cases (a :: r) e with ⟨c, r', q, h⟩ | q
    · obtain ⟨rfl, rfl⟩ := List.cons.inj q
      rw [List.contains_cons, ih h]; rfl
    · rw [q]
theorem refsX_ne {b : XB} {l : List Value} (e : refsX b l = true) : l.isEmpty = false := by
  cases l with
  | nil => exact (refsX_nil e).elim
  | cons _ _ => rfl
end Eg
namespace Eg
open PySem PySem.W PySem.Calls PyProof.Rows PySem.HandSPX
section
open Builtin Builtin.ObjectAttr
variable {prog : Program} {w : World} {A : Around} {E : Value → Shared → Prop} {R : Result → Shared → Prop} {hp : Heap} {g : Array GenState} {d : Drawn} {t : Nat} {os : OsState}
theorem exc_osaX {K : W.Frag} {b : XB} {name : Str} {tk : Tok} {v : Value} {x C : Addr} {fv : Array Value} {cd : ClassData}
    (X : K.In hp) (hx : hp.get? x = some { cls := .ref C, data := .fields fv }) (hcd : W.clsIn K C = some cd) (hm : refsX b cd.mro = true) (hh : cd.hasDict = true) (ha : W.findIn K (.ref C) name = some none)
    (hq : ∀ h' tk' dx, (∀ b o, b ≠ x → hp.get? b = some o → h'.get? b = some o) → hp.objs.size ≤ dx → dx ≠ x → h'.get? x = some { cls := .ref C, dict := some dx, data := .fields fv } →
      h'.Ns1 dx (fun y => if y = name then some v else none) → R (.ok (.ret .none)) ⟨h', g, d, tk', os⟩) :
    codeAny (model prog w) A (.call (.builtin "object.__setattr__") ⟨[.ref x, .str name tk, v], []⟩) R ⟨hp, g, d, t, os⟩ := by
  have I : W.InstAt hp x { cls := .ref C, data := .fields fv } C none := ⟨hx, rfl, rfl, trivial⟩
  have SF := F.store_object
  have ne := refsX_ne hm
  have hob : cd.mro.contains (.type "object") = true := (refsX_contains "object" _ hm).trans (XB.obj b)
  have hxs : x ≠ hp.objs.size := Nat.ne_of_lt (Heap.lt_size hx)
  have sub : W.Looks (model prog w) hp (isInstance (.ref x) (.type "object")) true := I.type.andThen (W.looks_mroIn X (by unfold W.mroIn; rw [hcd, Option.bind_some, if_neg (by rw [ne]; decide), hob]))
  refine codeAny_call_builtin SF.slot.plain SF.entry (@W.check_slot (model prog w) _ _ ⟨hp, g, d, t, os⟩ "object.__setattr__" "object" "__setattr__" (.ref x) [.str name tk, v] [] _ SF.kind SF.split sub (SF.args (.ref x) (.str name tk) v) ?_)
  have hmr : W.Looks (model prog w) hp (mroOf (.ref C)) cd.mro := (W.looks_clsIn X hcd).andThen .now
  have L3 : W.Looks (model prog w) hp (storeTaker? none) none := .now
  have hcls : W.Looks (model prog w) hp (classData C) cd := W.looks_clsIn X hcd
  rw [W.osa_eq, refuse_eq]
  refine wpAny_bind (wpAny_bind (I.type.at (wpAny_bind (hmr.at ?_))))
  rw [refsX_pass _ _ hm]
  refine wpAny_pure (wpAny_bind (I.type.at (wpAny_bind ((W.looks_findIn X ha).at (wpAny_bind (L3.at ?_))))))
  show wpAny _ _ (storeInOwnDict (.ref x) (.ref C) (.str name tk) name v false) _ _ _
  obtain ⟨nm, bs, mro, ns, qn, hd, sn, sb, ab, col, del⟩ := cd
  dsimp only at hh
  subst hh
  unfold storeInOwnDict ownDictForStores
  repeat (first | with_reducible refine store_in_new ?_ ?_ | with_reducible refine wpAny_loadPart_at hx ?_ | with_reducible refine hcls.at ?_ | wp_step)
  · exact ⟨_, #[], _, (Heap.get?_update_ne _ _ _ _ hxs.symm).trans (Heap.get?_push_at rfl rfl), rfl, fun e he => absurd he (by simp), fun _ => rfl⟩
  · intro h' tk' hn' hs
    have hx₁ : (hp.push { cls := .type "dict", data := .dict #[] }).get? x = some { cls := .ref C, data := .fields fv } := Heap.get?_push_of_some _ hx
    refine hq h' tk' hp.objs.size (fun b o hb ho => ?_) (Nat.le_refl _) hxs.symm ?_ hn'
    · exact (hs.2 b (Nat.ne_of_lt (Heap.lt_size ho))).trans ((Heap.get?_update_ne _ _ _ _ hb).trans (Heap.get?_push_of_some _ ho))
    · exact (hs.2 x hxs).trans (Heap.get?_update_self _ hx₁ rfl)
end
end Eg
namespace Eg
open PySem PySem.Spec PyProof.Rows L2
structure OexX (K : PySem.W.Frag) (C : Addr) : Prop where
  cls : ∃ (b : XB) (nm q : Str) (N : Addr) (bs bm : List Value) (sn : List Str) (sub : List Value) (ab : Bool) (col : Option Bool) (dd : Option Addr) (k0 k1 k2 k3 k5 : Option Value), K.lookup C = some (excClassObj nm q C N bs bm true sn sub ab col dd k0 k1 k2 k3 k5 b.newId) ∧ refsX b bm = true
  sa : PySem.W.findIn K (.ref C) "__setattr__" = some (some (.builtin "object.__setattr__"))
  exC : PySem.W.subIn K (.ref C) (.type "BaseException") = some true
  tyC : PySem.W.typeIn K (.ref C) = some (.type "type")
  kC : PySem.W.keepIn K (.ref C) = true
section
variable {X : Cx} {pins : List (Addr × Obj)} {σ : L2.St} {H : Hp} {s : Shared} {a C dx : Addr} {f : Str} {y : V} {u : Value} {Q : Unit → Shared → Prop} {E : Value → Shared → Prop} {A : Around}
theorem ost_newX (T : OexX X.K C) (I : Inv X pins σ H s) (e : H a = some (exo a C none)) (hno : PySem.W.findIn X.K (.ref C) f = some none) (ry : RelV y u)
    (h : ∀ dx s', H dx = none → dx ≠ a → Inv X pins σ (upd (upd H dx (exd dx [(f, y)])) a (exo a C (some dx))) s' → Q () s') : wpAny (model X.prog X.w) A (setAttr (.ref a) f u) Q E s := by
  obtain ⟨b0, nm, q, N, bs, bm, sn, sub, ab, col, dd, k0, k1, k2, k3, k5, hC, hbm⟩ := T.cls
  have hcl : PySem.W.clsIn X.K C = some { name := nm, bases := bs, mro := .ref C :: bm, ns := N, qualname := q, hasDict := true, slotNames := sn, subclasses := sub, abstract := ab, collection := col, hasDel := false } := by unfold PySem.W.clsIn; rw [hC] <;> rfl
  obtain ⟨t1, ho⟩ := exo_at I.hok e
  obtain ⟨hp, g, d, t, os⟩ := s
  refine PySem.W.set_plain I.kIn (ox := { cls := .ref C, dict := none, data := .fields #[.ref t1, .none, .none, .none, .bool false, .none] }) (od := none) ⟨ho, rfl, rfl, trivial⟩ T.sa ?_
  refine exc_osaX I.kIn ho hcl (show refsX b0 (.ref C :: bm) = true from hbm) rfl hno (fun h' tk' dx k dn dne hx hn => ?_)
  have hnd : H dx = none := I.hok.fresh dn
  have nd : ∀ {b : Addr} {o : Obj}, hp.get? b = some o → b ≠ dx := fun {b o} q => Nat.ne_of_lt (Nat.lt_of_lt_of_le (Heap.lt_size q) dn)
  have na : ∀ {b : Addr}, H b = none → b ≠ a := fun {b} n z => by
    rw [z, e] at n
    cases n
  have Un1 : Un X.fs [] H (upd (upd H dx (exd dx [(f, y)])) a (exo a C (some dx))) hp h' := {
    keep := fun b o q n _ _ => k b o (na n) q
    slot := fun b o q n _ _ => ⟨o.slots, k b o (na n) q⟩
    free := fun b o q n _ => by rw [upd_ne (na n), upd_ne (nd q)]; exact n
    there := fun b o q _ => by
      by_cases hb : b = a
      · exact ⟨_, by rw [hb]; exact hx⟩
      · exact ⟨o, k b o hb q⟩
    tups := fun b xs q => by rw [upd_ne (at_ne e q exo_tup), upd_ne (ne_of_none q hnd)]; exact q
    frzs := fun b o v q => by rw [upd_ne (at_ne e q exo_frz), upd_ne (ne_of_none q hnd)]; exact q
    tbls := fun b ps q => ⟨#[], by rw [upd_ne (at_ne e q exo_tbl), upd_ne (ne_of_none q hnd), q]; simp⟩ }
  refine h dx _ hnd dne (I.un (t' := tk') Un1 fun b o q => ?_)
  by_cases hb : b = a
  · subst hb
    rw [upd_same] at q
    cases q
    exact exo_ok hx
  · rw [upd_ne hb] at q
    by_cases hd : b = dx
    · subst hd
      rw [upd_same] at q
      cases q
      exact exd_ok hn (relO_put (fs := []) ry fun g => True.intro)
    · rw [upd_ne hd] at q
      exact (I.hok b o q).stay (fun c v hc z => k c v (by
          rcases hc with hc | hc
          · rw [hc]
            exact hb
          · exact at_ne e hc exo_own) z)
        (fun c hc => by rw [upd_ne (at_ne e hc exo_own), upd_ne (ne_of_none hc hnd)]; exact hc) (fun c xs hc => by rw [upd_ne (at_ne e hc exo_tup), upd_ne (ne_of_none hc hnd)]; exact hc)
end
def tOstX (K : PySem.W.Frag) (f : Str) (to te : TE) : TS := fun D σ H => te σ H fun y H1 => to σ H1 fun x H2 => ∃ a C : Addr, x = .ref a ∧ OexX K C ∧ PySem.W.findIn K (.ref C) f = some none ∧
  H2 a = some (exo a C none) ∧ ∀ dx, H2 dx = none → dx ≠ a → D.nx σ (upd (upd H2 dx (exd dx [(f, y)])) a (exo a C (some dx)))
section
variable {X : Cx} {o e : Expr} {es : List Expr} {to te : TE} {ta : TA} {f : Str} {p p' p1 p2 pos : Pos}
theorem ps_ostX (ho : PE X o to) (he : PE X e te) (hs : swapsWith e (some (.Attribute o f p')) pos.line X.env = pure false := by rfl) : PS X (.Assign [.Attribute o f p'] e pos) (tOstX X.K f to te) := by
  refine ⟨fun pins s σ H D I h => ?_⟩
  refine plainObj_wpAny_Assign_Attribute (thn (he.run pins s σ H _ I h) fun v s1 ⟨y, H1, I1, r1, q1⟩ => thn (ho.run pins s1 σ H1 _ I1 q1) fun u s2 ⟨x, H2, I2, r2, a, C, ex, T, hno, ea, q⟩ => ?_) hs
  subst ex
  obtain rfl : u = Value.ref a := r2
  exact ost_newX T I2 ea hno r1 fun dx s' n ne J => ⟨σ, _, J, q dx n ne⟩
theorem pmk_oexX {CX : CXT} {x : Str} {C fI : Addr} {k : Nat} {fd : FuncData} {ps : List Str} {sp : Sp} {ds : List Value} {dvs : List V} (T : OexX X.K C) (iC : PySem.W.findIn X.K (.ref C) "__init__" = some (some (.ref fI))) (tI : PySem.W.typeIn X.K (.ref fI) = some (.type "function"))
    (F1 : FnOk X.prog X.w X.K X.mg X.base CX k fI fd ps sp) (hr : Room (k + 1) X.A) (hb : Binds X.K fd ps ds) (hd : Vals dvs ds) (hx : Passes CX X (fun _ _ _ => False)) (hg : Gl X x) (hm : X.mg x = some (.ref C)) (ha : PA X (e :: es) ta)
    (hdb : (x == ("__debug__" : Str)) = false := by decide) (he : starEach (e :: es) X.env = (false, eval e X.env) :: starEach es X.env := by rfl) (hpl : (backTo pos (starEach es X.env)).any (·.1) = false := by rfl) :
    PMk X (.Call (.Name x p) (e :: es) [] pos) (tMkO C sp dvs ta) := by
  intro pins s σ H Q I h
  obtain ⟨b0, nm, q, N, bs, bm, sn, sub, ab, col, dd, k0, k1, k2, k3, k5, hC, hbm⟩ := T.cls
  refine wpAny_Call_Name_kw (ld_glob I hg hm ?_ hdb)
  refine PySem.W.callWith_K (h₀ := X.base) I.ok.mod.kin T.kC (thn (ha.run pos pins s σ H _ I h) fun us s1 ⟨vs, H1, I1, r1, hz, q1⟩ => ⟨I1.kIn, ?_⟩) he hpl
  show wpAny _ _ (call (.ref C) us) _ _ _
  obtain ⟨hp, g, dr, tk, os⟩ := s1
  have hsz : hp.objs.size ≤ hp.objs.size + 1 := Nat.le_succ _
  have hn : H1 (hp.objs.size + 1) = none := I1.hok.fresh hsz
  have hq := q1 (hp.objs.size + 1) hn
  have kk : ∀ b o, hp.get? b = some o → ((hp.push (PySem.W.kdv_tup us)).push (PySem.HandSPX.excO C hp.objs.size)).get? b = some o := fun b o e => Heap.get?_push_of_some _ (Heap.get?_push_of_some _ e)
  have hget : ((hp.push (PySem.W.kdv_tup us)).push (PySem.HandSPX.excO C hp.objs.size)).get? (hp.objs.size + 1) = some (PySem.HandSPX.excO C hp.objs.size) := by heap_get
  have I2 : Inv X pins σ (upd H1 (hp.objs.size + 1) (exo (hp.objs.size + 1) C none)) ⟨(hp.push (PySem.W.kdv_tup us)).push (PySem.HandSPX.excO C hp.objs.size), g, dr, tk, os⟩ :=
    I1.laid (t' := tk) (a := hp.objs.size + 1) (o := exo (hp.objs.size + 1) C none) (h' := (hp.push (PySem.W.kdv_tup us)).push (PySem.HandSPX.excO C hp.objs.size)) kk hsz (exo_ok hget)
  have r2 : Vals (V.ref (hp.objs.size + 1) :: (vs ++ dvs)) (Value.ref (hp.objs.size + 1) :: (us ++ ds)) := .cons rfl (r1.append hd)
  have hl : (Value.ref (hp.objs.size + 1) :: us ++ ds).length = ps.length := by
    have e := r2.length
    rw [F1.len _ _ _ _ hq] at e
    exact e.symm
  have hus : us.length ≤ sizeLine := by
    rw [← Paired.length r1, sizeLine_eq]
    omega
  refine wpAny_call (PySem.HandSPX.call_own (XB.base b0) (fun Y => refsX_contains Y bm hbm) (I1.kIn _ _ hC) (PySem.W.looks_findIn I1.kIn iC) (fun self => PySem.W.bind_fn I1.kIn self tI) hus
    (codeAny_mono (F1.run _ X.stack _ _ ⟨Value.ref (hp.objs.size + 1) :: us, []⟩ (Value.ref (hp.objs.size + 1) :: (us ++ ds)) _ _ (fun _ _ _ => False) (hr.make C us []) (I2.env0.make C us []) (hb _ (Value.ref (hp.objs.size + 1) :: us) I2.kIn hl) r2 hq) fun r s' hq' => ?_))
  cases r with
  | error er => exact hx pins σ _ _ er s' I2 hq'
  | ok fl =>
    cases fl with
    | ret u =>
      obtain ⟨v, H2, os2, bare2, un2, hok2, rv, ev, d, fs, ea, ed, hd1, q2⟩ := hq'
      subst ev
      obtain ⟨h2, g2, d2, t2, os'⟩ := s'
      exact ⟨rv, mk_end (raises_own T.exC T.tyC) I1 hsz kk un2 hok2 os2 bare2 ea ed hd1 q2⟩
    | next => exact False.elim hq'
    | brk => exact False.elim hq'
    | cont => exact False.elim hq'
theorem pmk_own0 {C : Addr} {b : XB} {x : Str} (q : PySem.W.excIn X.K C b.tl b.newId = true) (gC : X.mg x = some (.ref C)) (kC : PySem.W.keepIn X.K (.ref C) = true) (r : Raises X (.ref C)) (hg : Gl X x)
    (hdb : (x == ("__debug__" : Str)) = false := by decide) : PMk X (.Call (.Name x p) [] [] pos) (fun _ H Q => Q (.ref C) none H) := by
  intro pins s σ H Q I h
  refine wpAny_Call_Name_kw (ld_glob I hg gC ?_ hdb)
  refine PySem.W.callWith_K0 I.kIn kC ?_
  show wpAny _ _ (call (.ref C) []) _ _ _
  obtain ⟨bm, N, nm, qn, bs, hdct, sn, sub, ab, col, dd, k0, k1, k2, k3, k5, mN, hC, hN, hni, T⟩ := exc_obj I.kIn q
  refine wpAny_call_exc_subT (XB.base b) T hC hN hni (fun h' e hm => ?_) (Nat.zero_le _)
  exact mk_of I hm r h (I.hok.gone hm.new)
end
end Eg
set_option Elab.async false
set_option linter.all false
set_option maxRecDepth 100000
set_option maxHeartbeats 2000000
namespace Eg
open PySem PySem.Spec PyProof.Rows L2
def XaIn (G : Gh) (X : Cx) : Prop := ∀ y, G.xa = some y → (y.a, y.oe) ∈ X.pn ∧ Zc y.cls y.d y.oe ∧ ∃ vs, y.oe.data = .fields vs
section
variable {X : Cx} {G : Gh} {W : WX} {lv : Nat} {fa fe : Env → Sto → R T} {fs : Env → Sto → R (List T)} {a e : Expr} {es : List Expr} {f x : Str} {pos pos' p : Pos}
theorem xa_inst {pins : List (Addr × Obj)} {σ : L2.St} {H : Hp} {s : Shared} {m : Mm} {c : Nat} {ts : List T} {v : V} (hx : XaIn G X) (I : Inv X pins σ H s) (r : Rp G m H (.exc c ts) v) :
    ∃ y od, G.xa = some y ∧ v = .ref y.a ∧ PySem.W.InstAt s.heap y.a y.oe (G.cl c) od := by
  obtain ⟨y, vs, e1, e2, e3, _, q⟩ := r
  obtain ⟨hm, hz, us, hd⟩ := hx y e1
  have hget := (I.pin (y.a, y.oe) (List.mem_append_left _ hm)).1
  have hnc : PySem.W.notCls y.oe = true := by unfold PySem.W.notCls; rw [hd] <;> rfl
  rcases q with ⟨_, hn⟩ | ⟨dx, f, w, _, hn, _, hH, _⟩
  · exact ⟨y, none, e1, e2, hget, by rw [hz.1, e3], hnc, by rw [hz.2, hn]; trivial⟩
  · have ok : ObjOk X.prog X.w H s.heap dx (.xd [(f, w)]) := I.hok dx _ hH
    obtain ⟨mA, hns, _⟩ := ok
    obtain ⟨od, ho, _⟩ := lookIn_ns hns
    exact ⟨y, some od, e1, e2, hget, by rw [hz.1, e3], hnc, by rw [hz.2, hn]; exact ho⟩
def rIsx (G : Gh) (K : PySem.W.Frag) : List V → Hp → VK → Prop := fun xs H Q => ∃ (m : Mm) (c : Nat) (ts : List T) (v t : V) (cv : Value) (b : Bool), xs = [v, t] ∧ Rp G m H (.exc c ts) v ∧ ExcC K (G.cl c) ∧ (∀ u, RelV t u → u = cv) ∧
  PySem.W.kitOne K (.ref (G.cl c)) cv = some b ∧ Q (.bl b) H
theorem call_isx (hx : XaIn G X) : CallR X (.builtin "isinstance") (rIsx G X.K) := by
  intro pins s σ H xs us Q I r h
  obtain ⟨m, c, ts, v, t, cv, b, rfl, rv, C, hcv, ek, q⟩ := h
  cases r with
  | cons rx rr =>
    cases rr with
    | cons rt rr =>
      cases rr
      obtain ⟨y, od, _, rfl, J⟩ := xa_inst hx I rv
      cases rx
      have ec := hcv _ rt
      subst ec
      obtain ⟨cd, hc, _⟩ := PySem.W.any_some C.hd
      exact PySem.W.kia_one (PySem.W.kitx_exc (by rw [hc]; rfl) C.hg C.hk C.hs C.ha C.hn C.ht C.hm) I.kIn J ek (fun z => nomatch z) fun tk => ⟨.bl b, H, I.kept (t' := tk) fun _ _ z => z, rfl, q⟩
def fIsx (tb : List ((Nat × Tg) × Bool)) (g : Tg) (fa : Env → Sto → R T) : Env → Sto → R T := fun env st => (fa env st).bnd fun x st1 => match x with
  | .exc c _ => R.opt ((tb.lookup (c, g)).map .bl) st1
  | _ => .bad
theorem s_isx {tb : List ((Nat × Tg) × Bool)} {g : Tg} {c : Expr} (hx : XaIn G X) (htb : ∀ c g k, tb.lookup (c, g) = some k → ExcC X.K (G.cl c) ∧ PySem.W.kitOne X.K (.ref (G.cl c)) (tgVal G g) = some k)
    (hg : Gl X "isinstance") (hm : X.mg "isinstance" = none) (ha : PE X a (tE G W fa)) (hc : PE X c (tC (tgV G g))) (hs : starEach [a, c] X.env = (false, eval a X.env) :: starEach [c] X.env) (hs2 : starEach [c] X.env = [(false, eval c X.env)]) :
    PE X (.Call (.Name "isinstance" p) [a, c] [] pos) (tE G W (fIsx tb g fa)) := by
  refine PE.imp (pe_callB (call_isx hx) hg hm (by decide +kernel) (pa_cons ha (pa_cons hc pa_nil hs2) hs) (by decide) (by decide) hs (by rw [hs2]; rfl)) fun σ H Q h => ?_
  show tE G W fa σ H fun v H1 => rIsx G X.K [v, tgV G g] H1 Q
  refine at1 h fun m env st t v H1 rs r q => ?_
  cases t with
  | exc c ts =>
    have q : Rn G W σ env (Rp G) m H1 (R.opt ((tb.lookup (c, g)).map .bl) st) (Kq Q) := q
    cases ek : tb.lookup (c, g) with
    | none => rw [ek] at q; exact q.elim
    | some k =>
      rw [ek] at q
      obtain ⟨C, hk⟩ := htb c g k ek
      refine ⟨m, c, ts, v, tgV G g, tgVal G g, k, rfl, r, C, ?_, hk, Rn.give (b := .bl k) q rs rfl⟩
      cases g with
      | ty n => exact fun u z => z
      | cls c => exact fun u z => z
  | _ => exact q.elim
def fXat (xf : List (Nat × Str)) (f : Str) (fa : Env → Sto → R T) : Env → Sto → R T := fun env st => (fa env st).bnd fun x st1 => match x with
  | .exc c [t] => if xf.lookup c = some f then .ok t st1 else .bad
  | _ => .bad
theorem s_xat {xf : List (Nat × Str)} (hx : XaIn G X) (hxf : ∀ c f, xf.lookup c = some f → XfC X.K (G.cl c) ∧ PySem.W.findIn X.K (.ref (G.cl c)) f = some none ∧ G.fl c = [f]) (he : PE X e (tE G W fa)) (hb : attributeBase e f X.env (eval e X.env) = eval e X.env) :
    PE X (.Attribute e f pos) (tE G W (fXat xf f fa)) := by
  refine ⟨fun pins s σ H Q I h => ?_⟩
  have h2 : tE G W fa σ H fun v H1 => ∃ m c t, Rp G m H1 (.exc c [t]) v ∧ xf.lookup c = some f ∧ ∀ w, Rp G m H1 t w → Q w H1 := by
    refine at1 (g := fun _ x st1 => match x with
      | T.exc c [t] => if xf.lookup c = some f then R.ok t st1 else R.bad
      | _ => R.bad) h fun m env st t v H1 rs r q => ?_
    match t, r, q with
    | .exc c [t], r, q =>
      have q : Rn G W σ env (Rp G) m H1 (if xf.lookup c = some f then R.ok t st else R.bad) (Kq Q) := q
      by_cases hl : xf.lookup c = some f
      · rw [if_pos hl] at q
        exact ⟨m, c, t, r, hl, fun w rw => Rn.give q rs rw⟩
      · rw [if_neg hl] at q; exact q.elim
    | .exc c [], r, q => exact q.elim
    | .exc c (_ :: _ :: _), r, q => exact q.elim
    | .non, r, q => exact q.elim
    | .bl _, r, q => exact q.elim
    | .int _, r, q => exact q.elim
    | .str _, r, q => exact q.elim
    | .tup _, r, q => exact q.elim
    | .lst _, r, q => exact q.elim
    | .obj _ _, r, q => exact q.elim
    | .loc _, r, q => exact q.elim
    | .scr _, r, q => exact q.elim
    | .cv _, r, q => exact q.elim
    | .ptp _, r, q => exact q.elim
    | .edt, r, q => exact q.elim
  refine attr_of hb (thn (he.run pins s σ H _ I h2) fun u s1 ⟨v, H1, I1, rv, m, c, t, r, hl, q⟩ => ?_)
  obtain ⟨C, hno, hfl⟩ := hxf c f hl
  obtain ⟨y, vs, e1, rfl, e3, ⟨w, r0, rfl, rw0, hr0⟩, qd⟩ := r
  cases (show r0 = [] from hr0)
  obtain rfl : u = Value.ref y.a := rv
  rcases qd with ⟨z, _⟩ | ⟨dx, f', w', hvs, hn, _, hH, hfl'⟩
  · cases z
  · have e4 : w = w' := by simpa using hvs
    have e5 : f = f' := by rw [hfl] at hfl'; simpa using hfl'
    subst e4 e5
    obtain ⟨hm, hz, us, hd⟩ := hx y e1
    have hget := (I1.pin (y.a, y.oe) (List.mem_append_left _ hm)).1
    have ok : ObjOk X.prog X.w H1 s1.heap dx (.xd [(f, w)]) := I1.hok dx _ hH
    obtain ⟨mA, hns, hr⟩ := ok
    obtain ⟨od, ho, hlk⟩ := lookIn_ns hns
    obtain ⟨u, hu, ru⟩ := RelO.some_of (v := w) (o := mA f) (by
      have z := hr f
      have e6 : ([(f, w)] : List (Str × V)).lookup f = some w := by simp [List.lookup_cons]
      rw [e6] at z
      exact z)
    have J : PySem.W.InstAt s1.heap y.a y.oe (G.cl c) (some od) := ⟨hget, by rw [hz.1, e3], by unfold PySem.W.notCls; rw [hd] <;> rfl, by rw [hz.2, hn]; exact ho⟩
    exact HandSPX.exc_get I1.kIn J C.ga C.gg C.exC (PySem.W.findObj_own C.hdC hno rfl (by rw [hlk, hu])) (handed_of ru) ⟨w, H1, I1.tok _, ru, q w rw0⟩
end
def spI (C : Addr) (f : Str) : Sp := fun vs H Q _ => ∃ a v, vs = [.ref a, v] ∧ H a = some (exo a C none) ∧ ∀ dx, H dx = none → dx ≠ a → Q .non (upd (upd H dx (exd dx [(f, v)])) a (exo a C (some dx)))
structure XcOk (P : Program) (w : World) (K : PySem.W.Frag) (mg : Str → Option Value) (base : Heap) (lv : Nat) (G : Gh) (c : Nat) (f : Str) : Prop where
  ox : OexX K (G.cl c)
  fl : G.fl c = [f]
  lv1 : 1 ≤ lv
  init : ∃ fI fd ps, PySem.W.findIn K (.ref (G.cl c)) "__init__" = some (some (.ref fI)) ∧ PySem.W.typeIn K (.ref fI) = some (.type "function") ∧ FnOk P w K mg base (L2.CX P w) 1 fI fd ps (spI (G.cl c) f) ∧ L2.Binds K fd ps []
section
variable {P : Program} {w : World} {K : PySem.W.Frag} {mg : Str → Option Value} {base : Heap} {C f : Addr}
theorem init_ok {d : Str} {qual y : Str} {params : Arguments} {scope : Scope} {dvs : List V} {p1 p2 p3 p4 : Pos} {a fI : Addr} {fd : FuncData} (F : FunD K d qual params [.Assign [.Attribute (.Name "self" p1) y p2] (.Name y p3) p4] scope dvs [] fI fd)
    (S : FnScope ["self", y] ["self", y] scope) (hs : L2.Vis scope "self") (hv : L2.Vis scope y) (hd : (y == ("__debug__" : Str)) = false) (hcd : (y == ("__classdict__" : Str)) = false) (T : OexX K C) (hno : PySem.W.findIn K (.ref C) y = some none) :
    FnOk P w K mg base (L2.CX P w) 1 fI fd ["self", y] (spI C y) := by
  refine FunD.ok F S (fun vs H Q E ⟨a, v, e, _⟩ => by rw [e]; rfl) fun cdv A outer s H vs Q E hr hsp => ?_
  obtain ⟨a, v, rfl, ea, q⟩ := hsp
  refine ⟨_, pss_one (ps_ostX (pe_var (i := 0) rfl hs) (pe_var (i := 1) rfl hv hd hcd)), ?_⟩
  exact ⟨v, rfl, .ref a, rfl, a, C, rfl, T, hno, ea, q⟩
end
section
variable {X : Cx} {G : Gh} {W : WX} {lv : Nat} {fe : Env → Sto → R T} {e : Expr} {f x : Str} {pos pos' p : Pos}
def fRse (c : Nat) (fe : Env → Sto → R T) : Fs := fun env st => (fe env st).go env fun t st1 => .exc (.exc c [t]) env st1
theorem S_rse {c : Nat} (hc : X.calm = true) (hr : Room (lv + 1) X.A) (tk : Takes X W) (xc : XcOk X.prog X.w X.K X.mg X.base lv G c f) (hg : Gl X x) (hm : X.mg x = some (.ref (G.cl c))) (hdb : (x == ("__debug__" : Str)) = false) (ha : PE X e (tE G W fe))
    (hs : starEach [e] X.env = [(false, eval e X.env)]) : PS X (.Raise (some (.Call (.Name x p) [e] [] pos)) none pos') (tS G W (fRse c fe)) := by
  obtain ⟨fI, fd, ps, i1, i2, i3, i4⟩ := xc.init
  have pas : Passes (L2.CX X.prog X.w) X (fun _ _ _ => False) := passes_call tk fun _ _ _ _ z => z.elim
  refine PS.imp (ps_raise hc tk (pmk_oexX (k := 1) (dvs := []) (ds := []) xc.ox i1 i2 i3 (hr.mono (by have := xc.lv1; omega)) i4 .nil pas hg hm (pa_cons ha pa_nil hs) hdb hs rfl)) fun D σ H h => ?_
  obtain ⟨m, env, st, rs, h⟩ := h
  show tE G W fe σ H fun v H1 => [v].length ≤ 1000 ∧ ∀ a, H1 a = none → spI (G.cl c) f (.ref a :: ([v] ++ [])) (upd H1 a (exo a (G.cl c) none)) (fun v H2 => v = .non ∧ ∃ (d : Addr) (fs : List (Str × V)), H2 a = some (exo a (G.cl c) (some d)) ∧ H2 d = some (exd d fs) ∧ H1 d = none ∧ W (.ref (G.cl c)) (some d) σ (upd (del H2 a) d (.xd fs))) (fun _ _ _ => False)
  refine ⟨m, env, st, rs, (Out.go h).imp fun t st1 v H1 m1 rs1 S1 r1 h => ⟨by simp, fun a ha => ⟨a, v, rfl, upd_same, fun dx hdx hne => ⟨rfl, dx, [(f, v)], upd_same, ?_, ?_, ?_⟩⟩⟩⟩
  · rw [upd_ne hne, upd_same]
  · rw [upd_ne hne] at hdx; exact hdx
  · have hdx : H1 dx = none := by rw [upd_ne hne] at hdx; exact hdx
    have eH : upd (del (upd (upd (upd H1 a (exo a (G.cl c) none)) dx (exd dx [(f, v)])) a (exo a (G.cl c) (some dx))) a) dx (.xd [(f, v)]) = upd H1 dx (.xd [(f, v)]) := by
      funext b
      by_cases hb : b = dx
      · rw [hb, upd_same, upd_same]
      · rw [upd_ne hb, upd_ne hb]
        by_cases hb2 : b = a
        · rw [hb2, del_same, ha]
        · rw [del_ne hb2, upd_ne hb2, upd_ne hb, upd_ne hb2]
    rw [eH]
    exact h (.ref (G.cl c)) (some dx) σ _ m1 (rs1.fresh hdx) (Stp.fresh hdx) ⟨rfl, dx, v, f, rfl, rs1.sto.free hdx, upd_same, xc.fl, Rp.mov (Stp.fresh hdx).toMov _ _ r1⟩
end
structure XnOk (K : PySem.W.Frag) (G : Gh) (c : Nat) : Prop where
  ex : ∃ b : XB, PySem.W.excIn K (G.cl c) b.tl b.newId = true
  kC : PySem.W.keepIn K (.ref (G.cl c)) = true
  exC : PySem.W.subIn K (.ref (G.cl c)) (.type "BaseException") = some true
  tyC : PySem.W.typeIn K (.ref (G.cl c)) = some (.type "type")
def XcAny (P : Program) (w : World) (K : PySem.W.Frag) (mg : Str → Option Value) (base : Heap) (lv : Nat) (G : Gh) (c : Nat) (f : Str) : Prop := (f ≠ ("" : Str) → XcOk P w K mg base lv G c f) ∧ (f = ("" : Str) → XnOk K G c)
def fRs0 (c : Nat) : Fs := fun env st => .exc (.exc c []) env st
section
variable {X : Cx} {G : Gh} {W : WX} {x : Str} {p pos pos' : Pos}
theorem S_rs0 {c : Nat} (hc : X.calm = true) (tk : Takes X W) (xn : XnOk X.K G c) (hg : Gl X x) (hm : X.mg x = some (.ref (G.cl c))) (hdb : (x == ("__debug__" : Str)) = false) :
    PS X (.Raise (some (.Call (.Name x p) [] [] pos)) none pos') (tS G W (fRs0 c)) := by
  obtain ⟨b, q⟩ := xn.ex
  refine PS.imp (ps_raise hc tk (pmk_own0 q hm xn.kC (raises_own xn.exC xn.tyC) hg hdb)) fun D σ H h => ?_
  obtain ⟨m, env, st, rs, h⟩ := h
  exact h (.ref (G.cl c)) none σ H m rs (Stp.refl m H) ⟨rfl, rfl⟩
end
def HCal (P : Program) (w : World) (K : PySem.W.Frag) (mg : Str → Option Value) (base : Heap) (lv : Nat) (G : Gh) (F : List T → Sto → R T) (f : Addr) : Prop :=
  ∀ (y : XA) (A : Around) (outer : List PySem.Env) (s : Shared) (H : Hp) (us : List Value) (vs : List V) (Q : VK) (E : XK), L2H.RoomH lv A → A.guards = some [] → L2H.PinOk outer H s (y.a, y.oe) → Zc y.cls y.d y.oe → (∃ ws, y.oe.data = .fields ws) →
    Env0 P w K mg base A outer s H → Vals vs us → Spec { G with xa := some y } F vs H Q E → codeAny (model P w) A (.call (.ref f) ⟨us, []⟩) (CR (L2.CX P w) outer P w H s Q E) s
section
variable {X : Cx} {G : Gh} {W : WX} {lv : Nat} {fs : Env → Sto → R (List T)} {e : Expr} {es : List Expr} {x : Str} {pos p : Pos} {F : List T → Sto → R T} {f : Addr}
theorem s_hcall {y : XA} (hy : G.xa = some y) (hx : XaIn G X) (c : HCal X.prog X.w X.K X.mg X.base lv G F f) (hr : L2H.RoomH lv X.A) (hG : X.A.guards = some []) (tk : Takes X W) (hg : Gl X x) (hm : X.mg x = some (.ref f)) (hk : PySem.W.keepIn X.K (.ref f) = true)
    (ha : PA X (e :: es) (tA G W fs)) (hdb : (x == ("__debug__" : Str)) = false) (he : starEach (e :: es) X.env = (false, eval e X.env) :: starEach es X.env) (hpl : (starEach es X.env).all (fun x => !x.1) = true) :
    PE X (.Call (.Name x p) (e :: es) [] pos) (tE G W (fCall F fs)) := by
  refine ⟨fun pins s σ H Q I h => ?_⟩
  have h2 : tA G W fs σ H fun vs H1 => Spec G F vs H1 Q (WE W σ) := by
    refine atA (g := fun _ xs st1 => F xs st1) h fun m env st ts vs H1 rs r q => ?_
    exact spec_of rs r q
  obtain ⟨hm2, hz, hd⟩ := hx y hy
  have eG : ({ G with xa := some y } : Gh) = G := by
    obtain ⟨a1, a2, a3, a4, a5⟩ := G
    cases (show a5 = some y from hy)
    rfl
  refine wpAny_Call_Name_kw (ld_glob I hg hm ?_ hdb)
  refine PySem.W.callWith_K (h₀ := X.base) I.ok.mod.kin hk (thn (ha.run pos pins s σ H _ I h2) fun us s1 ⟨vs, H1, I1, r, q⟩ => ⟨I1.kIn, ?_⟩) he (pl_of (e := e) hpl)
  have P1 := I1.pin (y.a, y.oe) (List.mem_append_left _ hm2)
  have pin : L2H.PinOk X.stack H1 s1 (y.a, y.oe) := ⟨P1.1, P1.2.1, fun z => (List.mem_cons.mp (I1.stkSub y.a z)).elim P1.2.2.1 P1.2.2.2.1, P1.2.2.2.2⟩
  refine wpAny_call (codeAny_mono (c y X.A X.stack s1 H1 us vs Q (WE W σ) hr hG pin hz hd I1.env0 r (by rw [eG]; exact q)) fun r s2 hq => ?_)
  match r, hq with
  | .error er, hq => exact passAt tk σ pins H1 s1 er s2 I1 hq
  | .ok (.ret u), hq => exact I1.after hq
  | .ok .next, hq => exact hq.elim
  | .ok .brk, hq => exact hq.elim
  | .ok .cont, hq => exact hq.elim
end
end Eg
set_option Elab.async false
set_option linter.all false
set_option maxRecDepth 100000
set_option maxHeartbeats 2000000
namespace Eg
open PySem PySem.Spec PyProof.Rows L2
theorem fly_keep {B h h' : Heap} {l : List PySem.Env} {e : Addr} {Z : Obj → Prop} (F : HandSPX.FlyingZ B l e Z h) (k : ∀ b o, h.get? b = some o → h'.get? b = some o) : HandSPX.FlyingZ B l e Z h' := by
  obtain ⟨f1, f2, f3, oe, vs, T, oT, ts, he, hz, hd, h1, hn, hne, hT, hdT, h3⟩ := F
  exact ⟨fun b o q => k b o (f1 b o q), f2, f3.of_keeps fun b o q _ => ⟨o, k b o q, rfl⟩, oe, vs, T, oT, ts, k _ _ he, hz, hd, h1, hn, hne, k _ _ hT, hdT, h3⟩
def gone (i : Nat) (D : Ends) : Ends := { nx := fun σ' H' => D.nx (σ'.set i none) H', rt := D.rt, bk := fun σ' H' => D.bk (σ'.set i none) H', ct := fun σ' H' => D.ct (σ'.set i none) H' }
def wAs3 (K : PySem.W.Frag) (cs : List Value) (i : Nat) (ts : Addr → Obj → Value → Option Addr → TS) (D : Ends) : WX := fun cls d σ H =>
  PySem.W.exmAny K cls cs = some true ∧ ∀ a oe, Zc cls d oe → H a = none → ts a oe cls d (gone i D) (σ.set i (some (.ref a))) H
section
variable {X : Cx} {x1 x2 x3 n : Str} {c1 c2 c3 : Value} {i kk : Nat} {body suite : List Stmt} {b0 : Stmt} {p1 p2 p3 tp pos pos' : Pos} {tb : WX → TS} {ts : Addr → Obj → Value → Option Addr → TS}
theorem ps_try_as3 (hs : X.stack = X.env :: X.outer) (hf : X.env.frame = some X.env.locals) (hN : X.N.Nodup) (hi : X.N[i]? = some n) (hln : X.env.kindOf n = some .local) (n1 : Names X x1 c1) (n2 : Names X x2 c2) (n3 : Names X x3 c3)
    (hb : ∀ (W : WX) (pn : List (Addr × Obj)) (xe : Value → Shared → Prop), Takes (X.tr pn xe) W → PassesOwn (model X.prog X.w) X.A X.env xe → PSs (X.tr pn xe) body (tb W))
    (hsu : ∀ (a : Addr) (oe : Obj) (cls : Value) (d : Option Addr) (pn : List (Addr × Obj)), Zc cls d oe → (∃ vs, oe.data = .fields vs) → PSs (X.suite a ((a, oe) :: pn)) (b0 :: suite) (ts a oe cls d)) :
    PS X (.Try body [.ExceptHandler (some (.Tuple [.Name x1 p1, .Name x2 p2, .Name x3 p3] kk tp)) (some n) (b0 :: suite) pos'] [] [] pos) (fun D σ H => tb (wAs3 X.K [c1, c2, c3] i ts D) D σ H) := by
  refine ⟨fun pins s σ H D I wish => ?_⟩
  have okX := I.ok
  have frm : X.A.frames = some (X.env :: X.outer) := by rw [okX.frames, hs]
  have lcl : L2.Loc X.env.scope n := .inl hln
  refine wpAny_Try_except ?_
  have run := (hb (wAs3 X.K [c1, c2, c3] i ts D) (X.pn ++ pins) (fun e t1 => wpAny (model X.prog X.w) X.A (noteFrame e X.env) (fun _ t2 => wpAny (model X.prog X.w) X.A (setFlight e none) (fun _ t3 =>
    wpAny (model X.prog X.w) X.A (handleBy e X.env [.ExceptHandler (some (.Tuple [.Name x1 p1, .Name x2 p2, .Name x3 p3] kk tp)) (some n) (b0 :: suite) pos']) (SP X pins D) X.xe t3) X.xe t2) X.xe t1) (fun u z xx => ?_) PassesOwn.looking).run [] s σ H D (I.toTry _) wish
  · refine wpAny_mono run (fun f s1 ends => ?_) (fun e s1 he => he)
    cases f with
    | next =>
      obtain ⟨σ2, H2, J2, q⟩ := ends
      exact wpAny_execs_nil ⟨σ2, H2, J2.ofTry okX, q⟩
    | brk =>
      obtain ⟨σ2, H2, J2, q⟩ := ends
      exact ⟨σ2, H2, J2.ofTry okX, q⟩
    | cont =>
      obtain ⟨σ2, H2, J2, q⟩ := ends
      exact ⟨σ2, H2, J2.ofTry okX, q⟩
    | ret u =>
      obtain ⟨v, σ2, H2, J2, r, q⟩ := ends
      exact ⟨v, σ2, H2, J2.ofTry okX, r, q⟩
  · obtain ⟨a, B, sI, pins2, σ2, H2, cls, d, rfl, J0, nb, up, sky0, na, os, ag, any, hyes⟩ := xx
    have J : Inv X pins σ2 H2 sI := J0.ofTry okX
    have sky : Sky B (X.env :: X.outer) a (Zc cls d) X.env.locals z.heap := by rw [← hs]; exact sky0
    show wpAny (model X.prog X.w) X.A (noteFrame (.ref a) X.env) _ _ _
    refine Sky.land Zc.steady frm hf sky fun g3 fl3 up3 => ?_
    have J3 : Inv X pins σ2 H2 { z with heap := g3 } := J.landed nb fl3.1 (up.trans up3) os ag
    obtain ⟨oe3, vs3, he3, hz3, hd3⟩ := fl3.there
    have out : ∀ {g : Heap} {o : Obj} {vs : Array Value}, g.FunFrames B (X.env :: X.outer) → g.get? a = some o → o.data = .fields vs → a ∉ frs (X.env :: X.outer) := fun {g o vs} ff e1 e2 hm => by
      obtain ⟨_, o2, e3, no⟩ := ff.mem hm
      rw [e1] at e3
      cases e3
      exact no _ e2
    have apart := out fl3.2.2.1 he3 hd3
    have nL : a ≠ X.env.locals := fun y => apart (List.mem_filterMap.mpr ⟨X.env, List.mem_cons_self, by rw [hf, y]⟩)
    have nF : a ∉ X.fs := fun hm => by
      obtain ⟨e, h1, h2⟩ := List.mem_filterMap.mp hm
      exact apart (List.mem_filterMap.mpr ⟨e, List.mem_cons_of_mem _ h1, h2⟩)
    have S3 := J3.suite he3 hd3 na nL nF
    refine wpAny_handleBy_cons (codeAny_handlers_test ?_) (by intro q; cases q)
    have LT : PySem.W.Looks (model X.prog X.w) g3 (typeOf (.ref a)) cls := fun A Q E s k q => wpAny_typeOf_ref (k _ _ he3) (by rw [hz3.1]; exact q)
    have nm : ∀ {x : Str} {c : Value} {np : Pos} {Q : Value → Shared → Prop} {E : Value → Shared → Prop}, Names X x c → Q c { z with heap := g3 } → wpAny (model X.prog X.w) (X.A.mark (some (.ref a))) (eval (.Name x np) X.env) Q E { z with heap := g3 } := fun {x c np Q E} hc q => by
      obtain ⟨hg, hdbg, hm | ⟨hm, hv, hnn⟩⟩ := hc
      · exact ld_glob (X := X.suite a ((a, oe3) :: (X.pn ++ pins))) S3 hg hm q hdbg
      · exact ld_blt (X := X.suite a ((a, oe3) :: (X.pn ++ pins))) S3 hg hm hv q hnn hdbg
    refine wpAny_Tuple ?_
    refine wpAny_items_cons (nm n1 ?_)
    refine wpAny_items_cons (nm n2 ?_)
    refine wpAny_items_cons (nm n3 ?_)
    refine wpAny_items_nil ⟨by size_fits, ?_⟩
    have kp : ∀ b o, g3.get? b = some o → (g3.push { cls := .type "tuple", data := .seq [c1, c2, c3].toArray }).get? b = some o := fun _ _ y => Heap.get?_push_of_some _ y
    refine (PySem.W.exm_tup3 ((J3.kIn).keeps kp) (LT.keeps kp) (Heap.get?_push_size g3 rfl) any).here ?_
    have fl4 := fly_keep fl3 kp
    have up4 := up3.trans (Heap.UpToSlots.of_keeps kp)
    refine codeAny_handlers_suite_as ?_
    refine HandSPX.lands_againZ fl4 fun g5 fl5 up5 => ?_
    have J5 : Inv X pins σ2 H2 { z with heap := g5 } := J.landed nb fl5.1 ((up.trans up4).trans up5) os ag
    obtain ⟨oe5, vs5, he5, hz5, hd5⟩ := fl5.there
    have S5 := J5.suite he5 hd5 na nL nF
    refine store_ok (X := X.suite a ((a, oe5) :: (X.pn ++ pins))) (v := .ref a) S5 hN hi lcl rfl (fun s6 S6 => ?_) (.inr hln)
    refine wpAny_mono ((hsu a oe5 cls d (X.pn ++ pins) hz5 ⟨_, hd5⟩).run [] s6 _ H2 _ S6 (hyes a oe5 hz5 na)) (fun f s7 ends => ?_) (fun _ _ no => False.elim no)
    have fin : ∀ {σ7 : L2.St} {H7 : Hp} {Q : Shared → Prop}, Inv (X.suite a ((a, oe5) :: (X.pn ++ pins))) [] σ7 H7 s7 → (∀ s8, Inv X pins (σ7.set i none) H7 s8 → Q s8) →
        wpAny (model X.prog X.w) X.A (do bindName X.env n .none; unbindBehindTheSuite X.env n pos') (fun _ s8 => Q s8) X.xe s7 := fun {σ7 H7 Q} S7 hq => gone_ok (S7.unsuite okX) hN hi hln hq
    cases f with
    | next =>
      obtain ⟨σ7, H7, S7, q7⟩ := ends
      exact fin S7 fun s8 J8 => ⟨_, _, J8, q7⟩
    | brk =>
      obtain ⟨σ7, H7, S7, q7⟩ := ends
      exact fin S7 fun s8 J8 => ⟨_, _, J8, q7⟩
    | cont =>
      obtain ⟨σ7, H7, S7, q7⟩ := ends
      exact fin S7 fun s8 J8 => ⟨_, _, J8, q7⟩
    | ret u =>
      obtain ⟨v7, σ7, H7, S7, r7, q7⟩ := ends
      exact fin S7 fun s8 J8 => ⟨_, _, _, J8, r7, q7⟩
end
end Eg
set_option Elab.async false
set_option linter.all false
set_option maxRecDepth 100000
set_option maxHeartbeats 2000000
namespace Eg
open PySem PySem.Spec PyProof.Rows L2 LamX
section
variable {X : Cx} {pins : List (Addr × Obj)} {σ : L2.St} {H : Hp} {s : Shared}
theorem lam_new {T : List (Addr × Str)} {cd tab : Addr} {prm : Arguments} {e : Expr} {sc : Scope} {pos : Pos} {E : Value → Shared → Prop} {Q : Value → Shared → Prop} (I : Inv X pins σ H s) (B : TabB X.base X.mg cd tab) (hcode : X.env.code = .ref cd)
    (inT : (tab, X.env.qual ++ "<lambda>") ∈ T) (only : ∀ x ∈ T, x.1 = tab → x.2 = X.env.qual ++ "<lambda>") (hT : Tabs T H) (nodf : defaultsOf prm X.env = ([], [])) (frees : ∀ y ∈ sc.names, y.2 = .free → ∃ c, X.env.cells.lookup y.1 = some c)
    (k : ∀ (fl co : Addr) (pm ctv : Value) (H1 : Hp) (s1 : Shared), Inv X pins σ H1 s1 → ExtN H H1 → (∀ b, H b ≠ none → H1 b ≠ none) → Tabs T H1 →
      s1.heap.get? fl = some (PySem.W.kla_obj "<lambda>" (X.env.qual ++ "<lambda>") prm e sc (cloFrom X.env.cells sc.names []) pm co ctv) → H1 fl = none → fl ∉ frs X.stack → H1 co = some (CodeO co (X.env.qual ++ "<lambda>")) → Q (.ref fl) s1) :
    wpAny (model X.prog X.w) X.A (eval (.Lambda prm e sc pos) X.env) Q E s := by
  obtain ⟨ps, atT, trip, among⟩ := hT _ inT
  refine PySem.W.kla_eval nodf ?_
  have bm2 : s.heap.BuiltinsAt X.mg tab := B.bm.keeps I.bk
  have obT : s.heap.get? tab = some { cls := .none, data := .fields ps } := I.hok tab _ atT
  have noFr : ∀ b, s.heap.objs.size ≤ b → b ∉ frs X.stack := fun b hb hm => by
    rcases List.mem_cons.mp (I.stkSub _ hm) with y | y
    · have lt := I.lt
      rw [← y] at lt
      exact absurd lt (Nat.not_lt.mpr hb)
    · exact I.nofs hb y
  have mgl := I.mod.glob.keeps I.bk
  have cdl := B.code.keeps I.bk
  have clo := closure_ok frees
  cases q : codeAmong pos ps.toList with
  | some cv =>
    obtain ⟨co, rfl, hco⟩ := among pos cv q
    refine PySem.W.kla_makeFunctionHit (mg := X.mg) (c := cd) (P := tab) (ps := ps) clo I.ok.glob mgl hcode cdl obT trip q bm2 fun ctv h2 tk more sz => ?_
    have I2 : Inv X pins σ H { s with heap := h2.push (PySem.W.kla_obj "<lambda>" (X.env.qual ++ "<lambda>") prm e sc (cloFrom X.env.cells sc.names []) ((X.mg "__name__").getD .none) co ctv), toks := tk } := I.kept fun b o y => Heap.get?_push_of_some _ (more b o y)
    exact k h2.objs.size co _ ctv H _ I2 (ExtN.refl H) (fun _ y => y) hT (Heap.get?_push_size _ rfl) (I.hok.fresh sz) (noFr _ sz) hco
  | none =>
    refine PySem.W.kla_makeFunction (mg := X.mg) (c := cd) (P := tab) (ps := ps) clo I.ok.glob mgl hcode cdl obT trip q B.gP bm2 fun co ctv h2 tk more ge lt rec_ grown => ?_
    obtain ⟨co2, oc, vs, t, y0, y1, y2, y3⟩ := rec_
    cases y0
    have szs : s.heap.objs.size ≤ h2.objs.size := Nat.le_trans ge (Nat.le_of_lt lt)
    have newC : H co = none := I.hok.fresh ge
    generalize hnew : (#[rawInt pos.line, rawInt pos.col, .ref co] : Array Value) = trp at grown
    have I2 := inv_table (t' := tk) (more := trp) (h' := h2.push (PySem.W.kla_obj "<lambda>" (X.env.qual ++ "<lambda>") prm e sc (cloFrom X.env.cells sc.names []) ((X.mg "__name__").getD .none) co ctv)) I atT
      (fun b o ne y => Heap.get?_push_of_some _ (more b o ne y)) (Heap.get?_push_of_some _ grown) ge ⟨oc, vs, t, Heap.get?_push_of_some _ y1, y2, y3⟩
    have ext : ExtN H (upd (upd H tab (.tbl (ps ++ trp))) co (CodeO co (X.env.qual ++ "<lambda>"))) := fun b o y n => by
      rw [upd_ne (ne_of_none y newC), upd_ne (fun z => n ps (Option.some.inj (y.symm.trans (by rw [z]; exact atT))))]
      exact y
    have list : (ps ++ trp).toList = ps.toList ++ [rawInt pos.line, rawInt pos.col, .ref co] := by rw [← hnew]; simp
    refine k h2.objs.size co _ ctv _ _ I2 ext (fun b y => upd_some (upd_some y)) (fun x hx => ?_) (Heap.get?_push_size _ rfl) ?_ (noFr _ szs) upd_same
    · by_cases hb : x.1 = tab
      · rw [only x hx hb, hb]
        refine ⟨_, by rw [upd_ne (ne_of_none atT newC), upd_same], by rw [list]; exact PySem.TriplesOk_snoc _ _ _ _ trip, fun p2 cv hcv => ?_⟩
        rw [list] at hcv
        rcases among_app _ trip hcv with z | z
        · obtain ⟨c0, z1, z2⟩ := among p2 cv z
          exact ⟨c0, z1, ext _ _ z2 codeO_ne⟩
        · exact ⟨co, z, upd_same⟩
      · obtain ⟨ps2, z1, z2, z3⟩ := hT x hx
        refine ⟨ps2, by rw [upd_ne (ne_of_none z1 newC), upd_ne hb]; exact z1, z2, fun p2 cv hcv => ?_⟩
        obtain ⟨c0, z4, z5⟩ := z3 p2 cv hcv
        exact ⟨c0, z4, ext _ _ z5 codeO_ne⟩
    · have n1 : h2.objs.size ≠ co := Nat.ne_of_gt lt
      have n2 : h2.objs.size ≠ tab := Nat.ne_of_gt (Nat.lt_of_lt_of_le (Heap.lt_size obT) szs)
      rw [upd_ne n1, upd_ne n2]
      exact I.hok.fresh szs
def ActOk (P : Program) (w : World) (K : PySem.W.Frag) (mg : Str → Option Value) (base : Heap) (lv : Nat) (A : Around) (outer : List PySem.Env) (s : Shared) (H : Hp) (fl co : Addr) (q : Str) (tl : XK → Hp → VK → Prop) : Prop :=
  ∀ (Ng : List Str) (qg : Str) (sg : Scope) (g : Addr) (cdg : Value) (a : Str) (W : WX) (pn : List (Addr × Obj)) (xe : Value → Shared → Prop) (p1 p2 : Pos), Ng[0]? = some a → L2.Vis sg a → (a == ("__debug__" : Str)) = false → (a == ("__classdict__" : Str)) = false →
    Room (lv + 1) (A.deeper (envOfC qg sg s.heap.objs.size g cdg)) → Takes ((cxOf C8.CX0 P w K mg base Ng qg sg g cdg A outer s H C8.E0).tr pn xe) W →
    PE ((cxOf C8.CX0 P w K mg base Ng qg sg g cdg A outer s H C8.E0).tr pn xe) (.Call (.Name a p1) [] [] p2) (fun σZ HZ Q => σZ[0]? = some (some (.ref fl)) ∧ HZ co = some (CodeO co q) ∧ tl (WE W σZ) HZ Q)
theorem act_ok {fl co : Addr} {pm ctv : Value} {prm : Arguments} {e : Expr} {sc : Scope} {lv : Nat} {t : XK → TE}
    (I : Inv X pins σ H s) (L : LamS X.env.scope sc) (obj : s.heap.get? fl = some (PySem.W.kla_obj "<lambda>" (X.env.qual ++ "<lambda>") prm e sc (cloFrom X.env.cells sc.names []) pm co ctv)) (nH : H fl = none) (nF : fl ∉ frs X.stack)
    (nobind : bindArgs (PySem.W.kla_fn "<lambda>" (X.env.qual ++ "<lambda>") prm e sc (cloFrom X.env.cells sc.names []) pm (.ref co) ctv) ⟨[], []⟩ = pure []) (grd : X.A.guards = some [])
    (walk : ∀ (A : Around) (outer : List PySem.Env) (s : Shared) (H : Hp) (E : XK) (f2 c2 : Addr), Room lv (A.deeper (lamEnv X sc s.heap.objs.size f2 c2)) → A.guards = some [] → PE (lamCx X A outer s H E sc f2 c2) e (t E)) :
    ActOk X.prog X.w X.K X.mg X.base lv X.A X.stack s H fl co (X.env.qual ++ "<lambda>") (fun E H2 Q2 => t E σ H2 Q2) := by
  intro Ng qg sg g cdg a W pn xe p1 p2 nm vis db cdd room tk
  refine ⟨fun pinsZ sZ σZ HZ Q IZ h => ?_⟩
  generalize hE : WE W σZ = E at h
  obtain ⟨h1, h2, h3⟩ := h
  refine wpAny_Call_Name_kw (thn ((pe_var (pos := p1) (i := 0) nm vis db cdd).run pinsZ sZ σZ HZ (fun v H1 => v = .ref fl ∧ H1 = HZ) IZ ⟨.ref fl, h1, rfl, rfl⟩) fun u s1 ⟨v, H1, I1, r1, y1, y2⟩ => ?_)
  subst y1
  rw [y2] at I1
  obtain rfl : u = Value.ref fl := r1
  have at1 := I1.base.keep fl _ obj nH nF (fun z => nomatch (show fl ∈ ([] : List Addr) from z))
  refine PySem.W.callWith_F0 ⟨_, _, _, _, at1⟩ ?_
  have un : Un (frs X.stack) [] H HZ s.heap s1.heap := I1.base
  obtain ⟨⟨oc, vs, tk0, z1, z2, z3⟩, _, _⟩ := I1.hok co _ h2
  generalize hA : X.A.deeper (envOfC qg sg s.heap.objs.size g cdg) = A1 at room
  have g1 : A1.guards = some [] := by rw [← hA]; exact grd
  have e0 := I1.env0
  have ran : codeAny (model X.prog X.w) A1 (.call (.ref fl) ⟨[], []⟩) (CR (L2.CX X.prog X.w) (envOfC qg sg s.heap.objs.size g cdg :: X.stack) X.prog X.w HZ s1 Q E) s1 := by
    refine PySem.W.kla_callFunE room.depth at1 rfl L.co L.gen rfl ⟨co, oc, vs, tk0, rfl, z1, z2, z3⟩ ?_
    rw [nobind]
    refine wpAny_pure (wpAny_newFunctionEnv (fun y hy => (L.own y hy).2) (fun y hy => absurd hy (by simp)) (fun h4 ns4 sb4 => ⟨I1.nolimit.fresh _ sb4, ?_⟩) L.kind)
    show codeAny _ _ (.expr e (lamEnv X sc s1.heap.objs.size fl co)) _ _
    have kp : ∀ b o, s1.heap.get? b = some o → h4.get? b = some o := fun b o y => sb4.extBut b o (Nat.ne_of_lt (Heap.lt_size y)) (Heap.get?_push_of_some _ y)
    have J : Inv (lamCx X A1 (envOfC qg sg s.heap.objs.size g cdg :: X.stack) s1 HZ E sc fl co) [] σ HZ { s1 with heap := h4, toks := s1.toks + ([] : List (Str × Value)).length } :=
      lam_start2 I L (by rw [← hA]; exact e0) room.hd un ns4 kp
    refine PySem.W.kla_codeExpr (wpAny_mono ((walk _ _ s1 HZ E fl co (room.deeper _) g1).run [] _ _ HZ Q J h3) (fun v s2 hq => ?_) fun er s2 hq => hq)
    obtain ⟨w2, H2, J2, rv, q⟩ := hq
    exact ⟨w2, H2, J2.os, J2.bare, J2.base, J2.hok, rv, q⟩
  have pas : PassesAt (L2.CX X.prog X.w) ((cxOf C8.CX0 X.prog X.w X.K X.mg X.base Ng qg sg g cdg X.A X.stack s H C8.E0).tr pn xe) σZ E := by rw [← hE]; exact passAt tk σZ
  rw [← hA] at ran
  refine wpAny_call (codeAny_mono ran fun r s2 hq => ?_)
  match r, hq with
  | .error er, hq => exact pas pinsZ HZ s1 er s2 I1 hq
  | .ok (.ret u), hq => exact I1.after hq
  | .ok .next, hq => exact hq.elim
  | .ok .brk, hq => exact hq.elim
  | .ok .cont, hq => exact hq.elim
end
def TSpec (G : Gh) (FT : (Sto → R T) → Sto → R T) (tl : XK → Hp → VK → Prop) (H : Hp) (Q : VK) : Prop :=
  ∃ m st act, RS G m [] st [] H ∧ (∀ E H1 m1 st1 Q1, RS G m1 [] st1 [] H1 → Stp m H m1 H1 → Rn G (fun cls d _ H' => E cls d H') [] [] (Rp G) m1 H1 (act st1) (Kq Q1) → tl E H1 Q1) ∧ Rn G W0 [] [] (Rp G) m H (FT act st) (Kq Q)
def TCal (P : Program) (w : World) (K : PySem.W.Frag) (mg : Str → Option Value) (base : Heap) (lv : Nat) (G : Gh) (FT : (Sto → R T) → Sto → R T) (f : Addr) : Prop :=
  ∀ (A : Around) (outer : List PySem.Env) (s : Shared) (H : Hp) (fl co : Addr) (q : Str) (Q : VK) (tl : XK → Hp → VK → Prop) (l : Nat), lv ≤ l → Room (l + 2) A → A.guards = some [] → Env0 P w K mg base A outer s H → H co = some (CodeO co q) →
    ActOk P w K mg base l A outer s H fl co q tl → TSpec G FT tl H Q → codeAny (model P w) A (.call (.ref f) ⟨[.ref fl], []⟩) (CR C8.CX0 outer P w H s Q C8.E0) s
section
variable {X : Cx} {G : Gh} {W : WX} {lv j : Nat} {fb : Env → Sto → R T} {e : Expr} {x : Str} {p lpos pos : Pos} {FT : (Sto → R T) → Sto → R T}
def fTold (FT : (Sto → R T) → Sto → R T) (fb : Env → Sto → R T) : Env → Sto → R T := fun env st => (FT (fb env) st).nox
theorem ext_stp {m : Mm} {env : Env} {st : Sto} {σ : L2.St} {H H1 : Hp} (rs : RS G m env st σ H) (x : ExtN H H1) (y : ∀ b, H b ≠ none → H1 b ≠ none) (t : Tabs G.tb H1) : RS G m env st σ H1 ∧ Stp m H m H1 := by
  have S : Stp m H m H1 := ⟨⟨fun a o h n _ => x a o h n.ne, fun a _ h => y a h, fun _ h => .inl h, fun _ h => .inl (.inr h), ⟨[], by simp⟩⟩, rfl⟩
  refine ⟨⟨rs.env.mov S.toMov, ⟨rs.sto.nd, rs.sto.fd, rs.sto.len, fun i a c h1 h2 => ?_, fun a h => y a (rs.sto.foS a h), t⟩⟩, S⟩
  have hc := rs.sto.cell i a c h1 h2
  refine RCell.mov S.toMov ?_ hc
  cases c with
  | lst xs => obtain ⟨vs, z, _⟩ := hc; rw [z]; exact x a _ z fun ps w => by cases w
  | ins c xs => obtain ⟨dx, fv, z, _⟩ := hc; rw [z]; exact x a _ z fun ps w => by cases w
  | dt xs => obtain ⟨vs, z, _⟩ := hc; rw [z]; exact x a _ z fun ps w => by cases w
  | dk xs => obtain ⟨vs, z, _⟩ := hc; rw [z]; exact x a _ z fun ps w => by cases w
theorem s_told {cd tab g : Addr} {prm : Arguments} {sc : Scope} (hg : Gl X x) (hm : X.mg x = some (.ref g)) (hk : PySem.W.keepIn X.K (.ref g) = true) (hdb : (x == ("__debug__" : Str)) = false) (cal : TCal X.prog X.w X.K X.mg X.base j G FT g) (hj : j ≤ lv)
    (room : Room (lv + 2) X.A) (grd : X.A.guards = some []) (B : TabB X.base X.mg cd tab) (hcode : X.env.code = .ref cd) (inT : (tab, X.env.qual ++ "<lambda>") ∈ G.tb) (only : ∀ y ∈ G.tb, y.1 = tab → y.2 = X.env.qual ++ "<lambda>") (L : LamS X.env.scope sc) (nodf : defaultsOf prm X.env = ([], []))
    (nobind : ∀ (q : Str) (cl : List (Str × Addr)) (pm cv ctv : Value), bindArgs (PySem.W.kla_fn "<lambda>" q prm e sc cl pm cv ctv) ⟨[], []⟩ = pure [])
    (walk : ∀ (A : Around) (outer : List PySem.Env) (s : Shared) (H : Hp) (E : XK) (f2 c2 : Addr), Room lv (A.deeper (lamEnv X sc s.heap.objs.size f2 c2)) → A.guards = some [] → PE (lamCx X A outer s H E sc f2 c2) e (tE G (fun cls d _ H => E cls d H) fb)) :
    PE X (.Call (.Name x p) [.Lambda prm e sc lpos] [] pos) (tE G W (fTold FT fb)) := by
  refine ⟨fun pins s σ H Q I ⟨m, env, st, rs, h⟩ => ?_⟩
  refine wpAny_Call_Name_kw (ld_glob I hg hm ?_ hdb)
  refine PySem.W.callWith_K (h₀ := X.base) I.ok.mod.kin hk ?_ rfl rfl
  show wpAny _ _ (spliced ((false, eval (.Lambda prm e sc lpos) X.env) :: backTo pos (starEach [] X.env))) _ _ s
  refine Calls.spliced_cons (lam_new I B hcode inT only rs.sto.tab nodf (L.has I.ok) fun fl co pm ctv H1 s1 I1 xn st1 T1 o1 n1 n2 hco => ?_)
  refine Calls.spliced_nil ⟨I1.kIn, ?_⟩
  obtain ⟨rs1, S1⟩ := ext_stp rs xn st1 T1
  have sp : TSpec G FT (fun E H2 Q2 => tE G (fun cls d _ H => E cls d H) fb σ H2 Q2) H1 Q := by
    refine ⟨m, st, fb env, rs1.bare, fun E H2 m2 st2 Q2 rs2 S2 q2 => ?_, ?_⟩
    · refine ⟨m2, env, st2, ⟨rs1.env.mov S2.toMov, rs2.sto⟩, ?_⟩
      generalize fb env st2 = r at q2
      cases r with
      | ok a st3 => exact fun b H' m' rs' y rr => q2 b H' m' rs'.bare y rr
      | exc a st3 => exact fun cls d H' m' rs' y rr => q2 cls d H' m' rs'.bare y rr
      | bad => exact q2.elim
    · unfold fTold at h
      cases eF : FT (fb env) st with
      | ok a st2 =>
        rw [eF] at h
        exact fun b H' m' rs' y rr => h b H' m' ⟨rs.env.mov (S1.trans y).toMov, rs'.sto⟩ (S1.trans y) rr
      | exc a st2 => rw [eF] at h; exact h.elim
      | bad => rw [eF] at h; exact h.elim
  refine wpAny_call (codeAny_mono (cal X.A X.stack s1 H1 fl co _ Q _ lv hj room grd I1.env0 hco (act_ok I1 L o1 n1 n2 (nobind _ _ _ _ _) grd walk) sp) fun r s2 hq => ?_)
  match r, hq with
  | .error er, hq => exact (show False from hq).elim
  | .ok (.ret u), hq => exact I1.after hq
  | .ok .next, hq => exact hq.elim
  | .ok .brk, hq => exact hq.elim
  | .ok .cont, hq => exact hq.elim
end
end Eg
set_option Elab.async false
set_option linter.all false
set_option maxRecDepth 100000
set_option maxHeartbeats 2000000
namespace Eg
open PySem PySem.Spec PyProof.Rows L2
def lookT (n : Bool) (st : Sto) (x y : T) : Option T := match lstOf st x with
  | some xs => if data y && datas xs && decide (dep y ≤ 60) && decide (deps xs ≤ 60) then (if n then some (.int (xs.countP fun z => eqv z y : Nat)) else (xs.findIdx? fun z => eqv z y).map fun j => .int (j : Nat)) else none
  | none => none
def lkName (n : Bool) : Str := if n then "count" else "index"
def fLk (n : Bool) (fa : Env → Sto → R T) (fs : Env → Sto → R (List T)) : Env → Sto → R T := fun env st => (fa env st).bnd fun x st1 => if (lstOf st1 x).isSome then (fs env st1).bnd fun ys st2 => match ys with
  | [y] => R.opt (lookT n st2 x y) st2
  | _ => .bad else .bad
section
variable {X : Cx} {G : Gh} {W : WX} {fa : Env → Sto → R T} {fs : Env → Sto → R (List T)} {a e : Expr} {es : List Expr} {pos apos : Pos} {m : Mm} {H : Hp} {σ : L2.St} {env : Env} {st : Sto} {Q : VK}
def rCount (K : PySem.W.Frag) : V → List V → Hp → VK → Prop := fun x xs H Q => ∃ (l : Addr) (y : V) (d : PyData) (ds : List PyData), x = .ref l ∧ xs = [y] ∧ Dp K H (.ref l) (.list ds) ∧ Dp K H y d ∧
  SeqAt.shaped (.list ds) = true ∧ SeqAt.shaped d = true ∧ Q (.int (ds.countP fun z => PyData.eqv z d : Nat)) H
theorem mt_countD (hu : X.A.units + 65 < cLine) : MtR X "list.count" (rCount X.K) := by
  intro pins s σ H x xs v us Q I rx rxs h
  obtain ⟨l, y, d, ds, rfl, rfl, hl, hy, sl, sd, q⟩ := h
  cases rx
  obtain ⟨uy, rfl, ry⟩ := vals1 rxs
  obtain ⟨bs, r1⟩ := Dp.reads I d y uy hy ry
  have hroom : X.A.units + 1 + min (PyData.depthAll ds) d.depth < cLine := room_in_shaped sd hu
  cases hl with
  | lst hs ha =>
    obtain ⟨its, rv, ⟨ob, n, ho, hc, hdn, hdt⟩, _⟩ := I.list hs
    have isl : s.heap.IsList l its.toArray := ⟨ob, ho, hc, n, hdt⟩
    obtain ⟨as, h4⟩ := Dp.readsAll I ds _ its ha rv
    exact SeqAt.count_list_data (vs := its.toArray) isl (by simpa using h4) r1 (PyData.plainAll_of_canLay0 ds (SeqAt.canLay_of_shaped sl)) (PyData.plain_of_canLay0 d (SeqAt.canLay_of_shaped sd)) hroom ⟨.int _, H, I.tok _, ⟨_, rfl⟩, q⟩
def rLk (K : PySem.W.Frag) (n : Bool) : V → List V → Hp → VK → Prop := if n then rCount K else rIndexD K
theorem find_of {y : T} (hy : data y = true) : ∀ {xs : List T} {j : Nat}, datas xs = true → (xs.findIdx? fun z => eqv z y) = some j →
    (∃ z, (toDs xs)[j]? = some z ∧ PyData.eqv z (toD y) = true) ∧ ∀ (k : Nat) (z : PyData), k < j → (toDs xs)[k]? = some z → PyData.eqv z (toD y) = false
  | [], j, _, e => by simp at e
  | x :: xs, j, h, e => by
    have h' : data x = true ∧ datas xs = true := by simpa [datas] using h
    rw [List.findIdx?_cons] at e
    cases c : eqv x y with
    | true =>
      rw [c] at e
      cases e
      exact ⟨⟨toD x, by simp [toDs], by rw [eqv_toD x y h'.1 hy]; exact c⟩, fun k z hk => absurd hk (Nat.not_lt_zero k)⟩
    | false =>
      rw [c] at e
      simp only [Bool.false_eq_true, if_false] at e
      obtain ⟨i, e1, rfl⟩ := Option.map_eq_some_iff.mp e
      obtain ⟨⟨z, z1, z2⟩, n⟩ := find_of hy h'.2 e1
      refine ⟨⟨z, by simpa [toDs] using z1, z2⟩, fun k w hk hw => ?_⟩
      cases k with
      | zero =>
        have e2 : toD x = w := by simpa [toDs] using hw
        rw [← e2, eqv_toD x y h'.1 hy]; exact c
      | succ k => exact n k w (by omega) (by simpa [toDs] using hw)
theorem count_toD {y : T} (hy : data y = true) : ∀ {xs : List T}, datas xs = true → ((toDs xs).countP fun z => PyData.eqv z (toD y)) = xs.countP fun z => eqv z y
  | [], _ => rfl
  | x :: xs, h => by
    have h' : data x = true ∧ datas xs = true := by simpa [datas] using h
    simp only [toDs, List.countP_cons]
    rw [eqv_toD x y h'.1 hy, count_toD hy h'.2]
theorem lk_imp {n : Bool} (h : tE G W (fLk n fa fs) σ H Q) : tE G W fa σ H fun x H1 => tyV G.K "list" x H1 ∧ tA G W fs σ H1 fun xs H2 => rLk G.K n x xs H2 Q := by
  obtain ⟨m, env, st, rs, h⟩ := h
  refine ⟨m, env, st, rs, (Rn.bnd h).imp fun x st1 v H1 m1 rs1 S1 r1 q => ?_⟩
  cases e1 : lstOf st1 x with
  | none => rw [e1] at q; exact q.elim
  | some xs =>
    rw [e1] at q
    have q := (if_pos (c := (some xs).isSome = true) rfl) ▸ q
    obtain ⟨p, vs, rfl, hs, _⟩ := Rp.lst rs1.sto r1 e1
    refine ⟨.inl ⟨rfl, vs, hs⟩, m1, env, st1, rs1, (Rn.bnd q).imp fun us st2 ws H2 m2 rs2 S2 r2 q => ?_⟩
    match us, r2, q with
    | [], _, q => exact q.elim
    | _ :: _ :: _, _, q => exact q.elim
    | [y], r2, q =>
      obtain ⟨w, rfl, hw⟩ := one_of (ts := []) r2
      have q : Rn G W σ env (Rp G) m2 H2 (R.opt (lookT n st2 x y) st2) (Kq Q) := q
      have r3 := Rp.mov S2.toMov _ _ r1
      unfold lookT at q
      cases e2 : lstOf st2 x with
      | none => rw [e2] at q; exact q.elim
      | some ys =>
        rw [e2] at q
        obtain ⟨c, q⟩ : (data y && datas ys && decide (dep y ≤ 60) && decide (deps ys ≤ 60)) = true ∧ Rn G W σ env (Rp G) m2 H2 (R.opt (if n then some (.int (ys.countP fun z => eqv z y : Nat)) else (ys.findIdx? fun z => eqv z y).map fun j => .int (j : Nat)) st2) (Kq Q) := by
          by_cases c : (data y && datas ys && decide (dep y ≤ 60) && decide (deps ys ≤ 60)) = true
          · exact ⟨c, by simpa [c] using q⟩
          · simp [c] at q; exact q.elim
        simp only [Bool.and_eq_true, decide_eq_true_eq] at c
        obtain ⟨⟨⟨h1, h2⟩, h3⟩, h4⟩ := c
        obtain ⟨p2, zs, e3, hs2, rz⟩ := Rp.lst rs2.sto r3 e2
        cases e3
        have D1 : Dp G.K H2 (.ref p) (.list (toDs ys)) := .lst hs2 (dps_of ys zs h2 rz)
        have D2 := dp_of y w h1 hw
        have s1 : SeqAt.shaped (.list (toDs ys)) = true := by
          show ((PyData.list (toDs ys)).canLay0 && decide ((PyData.list (toDs ys)).depth ≤ 64)) = true
          have z1 : (PyData.list (toDs ys)).canLay0 = true := by simpa [PyData.canLay0] using canLays_toD ys h2
          have z2 : (PyData.list (toDs ys)).depth = deps ys + 1 := by simp [PyData.depth, depths_toD ys]
          rw [z1, z2, Bool.true_and]
          exact decide_eq_true (by omega)
        have s2 := shaped_toD h1 h3
        cases n with
        | true =>
          refine ⟨p, w, _, _, rfl, rfl, D1, D2, s1, s2, ?_⟩
          rw [count_toD h1 h2]
          exact Rn.give (b := .int _) q rs2 rfl
        | false =>
          have q : Rn G W σ env (Rp G) m2 H2 (R.opt ((ys.findIdx? fun z => eqv z y).map fun j => .int (j : Nat)) st2) (Kq Q) := q
          cases e4 : ys.findIdx? fun z => eqv z y with
          | none => rw [e4] at q; exact q.elim
          | some j =>
            rw [e4] at q
            obtain ⟨⟨z, z1, z2⟩, no⟩ := find_of h1 h2 e4
            exact ⟨p, w, _, _, j, z, rfl, rfl, D1, D2, s1, s2, z1, z2, no, Rn.give (b := .int _) q rs2 rfl⟩
theorem s_lk {n : Bool} (hK : X.K = G.K) (hu : X.A.units + 65 < cLine) (ha : PE X a (tE G W fa)) (hes : PA X (e :: es) (tA G W fs)) (hbase : attributeBase a (lkName n) X.env (eval a X.env) = eval a X.env) (hfew : Few X (e :: es) pos)
    (hline : (apos.endLine == pos.line) = true) (he : starEach (e :: es) X.env = (false, eval e X.env) :: starEach es X.env) (hpl : (starEach es X.env).all (fun x => !x.1) = true) :
    PE X (.Call (.Attribute a (lkName n) apos) (e :: es) [] pos) (tE G W (fLk n fa fs)) := by
  have hp := pl_of (e := e) (pos := pos) hpl
  cases n with
  | true => exact PE.imp (pe_bm (r := rCount X.K) PySem.F.plainAttrs_list PySem.F.slot_list_count PySem.F.type_list_count (mt_countD hu) ha hes hbase hfew hline he hp) fun σ H Q h => by rw [hK]; exact lk_imp h
  | false => exact PE.imp (pe_bm (r := rIndexD X.K) PySem.F.plainAttrs_list PySem.F.slot_list_index PySem.F.type_list_index (mt_indexD hu) ha hes hbase hfew hline he hp) fun σ H Q h => by rw [hK]; exact lk_imp h
end
end Eg
set_option Elab.async false
set_option linter.all false
set_option maxRecDepth 100000
set_option maxHeartbeats 4000000
namespace Eg
open PySem PySem.Spec PyProof.Rows L2
section
variable {X : Cx} {G : Gh} {W : WX} {lv : Nat} {cs : List Ci} {fa : Env → Sto → R T} {fs fk : Env → Sto → R (List T)} {a e : Expr} {es : List Expr} {kws : List Keyword} {m k : Str} {kn : List Str} {pos apos : Pos}
end
end Eg
set_option Elab.async false
set_option linter.all false
set_option maxRecDepth 100000
set_option maxHeartbeats 4000000
namespace Eg
open PySem PySem.Spec PyProof.Rows L2
abbrev Du := List ((Nat × Str) × (List T → Sto → R T))
def itemD (x : Str) : Bool := x == ("__getitem__" : Str) || x == ("__setitem__" : Str)
def DuOk (P : Program) (w : World) (K : PySem.W.Frag) (mg : Str → Option Value) (base : Heap) (lv : Nat) (G : Gh) (du : Du) : Prop :=
  ∀ c x F, du.lookup (c, x) = some F → ∃ g j, j + 1 ≤ lv ∧ Meth K (G.cl c) x g ∧ Cal P w K mg base j G [] F g ∧ (itemD x = true → PySem.W.noSeq K (G.cl c) = true ∧ PySem.W.fnIn K g = true)
def duAt (du : Du) (st : Sto) (x : T) (m : Str) : Option (List T → Sto → R T) := (insOf st x).bind fun p => du.lookup (p.1, m)
section
variable {X : Cx} {G : Gh} {W : WX} {lv j : Nat} {cs : List Ci} {du : Du} {fa fb : Env → Sto → R T} {a b e : Expr} {p pos : Pos} {F : List T → Sto → R T} {g C dx : Addr} {fv : List (Str × V)}
end
end Eg
set_option Elab.async false
set_option linter.all false
set_option maxRecDepth 100000
set_option maxHeartbeats 4000000
namespace EgNe
open PySem PySem.Spec PyProof.Rows
section
variable {prog : Program} {w : World} {A : Around} {E : Value → Shared → Prop} {s : Shared} {K : PySem.W.Frag} {x C f L : Addr} {h₀ : Heap} {m : Str → Option Value} {ox : Obj} {od : Option Obj} {b tb : Value}
end
end EgNe
namespace Eg
open PySem PySem.Spec PyProof.Rows L2
def NeOk (K : PySem.W.Frag) (C : Addr) : Prop := PySem.W.findIn K (.ref C) "__ne__" = some (some (.builtin "object.__ne__")) ∧ PySem.W.mroIn K C (.type "object") = some true
section
variable {X : Cx} {G : Gh} {W : WX} {lv j : Nat} {cs : List Ci} {du : Du} {isi : List ((Ty × Tg) × Bool)} {nes : List Nat} {fa fb : Env → Sto → R T} {a b e : Expr} {p pos : Pos} {F : List T → Sto → R T} {g C dx : Addr} {fv : List (Str × V)}
end
end Eg
set_option Elab.async false
set_option linter.all false
set_option maxRecDepth 100000
set_option maxHeartbeats 2000000
namespace Eg
open PySem PySem.Spec PyProof.Rows L2
section
variable {X : Cx} {G : Gh} {W : WX} {fa : Env → Sto → R T}
end
end Eg
set_option Elab.async false
set_option linter.all false
set_option maxRecDepth 100000
set_option maxHeartbeats 2000000
namespace Eg
open PySem PySem.Spec PyProof.Rows L2
section
variable {X : Cx} {G : Gh} {W : WX} {fa fb : Env → Sto → R T} {fs : Env → Sto → R (List T)} {a b e : Expr} {es : List Expr} {p pos apos : Pos} {m : Mm} {H : Hp} {σ : L2.St} {env : Env} {st : Sto} {Q : VK}
end
end Eg
set_option Elab.async false
set_option linter.all false
set_option maxRecDepth 100000
set_option maxHeartbeats 4000000
namespace Eg
open PySem PySem.Spec PyProof.Rows L2
section
variable {X : Cx} {G : Gh} {W : WX} {lv j : Nat} {fa fb : Env → Sto → R T} {fs fk : Env → Sto → R (List T)} {a b e : Expr} {es : List Expr} {kws : List Keyword} {p pos apos : Pos} {x : Str} {m : Str} {kn : List Str} {F : List T → Sto → R T}
def CmOk (P : Program) (w : World) (K : PySem.W.Frag) (mg : Str → Option Value) (base : Heap) (lv : Nat) (G : Gh) (c : Nat) (fn : Fn) : Prop :=
  ∃ mc p g, ClX.CRead K (G.cl c) mc ∧ ClX.CMet K (G.cl c) mc fn.name p g ∧ Cal P w K mg base lv G fn.ks fn.F g
end
end Eg
set_option Elab.async false
set_option linter.all false
set_option maxRecDepth 100000
set_option maxHeartbeats 4000000
namespace Eg
open PySem PySem.Spec PyProof.Rows L2
def keyT : T → Option L2.Key
  | .int i => some (.inl i)
  | .str x => some (.inr x)
  | _ => none
def keysT : List T → Option (List L2.Key)
  | [] => some []
  | t :: ts => match keyT t, keysT ts with
    | some k, some ks => some (k :: ks)
    | _, _ => none
def tkey : T → Option (List L2.Key)
  | .tup xs => keysT xs
  | _ => none
def dicAt (st : Sto) : T → Option (Nat × List (List L2.Key × T))
  | .loc l => match st[l]? with
    | some (.dt kvs) => some (l, kvs)
    | _ => none
  | _ => none
def dget {κ : Type} [DecidableEq κ] (kvs : List (κ × T)) (k : κ) : Option T := (kvs.find? fun p => decide (p.1 = k)).map (·.2)
def dput {κ : Type} [DecidableEq κ] (kvs : List (κ × T)) (k : κ) (v : T) : List (κ × T) :=
  if (kvs.any fun kv => decide (kv.1 = k)) = true then kvs.map (fun kv => if kv.1 = k then (kv.1, v) else kv) else kvs ++ [(k, v)]
section
variable {G : Gh} {m m' : Mm} {H H' : Hp}
mutual
theorem Rp.subA (k : ∀ a, ¬ m.w a → H' a = H a) (w : ∀ a, m'.w a → m.w a) (e : ∃ n, m'.as = m.as ++ n) : ∀ (t : T) (v : V), Rp G m H t v → Rp G m' H' t v
  | .non, _, h => h
  | .bl _, _, h => h
  | .int _, _, h => h
  | .str _, _, h => h
  | .tup xs, _, ⟨a, vs, e1, h, r⟩ => ⟨a, vs, e1, ⟨fun z => h.1 (w a z), by rw [k a h.1]; exact h.2⟩, Rps.subA k w e xs vs r⟩
  | .lst xs, _, ⟨a, vs, e1, h, r⟩ => ⟨a, vs, e1, ⟨fun z => h.1 (w a z), by rw [k a h.1]; exact h.2⟩, Rps.subA k w e xs vs r⟩
  | .obj c xs, _, ⟨a, dx, fv, e1, hn, h, hf, r⟩ => ⟨a, dx, fv, e1, fun z => hn (w a z), by rw [k a hn]; exact h, hf, Rps.subA k w e xs _ r⟩
  | .exc c ts, _, ⟨y, vs, e1, e2, e3, r, q⟩ => ⟨y, vs, e1, e2, e3, Rps.subA k w e ts vs r, q.imp id fun ⟨dx, f, w', h1, h2, h3, h4, h5⟩ => ⟨dx, f, w', h1, h2, fun z => h3 (w dx z), by rw [k dx h3]; exact h4, h5⟩⟩
  | .loc l, _, ⟨a, e1, h⟩ => ⟨a, e1, by
    obtain ⟨n, e⟩ := e
    rw [e, List.getElem?_append_left (List.getElem?_eq_some_iff.mp h).1]; exact h⟩
  | .scr ns, _, ⟨a, e1, h⟩ => ⟨a, e1, by
    rcases h with ⟨hn, h⟩ | h
    · refine .inl ⟨fun z => hn (w a z), ?_⟩
      unfold Rd at h ⊢
      rw [k a hn]
      exact h
    · exact .inr h⟩
  | .cv _, _, h => h
  | .ptp xs, _, ⟨a, vs, e1, ⟨hn, o, h, hd⟩, r⟩ => ⟨a, vs, e1, ⟨fun z => hn (w a z), o, by rw [k a hn]; exact h, hd⟩, Rps.subA k w e xs vs r⟩
  | .edt, _, ⟨a, e1, hn, h⟩ => ⟨a, e1, fun z => hn (w a z), by rw [k a hn]; exact h⟩
theorem Rps.subA (k : ∀ a, ¬ m.w a → H' a = H a) (w : ∀ a, m'.w a → m.w a) (e : ∃ n, m'.as = m.as ++ n) : ∀ (ts : List T) (vs : List V), Rps G m H ts vs → Rps G m' H' ts vs
  | [], _, h => h
  | t :: ts, _, ⟨v, r, e1, h, q⟩ => ⟨v, r, e1, Rp.subA k w e t v h, Rps.subA k w e ts r q⟩
end
theorem RKs.subA {κ : Type} (k : ∀ a, ¬ m.w a → H' a = H a) (w : ∀ a, m'.w a → m.w a) (e : ∃ n, m'.as = m.as ++ n) : ∀ (ts : List (κ × T)) (vs : List (κ × V)), RKs G m H ts vs → RKs G m' H' ts vs
  | [], _, h => h
  | p :: ts, _, ⟨v, r, e1, h, q⟩ => ⟨v, r, e1, Rp.subA k w e p.2 v h, RKs.subA k w e ts r q⟩
theorem RCell.subA {a : Addr} {c : Cell} (k : ∀ a, ¬ m.w a → H' a = H a) (w : ∀ a, m'.w a → m.w a) (e : ∃ n, m'.as = m.as ++ n) (ha : H' a = H a) (h : RCell G m H a c) : RCell G m' H' a c := by
  cases c with
  | lst xs => obtain ⟨vs, e1, r⟩ := h; exact ⟨vs, by rw [ha]; exact e1, Rps.subA k w e xs vs r⟩
  | ins c xs => obtain ⟨dx, fv, e1, e2, e3, r⟩ := h; exact ⟨dx, fv, by rw [ha]; exact e1, e2, e3, Rps.subA k w e xs _ r⟩
  | dt kvs => obtain ⟨vs, e1, r⟩ := h; exact ⟨vs, by rw [ha]; exact e1, RKs.subA k w e kvs vs r⟩
  | dk kvs => obtain ⟨vs, e1, r⟩ := h; exact ⟨vs, by rw [ha]; exact e1, RKs.subA k w e kvs vs r⟩
end
section
variable {G : Gh} {m : Mm} {H : Hp} {st : Sto}
theorem keyT_rp {t : T} {v : V} {k : L2.Key} (e : keyT t = some k) (r : Rp G m H t v) : v = kV k := by
  cases t with
  | int i => cases e; exact r
  | str x => cases e; exact r
  | _ => cases e
theorem keys_rp : ∀ {ts : List T} {vs : List V} {ks : List L2.Key}, keysT ts = some ks → Rps G m H ts vs → vs = ks.map kV
  | [], vs, ks, e, r => by cases e; exact r
  | t :: ts, vs, ks, e, ⟨v, r, e1, h, q⟩ => by
    have e : (match keyT t, keysT ts with
      | some k, some ks => some (k :: ks)
      | _, _ => none) = some ks := e
    cases e2 : keyT t with
    | none => rw [e2] at e; cases e
    | some k =>
      cases e3 : keysT ts with
      | none => rw [e2, e3] at e; cases e
      | some ks' =>
        rw [e2, e3] at e
        cases e
        rw [e1, keyT_rp e2 h, keys_rp e3 q]
        rfl
theorem tkey_at {t : T} {v : V} {ks : List L2.Key} (e : tkey t = some ks) (r : Rp G m H t v) : ∃ b, v = .ref b ∧ H b = some (.tup (ks.map kV)) := by
  cases t with
  | tup xs =>
    obtain ⟨a, vs, rfl, h, q⟩ := r
    have := keys_rp (show keysT xs = some ks from e) q
    subst this
    exact ⟨a, rfl, h.2⟩
  | _ => cases e
theorem dic_at {t : T} {v : V} {l : Nat} {kvs : List (List L2.Key × T)} (s : RSto G m H st) (r : Rp G m H t v) (e : dicAt st t = some (l, kvs)) : ∃ a vs, v = .ref a ∧ m.as[l]? = some a ∧ st[l]? = some (.dt kvs) ∧ H a = some (.dT vs) ∧ RKs G m H kvs vs := by
  cases t with
  | loc k =>
    obtain ⟨a, e1, h⟩ := r
    have e : (match st[k]? with
      | some (.dt kvs) => some (k, kvs)
      | _ => none) = some (l, kvs) := e
    cases e2 : st[k]? with
    | none => rw [e2] at e; cases e
    | some c =>
      cases c with
      | lst ys => rw [e2] at e; cases e
      | ins c ys => rw [e2] at e; cases e
      | dk ys => rw [e2] at e; cases e
      | dt ys =>
        rw [e2] at e
        cases e
        obtain ⟨vs, h1, q⟩ := s.cell _ a _ h e2
        exact ⟨a, vs, e1, h, e2, h1, q⟩
  | _ => cases e
section
variable {κ : Type} [DecidableEq κ]
theorem dget_cons {p : κ × T} {r : List (κ × T)} {k : κ} : dget (p :: r) k = if p.1 = k then some p.2 else dget r k := by
  unfold dget
  rw [List.find?_cons]
  by_cases e : p.1 = k
  · simp [e]
  · simp [e]
theorem rks_val : ∀ {kvs : List (κ × T)} {vs : List (κ × V)} (k : κ), RKs G m H kvs vs → (∀ t, dget kvs k = some t → ∃ v, valV vs k = some v ∧ Rp G m H t v) ∧ (dget kvs k = none → valV vs k = none)
  | [], vs, k, h => by
    cases (show vs = [] from h)
    exact ⟨(fun t e => by cases e), fun _ => rfl⟩
  | p :: kvs, vs, k, ⟨v, s, e, h, q⟩ => by
    subst e
    obtain ⟨i1, i2⟩ := rks_val k q
    rw [dget_cons]
    by_cases c : p.1 = k
    · rw [if_pos c, valV_pos (p := (p.1, v)) c]
      exact ⟨fun t e => ⟨v, rfl, by rw [← Option.some.inj e]; exact h⟩, fun e => by cases e⟩
    · rw [if_neg c, valV_neg (p := (p.1, v)) c]
      exact ⟨i1, i2⟩
theorem dget_any (k : κ) : ∀ kvs : List (κ × T), (kvs.any fun kv => decide (kv.1 = k)) = (dget kvs k).isSome
  | [] => rfl
  | p :: r => by
    rw [List.any_cons, dget_cons]
    by_cases e : p.1 = k
    · simp [e]
    · simp only [e, decide_false, Bool.false_or, if_false]; exact dget_any k r
theorem rks_map {k : κ} {t : T} {v : V} (rt : Rp G m H t v) : ∀ {kvs : List (κ × T)} {vs : List (κ × V)}, RKs G m H kvs vs → RKs G m H (kvs.map fun kv => if kv.1 = k then (kv.1, t) else kv) (vs.map fun kv => if kv.1 = k then (kv.1, v) else kv)
  | [], vs, h => by cases (show vs = [] from h); exact rfl
  | p :: kvs, vs, ⟨w, s, e, h, q⟩ => by
    subst e
    have i := rks_map (k := k) rt q
    rw [List.map_cons, List.map_cons]
    by_cases c : p.1 = k
    · rw [if_pos c, if_pos (show (p.1, w).1 = k from c)]; exact ⟨v, _, rfl, rt, i⟩
    · rw [if_neg c, if_neg (show ¬ (p.1, w).1 = k from c)]; exact ⟨w, _, rfl, h, i⟩
theorem rks_snoc {k : κ} {t : T} {v : V} (rt : Rp G m H t v) : ∀ {kvs : List (κ × T)} {vs : List (κ × V)}, RKs G m H kvs vs → RKs G m H (kvs ++ [(k, t)]) (vs ++ [(k, v)])
  | [], vs, h => by cases (show vs = [] from h); exact ⟨v, [], rfl, rt, rfl⟩
  | p :: kvs, vs, ⟨w, s, e, h, q⟩ => by subst e; exact ⟨w, _, rfl, h, rks_snoc rt q⟩
theorem rks_put {k : κ} {t : T} {v : V} {kvs : List (κ × T)} {vs : List (κ × V)} (h : RKs G m H kvs vs) (rt : Rp G m H t v) : RKs G m H (dput kvs k t) (putK vs k v) := by
  unfold dput putK
  rw [dget_any, valV_any]
  obtain ⟨h1, h2⟩ := rks_val k h
  cases e : dget kvs k with
  | none => rw [h2 e]; exact rks_snoc rt h
  | some t' =>
    obtain ⟨v', e', _⟩ := h1 t' e
    rw [e']
    exact rks_map rt h
end
end
section
variable {X : Cx} {G : Gh} {W : WX} {fa fb : Env → Sto → R T} {a b : Expr} {pos : Pos}
end
end Eg
set_option Elab.async false
set_option linter.all false
set_option maxRecDepth 100000
set_option maxHeartbeats 4000000
namespace Eg
open PySem PySem.Spec PyProof.Rows L2
section
variable {X : Cx} {G : Gh} {W : WX} {fa : Env → Sto → R T} {a : Expr} {p p2 pos pos2 : Pos}
section
variable {P : Program} {w : World} {A : Around} {E : Value → Shared → Prop} {s : Shared}
set_option maxHeartbeats 6400000 in
end
theorem rps_rev {m : Mm} {H : Hp} : ∀ {ts : List T} {vs : List V}, Rps G m H ts vs → Rps G m H ts.reverse vs.reverse
  | [], _, rfl => rfl
  | t :: ts, _, ⟨v, vs, rfl, r, q⟩ => by
    rw [List.reverse_cons, List.reverse_cons]
    exact (rps_rev q).append ⟨v, [], rfl, r, rfl⟩
end
end Eg
set_option Elab.async false
set_option linter.all false
set_option maxRecDepth 100000
set_option maxHeartbeats 4000000
namespace Eg
open PySem PySem.Spec PyProof.Rows L2
def dkAt (st : Sto) : T → Option (Nat × List (L2.Key × T))
  | .loc l => match st[l]? with
    | some (.dk kvs) => some (l, kvs)
    | _ => none
  | _ => none
section
variable {G : Gh} {m m' : Mm} {H H' : Hp} {st : Sto}
theorem dk_at2 {t : T} {v : V} {l : Nat} {kvs : List (L2.Key × T)} (s : RSto G m H st) (r : Rp G m H t v) (e : dkAt st t = some (l, kvs)) : ∃ a vs, v = .ref a ∧ m.as[l]? = some a ∧ H a = some (.dK vs) ∧ RKs G m H kvs vs := by
  cases t with
  | loc k =>
    obtain ⟨a, e1, h⟩ := r
    have e : (match st[k]? with
      | some (.dk kvs) => some (k, kvs)
      | _ => none) = some (l, kvs) := e
    cases e2 : st[k]? with
    | none => rw [e2] at e; cases e
    | some c =>
      cases c with
      | lst ys => rw [e2] at e; cases e
      | ins c ys => rw [e2] at e; cases e
      | dt ys => rw [e2] at e; cases e
      | dk ys =>
        rw [e2] at e
        cases e
        obtain ⟨vs, h1, q⟩ := s.cell _ a _ h e2
        exact ⟨a, vs, e1, h, h1, q⟩
  | _ => cases e
theorem RSto.pushC {o : HO} {cl : Cell} {p : Addr} (s : RSto G m H st) (hp : H p = none) (r : ∀ m', Stp m H m' (L2.upd H p o) → RCell G m' (L2.upd H p o) p cl) :
    RSto G ⟨m.as ++ [p], m.fo⟩ (L2.upd H p o) (st ++ [cl]) ∧ Stp m H ⟨m.as ++ [p], m.fo⟩ (L2.upd H p o) := by
  have hpa : p ∉ m.as := fun z => s.mem z hp
  have S : Stp m H ⟨m.as ++ [p], m.fo⟩ (L2.upd H p o) := ⟨⟨fun b o h _ hn => by rw [upd_ne (ne_of_none h hp)]; exact h, fun _ _ h => upd_some h, fun b h => by
    rcases List.mem_append.mp h with h | h
    · exact .inl h
    · rw [List.mem_singleton.mp h]; exact .inr hp, fun _ h => .inl (.inr h), ⟨[p], rfl⟩⟩, rfl⟩
  refine ⟨⟨?_, fun a h => ?_, by simp [s.len], fun i b c h1 h2 => ?_, fun b h => ?_, (s.fresh hp).tab⟩, S⟩
  · rw [List.nodup_append]
    exact ⟨s.nd, by simp, fun a ha b hb => by rw [List.mem_singleton.mp hb]; exact fun z => hpa (z ▸ ha)⟩
  · rcases List.mem_append.mp h with h | h
    · exact s.fd a h
    · rw [List.mem_singleton.mp h]; exact fun z => s.foS p z hp
  · by_cases hi : i < st.length
    · rw [List.getElem?_append_left (by rw [s.len]; exact hi)] at h1
      rw [List.getElem?_append_left hi] at h2
      exact RCell.mov S.toMov (upd_ne fun z => hpa (z ▸ List.mem_of_getElem? h1)) (s.cell i b c h1 h2)
    · have hi2 : i = st.length := by
        have := (List.getElem?_eq_some_iff.mp h2).1
        simp at this
        omega
      subst hi2
      rw [List.getElem?_append_right (Nat.le_refl _)] at h2
      rw [List.getElem?_append_right (by rw [s.len]; exact Nat.le_refl _)] at h1
      have e1 : p = b := by simpa [s.len] using h1
      have e2 : cl = c := by simpa using h2
      subst e1 e2
      exact r _ S
  · have hne : b ≠ p := fun z => s.foS b h (by rw [z]; exact hp)
    rw [upd_ne hne]
    exact s.foS b h
end
section
variable {X : Cx} {G : Gh} {W : WX} {fa fb : Env → Sto → R T} {a b : Expr} {pos : Pos}
def fEd : Env → Sto → R T := fun _ st => .ok .edt st
theorem s_ed : PE X (.Dict [] [] pos) (tE G W fEd) :=
  PE.imp pe_dnewK fun σ H Q ⟨m, env, st, rs, h⟩ p hp => by
    have S : Stp m H m (L2.upd H p (.dK [])) := Stp.fresh hp
    have hn : ¬ m.w p := fun z => by
      rcases z with z | z
      · exact rs.sto.mem z hp
      · exact rs.sto.foS p z hp
    exact Rn.next (K := Kq Q) (show Rn G W σ env (Rp G) m H (.ok .edt st) (Kq Q) from h) ⟨rs.env.mov S.toMov, rs.sto.fresh hp⟩ S ⟨p, rfl, hn, upd_same⟩
end
end Eg
set_option Elab.async false
set_option linter.all false
set_option maxRecDepth 100000
set_option maxHeartbeats 4000000
namespace Eg
open PySem PySem.Spec PyProof.Rows L2
section
variable {P : Program} {w : World} {A : Around} {s : Shared}
variable {E : Value → Shared → Prop}
set_option maxHeartbeats 6400000 in
set_option maxHeartbeats 6400000 in
end
theorem Rps.strs {G : Gh} {m : Mm} {H : Hp} : ∀ {ts : List T} {vs : List V} {ss : List Str}, Rps G m H ts vs → strsOf ts = some ss → vs = ss.map V.str
  | [], vs, ss, h, e => by cases (show _ = _ from h); cases (show some [] = some ss from e); rfl
  | t :: ts, vs, ss, ⟨v, r, e, h, q⟩, e1 => by
    cases t with
    | str x =>
      cases e2 : strsOf ts with
      | none => simp [strsOf, e2] at e1
      | some ms =>
        have e3 : x :: ms = ss := by simpa [strsOf, e2] using e1
        subst e3 e
        rw [Rps.strs q e2, show v = .str x from h]
        rfl
    | _ => simp [strsOf] at e1
section
variable {X : Cx} {G : Gh} {W : WX} {fa : Env → Sto → R T} {a : Expr} {p p2 pos pos2 : Pos}
end
end Eg
set_option Elab.async false
set_option linter.all false
set_option maxRecDepth 100000
set_option maxHeartbeats 8000000
namespace Eg
open PySem PySem.Spec PyProof.Rows L2 LamX
open PySem.W (dataLe dataLt alike AllAlike Sortable sorted_data sorted_key_data KeyPure)
inductive KF where
  | fst | len
  deriving DecidableEq
section
variable {X : Cx} {G : Gh} {W : WX} {fa : Env → Sto → R T} {a : Expr} {p p2 p3 pos pos2 : Pos} {m : Mm} {H : Hp} {st : Sto}
end
section
variable {P : Program} {w : World} {A : Around} {s : Shared} {q : Str} {prm : Arguments} {body : Expr} {sc : Scope} {pm ctv v : Value} {co f : Addr} {d : PyData} {k : KF} {cl : List (Str × Addr)}
end
section
variable {X : Cx} {G : Gh} {W : WX} {fa : Env → Sto → R T} {a : Expr} {p p2 p3 kp pos pos2 lpos : Pos} {m : Mm} {H : Hp} {st : Sto} {k : KF} {prm : Arguments} {body : Expr} {sc : Scope} {cd tab : Addr} {lv : Nat}
end
end Eg
set_option Elab.async false
set_option linter.all false
set_option maxRecDepth 100000
set_option maxHeartbeats 4000000
namespace Eg
open PySem PySem.Spec PyProof.Rows L2
def fRvT (fa : Env → Sto → R T) : Env → Sto → R T := fun env st => (fa env st).bnd fun x st1 => match x with
  | .tup xs => .ok (.tup xs.reverse) st1
  | _ => .bad
section
variable {prog : Program} {w : World} {A : Around} {E : Value → Shared → Prop} {s : Shared}
theorem adjust_rev (n : Nat) : Builtin.Slice.sliceAdjust none none (-1) (n : Int) = ((n : Int) - 1, -1) := rfl
theorem places_rev (n : Nat) : Builtin.Slice.slicePlaces ((n : Int) - 1) (-1) (-1) = n := by
  unfold Builtin.Slice.slicePlaces
  rw [if_neg (by decide)]
  by_cases h : (n : Int) - 1 > -1
  · rw [if_pos h]
    have : ((n : Int) - 1 - -1 - 1) / (- -1) + 1 = n := by
      rw [show (- -1 : Int) = 1 by decide, Int.ediv_one]; omega
    rw [this]; exact Int.toNat_natCast n
  · rw [if_neg h]; omega
theorem fm_congr {A B : Type} {f g : A → Option B} : ∀ {l : List A}, (∀ a ∈ l, f a = g a) → l.filterMap f = l.filterMap g
  | [], _ => rfl
  | a :: l, h => by rw [List.filterMap_cons, List.filterMap_cons, h a List.mem_cons_self, fm_congr fun b hb => h b (List.mem_cons_of_mem _ hb)]
theorem pick_rev (xs : Array Value) : ((List.range xs.size).filterMap fun (m : Nat) => xs[(((xs.size : Int) - 1) + (m : Int) * (-1)).toNat]?).toArray = xs.toList.reverse.toArray := by
  have e : ((List.range xs.size).filterMap fun (m : Nat) => xs[(((xs.size : Int) - 1) + (m : Int) * (-1)).toNat]?) = ((List.range xs.size).map fun k => xs.size - 1 - k).filterMap (xs[·]?) := by
    rw [List.filterMap_map]
    refine fm_congr fun m hm => ?_
    have := List.mem_range.mp hm
    have : (((xs.size : Int) - 1) + (m : Int) * (-1)).toNat = xs.size - 1 - m := by omega
    rw [this]; rfl
  rw [e, PySem.W.krv_range, List.filterMap_reverse, PySem.W.krv_all]
theorem sliceApplied_rev {sl : Addr} {vl vu vs : Value} {n : Nat} {Q : Int × Int × Nat → Shared → Prop} (hs : s.heap.IsSliceOf sl vl vu vs) (pl : IsPart vl none) (pu : IsPart vu none) (ps : IsPart vs (some (-1)))
    (h : Q ((n : Int) - 1, -1, n) s) : wpAny (model prog w) A (Builtin.Slice.sliceApplied (.ref sl) (pure (n : Int))) Q E s := by
  obtain ⟨os, hos, hcs, hds⟩ := id hs
  unfold Builtin.Slice.sliceApplied Builtin.Slice.sliceFields
  refine wpAny_bind (wpAny_bind (wpAny_field hos hds (x := vl) rfl (wpAny_bind (wpAny_field hos hds (x := vu) rfl (wpAny_bind (wpAny_field hos hds (x := vs) rfl (wpAny_pure ?_)))))))
  refine wpAny_bind (HT.slicePart_ ps ?_)
  show wpAny _ _ (if ((-1 : Int) == 0) = true then _ else _) _ _ s
  rw [if_neg (by decide)]
  refine wpAny_bind (HT.slicePart_ pl (wpAny_bind (HT.slicePart_ pu (wpAny_bind (wpAny_pure ?_)))))
  show wpAny _ _ (match Builtin.Slice.sliceAdjust none none (-1) (n : Int) with | (lo, hi) => pure (lo, (-1 : Int), Builtin.Slice.slicePlaces lo hi (-1))) _ _ s
  rw [adjust_rev n]
  show wpAny _ _ (pure ((n : Int) - 1, (-1 : Int), Builtin.Slice.slicePlaces ((n : Int) - 1) (-1) (-1))) _ _ s
  rw [places_rev]
  exact wpAny_pure h
theorem getItem_tuple_rev {t sl : Addr} {items : Array Value} {vl vu vs : Value} {Q : Value → Shared → Prop} (ht : IsTup s.heap t items) (hs : s.heap.IsSliceOf sl vl vu vs) (pl : IsPart vl none) (pu : IsPart vu none) (ps : IsPart vs (some (-1)))
    (h : Q (.ref s.heap.objs.size) { s with heap := s.heap.push { cls := .type "tuple", data := .seq items.toList.reverse.toArray } })
    (hsz : items.size ≤ sizeLine) : wpAny (model prog w) A (getItem (.ref t) (.ref sl)) Q E s := by
  have htake : sizeOk (.seq items.toList.reverse.toArray) := by
    show items.toList.reverse.toArray.size ≤ sizeLine
    rw [List.size_toArray, List.length_reverse, Array.length_toList]
    exact hsz
  obtain ⟨os, hos, hcs, hds⟩ := id hs
  have hTs : s.TypeIs (.ref sl) "slice" := ⟨os, hos, hcs⟩
  unfold getItem
  try with_reducible refine wpAny_holding ?_
  first | refine wpAny_bind (wpAny_pure ?_) | skip
  refine wpAny_bind (wpAny_sequenceKey ht.typeIs (by decide) ?_)
  refine wpAny_bind (wpAny_callSpecial?_slot (name := Str.ofString "__getitem__") ht.typeIs PyProof.Rows.slot_tuple_getitem
    (wpAny_call_entry PyProof.Rows.slot_tuple_getitem ht.typeIs entry_tuple_getitem ?_ (args_tuple_getitem _ _)))
  show wpAny _ _ (Builtin.Tuple.tupleItemsOf (.ref t) >>= _) _ _ s
  refine wpAny_bind (tupleItemsOf_ ht ?_)
  refine wpAny_bind (wpAny_typeOf hTs ?_)
  rw [if_pos (by decide)]
  refine wpAny_bind (sliceApplied_rev hs pl pu ps ?_)
  have hno : ¬ ((((items.size : Int) - 1) == 0 && (-1 : Int) == 1 && items.size == items.size) = true) := by
    intro q
    rw [Bool.and_eq_true, Bool.and_eq_true] at q
    exact absurd q.1.2 (by decide)
  show wpAny _ _ (if (((items.size : Int) - 1) == 0 && (-1 : Int) == 1 && items.size == items.size) = true then _ else _) _ _ s
  rw [if_neg hno, pick_rev]
  first
    | exact wpAny_bind (m := Builtin.Tuple.tupleExact _) (wpAny_newObj_type (wpAny_pure ⟨_, rfl, wpAny_pure h⟩) htake)
    | exact wpAny_bind (m := Builtin.Tuple.tupleExact _) (wpAny_newObj_type (wpAny_bind (wpAny_pure (wpAny_pure ⟨_, rfl, wpAny_pure h⟩))) htake)
    | exact wpAny_bind (wpAny_bind (m := Builtin.Tuple.tupleExact _) (wpAny_newObj_type (wpAny_pure (wpAny_pure ⟨_, rfl, wpAny_pure h⟩)) htake))
    | exact wpAny_bind (wpAny_bind (m := Builtin.Tuple.tupleExact _) (wpAny_newObj_type (wpAny_pure ⟨_, rfl, wpAny_pure h⟩) htake))
end
section
variable {X : Cx} {G : Gh} {W : WX} {a : Expr} {fa : Env → Sto → R T}
def tRevT (K : PySem.W.Frag) (te : TE) : TE := fun σ H Q => te σ H fun x H1 => ∃ a xs, x = .ref a ∧ SqT K H1 a xs ∧ ∀ p, H1 p = none → Q (.ref p) (upd H1 p (.tup xs.reverse))
theorem pe_revT {e : Expr} {te : TE} {k : Nat} {p1 p2 p3 pos : Pos} (he : PE X e te) : PE X (.Subscript e (.Slice none none (some (.UnaryOp .USub (.Constant (.int 1) k p1) p2)) p3) pos) (tRevT X.K te) := by
  refine ⟨fun pins s σ H Q I h => ?_⟩
  refine Subscript_ (thn (he.run pins s σ H _ I h) fun v s1 ⟨x, H1, I1, r1, q1⟩ => ?_)
  obtain ⟨a, xs, ex, hx, q⟩ := q1
  subst ex
  cases r1
  have hst : PO X (some (.UnaryOp .USub (.Constant (.int 1) k p1) p2)) (tPart (tUn (rU fun i => .int (-i)) (tC (.int 1)))) := po_some (pe_un un_neg pe_int)
  refine wpAny_Slice (thn (po_none.run pins s1 σ H1 (fun o H2 => o = none ∧ H2 = H1) I1 ⟨rfl, rfl⟩) fun vl s2 ⟨l, H2, I2, pl, el, e2⟩ => ?_)
  subst el e2
  refine thn (po_none.run pins s2 σ H2 (fun o H3 => o = none ∧ H3 = H2) I2 ⟨rfl, rfl⟩) fun vu s3 ⟨u, H3, I3, pu, eu, e3⟩ => ?_
  subst eu e3
  refine thn (hst.run pins s3 σ H3 (fun o H4 => o = some (-1) ∧ H4 = H3) I3 ⟨1, rfl, -1, rfl, rfl, rfl⟩) fun vs s4 ⟨o, H4, I4, ps, eo, e4⟩ => ?_
  subst eo e4
  have I5 : Inv X pins σ H4 { s4 with heap := s4.heap.push { cls := .type "slice", data := .fields #[vl, vu, vs] } } := I4.kept (t' := s4.toks) fun b ob q => Heap.get?_push_of_some _ q
  obtain ⟨its, r, ht, hz⟩ := I5.tuple hx
  have hlen := r.length
  show wpAny (model X.prog X.w) X.A (subscriptTail e (.Slice none none (some (.UnaryOp .USub (.Constant (.int 1) k p1) p2)) p3) (.ref a) (.ref s4.heap.objs.size)) (EP X pins σ Q) X.xe { s4 with heap := s4.heap.push { cls := .type "slice", data := .fields #[vl, vu, vs] } }
  refine tail_any (ops := [.ref a, .ref s4.heap.objs.size]) ht.typeIs (PyProof.Rows.slot_tuple_getitem.lookup) ?_ (by with_unfolding_all rfl)
  refine getItem_tuple_rev ht (Heap.IsSliceOf.new _ vl vu vs) pl pu ps ?_ (by rw [List.size_toArray]; omega)
  refine ⟨.ref _, _, I5.laid (t' := s4.toks) (o := .tup xs.reverse) (fun b ob q => Heap.get?_push_of_some _ q) (Nat.le_refl _) ?_, rfl, q _ (I5.hok.fresh (Nat.le_refl _))⟩
  exact ⟨by rw [List.length_reverse]; exact hz, _, r.reverse, IsTup.new _ _⟩
theorem s_rvt {k : Nat} {p1 p2 p3 pos : Pos} (hK : X.K = G.K) (ha : PE X a (tE G W fa)) : PE X (.Subscript a (.Slice none none (some (.UnaryOp .USub (.Constant (.int 1) k p1) p2)) p3) pos) (tE G W (fRvT fa)) := by
  refine PE.imp (pe_revT ha) fun σ H Q h => ?_
  rw [hK]
  show tE G W fa σ H fun x H1 => ∃ a xs, x = .ref a ∧ SqT G.K H1 a xs ∧ ∀ p, H1 p = none → Q (.ref p) (upd H1 p (.tup xs.reverse))
  refine at1 h fun m env st t v H1 rs r q => ?_
  cases t with
  | tup xs =>
    obtain ⟨p, vs, rfl, hp, rq⟩ := r
    exact ⟨p, vs, rfl, .inl (.inl hp.2), fun n hn => Rn.tup q rs (rps_rev rq) hn⟩
  | _ => exact q.elim
end
end Eg
set_option Elab.async false
set_option linter.all false
set_option maxRecDepth 100000
set_option maxHeartbeats 4000000
namespace Eg
open PySem PySem.Spec PyProof.Rows L2
def oputR (du : Du) (v x y : T) (env : Env) (st : Sto) : O := match duAt du st x "__setitem__" with
  | some F => (F [x, y, v] st).go env fun _ st2 => .nx env st2
  | none => .bad
def fOput (du : Du) (fo fi fv : Env → Sto → R T) : Fs := fun env st => (fv env st).go env fun v st1 => (fo env st1).go env fun x st2 => (fi env st2).go env fun y st3 => oputR du v x y env st3
section
variable {G : Gh} {m : Mm} {H : Hp}
end
section
variable {X : Cx} {G : Gh} {W : WX} {lv : Nat} {du : Du} {fa fb : Env → Sto → R T} {a b e : Expr} {pos : Pos}
theorem run_duW {A : Around} {pins : List (Addr × Obj)} {σ : L2.St} {H : Hp} {s : Shared} {Q : VK} {us : List Value} {vs : List V} {j : Nat} {F : List T → Sto → R T} {g : Addr} (tk : Takes X W) (c : Cal X.prog X.w X.K X.mg X.base j G [] F g) (hr : Room j A) (hg : A.guards = some [])
    (e0 : Env0 X.prog X.w X.K X.mg X.base A X.stack s H) (I : Inv X pins σ H s) (r : Vals vs us) (q : Spec G F vs H Q (WE W σ)) : wpAny (model X.prog X.w) A (call (.ref g) us) (EP X pins σ Q) X.xe s := by
  refine wpAny_call (codeAny_mono (c A X.stack s H us [] vs [] Q _ hr hg e0 r .nil rfl (by rw [List.append_nil]; exact q)) fun r s2 hr2 => ?_)
  match r, hr2 with
  | .error e, hr2 => exact passAt tk σ pins H s e s2 I hr2
  | .ok (.ret u), hr2 => exact I.after hr2
  | .ok .next, hr2 => exact hr2.elim
  | .ok .brk, hr2 => exact hr2.elim
  | .ok .cont, hr2 => exact hr2.elim
theorem S_oput {fo fi fv : Env → Sto → R T} {o i value : Expr} {pos' : Pos} (hdu : DuOk X.prog X.w X.K X.mg X.base lv G du) (hr : Room (lv + 1) X.A) (hG : X.A.guards = some []) (tk : Takes X W) (ho : PE X o (tE G W fo)) (hi : PE X i (tE G W fi)) (hv : PE X value (tE G W fv))
    (hs : swapsWith value (some (.Subscript o i pos')) pos.line X.env = pure false) : PS X (.Assign [.Subscript o i pos'] value pos) (tS G W (fOput du fo fi fv)) := by
  refine ⟨fun pins s σ H D I ⟨m, env, st, rs, h⟩ => ?_⟩
  have h2 : tE G W fv σ H fun vv H1 => tE G W fo σ H1 fun xv H2 => tE G W fi σ H2 fun yv H3 => ∃ (p : Addr) (dx : Addr) (C : Addr) (fvs : List (Str × V)) (g : Addr) (F : List T → Sto → R T) (j : Nat), xv = .ref p ∧ H3 p = some (.ins C dx fvs) ∧ Meth X.K C "__setitem__" g ∧ j + 1 ≤ lv ∧
      Cal X.prog X.w X.K X.mg X.base j G [] F g ∧ PySem.W.noSeq X.K C = true ∧ Spec G F [xv, yv, vv] H3 (fun _ H4 => D.nx σ H4) (WE W σ) := by
    refine ⟨m, env, st, rs, (Out.go h).imp fun v st1 vv H1 m1 rs1 S1 r1 h => ⟨m1, env, st1, rs1, (Out.go h).imp fun x st2 xv H2 m2 rs2 S2 r2 h => ⟨m2, env, st2, rs2, (Out.go h).imp fun y st3 yv H3 m3 rs3 S3 r3 h => ?_⟩⟩⟩
    unfold oputR at h
    cases e : duAt du st3 x "__setitem__" with
    | none => rw [e] at h; exact h.elim
    | some F =>
      rw [e] at h
      have r2' := Rp.mov S3.toMov _ _ r2
      have r1' := Rp.mov (S2.trans S3).toMov _ _ r1
      obtain ⟨⟨c, vs⟩, e1, e2⟩ := Option.bind_eq_some_iff.mp e
      obtain ⟨g, j, hj, hme, cal, hi⟩ := hdu c _ F e2
      obtain ⟨p, dx, fvs, rfl, hH, _, _⟩ := ins_at rs3.sto r2' e1
      exact ⟨p, dx, _, fvs, g, F, j, rfl, hH, hme, hj, cal, (hi rfl).1, spec_of (ts := [x, y, v]) rs3 ⟨.ref p, [yv, vv], rfl, r2', yv, [vv], rfl, r3, vv, [], rfl, r1', rfl⟩
        ((Out.go h).imp fun t st4 w H4 m4 rs4 S4 r4 z => z σ H4 m4 rs4 (Stp.refl m4 H4))⟩
  refine wpAny_Assign_Subscript (thn (hv.run pins s σ H _ I h2) fun r s1 ⟨v, H1, I1, rv, q1⟩ => thn (ho.run pins s1 σ H1 _ I1 q1) fun u s2 ⟨x, H2, I2, rx, q2⟩ => thn (hi.run pins s2 σ H2 _ I2 q2) fun iv s3 ⟨y, H3, I3, ry, p, dx, C, fvs, g, F, j, ex, ea, hm, hj, cal, hq, sp⟩ => ?_) hs
  subst ex
  obtain rfl : u = Value.ref p := rx
  obtain ⟨mA, O, _⟩ := ins_get I3.hok ea
  obtain ⟨od, J, _⟩ := O.look
  obtain ⟨m', hF⟩ := I3.fr
  exact PySem.W.ksp_setItem hF I3.ok.mod.kin J hq hm.at_ hm.fn (wpAny_mono (run_duW (us := [.ref p, iv, r]) (vs := [.ref p, y, v]) tk cal (hr.mono (by omega : j ≤ lv + 1)) hG I3.env0 I3 (.cons rfl (.cons ry (.cons rv .nil))) sp) (fun _ s4 ⟨_, H4, I4, _, q⟩ => ⟨σ, H4, I4, q⟩) fun _ _ z => z)
end
end Eg
set_option Elab.async false
set_option linter.all false
set_option maxRecDepth 100000
set_option maxHeartbeats 4000000
namespace Eg
open PySem PySem.Spec PyProof.Rows L2
mutual
inductive IE where
  | never
  | k (c : T)
  | v (i : Nat)
  | g (j : Nat)
  | bin (op : Operator) (a b : IE)
  | neg (a : IE)
  | not (a : IE)
  | cmp (op : CmpOp) (a b : IE)
  | isN (n : Bool) (a : IE)
  | chain (o1 o2 : CmpOp) (a b c : IE)
  | and (a b : IE)
  | or (a b : IE)
  | ite (c a b : IE)
  | tup (es : IEs)
  | ix (a b : IE)
  | sl (a : IE) (lo hi : IO)
  | fz (l : IL)
  | new (l : IL)
  | call (f : Nat) (es ks : IEs)
  | bi (b : Bi) (es : IEs)
  | mu (o : Mu) (a : IE) (es : IEs)
  | str (a : IE)
  | repr (a : IE)
  | attr (f : Str) (a : IE)
  | isi (g : Tg) (a : IE)
  | hcall (f : Nat) (es : IEs)
  | xat (f : Str) (a : IE)
  | isx (g : Tg) (a : IE)
  | told (f : Nat) (b : IE)
  | lk (n : Bool) (a : IE) (es : IEs)
  | rvt (a : IE)
  | ed
  | eqz (a b : IE)
inductive IL where
  | lst (es : IEs)
  | lc (own : List Nat) (e : IE) (g : IG) (it : II) (c : IO)
  | lc2 (own vs1 : List Nat) (e : IE) (g : IG) (it : II) (c : IO) (g1 : IG) (it1 : II) (c1 : IO)
  | cat (a b : IE)
  | list (a : IE)
  | sl (a : IE) (lo hi : IO)
inductive IEs where
  | nil | cons (e : IE) (es : IEs)
inductive IO where
  | none | some (e : IE)
inductive II where
  | seq (e : IE) | rng1 (a : IE) | rng2 (a b : IE) | enum (e : IE) | zip (a b : IE)
end
def fNever : Env → Sto → R T := fun _ _ => .bad
def fK (c : T) : Env → Sto → R T := fun _ st => .ok c st
def fGl (tb : Tab) (j : Nat) : Env → Sto → R T := fun _ st => match tb.cons[j]? with
  | some p => .ok p.2 st
  | none => .bad
def fBin (op : Operator) (fa fb : Env → Sto → R T) : Env → Sto → R T := fun env st => (fa env st).bnd fun x st1 => (fb env st1).bnd fun y st2 => R.opt (binT op x y) st2
def fNeg (fa : Env → Sto → R T) : Env → Sto → R T := fun env st => (fa env st).bnd fun x st1 => match x with
  | .int i => .ok (.int (-i)) st1
  | _ => .bad
def fCmp (op : CmpOp) (fa fb : Env → Sto → R T) : Env → Sto → R T := fun env st => (fa env st).bnd fun x st1 => (fb env st1).bnd fun y st2 => R.opt ((cmpT st2 op x y).map .bl) st2
def fIsN (n : Bool) (fa : Env → Sto → R T) : Env → Sto → R T := fun env st => (fa env st).bnd fun x st1 => .ok (.bl (isNn n x)) st1
def fTup (fs : Env → Sto → R (List T)) : Env → Sto → R T := fun env st => (fs env st).bnd fun xs st1 => if xs.length ≤ lim then .ok (.tup xs) st1 else .bad
def fIx (fa fb : Env → Sto → R T) : Env → Sto → R T := fun env st => (fa env st).bnd fun x st1 => (fb env st1).bnd fun y st2 => R.opt (ixT st2 x y) st2
def fSl (fa : Env → Sto → R T) (fl fh : Env → Sto → R (Option Int)) : Env → Sto → R T := fun env st => (fa env st).bnd fun x st1 => (fl env st1).bnd fun l st2 => (fh env st2).bnd fun u st3 => match x with
  | .tup xs => .ok (.tup (cut xs l u)) st3
  | .str z => if z.length ≤ lim then .ok (.str (cutS z l u)) st3 else .bad
  | _ => .bad
def fFz (fl : Env → Sto → R (List T)) : Env → Sto → R T := fun env st => (fl env st).bnd fun xs st1 => .ok (.lst xs) st1
def fFn (o : Option Fn) (fs fk : Env → Sto → R (List T)) : Env → Sto → R T := fun env st => match o with
  | some fn => (fs env st).bnd fun xs st1 => (fk env st1).bnd fun ys st2 => if ys.length = fn.ks.length then fn.F (xs ++ ys) st2 else .bad
  | none => .bad
def fHc (o : Option Fn) (fs : Env → Sto → R (List T)) : Env → Sto → R T := match o with
  | some fn => fCall fn.F fs
  | none => fNever
def fTd (o : Option Hd) (fb : Env → Sto → R T) : Env → Sto → R T := match o with
  | some h => fTold h.FT fb
  | none => fNever
def fBi (b : Bi) (fs : Env → Sto → R (List T)) : Env → Sto → R T := fun env st => (fs env st).bnd fun xs st1 => R.opt (biT st1 b xs) st1
def fNil : Env → Sto → R (List T) := fun _ st => .ok [] st
def Z11 (fa : Env → Sto → R T) (fs : Env → Sto → R (List T)) : Env → Sto → R (List T) := fun env st => (fa env st).bnd fun x st1 => (fs env st1).bnd fun xs st2 => .ok (x :: xs) st2
def fNo' : Env → Sto → R (Option Int) := fun _ st => .ok none st
def fSo (fa : Env → Sto → R T) : Env → Sto → R (Option Int) := fun env st => (fa env st).bnd fun x st1 => match x with
  | .int i => .ok (some i) st1
  | _ => .bad
mutual
def IE.ev (tb : Tab) : IE → Env → Sto → R T
  | .never => fNever
  | .k c => fK c
  | .v i => evV i
  | .g j => fGl tb j
  | .bin op a b => fBin op (a.ev tb) (b.ev tb)
  | .neg a => fNeg (a.ev tb)
  | .not a => fNot (a.ev tb)
  | .cmp op a b => fCmp op (a.ev tb) (b.ev tb)
  | .isN n a => fIsN n (a.ev tb)
  | .chain o1 o2 a b c => fChain o1 o2 (a.ev tb) (b.ev tb) (c.ev tb)
  | .and a b => fAnd (a.ev tb) (b.ev tb)
  | .or a b => fOr (a.ev tb) (b.ev tb)
  | .ite c a b => fIte (c.ev tb) (a.ev tb) (b.ev tb)
  | .tup es => fTup (es.ev tb)
  | .ix a b => fIx (a.ev tb) (b.ev tb)
  | .sl a lo hi => fSl (a.ev tb) (lo.ev tb) (hi.ev tb)
  | .fz l => fFz (l.ev tb)
  | .new l => fNew (l.ev tb)
  | .call f es ks => fFn tb.funs[f]? (es.ev tb) (ks.ev tb)
  | .bi b es => fBi b (es.ev tb)
  | .mu o a es => fMu o (a.ev tb) (es.ev tb)
  | .str a => fStr (a.ev tb)
  | .repr a => fRepr (a.ev tb)
  | .attr f a => fAttr tb.cls f (a.ev tb)
  | .isi g a => fIsi tb.cls.length tb.isi g (a.ev tb)
  | .hcall f es => fHc tb.hfuns[f]? (es.ev tb)
  | .xat f a => fXat tb.xfl f (a.ev tb)
  | .isx g a => fIsx tb.xis g (a.ev tb)
  | .told f b => fTd tb.hds[f]? (b.ev tb)
  | .lk n a es => fLk n (a.ev tb) (es.ev tb)
  | .rvt a => fRvT (a.ev tb)
  | .ed => fEd
  | .eqz a b => fEqz (a.ev tb) (b.ev tb)
def IL.ev (tb : Tab) : IL → Env → Sto → R (List T)
  | .lst es => fDl (es.ev tb)
  | .lc own e g it c => fLc own (e.ev tb) g (it.ev tb) (c.test tb)
  | .lc2 own vs1 e g it c g1 it1 c1 => fLc2 own vs1 (e.ev tb) g (it.ev tb) (c.test tb) g1 (it1.ev tb) (c1.test tb)
  | .cat a b => fCat (a.ev tb) (b.ev tb)
  | .list a => fLi (a.ev tb)
  | .sl a lo hi => fSlL (a.ev tb) (lo.ev tb) (hi.ev tb)
def IEs.ev (tb : Tab) : IEs → Env → Sto → R (List T)
  | .nil => fNil
  | .cons e es => Z11 (e.ev tb) (es.ev tb)
def IEs.js (tb : Tab) : IEs → Str → Env → Sto → R T
  | .nil, acc => fun _ st => .ok (.str acc) st
  | .cons e es, acc => fun env st => (e.ev tb env st).bnd fun x st1 => match x with
    | .str y => if (acc ++ y).length ≤ lim then es.js tb (acc ++ y) env st1 else .bad
    | _ => .bad
def IO.ev (tb : Tab) : IO → Env → Sto → R (Option Int)
  | .none => fNo'
  | .some e => fSo (e.ev tb)
def IO.test (tb : Tab) : IO → Env → Sto → R Bool
  | .none => fYes
  | .some e => fTst (e.ev tb)
def II.ev (tb : Tab) : II → Env → Sto → R (List T)
  | .seq e => fSeq (e.ev tb)
  | .rng1 a => fRg1 (a.ev tb)
  | .rng2 a b => fRg2 (a.ev tb) (b.ev tb)
  | .enum e => fEn (e.ev tb)
  | .zip a b => fPr (a.ev tb) (b.ev tb)
end
def kC : T → Const → Bool
  | .non, .none => true
  | .bl b, .bool c => b == c
  | .int i, .int j => decide (i = j)
  | .str x, .str y => decide (x = y)
  | _, _ => false
def glC (c : CC) (x : Str) : Bool := match c.sc.names.lookup x with
  | some .globalImplicit => !(x == ("__debug__" : Str)) && !(x == ("__name__" : Str))
  | _ => false
def plIx : Expr → Bool
  | .Slice .. => false
  | _ => true
def notStar : Expr → Bool
  | .Starred .. => false
  | _ => true
def notSet : Expr → Bool
  | .Set .. => false
  | _ => true
def plO : Expr → Bool
  | .Call (.Name _ _) [] [] _ => false
  | _ => true
def IE.tst : IE → Bool
  | .not a => a.tst
  | .and a b => a.tst && b.tst
  | .or a b => a.tst && b.tst
  | .ite _ _ _ => false
  | .never => false
  | .ed => false
  | _ => true
def tgC (c : CC) (tb : Tab) (g : Tg) (x : Str) : Bool := glC c x && decide (tb.tgs.lookup x = some g)
def ksC (kn : List Str) (kws : List Keyword) : Bool := decide (kws.map (·.arg) = kn.map some)
def blkCC (c : CC) (scope : Scope) : CC := ⟨c.N, relS scope c.sc, fun x => scope.names.lookup x == some .cell, c.hot, false⟩
def lamCC (c : CC) (scope : Scope) : CC := ⟨c.N, scope, fun _ => false, false, false⟩
def noPrm : Arguments → Bool
  | ⟨[], [], none, [], [], none, []⟩ => true
  | _ => false
def ownP (c : CC) (own : List Nat) : List (Str × Nat) := own.filterMap fun i => c.N[i]?.map fun x => (x, i)
mutual
def chkE (c : CC) (tb : Tab) : IE → Expr → Bool
  | .never, _ => true
  | .k t, e => match e with
    | .Constant q _ _ => kC t q
    | _ => false
  | .v i, e => match e with
    | .Name x _ => visC c i x
    | _ => false
  | .g j, e => match e with
    | .Name x _ => glC c x && decide (tb.cons[j]?.map (·.1) = some x)
    | _ => false
  | .bin op a b, e => match e with
    | .BinOp x o y _ => decide (o = op) && chkE c tb a x && chkE c tb b y
    | _ => false
  | .neg a, e => match e with
    | .UnaryOp o x _ => decide (o = .USub) && chkE c tb a x
    | _ => false
  | .not a, e => match e with
    | .UnaryOp o x _ => decide (o = .Not) && a.tst && chkE c tb a x
    | _ => false
  | .cmp op a b, e => match e with
    | .Compare x [o] [y] _ => decide (o = op) && !behindInMarks op y && chkE c tb a x && chkE c tb b y
    | _ => false
  | .isN n a, e => match e with
    | .Compare x [o] [.Constant .none _ _] _ => decide (o = if n then .IsNot else .Is) && chkE c tb a x
    | _ => false
  | .chain o1 o2 a b d, e => match e with
    | .Compare x [p1, p2] [y, z] _ => decide (p1 = o1) && decide (p2 = o2) && !lastMarks [o1, o2] [y, z] && chkE c tb a x && chkE c tb b y && chkE c tb d z
    | _ => false
  | .and a b, e => match e with
    | .BoolOp .And (x :: y :: r) p => a.tst && b.tst && chkE c tb a x && chkE c tb b (match r with
      | [] => y
      | _ :: _ => .BoolOp .And (y :: r) p)
    | _ => false
  | .or a b, e => match e with
    | .BoolOp .Or (x :: y :: r) p => a.tst && b.tst && chkE c tb a x && chkE c tb b (match r with
      | [] => y
      | _ :: _ => .BoolOp .Or (y :: r) p)
    | _ => false
  | .ite d a b, e => match e with
    | .IfExp z x y _ => d.tst && chkE c tb d z && chkE c tb a x && chkE c tb b y
    | _ => false
  | .tup es, e => match e with
    | .Tuple xs _ _ => chkEs c tb es xs
    | _ => false
  | .ix a b, e => match e with
    | .Subscript x y _ => plIx y && chkE c tb a x && chkE c tb b y
    | _ => false
  | .sl a lo hi, e => match e with
    | .Subscript x (.Slice l h none _) _ => chkE c tb a x && chkO c tb lo l && chkO c tb hi h
    | _ => false
  | .fz l, e => chkL c tb l e
  | .new l, e => chkL c tb l e
  | .call f es ks, e => match e with
    | .Call (.Name x _) xs kws _ => glC c x && (match tb.funs[f]? with
      | some fn => decide (fn.name = x) && ksC fn.ks kws
      | none => false) && chkEs c tb es xs && chkK c tb ks kws && cold c
    | _ => false
  | .bi b es, e => match e with
    | .Call (.Name x _) (y :: xs) [] _ => decide (x = biName b) && glC c x && chkEs c tb es (y :: xs) && cold c
    | _ => false
  | .mu o a es, e => match e with
    | .Call (.Attribute x m ap) (y :: xs) [] p => decide (o ≠ .pop) && decide (m = muName o) && (ap.endLine == p.line) && plO x && decide (xs.length < 20) && chkE c tb a x && chkEs c tb es (y :: xs)
    | .Call (.Attribute x m ap) [] [] p => decide (o = .pop) && decide (m = muName o) && (ap.endLine == p.line) && plO x && chkE c tb a x && (match es with
      | .nil => true
      | _ => false)
    | _ => false
  | .str a, e => match e with
    | .Call (.Name x _) [y] [] _ => decide (x = "str") && glC c x && notStar y && chkE c tb a y
    | _ => false
  | .repr a, e => match e with
    | .Call (.Name x _) [y] [] _ => decide (x = "repr") && glC c x && notStar y && chkE c tb a y
    | _ => false
  | .attr f a, e => match e with
    | .Attribute x m _ => decide (m = f) && plO x && chkE c tb a x && cold c
    | _ => false
  | .isi g a, e => match e with
    | .Call (.Name x _) [y, .Name z _] [] _ => decide (x = "isinstance") && glC c x && tgC c tb g z && notStar y && chkE c tb a y
    | _ => false
  | .hcall f es, e => match e with
    | .Call (.Name x _) (y :: xs) [] _ => glC c x && c.hot && (match tb.hfuns[f]? with
      | some fn => decide (fn.name = x)
      | none => false) && chkEs c tb es (y :: xs)
    | _ => false
  | .xat f a, e => match e with
    | .Attribute x m _ => decide (m = f) && plO x && chkE c tb a x
    | _ => false
  | .isx g a, e => match e with
    | .Call (.Name x _) [y, .Name z _] [] _ => decide (x = "isinstance") && glC c x && tgC c tb g z && notStar y && chkE c tb a y
    | _ => false
  | .told f b, e => match e with
    | .Call (.Name x _) [.Lambda prm d scope _] [] _ => glC c x && c.lam && cold c && (match tb.hds[f]? with
      | some h => decide (h.name = x)
      | none => false) && noPrm prm && LamX.lamSB c.sc scope && chkE (lamCC c scope) tb b d
    | _ => false
  | .lk n a es, e => match e with
    | .Call (.Attribute x m ap) (y :: xs) [] p => decide (m = lkName n) && (ap.endLine == p.line) && plO x && decide (xs.length < 20) && chkE c tb a x && chkEs c tb es (y :: xs)
    | _ => false
  | .ed, e => match e with
    | .Dict [] [] _ => true
    | _ => false
  | .eqz a b, e => match e with
    | .Compare x [p] [y] _ => decide (p = .Eq) && !behindInMarks .Eq y && chkE c tb a x && chkE c tb b y
    | _ => false
  | .rvt a, e => match e with
    | .Subscript x (.Slice none none (some (.UnaryOp .USub (.Constant (.int 1) _ _) _)) _) _ => chkE c tb a x
    | _ => false
def chkL (c : CC) (tb : Tab) : IL → Expr → Bool
  | .lst es, e => match e with
    | .List xs _ => chkEs c tb es xs
    | _ => false
  | .lc own d g it t, e => match e with
    | .ListComp elt [⟨tg, iter, ifs, 0⟩] scope _ => chkI c tb it tg iter && blkC c.N c.sc scope (ownP c own) && decide ((ownP c own).map (·.2) = own) && decide (∀ i, i ∈ g.slots → i ∈ own) && notSet iter &&
        chkG (blkCC c scope) g tg && chkE (blkCC c scope) tb d elt && chkIf (blkCC c scope) tb t ifs && cold c
    | _ => false
  | .lc2 own vs1 d g it t g1 it1 t1, e => match e with
    | .ListComp elt [⟨tg, iter, ifs, 0⟩, ⟨tg1, iter1, ifs1, 0⟩] scope _ => chkI c tb it tg iter && blkC c.N c.sc scope (ownP c own) && decide ((ownP c own).map (·.2) = own) && decide (∀ i, i ∈ g.slots → i ∈ own) && decide (∀ i, i ∈ g1.slots → i ∈ vs1) && decide (∀ i, i ∈ vs1 → i ∈ own) && notSet iter && notSet iter1 &&
        chkG (blkCC c scope) g tg && chkE (blkCC c scope) tb d elt && chkIf (blkCC c scope) tb t ifs && chkI (blkCC c scope) tb it1 tg1 iter1 && chkG (blkCC c scope) g1 tg1 && chkIf (blkCC c scope) tb t1 ifs1 && cold c
    | _ => false
  | .cat a b, e => match e with
    | .BinOp x o y _ => decide (o = .Add) && chkE c tb a x && chkE c tb b y
    | _ => false
  | .list a, e => match e with
    | .Call (.Name x _) [y] [] _ => decide (x = "list") && glC c x && notStar y && chkE c tb a y
    | _ => false
  | .sl a lo hi, e => match e with
    | .Subscript x (.Slice l h none _) _ => chkE c tb a x && chkO c tb lo l && chkO c tb hi h
    | _ => false
def chkEs (c : CC) (tb : Tab) : IEs → List Expr → Bool
  | .nil, xs => match xs with
    | [] => true
    | _ => false
  | .cons e es, xs => match xs with
    | x :: r => notStar x && chkE c tb e x && chkEs c tb es r
    | _ => false
def chkK (c : CC) (tb : Tab) : IEs → List Keyword → Bool
  | .nil, xs => match xs with
    | [] => true
    | _ => false
  | .cons e es, xs => match xs with
    | ⟨_, x, _⟩ :: r => chkE c tb e x && chkK c tb es r
    | _ => false
def chkO (c : CC) (tb : Tab) : IO → Option Expr → Bool
  | .none, o => match o with
    | .none => true
    | _ => false
  | .some e, o => match o with
    | .some x => chkE c tb e x
    | _ => false
def chkIf (c : CC) (tb : Tab) : IO → List Expr → Bool
  | .none, o => match o with
    | [] => true
    | _ => false
  | .some e, o => match o with
    | [x] => e.tst && chkE c tb e x
    | _ => false
def chkI (c : CC) (tb : Tab) : II → Expr → Expr → Bool
  | .seq d, _, e => chkE c tb d e
  | .rng1 a, _, e => match e with
    | .Call (.Name x _) [y] [] _ => decide (x = "range") && glC c x && notStar y && chkE c tb a y
    | _ => false
  | .rng2 a b, _, e => match e with
    | .Call (.Name x _) [y, z] [] _ => decide (x = "range") && glC c x && notStar y && notStar z && chkE c tb a y && chkE c tb b z
    | _ => false
  | .enum d, tg, e => match tg, e with
    | .Tuple _ _ _, .Call (.Name x _) [y] [] _ => decide (x = "enumerate") && glC c x && notStar y && chkE c tb d y
    | _, _ => false
  | .zip a b, tg, e => match tg, e with
    | .Tuple _ _ _, .Call (.Name x _) [y, z] [] _ => decide (x = "zip") && glC c x && notStar y && notStar z && chkE c tb a y && chkE c tb b z
    | _, _ => false
end
end Eg
set_option Elab.async false
set_option linter.all false
set_option maxRecDepth 100000
set_option maxHeartbeats 4000000
namespace Eg
open PySem PySem.Spec PyProof.Rows L2
def plainNames : List Str := ["len", "sum", "max", "min", "abs", "int", "tuple", "all", "any", "divmod", "list", "range", "enumerate", "zip", "str", "repr", "isinstance", "bool", "sorted", "set", "dict"]
structure TabOk (P : Program) (w : World) (K : PySem.W.Frag) (mg : Str → Option Value) (base : Heap) (lv : Nat) (G : Gh) (tb : Tab) : Prop where
  no : ∀ x, x ∈ plainNames → mg x = none
  cons : ∀ (j : Nat) p, tb.cons[j]? = some p → ∃ u v, mg p.1 = some u ∧ RelV v u ∧ kT p.2 = some v
  funs : ∀ (j : Nat) fn, tb.funs[j]? = some fn → ∃ f, mg fn.name = some (.ref f) ∧ PySem.W.keepIn K (.ref f) = true ∧ Cal P w K mg base lv G fn.ks fn.F f
  cls : ∀ (k : Nat) ci, tb.cls[k]? = some ci → ClsOk P w K mg base lv G k ci
  isi : ∀ ty g k, tb.isi.lookup (ty, g) = some k → PySem.W.kitOne K (tyVal G ty) (tgVal G g) = some k
  hfuns : ∀ (j : Nat) fn, tb.hfuns[j]? = some fn → ∃ f, mg fn.name = some (.ref f) ∧ PySem.W.keepIn K (.ref f) = true ∧ HCal P w K mg base lv G fn.F f
  xis : ∀ c g k, tb.xis.lookup (c, g) = some k → ExcC K (G.cl c) ∧ PySem.W.kitOne K (.ref (G.cl c)) (tgVal G g) = some k
  xfl : ∀ c f, tb.xfl.lookup c = some f → XfC K (G.cl c) ∧ PySem.W.findIn K (.ref (G.cl c)) f = some none ∧ G.fl c = [f]
  xcs : ∀ c f, tb.xcs.lookup c = some f → XcAny P w K mg base lv G c f
  hds : ∀ (j : Nat) h, tb.hds[j]? = some h → ∃ f, mg h.name = some (.ref f) ∧ PySem.W.keepIn K (.ref f) = true ∧ TCal P w K mg base (lv + 1) G h.FT f
  dun : DuOk P w K mg base lv G tb.dun
  nes : ∀ c, c ∈ tb.nes → NeOk K (G.cl c)
  cmf : ∀ (j : Nat) q, tb.cmf[j]? = some q → CmOk P w K mg base lv G q.1 q.2
  tgs : ∀ x g, tb.tgs.lookup x = some g → (∃ n, g = .ty n ∧ mg x = none ∧ bootBuiltins x = some (.type n)) ∨ (∃ k, g = .cls k ∧ mg x = some (.ref (G.cl k)))
theorem TabOk.hotT {P : Program} {w : World} {K : PySem.W.Frag} {mg : Str → Option Value} {base : Heap} {lv : Nat} {G : Gh} {tb : Tab} (t : TabOk P w K mg base lv G tb) (y : XA) : TabOk P w K mg base lv { G with xa := some y } tb.hot where
  no := t.no
  cons := t.cons
  funs := fun j fn e => by have e : ([] : List Fn)[j]? = some fn := e; simp at e
  cls := fun k ci e => by have e : ([] : List Ci)[k]? = some ci := e; simp at e
  isi := t.isi
  hfuns := t.hfuns
  xis := t.xis
  xfl := t.xfl
  xcs := fun c f e => by have e : ([] : List (Nat × Str)).lookup c = some f := e; simp at e
  hds := fun j h e => by have e : ([] : List Hd)[j]? = some h := e; simp at e
  dun := fun c x F e => by have e : ([] : Du).lookup (c, x) = some F := e; simp at e
  nes := t.nes
  cmf := fun j q e => by have e : ([] : List (Nat × Fn))[j]? = some q := e; simp at e
  tgs := t.tgs
structure Okx (X : Cx) (c : CC) (G : Gh) (tb : Tab) (lv : Nat) : Prop where
  hN : X.N = c.N
  hs : X.env.scope = c.sc
  hf : X.fn = c.fn
  nd : X.N.Nodup
  hK : X.K = G.K
  calm : cold c = true → X.calm = true
  room : cold c = true → Room (lv + 1) X.A
  roomH : L2H.RoomH (lv + 1) X.A
  xin : XaIn G X
  isHot : c.hot = true → ∃ y, G.xa = some y
  cool : cold c = true → G.xa = none
  lam : c.lam = true → Room (lv + 3) X.A ∧ ∃ cd t, X.env.code = .ref cd ∧ LamX.TabB X.base X.mg cd t ∧ (t, X.env.qual ++ "<lambda>") ∈ G.tb ∧ ∀ y ∈ G.tb, y.1 = t → y.2 = X.env.qual ++ "<lambda>"
  gd : X.A.guards = some []
  tab : TabOk X.prog X.w X.K X.mg X.base lv G tb
section
variable {X : Cx} {c : CC} {G : Gh} {W : WX} {tb : Tab} {lv : Nat} {e : Expr} {es : List Expr} {x : Str} {i : Nat} {fa : Env → Sto → R T}
theorem Okx.units (ok : Okx X c G tb lv) : X.A.units + 65 < cLine := by have := ok.roomH.un; omega
theorem Okx.gl (ok : Okx X c G tb lv) (h : glC c x = true) : Gl X x ∧ (x == ("__debug__" : Str)) = false ∧ x ≠ "__name__" := by
  unfold glC at h
  split at h
  · rename_i e
    simp only [Bool.and_eq_true, Bool.not_eq_true'] at h
    exact ⟨by unfold Gl PySem.Env.kindOf; rw [ok.hs]; exact e, h.1, fun z => by rw [z] at h; simp at h⟩
  · cases h
theorem Okx.vis (ok : Okx X c G tb lv) (h : visC c i x = true) : X.N[i]? = some x ∧ Vis X.env.scope x ∧ (x == ("__debug__" : Str)) = false ∧ (x == ("__classdict__" : Str)) = false := by
  unfold visC at h
  simp only [Bool.and_eq_true, decide_eq_true_eq, Bool.not_eq_true'] at h
  obtain ⟨⟨⟨h1, h2⟩, h3⟩, h4⟩ := h
  refine ⟨by rw [ok.hN]; exact h1, ?_, h3, h4⟩
  unfold Vis
  rw [ok.hs]
  split at h2
  · rename_i z; exact .inl z
  · rename_i z; exact .inr (.inl z)
  · rename_i z; exact .inr (.inr z)
  · cases h2
theorem Okx.blk (ok : Okx X c G tb lv) (hh : cold c = true) (s : Shared) (H : Hp) (scope : Scope) (C : Addr) (cl : List (Str × Addr)) (fp : List Addr) : Okx (X.blk s H scope (compEnvC scope cl C X.env) fp) (blkCC c scope) G tb lv := by
  refine ⟨ok.hN, ?_, rfl, ok.nd, ok.hK, ok.calm, ok.room, ok.roomH, (fun y z => by rw [ok.cool hh] at z; cases z), ok.isHot, ok.cool, (fun z => by cases z), ok.gd, ok.tab⟩
  show relabel scope X.env = relS scope c.sc
  rw [← ok.hs]
  rfl
theorem takes0 {X : Cx} : Takes X W0 := fun u s' ⟨_, _, _, _, _, _, _, _, _, _, _, _, _, _, _, _, z⟩ => z.elim
theorem star1 (h : notStar e = true) (env : PySem.Env) : starEach [e] env = [(false, eval e env)] := by cases e <;> first | rfl | cases h
theorem starC (h : notStar e = true) (env : PySem.Env) : starEach (e :: es) env = (false, eval e env) :: starEach es env := by cases e <;> first | rfl | cases h
theorem chkEs_star (env : PySem.Env) : ∀ {is : IEs} {es : List Expr}, chkEs c tb is es = true → (starEach es env).all (fun x => !x.1) = true
  | .nil, [], _ => rfl
  | .nil, _ :: _, h => by simp [chkEs] at h
  | .cons _ _, [], h => by simp [chkEs] at h
  | .cons i is, e :: es, h => by
    simp only [chkEs, Bool.and_eq_true] at h
    rw [starC h.1.1]
    simp only [List.all_cons, Bool.not_false, Bool.true_and]
    exact chkEs_star env h.2
theorem plain_tst {i : IE} (h : PE X e (tE G W fa)) (he : ∀ whole, isTrue e X.env whole = (do let v ← whole; standAt e.pos; holding [v] (truthy v))) : PE X e (tE G W fa) ∧ (i.tst = true → PT X e (tTest (tE G W fa))) :=
  ⟨h, fun _ => pt_val h he⟩
theorem kC_ok {t : T} {q : Const} {k : Nat} {p : Pos} (h : kC t q = true) : PE X (.Constant q k p) (tE G W (fK t)) := by
  cases t with
  | non => cases q <;> first | (cases h; done) | exact s_k (v := .non) rfl pe_non
  | bl b => cases q <;> first | (cases h; done) | (rename_i z; have : b = z := by simpa [kC] using h
                                                   subst this; exact s_k (v := .bl b) rfl pe_bl)
  | int b => cases q <;> first | (cases h; done) | (rename_i z; have : b = z := by simpa [kC] using h
                                                    subst this; exact s_k (v := .int b) rfl pe_int)
  | str b => cases q <;> first | (cases h; done) | (rename_i z; have : b = z := by simpa [kC] using h
                                                    subst this; exact s_k (v := .str b) rfl pe_str)
  | _ => cases q <;> cases h
theorem never_ok : PE X e (tE G W fNever) := ⟨fun pins s σ H Q I ⟨m, env, st, rs, q⟩ => q.elim⟩
theorem s_neg {p : Pos} (h : PE X e (tE G W fa)) : PE X (.UnaryOp .USub e p) (tE G W (fNeg fa)) := by
  refine PE.imp (pe_un un_neg h) fun σ H Q h => ?_
  show tE G W fa σ H fun v H1 => ∃ i, v = .int i ∧ Q (.int (-i)) H1
  refine at1 (g := fun _ x st1 => match x with
    | T.int i => R.ok (T.int (-i)) st1
    | _ => R.bad) (rel := Rp G) (K := Kq Q) h fun m env st t v H1 rs r q => ?_
  cases t with
  | int i => exact ⟨i, r, Rn.give (b := .int (-i)) q rs rfl⟩
  | _ => exact q.elim
theorem gl_ok (ok : Okx X c G tb lv) {j : Nat} {p : Pos} (h : glC c x = true) (h2 : tb.cons[j]?.map (·.1) = some x) : PE X (.Name x p) (tE G W (fGl tb j)) := by
  obtain ⟨g, hd, _⟩ := ok.gl h
  cases e : tb.cons[j]? with
  | none => rw [e] at h2; cases h2
  | some q =>
    obtain ⟨u, v, hm, rv, hk⟩ := ok.tab.cons j q e
    rw [e] at h2
    have : q.1 = x := by simpa using h2
    rw [this] at hm
    refine PE.imp (pe_glob g hm rv hd) fun σ H Q ⟨m, env, st, rs, q2⟩ => ?_
    unfold fGl at q2
    rw [e] at q2
    exact Rn.give q2 rs (kT_rp hk)
theorem tg_ok (ok : Okx X c G tb lv) {g : Tg} {p : Pos} (h : tgC c tb g x = true) : PE X (.Name x p) (tC (tgV G g)) := by
  unfold tgC at h
  rw [Bool.and_eq_true, decide_eq_true_eq] at h
  obtain ⟨gg, hd, hn⟩ := ok.gl h.1
  rcases ok.tab.tgs x g h.2 with ⟨n, rfl, hm, hb⟩ | ⟨k, rfl, hm⟩
  · exact pe_bltn gg hm hb rfl hn hd
  · exact pe_glob gg hm rfl hd
theorem ab_ok {m : Str} (h : plO e = true) : attributeBase e m X.env (eval e X.env) = eval e X.env := by
  unfold attributeBase
  cases e with
  | Call f a k p =>
    cases f with
    | Name id q =>
      cases a with
      | nil => cases k with
        | nil => cases h
        | cons _ _ => rfl
      | cons _ _ => rfl
    | _ => rfl
  | _ => rfl
theorem bi_mem (b : Bi) : biName b ∈ plainNames := by cases b <;> decide
end
end Eg
set_option Elab.async false
set_option linter.all false
set_option maxRecDepth 100000
set_option maxHeartbeats 8000000
namespace Eg
open PySem PySem.Spec PyProof.Rows L2
section
variable {G : Gh} {tb : Tab} {lv : Nat}
theorem pt_bool {X : Cx} {op : BoolOp} {vs : List Expr} {p : Pos} {t : TT} (h : PT X (.BoolOp op vs p) t) : PW X (.BoolOp op vs p) t := ⟨fun whole pins s σ H Q I q => h.run pins s σ H Q I q⟩
theorem few_ok {X : Cx} {es : List Expr} {p : Pos} (h : (starEach es X.env).all (fun x => !x.1) = true) (hl : es.length < 25) : Few X es p := by
  unfold Few
  have h1 : (backTo p (starEach es X.env)).all (fun x => !x.1) = true := by
    unfold backTo
    rw [List.all_map]
    exact h
  rw [h1]
  simp [keywordEach, backToKw]
  omega
mutual
theorem e_ok : ∀ (i : IE) {X : Cx} {c : CC} {W : WX} {e : Expr}, Okx X c G tb lv → Takes X W → chkE c tb i e = true → PE X e (tE G W (i.ev tb)) ∧ (i.tst = true → PT X e (tTest (tE G W (i.ev tb))))
  | .never, X, c, W, e, ok, tk, h => ⟨by rw [IE.ev]; exact never_ok, fun z => by simp [IE.tst] at z⟩
  | .k t, X, c, W, e, ok, tk, h => by
    unfold chkE at h; rw [IE.ev]
    split at h
    · exact plain_tst (kC_ok h) fun _ => rfl
    · cases h
  | .v i, X, c, W, e, ok, tk, h => by
    unfold chkE at h; rw [IE.ev]
    split at h
    · obtain ⟨h1, h2, h3, h4⟩ := ok.vis h
      exact plain_tst (s_v h1 h2 h3 h4) fun _ => rfl
    · cases h
  | .g j, X, c, W, e, ok, tk, h => by
    unfold chkE at h; rw [IE.ev]
    split at h
    · rw [Bool.and_eq_true, decide_eq_true_eq] at h
      exact plain_tst (gl_ok ok h.1 h.2) fun _ => rfl
    · cases h
  | .bin op a b, X, c, W, e, ok, tk, h => by
    unfold chkE at h; rw [IE.ev]
    split at h
    · simp only [Bool.and_eq_true, decide_eq_true_eq] at h
      obtain ⟨⟨rfl, h1⟩, h2⟩ := h
      exact plain_tst (s_bin ok.hK (e_ok a ok tk h1).1 (e_ok b ok tk h2).1) fun _ => rfl
    · cases h
  | .neg a, X, c, W, e, ok, tk, h => by
    unfold chkE at h; rw [IE.ev]
    split at h
    · simp only [Bool.and_eq_true, decide_eq_true_eq] at h
      obtain ⟨rfl, h1⟩ := h
      exact plain_tst (s_neg (e_ok a ok tk h1).1) fun _ => rfl
    · cases h
  | .not a, X, c, W, e, ok, tk, h => by
    unfold chkE at h; rw [IE.ev]
    split at h
    · simp only [Bool.and_eq_true, decide_eq_true_eq] at h
      obtain ⟨⟨rfl, h1⟩, h2⟩ := h
      have z := e_ok a ok tk h2
      exact ⟨s_not z.1, fun _ => t_not (z.2 h1)⟩
    · cases h
  | .cmp op a b, X, c, W, e, ok, tk, h => by
    unfold chkE at h; rw [IE.ev]
    split at h
    · simp only [Bool.and_eq_true, decide_eq_true_eq, Bool.not_eq_true'] at h
      obtain ⟨⟨⟨rfl, h1⟩, h2⟩, h3⟩ := h
      have za := (e_ok a ok tk h2).1
      have zb := (e_ok b ok tk h3).1
      exact ⟨s_cmp ok.hK ok.units h1 za zb, fun _ => t_cmp ok.hK ok.units h1 za zb⟩
    · cases h
  | .isN n a, X, c, W, e, ok, tk, h => by
    unfold chkE at h; rw [IE.ev]
    split at h
    · simp only [Bool.and_eq_true, decide_eq_true_eq] at h
      obtain ⟨rfl, h1⟩ := h
      have za := (e_ok a ok tk h1).1
      exact ⟨pe_isN za, fun _ => pt_isN za⟩
    · cases h
  | .chain o1 o2 a b d, X, c, W, e, ok, tk, h => by
    unfold chkE at h; rw [IE.ev]
    split at h
    · simp only [Bool.and_eq_true, decide_eq_true_eq, Bool.not_eq_true'] at h
      obtain ⟨⟨⟨⟨⟨rfl, rfl⟩, h0⟩, h1⟩, h2⟩, h3⟩ := h
      have za := (e_ok a ok tk h1).1
      have zb := (e_ok b ok tk h2).1
      have zd := (e_ok d ok tk h3).1
      exact ⟨s_chain ok.hK ok.units h0 za zb zd, fun _ => t_chain ok.hK ok.units h0 za zb zd⟩
    · cases h
  | .and a b, X, c, W, e, ok, tk, h => by
    unfold chkE at h; rw [IE.ev]
    split at h
    · rename_i x y r p
      simp only [Bool.and_eq_true] at h
      obtain ⟨⟨⟨t1, t2⟩, h1⟩, h2⟩ := h
      have za := e_ok a ok tk h1
      cases r with
      | nil =>
        have zb := e_ok b ok tk (show chkE c tb b y = true from h2)
        exact ⟨PE.imp (pe_and za.1 (pe_one zb.1)) fun σ H Q q => and_imp q, fun _ => PT.imp (PW.pt (pw_and (za.2 t1) (pw_and1 (zb.2 t2)))) fun σ H Q q => and_impT q⟩
      | cons w r =>
        have zb := e_ok b ok tk (show chkE c tb b (.BoolOp .And (y :: w :: r) p) = true from h2)
        exact ⟨PE.imp (pe_and za.1 zb.1) fun σ H Q q => and_imp q, fun _ => PT.imp (PW.pt (pw_and (za.2 t1) (pt_bool (zb.2 t2)))) fun σ H Q q => and_impT q⟩
    · cases h
  | .or a b, X, c, W, e, ok, tk, h => by
    unfold chkE at h; rw [IE.ev]
    split at h
    · rename_i x y r p
      simp only [Bool.and_eq_true] at h
      obtain ⟨⟨⟨t1, t2⟩, h1⟩, h2⟩ := h
      have za := e_ok a ok tk h1
      cases r with
      | nil =>
        have zb := e_ok b ok tk (show chkE c tb b y = true from h2)
        exact ⟨PE.imp (pe_or za.1 (pe_one zb.1)) fun σ H Q q => or_imp q, fun _ => PT.imp (PW.pt (pw_or (za.2 t1) (pw_or1 (zb.2 t2)))) fun σ H Q q => or_impT q⟩
      | cons w r =>
        have zb := e_ok b ok tk (show chkE c tb b (.BoolOp .Or (y :: w :: r) p) = true from h2)
        exact ⟨PE.imp (pe_or za.1 zb.1) fun σ H Q q => or_imp q, fun _ => PT.imp (PW.pt (pw_or (za.2 t1) (pt_bool (zb.2 t2)))) fun σ H Q q => or_impT q⟩
    · cases h
  | .ite d a b, X, c, W, e, ok, tk, h => by
    unfold chkE at h; rw [IE.ev]
    split at h
    · simp only [Bool.and_eq_true] at h
      obtain ⟨⟨⟨t1, h1⟩, h2⟩, h3⟩ := h
      exact ⟨s_ite ((e_ok d ok tk h1).2 t1) (e_ok a ok tk h2).1 (e_ok b ok tk h3).1, fun z => by simp [IE.tst] at z⟩
    · cases h
  | .tup es, X, c, W, e, ok, tk, h => by
    unfold chkE at h; rw [IE.ev]
    split at h
    · exact plain_tst (s_tup (es_ok es ok tk h)) fun _ => rfl
    · cases h
  | .ix a b, X, c, W, e, ok, tk, h => by
    unfold chkE at h; rw [IE.ev]
    split at h
    · rename_i x y p
      simp only [Bool.and_eq_true] at h
      obtain ⟨⟨h0, h1⟩, h2⟩ := h
      have hp : PlainIx y := fun o i => by cases y <;> first | rfl | cases h0
      exact plain_tst (s_ix ok.hK hp (e_ok a ok tk h1).1 (e_ok b ok tk h2).1) fun _ => rfl
    · cases h
  | .sl a lo hi, X, c, W, e, ok, tk, h => by
    unfold chkE at h; rw [IE.ev]
    split at h
    · simp only [Bool.and_eq_true] at h
      obtain ⟨⟨h1, h2⟩, h3⟩ := h
      exact plain_tst (s_sl ok.hK (e_ok a ok tk h1).1 (o_ok lo ok tk h2) (o_ok hi ok tk h3)) fun _ => rfl
    · cases h
  | .fz l, X, c, W, e, ok, tk, h => by
    unfold chkE at h; rw [IE.ev]
    have z := l_ok l ok tk h
    exact plain_tst (s_fz z.1) z.2
  | .new l, X, c, W, e, ok, tk, h => by
    unfold chkE at h; rw [IE.ev]
    have z := l_ok l ok tk h
    exact plain_tst (s_new z.1) z.2
  | .call f es ks, X, c, W, e, ok, tk, h => by
    unfold chkE at h; rw [IE.ev]
    split at h
    · rename_i x p xs kws pos
      simp only [Bool.and_eq_true] at h
      obtain ⟨⟨⟨⟨h1, h2⟩, h3⟩, h4⟩, hh⟩ := h
      obtain ⟨gg, hd, _⟩ := ok.gl h1
      cases ef : tb.funs[f]? with
      | none => rw [ef] at h2; cases h2
      | some fn =>
        rw [ef] at h2
        simp only [Bool.and_eq_true, decide_eq_true_eq] at h2
        obtain ⟨hx, hks⟩ := h2
        obtain ⟨fa, hm, hk, cal⟩ := ok.tab.funs f fn ef
        rw [hx] at hm
        have hA := es_ok es ok tk h3
        have hK := k_ok ks ok tk h4
        have hst := chkEs_star (tb := tb) (c := c) X.env h3
        unfold ksC at hks
        rw [decide_eq_true_eq] at hks
        refine plain_tst ?_ fun _ => rfl
        have ekw : (backToKw pos (keywordEach kws X.env)).map (·.1) = kws.map (·.arg) := by
          unfold backToKw
          rw [List.map_map]
          clear hK h4 hks
          induction kws with
          | nil => rfl
          | cons k kws ih => obtain ⟨nm, v, kp⟩ := k; exact congrArg (List.cons nm) ih
        have hall : (backToKw pos (keywordEach kws X.env)).all (·.1.isSome) = true := by
          have : (backToKw pos (keywordEach kws X.env)).all (·.1.isSome) = ((backToKw pos (keywordEach kws X.env)).map (·.1)).all (·.isSome) := by rw [List.all_map]; rfl
          rw [this, ekw, hks, List.all_map]
          simp
        have hfm : (backToKw pos (keywordEach kws X.env)).filterMap (·.1) = fn.ks := by
          have : (backToKw pos (keywordEach kws X.env)).filterMap (·.1) = ((backToKw pos (keywordEach kws X.env)).map (·.1)).filterMap id := by rw [List.filterMap_map]; rfl
          rw [this, ekw, hks, List.filterMap_map]
          simp
        have hpl : ((backTo pos (starEach xs X.env)).any (·.1) || (backToKw pos (keywordEach kws X.env)).any (·.1.isNone)) = false := by
          have h5 : (backTo pos (starEach xs X.env)).any (·.1) = false := by
            unfold backTo
            rw [List.any_map, List.any_eq_false]
            intro y hy
            have := List.all_eq_true.mp hst y hy
            simpa using this
          have h6 : (backToKw pos (keywordEach kws X.env)).any (·.1.isNone) = false := by
            rw [List.any_eq_false]
            intro y hy
            have := List.all_eq_true.mp hall y hy
            cases hq : y.1 with
            | none => rw [hq] at this; cases this
            | some _ => simp
          rw [h5, h6]; rfl
        refine ⟨fun pins s σ H Q I h => ?_⟩
        have h7 : tA G W (es.ev tb) σ H fun vs H1 => tA G W (ks.ev tb) σ H1 fun zs H2 => zs.length = fn.ks.length ∧ Spec G fn.F (vs ++ zs) H2 Q (WE W σ) := by
          refine tA2 (g := fun _ xs ys st2 => if ys.length = fn.ks.length then fn.F (xs ++ ys) st2 else .bad) h fun m env st ts us vs ws H1 rs r1 r2 q => ?_
          by_cases hl : us.length = fn.ks.length
          · rw [if_pos hl] at q
            exact ⟨by rw [← r2.length]; exact hl, spec_of rs (r1.append r2) q⟩
          · rw [if_neg hl] at q; exact q.elim
        refine wpAny_Call_Name_kw (ld_glob I gg hm ?_ hd)
        have room := (ok.room hh).mono (Nat.le_succ lv)
        cases xs with
        | nil =>
          refine PySem.W.callWith_KW0 (h₀ := X.base) I.ok.mod.kin hk hall ?_ hpl
          have h8 : tA G W (ks.ev tb) σ H fun zs H2 => zs.length = fn.ks.length ∧ Spec G fn.F zs H2 Q (WE W σ) := by
            cases es with
            | cons _ _ => simp [chkEs] at h3
            | nil =>
              rw [IEs.ev] at h7
              obtain ⟨m, env, st, rs, q⟩ := h7
              exact Rn.here (K := fun _ _ vs H1 _ => tA G W (ks.ev tb) σ H1 fun zs H2 => zs.length = fn.ks.length ∧ Spec G fn.F (vs ++ zs) H2 Q (WE W σ)) (b := []) q rs rfl
          refine thn (hK.run pos pins s σ H _ I h8) fun ws s2 ⟨zs, H2, I2, rz, l, q2⟩ => ⟨I2.kIn, ?_⟩
          rw [hfm]
          exact run_cal (us := []) (vs := []) cal room ok.gd tk I2 .nil rz l q2
        | cons y ys =>
          have hy : starEach (y :: ys) X.env = (false, eval y X.env) :: starEach ys X.env := by
            cases es with
            | nil => simp [chkEs] at h3
            | cons e es => simp only [chkEs, Bool.and_eq_true] at h3; exact starC h3.1.1 X.env
          refine PySem.W.callWith_KW (h₀ := X.base) I.ok.mod.kin hk hall (thn (hA.run pos pins s σ H _ I h7) fun us s1 ⟨vs, H1, I1, r, q⟩ => ?_) hpl hy
          refine thn (hK.run pos pins s1 σ H1 _ I1 q) fun ws s2 ⟨zs, H2, I2, rz, l, q2⟩ => ⟨I2.kIn, ?_⟩
          rw [hfm]
          exact run_cal cal room ok.gd tk I2 r rz l q2
    · cases h
  | .bi b es, X, c, W, e, ok, tk, h => by
    unfold chkE at h; rw [IE.ev]
    split at h
    · rename_i x p y xs pos
      simp only [Bool.and_eq_true, decide_eq_true_eq] at h
      obtain ⟨⟨⟨rfl, h1⟩, h2⟩, hh⟩ := h
      obtain ⟨gg, _, _⟩ := ok.gl h1
      have hA := es_ok es ok tk h2
      have hst := chkEs_star (tb := tb) (c := c) X.env h2
      cases es with
      | nil => simp [chkEs] at h2
      | cons d es =>
        simp only [chkEs, Bool.and_eq_true] at h2
        have hy := starC (es := xs) h2.1.1 X.env
        rw [hy] at hst
        simp only [List.all_cons, Bool.not_false, Bool.true_and] at hst
        exact plain_tst (s_bi ok.hK (ok.calm hh) gg (ok.tab.no _ (bi_mem b)) hA hy hst) fun _ => rfl
    · cases h
  | .mu o a es, X, c, W, e, ok, tk, h => by
    unfold chkE at h; rw [IE.ev]
    split at h
    · rename_i x m ap y xs p
      simp only [Bool.and_eq_true, decide_eq_true_eq] at h
      obtain ⟨⟨⟨⟨⟨⟨hne, rfl⟩, hline⟩, h0⟩, hl⟩, h1⟩, h2⟩ := h
      have hA := es_ok es ok tk h2
      have hst := chkEs_star (tb := tb) (c := c) X.env h2
      have hfew := few_ok (p := p) hst (by simp only [List.length_cons]; omega)
      cases es with
      | nil => simp [chkEs] at h2
      | cons d es =>
        simp only [chkEs, Bool.and_eq_true] at h2
        have hy := starC (es := xs) h2.1.1 X.env
        rw [hy] at hst
        simp only [List.all_cons, Bool.not_false, Bool.true_and] at hst
        exact plain_tst (s_mu (e_ok a ok tk h1).1 hA hne (ab_ok h0) hfew hline hy hst) fun _ => rfl
    · rename_i x m ap p
      simp only [Bool.and_eq_true, decide_eq_true_eq] at h
      obtain ⟨⟨⟨⟨⟨rfl, rfl⟩, hline⟩, h0⟩, h1⟩, h2⟩ := h
      cases es with
      | cons _ _ => simp at h2
      | nil =>
        rw [IEs.ev]
        exact plain_tst (s_pop (e_ok a ok tk h1).1 (ab_ok h0) hline) fun _ => rfl
    · cases h
  | .str a, X, c, W, e, ok, tk, h => by
    unfold chkE at h; rw [IE.ev]
    split at h
    · simp only [Bool.and_eq_true, decide_eq_true_eq] at h
      obtain ⟨⟨⟨rfl, h1⟩, h2⟩, h3⟩ := h
      exact plain_tst (s_str (ok.gl h1).1 (ok.tab.no _ (by decide)) (e_ok a ok tk h3).1 (star1 h2 X.env)) fun _ => rfl
    · cases h
  | .repr a, X, c, W, e, ok, tk, h => by
    unfold chkE at h; rw [IE.ev]
    split at h
    · simp only [Bool.and_eq_true, decide_eq_true_eq] at h
      obtain ⟨⟨⟨rfl, h1⟩, h2⟩, h3⟩ := h
      exact plain_tst (s_repr ok.hK ok.gd ok.units (ok.gl h1).1 (ok.tab.no _ (by decide)) (e_ok a ok tk h3).1 (star1 h2 X.env)) fun _ => rfl
    · cases h
  | .attr f a, X, c, W, e, ok, tk, h => by
    unfold chkE at h; rw [IE.ev]
    split at h
    · simp only [Bool.and_eq_true, decide_eq_true_eq] at h
      obtain ⟨⟨⟨rfl, h1⟩, h2⟩, hh⟩ := h
      exact plain_tst (s_attr (fun k ci => ok.tab.cls k ci) (ok.room hh) ok.gd (e_ok a ok tk h2).1 (ab_ok h1)) fun _ => rfl
    · cases h
  | .isi g a, X, c, W, e, ok, tk, h => by
    unfold chkE at h; rw [IE.ev]
    split at h
    · rename_i x p y z zp pos
      simp only [Bool.and_eq_true, decide_eq_true_eq] at h
      obtain ⟨⟨⟨⟨rfl, h1⟩, h2⟩, h3⟩, h4⟩ := h
      exact plain_tst (s_isi (fun k ci => ok.tab.cls k ci) ok.tab.isi (ok.gl h1).1 (ok.tab.no _ (by decide)) (e_ok a ok tk h4).1 (tg_ok ok h2) (starC h3 X.env) rfl) fun _ => rfl
    · cases h
  | .hcall f es, X, c, W, e, ok, tk, h => by
    unfold chkE at h; rw [IE.ev]
    split at h
    · rename_i x p y xs pos
      simp only [Bool.and_eq_true] at h
      obtain ⟨⟨⟨h1, h2⟩, h3⟩, h4⟩ := h
      obtain ⟨gg, hd, _⟩ := ok.gl h1
      obtain ⟨y0, hy0⟩ := ok.isHot h2
      cases ef : tb.hfuns[f]? with
      | none => rw [ef] at h3; cases h3
      | some fn =>
        rw [ef] at h3
        have hx : fn.name = x := of_decide_eq_true h3
        obtain ⟨fa, hm, hk, cal⟩ := ok.tab.hfuns f fn ef
        rw [hx] at hm
        have hA := es_ok es ok tk h4
        have hst := chkEs_star (tb := tb) (c := c) X.env h4
        cases es with
        | nil => simp [chkEs] at h4
        | cons d es =>
          simp only [chkEs, Bool.and_eq_true] at h4
          have hy := starC (es := xs) h4.1.1 X.env
          rw [hy] at hst
          simp only [List.all_cons, Bool.not_false, Bool.true_and] at hst
          exact plain_tst (s_hcall hy0 ok.xin cal (ok.roomH.mono (Nat.le_succ lv)) ok.gd tk gg hm hk hA hd hy hst) fun _ => rfl
    · cases h
  | .xat f a, X, c, W, e, ok, tk, h => by
    unfold chkE at h; rw [IE.ev]
    split at h
    · simp only [Bool.and_eq_true, decide_eq_true_eq] at h
      obtain ⟨⟨rfl, h1⟩, h2⟩ := h
      exact plain_tst (s_xat ok.xin ok.tab.xfl (e_ok a ok tk h2).1 (ab_ok h1)) fun _ => rfl
    · cases h
  | .isx g a, X, c, W, e, ok, tk, h => by
    unfold chkE at h; rw [IE.ev]
    split at h
    · rename_i x p y z zp pos
      simp only [Bool.and_eq_true, decide_eq_true_eq] at h
      obtain ⟨⟨⟨⟨rfl, h1⟩, h2⟩, h3⟩, h4⟩ := h
      exact plain_tst (s_isx ok.xin ok.tab.xis (ok.gl h1).1 (ok.tab.no _ (by decide)) (e_ok a ok tk h4).1 (tg_ok ok h2) (starC h3 X.env) rfl) fun _ => rfl
    · cases h
  | .told f b, X, c, W, e, ok, tk, h => by
    unfold chkE at h; rw [IE.ev]
    split at h
    · rename_i x p prm d scope lpos pos
      simp only [Bool.and_eq_true] at h
      obtain ⟨⟨⟨⟨⟨⟨h1, h2⟩, hh0⟩, h3⟩, h4⟩, h5⟩, h6⟩ := h
      obtain ⟨gg, hd, _⟩ := ok.gl h1
      obtain ⟨room, cd, tt, e1, e2, e3, e4⟩ := ok.lam h2
      cases ef : tb.hds[f]? with
      | none => rw [ef] at h3; cases h3
      | some hh =>
        rw [ef] at h3
        have hx : hh.name = x := of_decide_eq_true h3
        obtain ⟨fa, hm, hk, cal⟩ := ok.tab.hds f hh ef
        rw [hx] at hm
        have np : prm = ⟨[], [], none, [], [], none, []⟩ := by
          unfold noPrm at h4
          split at h4
          · rfl
          · cases h4
        subst np
        have L : LamX.LamS X.env.scope scope := by rw [ok.hs]; exact LamX.lamS_by h5
        refine plain_tst (s_told (fb := b.ev tb) (lv := lv + 1) gg hm hk hd cal (Nat.le_refl _) room ok.gd e2 e1 e3 e4 L rfl (fun _ _ _ _ _ => rfl) fun A outer s H E f2 c2 hr hg => ?_) fun _ => rfl
        have nx : G.xa = none := ok.cool hh0
        have ok2 : Okx (LamX.lamCx X A outer s H E scope f2 c2) (lamCC c scope) G tb lv := ⟨ok.hN, rfl, rfl, ok.nd, ok.hK, fun _ => rfl, fun _ => hr, L2H.roomH_of hr, (fun y z => by rw [nx] at z; cases z), (fun z => by cases z), (fun _ => nx), (fun z => by cases z), hg, ok.tab⟩
        exact (e_ok b ok2 (takes_of rfl rfl rfl rfl) h6).1
    · cases h
  | .lk n a es, X, c, W, e, ok, tk, h => by
    unfold chkE at h; rw [IE.ev]
    split at h
    · rename_i x m ap y xs p
      simp only [Bool.and_eq_true, decide_eq_true_eq] at h
      obtain ⟨⟨⟨⟨⟨rfl, hline⟩, h0⟩, hl⟩, h1⟩, h2⟩ := h
      have hA := es_ok es ok tk h2
      have hst := chkEs_star (tb := tb) (c := c) X.env h2
      have hfew := few_ok (p := p) hst (by simp only [List.length_cons]; omega)
      cases es with
      | nil => simp [chkEs] at h2
      | cons d es =>
        simp only [chkEs, Bool.and_eq_true] at h2
        have hy := starC (es := xs) h2.1.1 X.env
        rw [hy] at hst
        simp only [List.all_cons, Bool.not_false, Bool.true_and] at hst
        exact plain_tst (s_lk ok.hK ok.units (e_ok a ok tk h1).1 hA (ab_ok h0) hfew hline hy hst) fun _ => rfl
    · cases h
  | .rvt a, X, c, W, e, ok, tk, h => by
    unfold chkE at h; rw [IE.ev]
    split at h
    · exact plain_tst (s_rvt ok.hK (e_ok a ok tk h).1) fun _ => rfl
    · cases h
  | .ed, X, c, W, e, ok, tk, h => by
    refine ⟨?_, fun z => by simp [IE.tst] at z⟩
    unfold chkE at h; rw [IE.ev]
    split at h
    · exact s_ed
    · cases h
  | .eqz a b, X, c, W, e, ok, tk, h => by
    unfold chkE at h; rw [IE.ev]
    split at h
    · simp only [Bool.and_eq_true, decide_eq_true_eq, Bool.not_eq_true'] at h
      obtain ⟨⟨⟨rfl, hb⟩, h1⟩, h2⟩ := h
      have za := (e_ok a ok tk h1).1
      have zb := (e_ok b ok tk h2).1
      have hu : X.A.units < cLine := by have := ok.units; omega
      exact ⟨s_eqz ok.hK hu hb za zb, fun _ => t_eqz ok.hK hu hb za zb⟩
    · cases h
theorem l_ok : ∀ (l : IL) {X : Cx} {c : CC} {W : WX} {e : Expr}, Okx X c G tb lv → Takes X W → chkL c tb l e = true → PE X e (tL G W (l.ev tb)) ∧ ∀ whole, isTrue e X.env whole = (do let v ← whole; standAt e.pos; holding [v] (truthy v))
  | .lst es, X, c, W, e, ok, tk, h => by
    unfold chkL at h; rw [IL.ev]
    split at h
    · exact ⟨l_lst (es_ok es ok tk h), fun _ => rfl⟩
    · cases h
  | .lc own d g it t, X, c, W, e, ok, tk, h => by
    unfold chkL at h; rw [IL.ev]
    split at h
    · rename_i elt tg iter ifs scope pos
      simp only [Bool.and_eq_true, decide_eq_true_eq] at h
      obtain ⟨⟨⟨⟨⟨⟨⟨⟨h1, h2⟩, h3⟩, h4⟩, h5⟩, h6⟩, h7⟩, h8⟩, hh⟩ := h
      have hg : ∀ (s : Shared) (H : Hp) (C : Addr) (cl : List (Str × Addr)) (fp : List Addr), PG (X.blk s H scope (compEnvC scope cl C X.env) fp) tg (tG G g) := fun s H C cl fp => by
        have ok' := ok.blk hh s H scope C cl fp
        exact g_ok ok'.hN ok'.hs ok'.hf ok'.nd ok'.hK ok'.calm g tg h6
      have ht : ∀ (s : Shared) (H : Hp) (C : Addr) (cl : List (Str × Addr)) (fp : List Addr), PTs (X.blk s H scope (compEnvC scope cl C X.env) fp) ifs (tT0 G (t.test tb)) := fun s H C cl fp => if_ok t (ok.blk hh s H scope C cl fp) takes0 h8
      have he : ∀ (s : Shared) (H : Hp) (C : Addr) (cl : List (Str × Addr)) (fp : List Addr), PE (X.blk s H scope (compEnvC scope cl C X.env) fp) elt (tE G W0 (d.ev tb)) := fun s H C cl fp => (e_ok d (ok.blk hh s H scope C cl fp) takes0 h7).1
      have hs : ∀ x, foldedSetIterable iter X.env x = pure x := fun x => by cases iter <;> first | rfl | cases h5
      refine ⟨PE.imp (pe_lc (pos := pos) (ok.calm hh) ok.nd (i_ok it ok tk h1) (own := ownP c own) (blkOk_by (by rw [ok.hN, ok.hs]; exact h2)) hg ht he hs) fun σ H Q q => ?_, fun _ => rfl⟩
      rw [h3]
      exact lc_imp h4 q
    · cases h
  | .lc2 own vs1 d g it t g1 it1 t1, X, c, W, e, ok, tk, h => by
    unfold chkL at h; rw [IL.ev]
    split at h
    · rename_i elt tg iter ifs tg1 iter1 ifs1 scope pos
      simp only [Bool.and_eq_true, decide_eq_true_eq] at h
      obtain ⟨⟨⟨⟨⟨⟨⟨⟨⟨⟨⟨⟨⟨⟨h1, h2⟩, h3⟩, h4⟩, h41⟩, h42⟩, h5⟩, h51⟩, h6⟩, h7⟩, h8⟩, h9⟩, h61⟩, h81⟩, hh⟩ := h
      have hg : ∀ (s : Shared) (H : Hp) (C : Addr) (cl : List (Str × Addr)) (fp : List Addr), PG (X.blk s H scope (compEnvC scope cl C X.env) fp) tg (tG G g) := fun s H C cl fp => by
        have ok' := ok.blk hh s H scope C cl fp
        exact g_ok ok'.hN ok'.hs ok'.hf ok'.nd ok'.hK ok'.calm g tg h6
      have hg1 : ∀ (s : Shared) (H : Hp) (C : Addr) (cl : List (Str × Addr)) (fp : List Addr), PG (X.blk s H scope (compEnvC scope cl C X.env) fp) tg1 (tG G g1) := fun s H C cl fp => by
        have ok' := ok.blk hh s H scope C cl fp
        exact g_ok ok'.hN ok'.hs ok'.hf ok'.nd ok'.hK ok'.calm g1 tg1 h61
      have ht : ∀ (s : Shared) (H : Hp) (C : Addr) (cl : List (Str × Addr)) (fp : List Addr), PTs (X.blk s H scope (compEnvC scope cl C X.env) fp) ifs (tT0 G (t.test tb)) := fun s H C cl fp => if_ok t (ok.blk hh s H scope C cl fp) takes0 h8
      have ht1 : ∀ (s : Shared) (H : Hp) (C : Addr) (cl : List (Str × Addr)) (fp : List Addr), PTs (X.blk s H scope (compEnvC scope cl C X.env) fp) ifs1 (tT0 G (t1.test tb)) := fun s H C cl fp => if_ok t1 (ok.blk hh s H scope C cl fp) takes0 h81
      have he : ∀ (s : Shared) (H : Hp) (C : Addr) (cl : List (Str × Addr)) (fp : List Addr), PE (X.blk s H scope (compEnvC scope cl C X.env) fp) elt (tE G W0 (d.ev tb)) := fun s H C cl fp => (e_ok d (ok.blk hh s H scope C cl fp) takes0 h7).1
      have hi1 : ∀ (s : Shared) (H : Hp) (C : Addr) (cl : List (Str × Addr)) (fp : List Addr), PI (X.blk s H scope (compEnvC scope cl C X.env) fp) tg1 iter1 (tI G W0 (it1.ev tb)) := fun s H C cl fp => i_ok it1 (ok.blk hh s H scope C cl fp) takes0 h9
      have hs : ∀ x, foldedSetIterable iter X.env x = pure x := fun x => by cases iter <;> first | rfl | cases h5
      have hs1 : ∀ env x, foldedSetIterable iter1 env x = pure x := fun env x => by cases iter1 <;> first | rfl | cases h51
      refine ⟨PE.imp (pe_lc2 (pos := pos) (vs1 := vs1) (ok.calm hh) ok.nd (i_ok it ok tk h1) (own := ownP c own) (blkOk_by (by rw [ok.hN, ok.hs]; exact h2)) (fun i hi => by rw [h3]; exact h42 i hi) hg ht hi1 hg1 ht1 he hs hs1) fun σ H Q q => ?_, fun _ => rfl⟩
      rw [h3]
      exact lc2_imp h4 h41 q
    · cases h
  | .cat a b, X, c, W, e, ok, tk, h => by
    unfold chkL at h; rw [IL.ev]
    split at h
    · simp only [Bool.and_eq_true, decide_eq_true_eq] at h
      obtain ⟨⟨rfl, h1⟩, h2⟩ := h
      exact ⟨l_cat (e_ok a ok tk h1).1 (e_ok b ok tk h2).1, fun _ => rfl⟩
    · cases h
  | .list a, X, c, W, e, ok, tk, h => by
    unfold chkL at h; rw [IL.ev]
    split at h
    · simp only [Bool.and_eq_true, decide_eq_true_eq] at h
      obtain ⟨⟨⟨rfl, h1⟩, h2⟩, h3⟩ := h
      exact ⟨l_list ok.hK (ok.gl h1).1 (ok.tab.no _ (by decide)) (e_ok a ok tk h3).1 (star1 h2 X.env), fun _ => rfl⟩
    · cases h
  | .sl a lo hi, X, c, W, e, ok, tk, h => by
    unfold chkL at h; rw [IL.ev]
    split at h
    · simp only [Bool.and_eq_true] at h
      obtain ⟨⟨h1, h2⟩, h3⟩ := h
      exact ⟨l_sl ok.hK (e_ok a ok tk h1).1 (o_ok lo ok tk h2) (o_ok hi ok tk h3), fun _ => rfl⟩
    · cases h
theorem es_ok : ∀ (is : IEs) {X : Cx} {c : CC} {W : WX} {es : List Expr}, Okx X c G tb lv → Takes X W → chkEs c tb is es = true → PA X es (tA G W (is.ev tb))
  | .nil, X, c, W, es, ok, tk, h => by
    unfold chkEs at h; rw [IEs.ev]
    split at h
    · exact s_nil
    · cases h
  | .cons i is, X, c, W, es, ok, tk, h => by
    unfold chkEs at h; rw [IEs.ev]
    split at h
    · simp only [Bool.and_eq_true] at h
      obtain ⟨⟨h1, h2⟩, h3⟩ := h
      exact s_cons (e_ok i ok tk h2).1 (es_ok is ok tk h3) (starC h1 X.env)
    · cases h
theorem js_ok : ∀ (is : IEs) {X : Cx} {c : CC} {W : WX} {es : List Expr}, Okx X c G tb lv → Takes X W → chkEs c tb is es = true → ∃ ts, PJ X es ts ∧ ∀ (acc : Str) (σ : L2.St) (H : Hp) (Q : VK), tE G W (is.js tb acc) σ H Q → tJs ts acc σ H fun out H1 => Q (.str out) H1
  | .nil, X, c, W, es, ok, tk, h => by
    unfold chkEs at h
    split at h
    · refine ⟨[], .nil, fun acc σ H Q q => ?_⟩
      rw [IEs.js] at q
      obtain ⟨m, env, st, rs, q⟩ := q
      exact Rn.give (b := .str acc) q rs rfl
    · cases h
  | .cons i is, X, c, W, es, ok, tk, h => by
    unfold chkEs at h
    split at h
    · simp only [Bool.and_eq_true] at h
      obtain ⟨⟨h1, h2⟩, h3⟩ := h
      obtain ⟨ts, pj, k⟩ := js_ok is ok tk h3
      refine ⟨tE G W (i.ev tb) :: ts, .cons (e_ok i ok tk h2).1 pj, fun acc σ H Q q => ?_⟩
      rw [IEs.js] at q
      obtain ⟨m, env, st, rs, q⟩ := q
      refine ⟨m, env, st, rs, (Rn.bnd q).imp fun x st1 v H1 m1 rs1 S1 r1 q => ?_⟩
      cases x with
      | str y =>
        have q : Rn G W σ env (Rp G) m1 H1 (if (acc ++ y).length ≤ lim then is.js tb (acc ++ y) env st1 else .bad) (Kq Q) := q
        by_cases z : (acc ++ y).length ≤ lim
        · rw [if_pos z] at q
          exact ⟨y, r1, by rw [← lim_eq]; exact z, k _ _ _ _ ⟨m1, env, st1, rs1, q⟩⟩
        · rw [if_neg z] at q
          exact q.elim
      | _ => exact q.elim
    · cases h
theorem k_ok : ∀ (is : IEs) {X : Cx} {c : CC} {W : WX} {es : List Keyword}, Okx X c G tb lv → Takes X W → chkK c tb is es = true → PK X es (tA G W (is.ev tb))
  | .nil, X, c, W, es, ok, tk, h => by
    unfold chkK at h; rw [IEs.ev]
    split at h
    · exact k_nil
    · cases h
  | .cons i is, X, c, W, es, ok, tk, h => by
    unfold chkK at h; rw [IEs.ev]
    split at h
    · simp only [Bool.and_eq_true] at h
      exact k_cons (e_ok i ok tk h.1).1 (k_ok is ok tk h.2)
    · cases h
theorem o_ok : ∀ (o : IO) {X : Cx} {c : CC} {W : WX} {e : Option Expr}, Okx X c G tb lv → Takes X W → chkO c tb o e = true → PO X e (tP G W (o.ev tb))
  | .none, X, c, W, e, ok, tk, h => by
    unfold chkO at h; rw [IO.ev]
    split at h
    · exact p_none
    · cases h
  | .some i, X, c, W, e, ok, tk, h => by
    unfold chkO at h; rw [IO.ev]
    split at h
    · exact p_some (e_ok i ok tk h).1
    · cases h
theorem if_ok : ∀ (o : IO) {X : Cx} {c : CC} {e : List Expr}, Okx X c G tb lv → Takes X W0 → chkIf c tb o e = true → PTs X e (tT0 G (o.test tb))
  | .none, X, c, e, ok, tk, h => by
    unfold chkIf at h; rw [IO.test]
    split at h
    · exact ts_nil
    · cases h
  | .some i, X, c, e, ok, tk, h => by
    unfold chkIf at h; rw [IO.test]
    split at h
    · rw [Bool.and_eq_true] at h
      exact ts_one ((e_ok i ok tk h.2).2 h.1)
    · cases h
theorem i_ok : ∀ (o : II) {X : Cx} {c : CC} {W : WX} {tg e : Expr}, Okx X c G tb lv → Takes X W → chkI c tb o tg e = true → PI X tg e (tI G W (o.ev tb))
  | .seq d, X, c, W, tg, e, ok, tk, h => by
    unfold chkI at h; rw [II.ev]
    exact i_seq ok.hK (e_ok d ok tk h).1
  | .rng1 a, X, c, W, tg, e, ok, tk, h => by
    unfold chkI at h; rw [II.ev]
    split at h
    · simp only [Bool.and_eq_true, decide_eq_true_eq] at h
      obtain ⟨⟨⟨rfl, h1⟩, h2⟩, h3⟩ := h
      exact i_rg1 (ok.gl h1).1 (ok.tab.no _ (by decide)) (e_ok a ok tk h3).1 (star1 h2 X.env)
    · cases h
  | .rng2 a b, X, c, W, tg, e, ok, tk, h => by
    unfold chkI at h; rw [II.ev]
    split at h
    · simp only [Bool.and_eq_true, decide_eq_true_eq] at h
      obtain ⟨⟨⟨⟨⟨rfl, h1⟩, h2⟩, h3⟩, h4⟩, h5⟩ := h
      exact i_rg2 (ok.gl h1).1 (ok.tab.no _ (by decide)) (e_ok a ok tk h4).1 (e_ok b ok tk h5).1 (by rw [starC h2 X.env, star1 h3 X.env]) (star1 h3 X.env)
    · cases h
  | .enum d, X, c, W, tg, e, ok, tk, h => by
    unfold chkI at h; rw [II.ev]
    split at h
    · simp only [Bool.and_eq_true, decide_eq_true_eq] at h
      obtain ⟨⟨⟨rfl, h1⟩, h2⟩, h3⟩ := h
      exact i_en ok.hK (ok.gl h1).1 (ok.tab.no _ (by decide)) (e_ok d ok tk h3).1 (star1 h2 X.env)
    · cases h
  | .zip a b, X, c, W, tg, e, ok, tk, h => by
    unfold chkI at h; rw [II.ev]
    split at h
    · simp only [Bool.and_eq_true, decide_eq_true_eq] at h
      obtain ⟨⟨⟨⟨⟨rfl, h1⟩, h2⟩, h3⟩, h4⟩, h5⟩ := h
      exact i_pr ok.hK (ok.gl h1).1 (ok.tab.no _ (by decide)) (e_ok a ok tk h4).1 (e_ok b ok tk h5).1 (starC h2 X.env) (star1 h3 X.env)
    · cases h
end
end
end Eg
set_option Elab.async false
set_option linter.all false
set_option maxRecDepth 100000
set_option maxHeartbeats 4000000
namespace Eg
open PySem PySem.Spec PyProof.Rows L2
theorem putF_old {f : Str} {v : V} : ∀ {fl : List Str} {fv : List (Str × V)} {n i : Nat}, fv.map (·.1) = fl.take n → fldIx fl f = some i → i < fv.length → (putF f v fv).map (·.1) = fv.map (·.1) ∧ (putF f v fv).map (·.2) = (fv.map (·.2)).set i v
  | [], fv, n, i, _, e, _ => by cases e
  | g :: gs, [], n, i, _, _, h => by simp at h
  | g :: gs, (k, w) :: fv, 0, i, h, _, _ => by simp at h
  | g :: gs, (k, w) :: fv, n + 1, i, h, e, hi => by
    simp only [List.map_cons, List.take_succ_cons, List.cons.injEq] at h
    obtain ⟨rfl, h⟩ := h
    have e : (if k = f then some 0 else (fldIx gs f).map (· + 1)) = some i := e
    by_cases hk : k = f
    · rw [if_pos hk] at e
      cases e
      unfold putF
      rw [if_pos hk]
      exact ⟨rfl, rfl⟩
    · rw [if_neg hk] at e
      cases e2 : fldIx gs f with
      | none => rw [e2] at e; cases e
      | some j =>
        rw [e2] at e
        cases e
        unfold putF
        rw [if_neg hk]
        obtain ⟨h1, h2⟩ := putF_old (v := v) h e2 (by simpa using hi)
        exact ⟨by simp [h1], by simp [h2]⟩
theorem putF_new {f : Str} {v : V} : ∀ {fl : List Str} {fv : List (Str × V)} {n : Nat}, fv.map (·.1) = fl.take n → fldIx fl f = some n → fv.length = n → (putF f v fv).map (·.1) = fl.take (n + 1) ∧ (putF f v fv).map (·.2) = fv.map (·.2) ++ [v]
  | [], fv, n, _, e, _ => by cases e
  | g :: gs, [], n, h, e, hl => by
    cases (show 0 = n from hl)
    have e : (if g = f then some 0 else (fldIx gs f).map (· + 1)) = some 0 := e
    by_cases hk : g = f
    · subst hk; exact ⟨by simp [putF], by simp [putF]⟩
    · rw [if_neg hk] at e
      cases e2 : fldIx gs f <;> rw [e2] at e <;> simp at e
  | g :: gs, (k, w) :: fv, 0, h, _, hl => by simp at hl
  | g :: gs, (k, w) :: fv, n + 1, h, e, hl => by
    simp only [List.map_cons, List.take_succ_cons, List.cons.injEq] at h
    obtain ⟨rfl, h⟩ := h
    have e : (if k = f then some 0 else (fldIx gs f).map (· + 1)) = some (n + 1) := e
    by_cases hk : k = f
    · rw [if_pos hk] at e; cases e
    · rw [if_neg hk] at e
      cases e2 : fldIx gs f with
      | none => rw [e2] at e; cases e
      | some j =>
        rw [e2] at e
        have : j = n := by simpa using e
        subst this
        unfold putF
        rw [if_neg hk]
        obtain ⟨h1, h2⟩ := putF_new (v := v) h e2 (by simpa using hl)
        exact ⟨by simp [h1], by simp [h2]⟩
def putC (cs : List Ci) (f : Str) (y : T) (st : Sto) (l : Nat) : Option Sto := match st[l]? with
  | some (.ins c vs) => match cs[c]? with
    | some ci => match fldIx ci.fl f with
      | some i => if i < vs.length then some (st.set l (.ins c (vs.set i y))) else if i = vs.length then some (st.set l (.ins c (vs ++ [y]))) else none
      | none => none
    | none => none
  | _ => none
def fFld (cs : List Ci) (f : Str) (fv fo : Env → Sto → R T) : Fs := fun env st => (fv env st).go env fun y st1 => (fo env st1).go env fun x st2 => match x with
  | .loc l => match putC cs f y st2 l with
    | some st3 => .nx env st3
    | none => .bad
  | _ => .bad
section
variable {X : Cx} {G : Gh} {W : WX} {lv : Nat} {cs : List Ci} {fv fo : Env → Sto → R T} {o value : Expr} {f : Str} {pos pos' : Pos}
theorem RSto.seti {m : Mm} {H : Hp} {st : Sto} {l : Nat} {a : Addr} {cl : Cell} {u : HO} (s : RSto G m H st) (e : m.as[l]? = some a) (r : RCell G m (L2.upd H a u) a cl) : RSto G m (L2.upd H a u) (st.set l cl) ∧ Stp m H m (L2.upd H a u) := by
  have ha : a ∈ m.as := List.mem_of_getElem? e
  have S : Stp m H m (L2.upd H a u) := ⟨⟨fun b o h _ hn => by
    have hne : b ≠ a := fun z => hn (by rw [z]; exact ha)
    rw [upd_ne hne]; exact h, fun _ _ h => upd_some h, fun _ h => .inl h, fun _ h => .inl (.inr h), ⟨[], by simp⟩⟩, rfl⟩
  refine ⟨⟨s.nd, s.fd, by rw [List.length_set]; exact s.len, fun i b c h1 h2 => ?_, fun b h => ?_, s.tabs ha⟩, S⟩
  · by_cases hi : i = l
    · subst hi
      rw [e] at h1
      cases h1
      have hl : i < st.length := by rw [← s.len]; exact (List.getElem?_eq_some_iff.mp e).1
      rw [List.getElem?_set_self hl] at h2
      cases h2
      exact r
    · rw [List.getElem?_set_ne (Ne.symm hi)] at h2
      have hne : b ≠ a := fun z => by
        subst z
        exact hi ((List.getElem?_inj (List.getElem?_eq_some_iff.mp h1).1 s.nd).mp (h1.trans e.symm))
      exact RCell.mov S.toMov (upd_ne hne) (s.cell i b c h1 h2)
  · have hne : b ≠ a := fun z => s.fd a ha (z ▸ h)
    rw [upd_ne hne]
    exact s.foS b h
theorem S_fld (hcs : ∀ c ci, cs[c]? = some ci → ClsOk X.prog X.w X.K X.mg X.base lv G c ci) (ho : PE X o (tE G W fo)) (hv : PE X value (tE G W fv)) (hs : swapsWith value (some (.Attribute o f pos')) pos.line X.env = pure false) :
    PS X (.Assign [.Attribute o f pos'] value pos) (tS G W (fFld cs f fv fo)) := by
  refine PS.imp (ps_fld ho hv hs) fun D σ H ⟨m, env, st, rs, h⟩ => ?_
  refine ⟨m, env, st, rs, (Out.go h).imp fun y st1 yv H1 m1 rs1 S1 r1 h => ⟨m1, env, st1, rs1, (Out.go h).imp fun x st2 xv H2 m2 rs2 S2 r2 h => ?_⟩⟩
  cases x with
  | loc l =>
    cases e1 : putC cs f y st2 l with
    | none => simp only [e1] at h; exact h.elim
    | some st3 =>
      simp only [e1] at h
      obtain ⟨a, rfl, hl⟩ := r2
      unfold putC at e1
      cases e2 : st2[l]? with
      | none => rw [e2] at e1; cases e1
      | some cc =>
        rw [e2] at e1
        cases cc with
        | lst xs => cases e1
        | dt kvs => cases e1
        | dk kvs => cases e1
        | ins c vs =>
          simp only at e1
          cases e3 : cs[c]? with
          | none => rw [e3] at e1; cases e1
          | some ci =>
            rw [e3] at e1
            simp only at e1
            cases e4 : fldIx ci.fl f with
            | none => rw [e4] at e1; cases e1
            | some i =>
              rw [e4] at e1
              simp only at e1
              have ok := hcs c ci e3
              obtain ⟨dx, fw, h1, h2, h3, h4⟩ := rs2.sto.cell l a _ hl e2
              rw [ok.fl] at h2 h3
              have hlen : fw.length = vs.length := by rw [h4.length, List.length_map]
              have few : fw.length < 1000 := by have := ok.few; omega
              refine ⟨a, G.cl c, dx, fw, rfl, h1, ok.cls, ok.na f (fldIx_mem e4), few, ?_⟩
              have ha : a ∈ m2.as := List.mem_of_getElem? hl
              have S : Stp m2 H2 m2 (L2.upd H2 a (.ins (G.cl c) dx (putF f yv fw))) := ⟨⟨fun b o hb _ hn => by
                have hne : b ≠ a := fun z => hn (by rw [z]; exact ha)
                rw [upd_ne hne]; exact hb, fun _ _ h => upd_some h, fun _ h => .inl h, fun _ h => .inl (.inr h), ⟨[], by simp⟩⟩, rfl⟩
              have ry : Rp G m2 H2 y yv := Rp.mov S2.toMov _ _ r1
              by_cases c1 : i < vs.length
              · rw [if_pos c1] at e1
                cases e1
                obtain ⟨p1, p2⟩ := putF_old (v := yv) h2 e4 (by omega)
                obtain ⟨s3, S3⟩ := rs2.sto.seti (u := .ins (G.cl c) dx (putF f yv fw)) (cl := .ins c (vs.set i y)) hl ⟨dx, _, upd_same, by rw [p1, ok.fl, List.length_set]; exact h2, by rw [ok.fl, List.length_set]; exact h3, by rw [p2]; exact Rps.mov S.toMov _ _ (h4.setAt ry i)⟩
                exact h σ _ m2 ⟨rs2.env.mov S3.toMov, s3⟩ S3
              · rw [if_neg c1] at e1
                by_cases c2 : i = vs.length
                · rw [if_pos c2] at e1
                  cases e1
                  subst c2
                  obtain ⟨p1, p2⟩ := putF_new (v := yv) h2 e4 hlen
                  have hlt : vs.length < ci.fl.length := by
                    have : ∀ {fl : List Str} {i : Nat}, fldIx fl f = some i → i < fl.length := fun {fl} => by
                      induction fl with
                      | nil => intro i e; cases e
                      | cons g gs ih =>
                        intro i e
                        have e : (if g = f then some 0 else (fldIx gs f).map (· + 1)) = some i := e
                        by_cases hk : g = f
                        · rw [if_pos hk] at e; cases e; exact Nat.zero_lt_succ _
                        · rw [if_neg hk] at e
                          cases e2 : fldIx gs f with
                          | none => rw [e2] at e; cases e
                          | some j => rw [e2] at e; cases e; exact Nat.succ_lt_succ (ih e2)
                    exact this e4
                  obtain ⟨s3, S3⟩ := rs2.sto.seti (u := .ins (G.cl c) dx (putF f yv fw)) (cl := .ins c (vs ++ [y])) hl ⟨dx, _, upd_same, by rw [p1, ok.fl, List.length_append]; rfl, by rw [ok.fl, List.length_append]; exact hlt, by rw [p2]; exact Rps.mov S.toMov _ _ (h4.append ⟨yv, [], rfl, ry, rfl⟩)⟩
                  exact h σ _ m2 ⟨rs2.env.mov S3.toMov, s3⟩ S3
                · rw [if_neg c2] at e1; cases e1
  | _ => exact h.elim
def dputR (v x y : T) (env : Env) (st : Sto) : O := match dicAt st x, tkey y with
  | some (l, kvs), some k => if kvs.length < lim then .nx env (st.set l (.dt (dput kvs k v))) else .bad
  | _, _ => .bad
def fDput (fo fi fv : Env → Sto → R T) : Fs := fun env st => (fv env st).go env fun v st1 => (fo env st1).go env fun x st2 => (fi env st2).go env fun y st3 => dputR v x y env st3
theorem S_dput {i : Expr} {fi : Env → Sto → R T} (hu : X.A.units + 1 < cLine) (ho : PE X o (tE G W fo)) (hi : PE X i (tE G W fi)) (hv : PE X value (tE G W fv)) (hs : swapsWith value (some (.Subscript o i pos')) pos.line X.env = pure false) :
    PS X (.Assign [.Subscript o i pos'] value pos) (tS G W (fDput fo fi fv)) := by
  refine PS.imp (ps_dput hu ho hi hv hs) fun D σ H ⟨m, env, st, rs, h⟩ => ?_
  refine ⟨m, env, st, rs, (Out.go h).imp fun v st1 vv H1 m1 rs1 S1 r1 h => ⟨m1, env, st1, rs1, (Out.go h).imp fun x st2 xv H2 m2 rs2 S2 r2 h => ⟨m2, env, st2, rs2, (Out.go h).imp fun y st3 yv H3 m3 rs3 S3 r3 h => ?_⟩⟩⟩
  unfold dputR at h
  cases e1 : dicAt st3 x with
  | none => rw [e1] at h; exact h.elim
  | some pr =>
    obtain ⟨l, kvs⟩ := pr
    cases e2 : tkey y with
    | none => rw [e1, e2] at h; exact h.elim
    | some k =>
      rw [e1, e2] at h
      by_cases c1 : kvs.length < lim
      · simp only [if_pos c1] at h
        have r2' := Rp.mov S3.toMov _ _ r2
        have r1' := Rp.mov (S2.trans S3).toMov _ _ r1
        obtain ⟨a, vs, rfl, hl, _, hp, rk⟩ := dic_at rs3.sto r2' e1
        obtain ⟨c, rfl, hc⟩ := tkey_at e2 r3
        refine ⟨a, _, rfl, DPut.t (k := k) hp hc (by rw [rk.length, ← lim_eq]; exact c1), ?_⟩
        have ha : a ∈ m3.as := List.mem_of_getElem? hl
        have S : Stp m3 H3 m3 (L2.upd H3 a (.dT (putK vs k vv))) := ⟨⟨fun b o hb _ hn => by
          have hne : b ≠ a := fun z => hn (by rw [z]; exact ha)
          rw [upd_ne hne]; exact hb, fun _ _ h => upd_some h, fun _ h => .inl h, fun _ h => .inl (.inr h), ⟨[], by simp⟩⟩, rfl⟩
        obtain ⟨s3, S4⟩ := rs3.sto.seti (u := .dT (putK vs k vv)) (cl := .dt (dput kvs k v)) hl ⟨putK vs k vv, upd_same, RKs.mov S.toMov _ _ (rks_put rk r1')⟩
        exact h σ _ m3 ⟨rs3.env.mov S4.toMov, s3⟩ S4
      · simp only [if_neg c1] at h; exact h.elim
def kputR (v x y : T) (env : Env) (st : Sto) : O := match dkAt st x, keyT y with
  | some (l, kvs), some k => if kvs.length < lim then .nx env (st.set l (.dk (dput kvs k v))) else .bad
  | _, _ => .bad
def fKput (fo fi fv : Env → Sto → R T) : Fs := fun env st => (fv env st).go env fun v st1 => (fo env st1).go env fun x st2 => (fi env st2).go env fun y st3 => kputR v x y env st3
theorem S_kput {i : Expr} {fi : Env → Sto → R T} (hu : X.A.units + 1 < cLine) (ho : PE X o (tE G W fo)) (hi : PE X i (tE G W fi)) (hv : PE X value (tE G W fv)) (hs : swapsWith value (some (.Subscript o i pos')) pos.line X.env = pure false) :
    PS X (.Assign [.Subscript o i pos'] value pos) (tS G W (fKput fo fi fv)) := by
  refine PS.imp (ps_dput hu ho hi hv hs) fun D σ H ⟨m, env, st, rs, h⟩ => ?_
  refine ⟨m, env, st, rs, (Out.go h).imp fun v st1 vv H1 m1 rs1 S1 r1 h => ⟨m1, env, st1, rs1, (Out.go h).imp fun x st2 xv H2 m2 rs2 S2 r2 h => ⟨m2, env, st2, rs2, (Out.go h).imp fun y st3 yv H3 m3 rs3 S3 r3 h => ?_⟩⟩⟩
  unfold kputR at h
  cases e1 : dkAt st3 x with
  | none => rw [e1] at h; exact h.elim
  | some pr =>
    obtain ⟨l, kvs⟩ := pr
    cases e2 : keyT y with
    | none => rw [e1, e2] at h; exact h.elim
    | some k =>
      rw [e1, e2] at h
      by_cases c1 : kvs.length < lim
      · simp only [if_pos c1] at h
        have r2' := Rp.mov S3.toMov _ _ r2
        have r1' := Rp.mov (S2.trans S3).toMov _ _ r1
        obtain ⟨a, vs, rfl, hl, hp, rk⟩ := dk_at2 rs3.sto r2' e1
        have hk := keyT_rp e2 r3
        subst hk
        refine ⟨a, _, rfl, DPut.k (k := k) hp (by rw [rk.length, ← lim_eq]; exact c1), ?_⟩
        have ha : a ∈ m3.as := List.mem_of_getElem? hl
        have S : Stp m3 H3 m3 (L2.upd H3 a (.dK (putK vs k vv))) := ⟨⟨fun b o hb _ hn => by
          have hne : b ≠ a := fun z => hn (by rw [z]; exact ha)
          rw [upd_ne hne]; exact hb, fun _ _ h => upd_some h, fun _ h => .inl h, fun _ h => .inl (.inr h), ⟨[], by simp⟩⟩, rfl⟩
        obtain ⟨s3, S4⟩ := rs3.sto.seti (u := .dK (putK vs k vv)) (cl := .dk (dput kvs k v)) hl ⟨putK vs k vv, upd_same, RKs.mov S.toMov _ _ (rks_put rk r1')⟩
        exact h σ _ m3 ⟨rs3.env.mov S4.toMov, s3⟩ S4
      · simp only [if_neg c1] at h; exact h.elim
theorem fz_imp {fl : Env → Sto → R (List T)} {σ : L2.St} {H : Hp} {Q : VK} (h : tE G W (fFz fl) σ H Q) : tL G W fl σ H Q := by
  obtain ⟨m, env, st, rs, h⟩ := h
  refine ⟨m, env, st, rs, (Rn.bnd h).imp fun xs st' vs H' m' rs' _ r q p hp => ?_⟩
  exact Rn.next (K := Kq Q) q (rs'.fresh hp) (Stp.fresh hp) ⟨p, vs, rfl, ⟨rs'.sto.free hp, upd_same⟩, Rps.mov (Stp.fresh hp).toMov _ _ r⟩
theorem new_imp {fl : Env → Sto → R (List T)} {σ : L2.St} {H : Hp} {Q : VK} (h : tE G W (fNew fl) σ H Q) : tL G W fl σ H Q := by
  obtain ⟨m, env, st, rs, h⟩ := h
  refine ⟨m, env, st, rs, (Rn.bnd h).imp fun xs st' vs H' m' rs' _ r q p hp => ?_⟩
  obtain ⟨s2, S2⟩ := rs'.sto.push hp r
  exact Rn.next (K := Kq Q) q ⟨rs'.env.mov S2.toMov, s2⟩ S2 ⟨p, rfl, by show (m'.as ++ [p])[st'.length]? = some p; rw [← rs'.sto.len]; simp⟩
theorem nm_imp {i : Nat} {v : V} {σ : L2.St} {H : Hp} {Q : L2.St → Hp → Prop} (h : tT G W (fG (.name i)) v σ H Q) : gName i v σ H Q := by
  obtain ⟨m, env, st, t, rs, r, q⟩ := h
  by_cases hi : i < env.length
  · have q : OutN G W Q m H (match (if i < env.length then some (env.set i (some t)) else none) with
      | some env' => .nx env' st
      | none => .bad) := q
    rw [if_pos hi] at q
    exact q _ H m (rs.set hi r) (Stp.refl m H)
  · have q : OutN G W Q m H (match (if i < env.length then some (env.set i (some t)) else none) with
      | some env' => .nx env' st
      | none => .bad) := q
    rw [if_neg hi] at q
    exact q.elim
end
def fAug (i : Nat) (s : Bool) (fa : Env → Sto → R T) : Fs := fun env st => match env[i]? with
  | some (some (.int x)) => (fa env st).go env fun t st1 => match t with
    | .int y => if i < env.length then .nx (env.set i (some (.int (if s then x - y else x + y)))) st1 else .bad
    | _ => .bad
  | _ => .bad
section
variable {X : Cx} {G : Gh} {W : WX} {fa : Env → Sto → R T} {e : Expr} {pos p : Pos}
theorem aug_imp {i : Nat} {s : Bool} {D : Ends} {σ : L2.St} {H : Hp} (h : tS G W (fAug i s fa) D σ H) : tAug i (tE G W fa) (if s then ipI fun i j => i - j else ipI fun i j => i + j) D σ H := by
  obtain ⟨m, env, st, rs, h⟩ := h
  unfold fAug at h
  split at h
  · rename_i x hx
    obtain ⟨v, hv, rv⟩ := rs.env.2 i _ hx
    cases (show v = V.int x from rv)
    refine ⟨.int x, hv, m, env, st, rs, (Out.go h).imp fun t st' w H' m' rs' _ r q => ?_⟩
    cases t with
    | int y =>
      cases (show w = V.int y from r)
      have q : Out G W D m' H' (if i < env.length then .nx (env.set i (some (.int (if s then x - y else x + y)))) st' else .bad) := q
      by_cases c : i < env.length
      · rw [if_pos c] at q
        cases s with
        | true => exact ⟨x, y, rfl, rfl, q _ H' m' (rs'.set c (v := .int (x - y)) rfl) (Stp.refl m' H')⟩
        | false => exact ⟨x, y, rfl, rfl, q _ H' m' (rs'.set c (v := .int (x + y)) rfl) (Stp.refl m' H')⟩
      · rw [if_neg c] at q; exact q.elim
    | _ => exact q.elim
  · exact h.elim
theorem S_aug {i : Nat} {s : Bool} {x : Str} (hN : X.N.Nodup) (hi : X.N[i]? = some x) (hx : L2.Loc X.env.scope x) (hf : X.fn x = true ∨ X.env.scope.names.lookup x = some .local) (he : PE X e (tE G W fa)) :
    PS X (.AugAssign (.Name x p) (if s then .Sub else .Add) e pos) (tS G W (fAug i s fa)) := by
  cases s with
  | true => exact PS.imp (ps_aug hN hi hx he ip_sub hf) fun D σ H h => aug_imp (s := true) h
  | false => exact PS.imp (ps_aug hN hi hx he ip_add hf) fun D σ H h => aug_imp (s := false) h
end
section
variable {X : Cx} {G : Gh} {W : WX} {a b : Expr} {pos : Pos} {fa fb : Env → Sto → R T}
def fKsub (fa fb : Env → Sto → R T) : Ft := fun t env st => (fa env st).go env fun x st1 => (fb env st1).go env fun y st2 => kputR t x y env st2
theorem set_dict (hu : X.A.units + 1 < cLine) : PSet X (fun o i v H Q => ∃ a H4, o = .ref a ∧ DPut H a i v H4 ∧ Q H4) := by
  intro pins s σ H o i v ov iv u Q I ro ri rv h
  obtain ⟨a, H4, rfl, g, q⟩ := h
  obtain rfl : ov = Value.ref a := ro
  exact d_setItem hu I g ri rv fun s4 I4 => ⟨H4, I4, q⟩
theorem T_ksub (hu : X.A.units + 1 < cLine) (ha : PE X a (tE G W fa)) (hb : PE X b (tE G W fb)) (hx : ∀ v, assign (.Subscript a b pos) X.env v = (do
      let ov ← holding [v] (eval a X.env)
      let iv ← holding [v, ov] (eval b X.env)
      standAt pos
      holding [v, ov, iv] (setItem ov iv v)
      release [v, ov, iv] [])) : PG X (.Subscript a b pos) (tT G W (fKsub fa fb)) := by
  refine PG.imp (pg_sub ha hb (set_dict hu) hx) fun v σ H Q ⟨m, env, st, t, rs, r, h⟩ => ?_
  refine ⟨m, env, st, rs, (OutN.go h).imp fun x st1 xv H1 m1 rs1 S1 r1 h => ⟨m1, env, st1, rs1, (OutN.go h).imp fun y st2 yv H2 m2 rs2 S2 r2 h => ?_⟩⟩
  unfold kputR at h
  cases e1 : dkAt st2 x with
  | none => rw [e1] at h; exact h.elim
  | some pr =>
    obtain ⟨l, kvs⟩ := pr
    cases e2 : keyT y with
    | none => rw [e1, e2] at h; exact h.elim
    | some k =>
      rw [e1, e2] at h
      by_cases c1 : kvs.length < lim
      · simp only [if_pos c1] at h
        have r1' := Rp.mov S2.toMov _ _ r1
        have rt : Rp G m2 H2 t v := Rp.mov S2.toMov _ _ (Rp.mov S1.toMov _ _ r)
        obtain ⟨a, vs, rfl, hl, hp, rk⟩ := dk_at2 rs2.sto r1' e1
        have hk := keyT_rp e2 r2
        subst hk
        refine ⟨a, _, rfl, DPut.k (k := k) hp (by rw [rk.length, ← lim_eq]; exact c1), ?_⟩
        have ha : a ∈ m2.as := List.mem_of_getElem? hl
        have S : Stp m2 H2 m2 (L2.upd H2 a (.dK (putK vs k v))) := ⟨⟨fun b o hb _ hn => by
          have hne : b ≠ a := fun z => hn (by rw [z]; exact ha)
          rw [upd_ne hne]; exact hb, fun _ _ h => upd_some h, fun _ h => .inl h, fun _ h => .inl (.inr h), ⟨[], by simp⟩⟩, rfl⟩
        obtain ⟨s3, S4⟩ := rs2.sto.seti (u := .dK (putK vs k v)) (cl := .dk (dput kvs k t)) hl ⟨putK vs k v, upd_same, RKs.mov S.toMov _ _ (rks_put rk rt)⟩
        exact h σ _ m2 ⟨rs2.env.mov S4.toMov, s3⟩ S4
      · simp only [if_neg c1] at h; exact h.elim
end
end Eg
set_option Elab.async false
set_option linter.all false
set_option maxRecDepth 100000
set_option maxHeartbeats 8000000
namespace Eg
open PySem PySem.Spec PyProof.Rows L2
def frzEnv (f : Nat → Option T) : Env → Option Env
  | [] => some []
  | none :: r => (frzEnv f r).map (none :: ·)
  | some t :: r => match frzW f t, frzEnv f r with
    | some u, some s => some (some u :: s)
    | _, _ => none
def fDrop (cs : List Ci) (f : Fs) : Fs := fun env st => match f env st with
  | .nx env' st' => match frzCs (frz cs st' (ren st.length none)) (st'.take st.length ++ more st' none), frzEnv (frz cs st' (ren st.length none)) env' with
    | some st2, some env2 => .nx env2 st2
    | _, _ => .bad
  | o => o
theorem frzEnv_ok {f : Nat → Option T} : ∀ {env env2 : Env}, frzEnv f env = some env2 → env2.length = env.length ∧ ∀ (i : Nat) u, env2[i]? = some (some u) → ∃ t, env[i]? = some (some t) ∧ frzW f t = some u
  | [], env2, h => by cases h; exact ⟨rfl, fun i u h => by simp at h⟩
  | none :: r, env2, h => by
    obtain ⟨s, e, rfl⟩ := Option.map_eq_some_iff.mp (show (frzEnv f r).map (none :: ·) = some env2 from h)
    obtain ⟨h1, h2⟩ := frzEnv_ok e
    refine ⟨by simp [h1], fun i u hu => ?_⟩
    cases i with
    | zero => simp at hu
    | succ i => simpa using h2 i u (by simpa using hu)
  | some t :: r, env2, h => by
    have h : (match frzW f t, frzEnv f r with
      | some u, some s => some (some u :: s)
      | _, _ => none) = some env2 := h
    cases e1 : frzW f t with
    | none => rw [e1] at h; cases h
    | some u =>
      cases e2 : frzEnv f r with
      | none => rw [e1, e2] at h; cases h
      | some s =>
        rw [e1, e2] at h
        cases h
        obtain ⟨h1, h2⟩ := frzEnv_ok e2
        refine ⟨by simp [h1], fun i w hw => ?_⟩
        cases i with
        | zero => simp at hw; subst hw; exact ⟨t, rfl, e1⟩
        | succ i => simpa using h2 i w (by simpa using hw)
theorem drop_imp {G : Gh} {W : WX} {cs : List Ci} (kc : KnowC G cs) {f : Fs} {D : Ends} {σ : L2.St} {H : Hp} (h : tS G W (fDrop cs f) D σ H) : tS G W f D σ H := by
  obtain ⟨m, env, st, rs, q⟩ := h
  refine ⟨m, env, st, rs, ?_⟩
  unfold fDrop at q
  cases e : f env st with
  | nx env' st' =>
    rw [e] at q
    intro σ' H' m' rs' x
    dsimp only at q
    cases e1 : frzCs (frz cs st' (ren st.length none)) (st'.take st.length ++ more st' none) with
    | none => rw [e1] at q; exact q.elim
    | some st2 =>
      cases e2 : frzEnv (frz cs st' (ren st.length none)) env' with
      | none => rw [e1, e2] at q; exact q.elim
      | some env2 =>
        rw [e1, e2] at q
        have F := fin_ok kc none (by simp) x rs.sto.len rs'.sto e1
        obtain ⟨l1, l2⟩ := frzEnv_ok e2
        refine q σ' H' ⟨m.as ++ more m'.as none, m.fo⟩ ⟨⟨by rw [l1]; exact rs'.env.1, fun i u hu => ?_⟩, F.sto⟩ F.stp
        obtain ⟨t, ht, hf⟩ := l2 i u hu
        obtain ⟨v, hv, r⟩ := rs'.env.2 i t ht
        exact ⟨v, hv, frzW_ok F.hw F.hf t u v hf r⟩
  | _ => rw [e] at q; exact q
inductive IA where
  | pl (g : IG) | sub (a i : IE) | tup (l : List IA) | ksub (a i : IE)
inductive IS where
  | never | asg (t : IA) (e : IE) | par2 (i j : Nat) (es : IEs) | par3 (i j l : Nat) (es : IEs) | fld (o : IE) (f : Str) (e : IE)
  | cond (c : IE) (a b : List IS) | for_ (g : IG) (it : II) (b : List IS) | while_ (c : IE) (b : List IS)
  | rse (c : Nat) (e : IE) | rs0 (c : Nat)
  | ret (e : IE) | retN | exp (e : IE) | pass | brk | cnt | doc | drop (s : IS) | dput (o i e : IE) | kput (o i e : IE) | oput (o i e : IE) | aug (i : Nat) (s : Bool) (e : IE)
def IA.ev (tb : Tab) : IA → Ft
  | .pl q => fG q
  | .sub a i => fSub (a.ev tb) (i.ev tb)
  | .tup l => fTu l.length (evs l)
  | .ksub a i => fKsub (a.ev tb) (i.ev tb)
where evs : List IA → List T → Env → Sto → O
  | [] => fNo
  | t :: ts => fCo (t.ev tb) (evs ts)
mutual
noncomputable def IS.ev (tb : Tab) : IS → Fs
  | .never => fun _ _ => .bad
  | .asg t e => fAsg (e.ev tb) (t.ev tb)
  | .par2 i j es => fPar2 i j (es.ev tb)
  | .par3 i j l es => fPar3 i j l (es.ev tb)
  | .fld o f e => fFld tb.cls f (e.ev tb) (o.ev tb)
  | .cond c a b => fIf (c.ev tb) (Z16 tb a) (Z16 tb b)
  | .for_ g it b => fFor (it.ev tb) g (Z16 tb b)
  | .while_ c b => fWh (c.ev tb) (Z16 tb b)
  | .rse c e => fRse c (e.ev tb)
  | .rs0 c => fRs0 c
  | .ret e => fRet (e.ev tb)
  | .retN => fun _ st => .rt .non st
  | .exp e => fExp (e.ev tb)
  | .pass => fNx
  | .brk => fun env st => .bk env st
  | .cnt => fun env st => .ct env st
  | .doc => fNx
  | .drop s => fDrop tb.cls (s.ev tb)
  | .dput o i e => fDput (o.ev tb) (i.ev tb) (e.ev tb)
  | .kput o i e => fKput (o.ev tb) (i.ev tb) (e.ev tb)
  | .oput o i e => fOput tb.dun (o.ev tb) (i.ev tb) (e.ev tb)
  | .aug i s e => fAug i s (e.ev tb)
noncomputable def Z16 (tb : Tab) : List IS → Fs
  | [] => fNx
  | s :: ss => fun env st => (s.ev tb env st).seq (Z16 tb ss)
end
def noComp : Expr → Bool
  | .ListComp .. => false
  | .SetComp .. => false
  | .DictComp .. => false
  | _ => true
def rowF (sc : Scope) (l : Nat) : Expr → Option Str
  | .Name id pos => if sc.names.lookup id == some .local && pos.line == l then some id else none
  | _ => none
def rowN (sc : Scope) (ts : List Expr) : List Str := ts.filterMap (rowF sc ((ts.head?.map (·.pos.line)).getD 0))
theorem rowF_nm {sc : Scope} {l : Nat} {x y : Str} {p : Pos} (h : rowF sc l (.Name x p) = some y) : y = x ∧ sc.names.lookup x = some .local := by
  have h : (if sc.names.lookup x == some .local && p.line == l then some x else none) = some y := h
  by_cases c : (sc.names.lookup x == some NameKind.local && p.line == l) = true
  · rw [if_pos c] at h
    cases h
    rw [Bool.and_eq_true, beq_iff_eq] at c
    exact ⟨rfl, c.1⟩
  · rw [if_neg c] at h; cases h
theorem fm_all {A B : Type} {f : A → Option B} : ∀ {ts : List A}, (ts.filterMap f).length = ts.length → ∀ t, t ∈ ts → ∃ y, f t = some y
  | [], _, t, h => by cases h
  | t :: ts, hl, u, h => by
    have hle := List.length_filterMap_le f ts
    cases e : f t with
    | none => rw [List.filterMap_cons, e] at hl; simp at hl; omega
    | some y =>
      rw [List.filterMap_cons, e] at hl
      rcases List.mem_cons.mp h with rfl | h
      · exact ⟨y, e⟩
      · exact fm_all (ts := ts) (by simpa using hl) u h
def noSwp (sc : Scope) : Expr → Expr → Bool
  | .Tuple ts _ _, .Tuple vs _ _ => !(ts.length == 2 || ts.length == 3) || vs.length != ts.length || (rowN sc ts).length != ts.length || vs.all (foldedForSure 8)
  | .List _ _, .Tuple _ _ _ => false
  | _, _ => true
def swp (sc : Scope) (ts vs : List Expr) : Bool :=
  (ts.length == 2 || ts.length == 3) && vs.length == ts.length && decide (sc.kind = .function) && vs.all notStar && (rowN sc ts).length == ts.length && (rowN sc ts).eraseDups.length == (rowN sc ts).length && !vs.all (foldedForSure 8) && !vs.all (constantsAlone 8)
def oneRow (sc : Scope) : Expr → Expr → Bool
  | .Name y py, .ListComp _ _ scope pos => decide (sc.names.lookup y = some .local) && decide (sc.kind = .function) && (py.line == pos.line) && !(scope.names.any fun (n, k) => n == y && (k == .local || k == .cell))
  | _, _ => false
def offRow (sc : Scope) : Expr → Expr → Bool
  | .Name y py, .ListComp _ _ scope pos => !decide (sc.names.lookup y = some .local) || !(py.line == pos.line) || (scope.names.any fun (n, k) => n == y && (k == .local || k == .cell))
  | _, .ListComp .. => true
  | _, e => noComp e
def chkA (c : CC) (tb : Tab) : IA → Expr → Bool
  | .pl q, e => chkG c q e
  | .sub a i, e => match e with
    | .Subscript x y _ => plIx y && chkE c tb a x && chkE c tb i y
    | _ => false
  | .tup l, e => match e with
    | .Tuple es _ _ => cold c && chkAs l es
    | _ => false
  | .ksub a i, e => match e with
    | .Subscript x y _ => plIx y && chkE c tb a x && chkE c tb i y
    | _ => false
where chkAs : List IA → List Expr → Bool
  | [], es => match es with
    | [] => true
    | _ => false
  | t :: ts, es => match es with
    | e :: r => notStar e && chkA c tb t e && chkAs ts r
    | _ => false
def isNm : IA → Option Nat
  | .pl (.name i) => some i
  | _ => none
def lcOf : IE → Option (Bool × (List Nat × IE × IG × II × IO))
  | .fz (.lc own d g it t) => some (false, own, d, g, it, t)
  | .new (.lc own d g it t) => some (true, own, d, g, it, t)
  | _ => none
def isLc2 : IE → Bool
  | .fz (.lc2 ..) => true
  | .new (.lc2 ..) => true
  | _ => false
mutual
def chkS (c : CC) (tb : Tab) : IS → Stmt → Bool
  | .never, _ => true
  | .asg t e, s => match s with
    | .Assign [tg] v _ => chkA c tb t tg && chkE c tb e v && noSwp c.sc tg v && (offRow c.sc tg v || (oneRow c.sc tg v && (isNm t).isSome && ((lcOf e).isSome || isLc2 e)))
    | _ => false
  | .par2 i j es, s => match s with
    | .Assign [.Tuple [.Name x px, .Name y py] _ _] (.Tuple [a, b] _ _) _ => locC c i x && locC c j y && decide (i ≠ j) && decide (x ≠ y) && swp c.sc [.Name x px, .Name y py] [a, b] && chkEs c tb es [a, b] && cold c
    | _ => false
  | .par3 i j l es, s => match s with
    | .Assign [.Tuple [.Name x px, .Name y py, .Name z pz] _ _] (.Tuple [a, b, d] _ _) _ => locC c i x && locC c j y && locC c l z && decide (i ≠ j) && decide (i ≠ l) && decide (j ≠ l) && swp c.sc [.Name x px, .Name y py, .Name z pz] [a, b, d] && chkEs c tb es [a, b, d] && cold c
    | _ => false
  | .fld o f e, s => match s with
    | .Assign [.Attribute x m _] v _ => decide (m = f) && noComp v && chkE c tb o x && chkE c tb e v
    | _ => false
  | .cond d a b, s => match s with
    | .If e x y _ => d.tst && chkE c tb d e && chkSs c tb a x && chkSs c tb b y
    | _ => false
  | .for_ g it b, s => match s with
    | .For tg iter body [] _ => notSet iter && chkI c tb it tg iter && chkG c g tg && chkSs c tb b body && cold c
    | _ => false
  | .while_ d b, s => match s with
    | .While e body [] _ => d.tst && chkE c tb d e && chkSs c tb b body
    | _ => false
  | .rse k e, s => match s with
    | .Raise (some (.Call (.Name x _) [y] [] _)) none _ => cold c && tgC c tb (.cls k) x && (tb.xcs.lookup k).any (fun f => !decide (f = ("" : Str))) && notStar y && chkE c tb e y
    | _ => false
  | .rs0 k, s => match s with
    | .Raise (some (.Call (.Name x _) [] [] _)) none _ => cold c && tgC c tb (.cls k) x && decide (tb.xcs.lookup k = some ("" : Str))
    | _ => false
  | .ret e, s => match s with
    | .Return (some v) _ => chkE c tb e v
    | _ => false
  | .retN, s => match s with
    | .Return none _ => true
    | _ => false
  | .exp e, s => match s with
    | .Expr v _ => noComp v && chkE c tb e v
    | _ => false
  | .pass, s => match s with
    | .Pass _ => true
    | _ => false
  | .brk, s => match s with
    | .Break _ => true
    | _ => false
  | .cnt, s => match s with
    | .Continue _ => true
    | _ => false
  | .doc, s => match s with
    | .Expr (.Constant (.str _) _ _) _ => true
    | _ => false
  | .drop i, s => chkS c tb i s
  | .dput o i e, s => match s with
    | .Assign [.Subscript x y _] v _ => noComp v && chkE c tb o x && chkE c tb i y && chkE c tb e v
    | _ => false
  | .kput o i e, s => match s with
    | .Assign [.Subscript x y _] v _ => noComp v && chkE c tb o x && chkE c tb i y && chkE c tb e v
    | _ => false
  | .oput o i e, s => match s with
    | .Assign [.Subscript x y _] v _ => noComp v && chkE c tb o x && chkE c tb i y && chkE c tb e v && cold c
    | _ => false
  | .aug i z e, s => match s with
    | .AugAssign (.Name x _) o v _ => locC c i x && decide (o = if z then .Sub else .Add) && chkE c tb e v
    | _ => false
def chkSs (c : CC) (tb : Tab) : List IS → List Stmt → Bool
  | [], ss => match ss with
    | [] => true
    | _ => false
  | i :: is, ss => match ss with
    | s :: r => chkS c tb i s && chkSs c tb is r
    | _ => false
end
section
variable {X : Cx} {c : CC} {G : Gh} {W : WX} {tb : Tab} {lv : Nat}
theorem swp_ok {env : PySem.Env} {sc : Scope} {ts vs : List Expr} {k1 k2 : Nat} {p1 p2 : Pos} (hs : env.scope = sc) (h : swp sc ts vs = true) : swappedStores [.Tuple ts k1 p1] (.Tuple vs k2 p2) env = pure (some (rowN sc ts)) := by
  unfold swp at h
  simp only [Bool.and_eq_true, decide_eq_true_eq, Bool.not_eq_true', beq_iff_eq] at h
  obtain ⟨⟨⟨⟨⟨⟨⟨h1, h2⟩, h3⟩, h4⟩, h5⟩, h6⟩, h7⟩, h8⟩ := h
  have hb : env.blockKind = .function := by unfold PySem.Env.blockKind; rw [hs, h3]; rfl
  unfold swappedStores
  simp only [hb, h1, h2, Bool.not_true, bne_self_eq_false, Bool.or_self, Bool.false_eq_true, if_false, pure_bind]
  split
  · rename_i hany
    obtain ⟨x, hx, hm⟩ := List.any_eq_true.mp hany
    have := List.all_eq_true.mp h4 x hx
    cases x <;> first | (cases this; done) | (cases hm; done)
  · generalize hq : List.filterMap _ ts = nm
    have hn : nm = rowN sc ts := by
      rw [← hq]
      unfold rowN
      rw [← hs]
      rfl
    subst hn
    simp only [h5, h6, h7, h8, bne_self_eq_false, Bool.or_self, Bool.false_eq_true, if_false, pure_bind]
theorem noSwp_ok {env : PySem.Env} {sc : Scope} {tg v : Expr} (hs : env.scope = sc) (h : noSwp sc tg v = true) : swappedStores [tg] v env = pure none := by
  cases tg with
  | Tuple ts k1 p1 =>
    cases v with
    | Tuple vs k2 p2 =>
      have h : (!(ts.length == 2 || ts.length == 3) || vs.length != ts.length || (rowN sc ts).length != ts.length || vs.all (foldedForSure 8)) = true := h
      unfold swappedStores
      dsimp only
      by_cases c1 : (!(ts.length == 2 || ts.length == 3) || vs.length != ts.length || env.blockKind != .function) = true
      · rw [if_pos c1]
      · rw [if_neg c1]
        have c1' : (!(ts.length == 2 || ts.length == 3) || vs.length != ts.length || env.blockKind != .function) = false := by simpa using c1
        rw [Bool.or_eq_false_iff] at c1'
        rw [c1'.1, Bool.false_or] at h
        split
        · rfl
        · generalize hq : List.filterMap _ ts = nm
          have hn : nm = rowN sc ts := by
            rw [← hq]
            unfold rowN
            rw [← hs]
            rfl
          subst hn
          by_cases c3 : ((rowN sc ts).length != ts.length || (rowN sc ts).eraseDups.length != (rowN sc ts).length) = true
          · rw [if_pos c3]
          · rw [if_neg c3]
            have c3' : ((rowN sc ts).length != ts.length || (rowN sc ts).eraseDups.length != (rowN sc ts).length) = false := by simpa using c3
            rw [Bool.or_eq_false_iff] at c3'
            rw [c3'.1, Bool.false_or] at h
            rw [if_pos h]
    | _ => rfl
  | List ts p => cases v <;> first | rfl | cases h
  | _ => rfl
theorem nocomp_ok {v : Expr} {t : Option Expr} {l : Nat} {env : PySem.Env} (h : noComp v = true) : swapsWith v t l env = pure false := by cases v <;> first | rfl | cases h
theorem offRow_ok {sc : Scope} {tg v : Expr} {l : Nat} {env : PySem.Env} (hs : env.scope = sc) (h : offRow sc tg v = true) : swapsWithSole [tg] v l env = pure false := by
  show swapsWith v (some tg) l env = pure false
  cases v with
  | ListComp elt gs scope pos =>
    cases tg with
    | Name y py =>
      have h : (!decide (sc.names.lookup y = some .local) || !(py.line == pos.line) || (scope.names.any fun (n, k) => n == y && (k == .local || k == .cell))) = true := h
      have : (env.blockKind == .function && env.kindOf y == some .local && py.line == pos.line && !(scope.names.any fun (n, k) => n == y && (k == .local || k == .cell))) = false := by
        have hk : env.kindOf y = sc.names.lookup y := by unfold PySem.Env.kindOf; rw [hs]
        rw [hk]
        simp only [Bool.or_eq_true, Bool.not_eq_true', decide_eq_false_iff_not] at h
        rcases h with (h | h) | h
        · rw [beq_eq_false_iff_ne.mpr h]; simp
        · rw [h]; simp
        · rw [h]; simp
      show pure (env.blockKind == .function && env.kindOf y == some .local && py.line == pos.line && !(scope.names.any fun (n, k) => n == y && (k == .local || k == .cell))) = pure false
      rw [this]
    | _ => rfl
  | SetComp _ _ _ _ => cases tg <;> cases h
  | DictComp _ _ _ _ _ => cases tg <;> cases h
  | _ => cases tg <;> rfl
theorem chkA_one {t : IA} {tg : Expr} (h : chkA c tb t tg = true) (env : PySem.Env) : (assignEach [tg] env).map (·.2) = [assign tg env] := by
  cases tg with
  | Starred _ _ => cases t with
    | pl q => cases q <;> simp [chkA, chkG] at h
    | _ => simp [chkA] at h
  | _ => rfl
theorem chkAs_each (env : PySem.Env) : ∀ {l : List IA} {es : List Expr}, chkA.chkAs c tb l es = true → (assignEach es env).length = l.length ∧ (assignEach es env).findIdx? (·.1) = none
  | [], [], _ => ⟨rfl, rfl⟩
  | [], _ :: _, h => by simp [chkA.chkAs] at h
  | _ :: _, [], h => by simp [chkA.chkAs] at h
  | t :: l, e :: es, h => by
    simp only [chkA.chkAs, Bool.and_eq_true] at h
    obtain ⟨h1, h2⟩ := chkAs_each env h.2
    have : assignEach (e :: es) env = (false, assign e env) :: assignEach es env := by
      have h3 := h.1.1
      cases e <;> first | rfl | cases h3
    rw [this]
    refine ⟨by simp [h1], ?_⟩
    rw [List.findIdx?_cons, h2]
    rfl
mutual
theorem a_ok (ok : Okx X c G tb lv) (tk : Takes X W) : ∀ (t : IA) {e : Expr}, chkA c tb t e = true → PG X e (tT G W (t.ev tb))
  | .pl q, e, h => by
    unfold chkA at h; rw [IA.ev]
    exact T_g (g_ok ok.hN ok.hs ok.hf ok.nd ok.hK ok.calm q e h)
  | .sub a i, e, h => by
    unfold chkA at h; rw [IA.ev]
    split at h
    · rename_i x y p
      simp only [Bool.and_eq_true] at h
      obtain ⟨⟨h0, h1⟩, h2⟩ := h
      refine T_sub (e_ok a ok tk h1).1 (e_ok i ok tk h2).1 fun v => ?_
      cases y <;> first | rfl | cases h0
    · cases h
  | .ksub a i, e, h => by
    unfold chkA at h; rw [IA.ev]
    split at h
    · rename_i x y p
      simp only [Bool.and_eq_true] at h
      obtain ⟨⟨h0, h1⟩, h2⟩ := h
      refine T_ksub (by have := ok.units; omega) (e_ok a ok tk h1).1 (e_ok i ok tk h2).1 fun v => ?_
      cases y <;> first | rfl | cases h0
    · cases h
  | .tup l, e, h => by
    unfold chkA at h; rw [IA.ev]
    split at h
    · rw [Bool.and_eq_true] at h
      obtain ⟨h1, h2⟩ := chkAs_each X.env h.2
      exact T_tu (ok.calm h.1) (as_ok ok tk l h.2) h1 h2
    · cases h
theorem as_ok (ok : Okx X c G tb lv) (tk : Takes X W) : ∀ (l : List IA) {es : List Expr}, chkA.chkAs c tb l es = true → PGs X es (tTs G W (IA.ev.evs tb l))
  | [], es, h => by
    unfold chkA.chkAs at h; rw [IA.ev.evs]
    split at h
    · exact T_no
    · cases h
  | t :: l, es, h => by
    unfold chkA.chkAs at h; rw [IA.ev.evs]
    split at h
    · rename_i e r
      simp only [Bool.and_eq_true] at h
      refine T_co (a_ok ok tk t h.1.2) (as_ok ok tk l h.2) ?_
      have h3 := h.1.1
      cases e <;> first | rfl | cases h3
    · cases h
end
theorem row_ok (ok : Okx X c G tb lv) (tk : Takes X W) {i : Nat} {own : List Nat} {d : IE} {g : IG} {it : II} {t : IO} {tg v : Expr} {pos : Pos} (h1 : chkG c (.name i) tg = true) (h2 : chkL c tb (.lc own d g it t) v = true) (h3 : oneRow c.sc tg v = true) :
    PS X (.Assign [tg] v pos) (tAsg (tL G W (fLc own (d.ev tb) g (it.ev tb) (t.test tb))) (gName i)) := by
  cases tg with
  | Name y py =>
    unfold chkL at h2
    split at h2
    · rename_i elt tg iter ifs scope lp
      simp only [Bool.and_eq_true, decide_eq_true_eq] at h2
      obtain ⟨⟨⟨⟨⟨⟨⟨⟨a1, a2⟩, a3⟩, a4⟩, a5⟩, a6⟩, a7⟩, a8⟩, hh⟩ := h2
      have h3 : (decide (c.sc.names.lookup y = some .local) && decide (c.sc.kind = .function) && (py.line == lp.line) && !(scope.names.any fun (n, k) => n == y && (k == .local || k == .cell))) = true := h3
      simp only [Bool.and_eq_true, decide_eq_true_eq, Bool.not_eq_true'] at h3
      obtain ⟨⟨⟨b1, b2⟩, b3⟩, b4⟩ := h3
      have hl : locC c i y = true := by simpa [chkG] using h1
      obtain ⟨n1, _, _⟩ := loc_of (X := X) hl ok.hN ok.hs ok.hf
      have hg : ∀ (s : Shared) (H : Hp) (C : Addr) (cl : List (Str × Addr)) (fp : List Addr), PG (X.blk s H scope (compEnvC scope cl C X.env) fp) tg (tG G g) := fun s H C cl fp => by
        have ok' := ok.blk hh s H scope C cl fp
        exact g_ok ok'.hN ok'.hs ok'.hf ok'.nd ok'.hK ok'.calm g tg a6
      have ht : ∀ (s : Shared) (H : Hp) (C : Addr) (cl : List (Str × Addr)) (fp : List Addr), PTs (X.blk s H scope (compEnvC scope cl C X.env) fp) ifs (tT0 G (t.test tb)) := fun s H C cl fp => if_ok t (ok.blk hh s H scope C cl fp) takes0 a8
      have he : ∀ (s : Shared) (H : Hp) (C : Addr) (cl : List (Str × Addr)) (fp : List Addr), PE (X.blk s H scope (compEnvC scope cl C X.env) fp) elt (tE G W0 (d.ev tb)) := fun s H C cl fp => (e_ok d (ok.blk hh s H scope C cl fp) takes0 a7).1
      have hs : ∀ x, foldedSetIterable iter X.env x = pure x := fun x => by cases iter <;> first | rfl | cases a5
      refine PS.imp (ps_setLc (py := py) (pos := lp) (spos := pos) (ok.calm hh) ok.nd n1 (by rw [ok.hs]; exact b1) (sw_true (by rw [ok.hs]; exact b2) (by rw [ok.hs]; exact b1) b3 b4) (i_ok it ok tk a1) (own := ownP c own) (blkOk_by (by rw [ok.hN, ok.hs]; exact a2)) hg ht he hs) fun D σ H q => ?_
      rw [a3]
      exact lc_imp a4 q
    · cases h2
  | _ => cases h3
theorem row2_ok (ok : Okx X c G tb lv) (tk : Takes X W) {i : Nat} {own vs1 : List Nat} {d : IE} {g g1 : IG} {it it1 : II} {t t1 : IO} {tg v : Expr} {pos : Pos} (hc1 : chkG c (.name i) tg = true) (hc2 : chkL c tb (.lc2 own vs1 d g it t g1 it1 t1) v = true) (hc3 : oneRow c.sc tg v = true) :
    PS X (.Assign [tg] v pos) (tAsg (tL G W (fLc2 own vs1 (d.ev tb) g (it.ev tb) (t.test tb) g1 (it1.ev tb) (t1.test tb))) (gName i)) := by
  cases tg with
  | Name y py =>
    unfold chkL at hc2
    split at hc2
    · rename_i elt tg iter ifs tg1 iter1 ifs1 scope lp
      simp only [Bool.and_eq_true, decide_eq_true_eq] at hc2
      obtain ⟨⟨⟨⟨⟨⟨⟨⟨⟨⟨⟨⟨⟨⟨h1, h2⟩, h3⟩, h4⟩, h41⟩, h42⟩, h5⟩, h51⟩, h6⟩, h7⟩, h8⟩, h9⟩, h61⟩, h81⟩, hh⟩ := hc2
      have hc3 : (decide (c.sc.names.lookup y = some .local) && decide (c.sc.kind = .function) && (py.line == lp.line) && !(scope.names.any fun (n, k) => n == y && (k == .local || k == .cell))) = true := hc3
      simp only [Bool.and_eq_true, decide_eq_true_eq, Bool.not_eq_true'] at hc3
      obtain ⟨⟨⟨b1, b2⟩, b3⟩, b4⟩ := hc3
      have hl : locC c i y = true := by simpa [chkG] using hc1
      obtain ⟨n1, _, _⟩ := loc_of (X := X) hl ok.hN ok.hs ok.hf
      have hg : ∀ (s : Shared) (H : Hp) (C : Addr) (cl : List (Str × Addr)) (fp : List Addr), PG (X.blk s H scope (compEnvC scope cl C X.env) fp) tg (tG G g) := fun s H C cl fp => by
        have ok' := ok.blk hh s H scope C cl fp
        exact g_ok ok'.hN ok'.hs ok'.hf ok'.nd ok'.hK ok'.calm g tg h6
      have hg1 : ∀ (s : Shared) (H : Hp) (C : Addr) (cl : List (Str × Addr)) (fp : List Addr), PG (X.blk s H scope (compEnvC scope cl C X.env) fp) tg1 (tG G g1) := fun s H C cl fp => by
        have ok' := ok.blk hh s H scope C cl fp
        exact g_ok ok'.hN ok'.hs ok'.hf ok'.nd ok'.hK ok'.calm g1 tg1 h61
      have ht : ∀ (s : Shared) (H : Hp) (C : Addr) (cl : List (Str × Addr)) (fp : List Addr), PTs (X.blk s H scope (compEnvC scope cl C X.env) fp) ifs (tT0 G (t.test tb)) := fun s H C cl fp => if_ok t (ok.blk hh s H scope C cl fp) takes0 h8
      have ht1 : ∀ (s : Shared) (H : Hp) (C : Addr) (cl : List (Str × Addr)) (fp : List Addr), PTs (X.blk s H scope (compEnvC scope cl C X.env) fp) ifs1 (tT0 G (t1.test tb)) := fun s H C cl fp => if_ok t1 (ok.blk hh s H scope C cl fp) takes0 h81
      have he : ∀ (s : Shared) (H : Hp) (C : Addr) (cl : List (Str × Addr)) (fp : List Addr), PE (X.blk s H scope (compEnvC scope cl C X.env) fp) elt (tE G W0 (d.ev tb)) := fun s H C cl fp => (e_ok d (ok.blk hh s H scope C cl fp) takes0 h7).1
      have hi1 : ∀ (s : Shared) (H : Hp) (C : Addr) (cl : List (Str × Addr)) (fp : List Addr), PI (X.blk s H scope (compEnvC scope cl C X.env) fp) tg1 iter1 (tI G W0 (it1.ev tb)) := fun s H C cl fp => i_ok it1 (ok.blk hh s H scope C cl fp) takes0 h9
      have hs : ∀ x, foldedSetIterable iter X.env x = pure x := fun x => by cases iter <;> first | rfl | cases h5
      have hs1 : ∀ env x, foldedSetIterable iter1 env x = pure x := fun env x => by cases iter1 <;> first | rfl | cases h51
      refine PS.imp (ps_setLc2 (py := py) (pos := lp) (spos := pos) (vs1 := vs1) (ok.calm hh) ok.nd n1 (by rw [ok.hs]; exact b1) (sw_true (by rw [ok.hs]; exact b2) (by rw [ok.hs]; exact b1) b3 b4) (i_ok it ok tk h1) (own := ownP c own) (blkOk_by (by rw [ok.hN, ok.hs]; exact h2)) (fun i hi => by rw [h3]; exact h42 i hi) hg ht hi1 hg1 ht1 he hs hs1) fun D σ H q => ?_
      rw [h3]
      exact lc2_imp h4 h41 q
    · cases hc2
  | _ => cases hc3
mutual
theorem st_ok (ok : Okx X c G tb lv) (tk : Takes X W) (po : PassesOwn (model X.prog X.w) X.A X.env X.xe) : ∀ (i : IS) {s : Stmt}, chkS c tb i s = true → PS X s (tS G W (i.ev tb))
  | .never, s, h => by rw [IS.ev]; exact ⟨fun pins s σ H D I ⟨m, env, st, rs, q⟩ => q.elim⟩
  | .asg t e, s, h => by
    unfold chkS at h; rw [IS.ev]
    split at h
    · rename_i tg v pos
      simp only [Bool.and_eq_true, Bool.or_eq_true] at h
      obtain ⟨⟨⟨h1, h2⟩, h3⟩, h4⟩ := h
      rcases h4 with h4 | ⟨⟨h4, h5⟩, h6⟩
      · exact S_asg (e_ok e ok tk h2).1 (a_ok ok tk t h1) (offRow_ok ok.hs h4) (noSwp_ok ok.hs h3) (chkA_one h1 X.env)
      · cases t with
        | pl q =>
          cases q with
          | name i =>
            have h1 : chkG c (.name i) tg = true := by simpa [chkA] using h1
            cases e with
            | fz l =>
              cases l with
              | lc own d g it t =>
                refine PS.imp (row_ok ok tk h1 (by simpa [chkE] using h2) h4) fun D σ H q => ?_
                have q2 := asg_imp q
                obtain ⟨m, env, st, rs, q3⟩ := fz_imp q2
                exact ⟨m, env, st, rs, q3.imp fun xs st' vs H' m' _ _ _ k p hp => nm_imp (k p hp)⟩
              | lc2 own vs1 d g it t g1 it1 t1 =>
                refine PS.imp (row2_ok ok tk h1 (by simpa [chkE] using h2) h4) fun D σ H q => ?_
                have q2 := asg_imp q
                obtain ⟨m, env, st, rs, q3⟩ := fz_imp q2
                exact ⟨m, env, st, rs, q3.imp fun xs st' vs H' m' _ _ _ k p hp => nm_imp (k p hp)⟩
              | _ => simp [lcOf, isLc2] at h6
            | new l =>
              cases l with
              | lc own d g it t =>
                refine PS.imp (row_ok ok tk h1 (by simpa [chkE] using h2) h4) fun D σ H q => ?_
                have q2 := asg_imp q
                obtain ⟨m, env, st, rs, q3⟩ := new_imp q2
                exact ⟨m, env, st, rs, q3.imp fun xs st' vs H' m' _ _ _ k p hp => nm_imp (k p hp)⟩
              | lc2 own vs1 d g it t g1 it1 t1 =>
                refine PS.imp (row2_ok ok tk h1 (by simpa [chkE] using h2) h4) fun D σ H q => ?_
                have q2 := asg_imp q
                obtain ⟨m, env, st, rs, q3⟩ := new_imp q2
                exact ⟨m, env, st, rs, q3.imp fun xs st' vs H' m' _ _ _ k p hp => nm_imp (k p hp)⟩
              | _ => simp [lcOf, isLc2] at h6
            | _ => simp [lcOf, isLc2] at h6
          | tup _ => cases h5
        | _ => cases h5
    · cases h
  | .par2 i j es, s, h => by
    unfold chkS at h; rw [IS.ev]
    split at h
    · rename_i x px y py k1 p1 a b k2 p2 pos
      simp only [Bool.and_eq_true, decide_eq_true_eq] at h
      obtain ⟨⟨⟨⟨⟨⟨h1, h2⟩, h3⟩, h4⟩, h5⟩, h6⟩, hh⟩ := h
      obtain ⟨n1, _, _⟩ := loc_of (X := X) h1 ok.hN ok.hs ok.hf
      obtain ⟨n2, _, _⟩ := loc_of (X := X) h2 ok.hN ok.hs ok.hf
      have hw := swp_ok (k1 := k1) (k2 := k2) (p1 := p1) (p2 := p2) ok.hs h5
      have hr : rowN c.sc [.Name x px, .Name y py] = [x, y] ∧ c.sc.names.lookup x = some .local ∧ c.sc.names.lookup y = some .local := by
        unfold swp at h5
        simp only [Bool.and_eq_true, beq_iff_eq] at h5
        have hlen := h5.1.1.1.2
        unfold rowN at hlen ⊢
        obtain ⟨z1, q1⟩ := fm_all hlen (.Name x px) (by simp)
        obtain ⟨z2, q2⟩ := fm_all hlen (.Name y py) (by simp)
        obtain ⟨e1, l1⟩ := rowF_nm q1
        obtain ⟨e2, l2⟩ := rowF_nm q2
        subst e1 e2
        exact ⟨by simp only [List.filterMap_cons, List.filterMap_nil, q1, q2], l1, l2⟩
      rw [hr.1] at hw
      exact PS.imp (ps_par (ok.calm hh) ok.nd n1 n2 h3 (by rw [ok.hs]; exact hr.2.1) (by rw [ok.hs]; exact hr.2.2) (es_ok es ok tk h6) hw rfl) fun D σ H q => par2_imp q
    · cases h
  | .par3 i j l es, s, h => by
    unfold chkS at h; rw [IS.ev]
    split at h
    · rename_i x px y py z pz k1 p1 a b d k2 p2 pos
      simp only [Bool.and_eq_true, decide_eq_true_eq] at h
      obtain ⟨⟨⟨⟨⟨⟨⟨⟨h1, h2⟩, h3⟩, h4⟩, h5⟩, h6⟩, h7⟩, h8⟩, hh⟩ := h
      obtain ⟨n1, _, _⟩ := loc_of (X := X) h1 ok.hN ok.hs ok.hf
      obtain ⟨n2, _, _⟩ := loc_of (X := X) h2 ok.hN ok.hs ok.hf
      obtain ⟨n3, _, _⟩ := loc_of (X := X) h3 ok.hN ok.hs ok.hf
      have hw := swp_ok (k1 := k1) (k2 := k2) (p1 := p1) (p2 := p2) ok.hs h7
      have hr : rowN c.sc [.Name x px, .Name y py, .Name z pz] = [x, y, z] ∧ c.sc.names.lookup x = some .local ∧ c.sc.names.lookup y = some .local ∧ c.sc.names.lookup z = some .local := by
        unfold swp at h7
        simp only [Bool.and_eq_true, beq_iff_eq] at h7
        have hlen := h7.1.1.1.2
        unfold rowN at hlen ⊢
        obtain ⟨z1, q1⟩ := fm_all hlen (.Name x px) (by simp)
        obtain ⟨z2, q2⟩ := fm_all hlen (.Name y py) (by simp)
        obtain ⟨z3, q3⟩ := fm_all hlen (.Name z pz) (by simp)
        obtain ⟨e1, l1⟩ := rowF_nm q1
        obtain ⟨e2, l2⟩ := rowF_nm q2
        obtain ⟨e3, l3⟩ := rowF_nm q3
        subst e1 e2 e3
        exact ⟨by simp only [List.filterMap_cons, List.filterMap_nil, q1, q2, q3], l1, l2, l3⟩
      rw [hr.1] at hw
      exact PS.imp (ps_par3 (ok.calm hh) ok.nd n1 n2 n3 h4 h5 h6 (by rw [ok.hs]; exact hr.2.1) (by rw [ok.hs]; exact hr.2.2.1) (by rw [ok.hs]; exact hr.2.2.2) (es_ok es ok tk h8) hw rfl) fun D σ H q => par3_imp q
    · cases h
  | .fld o f e, s, h => by
    unfold chkS at h; rw [IS.ev]
    split at h
    · simp only [Bool.and_eq_true, decide_eq_true_eq] at h
      obtain ⟨⟨⟨rfl, h1⟩, h2⟩, h3⟩ := h
      exact S_fld (fun k ci => ok.tab.cls k ci) (e_ok o ok tk h2).1 (e_ok e ok tk h3).1 (nocomp_ok h1)
    · cases h
  | .cond d a b, s, h => by
    unfold chkS at h; rw [IS.ev]
    split at h
    · simp only [Bool.and_eq_true] at h
      obtain ⟨⟨⟨h1, h2⟩, h3⟩, h4⟩ := h
      exact S_if ((e_ok d ok tk h2).2 h1) (sts_ok ok tk po a h3) (sts_ok ok tk po b h4)
    · cases h
  | .for_ g it b, s, h => by
    unfold chkS at h; rw [IS.ev]
    split at h
    · rename_i tg iter body pos
      simp only [Bool.and_eq_true] at h
      obtain ⟨⟨⟨⟨h1, h2⟩, h3⟩, h4⟩, hh⟩ := h
      have hs : ∀ x, foldedSetIterable iter X.env x = pure x := fun x => by cases iter <;> first | rfl | cases h1
      exact S_for po (ok.calm hh) (i_ok it ok tk h2) (g_ok ok.hN ok.hs ok.hf ok.nd ok.hK ok.calm g tg h3) (sts_ok ok tk po b h4) hs
    · cases h
  | .while_ d b, s, h => by
    unfold chkS at h; rw [IS.ev]
    split at h
    · simp only [Bool.and_eq_true] at h
      obtain ⟨⟨h1, h2⟩, h3⟩ := h
      exact S_while po ((e_ok d ok tk h2).2 h1) (sts_ok ok tk po b h3)
    · cases h
  | .rse k e, s, h => by
    unfold chkS at h; rw [IS.ev]
    split at h
    · rename_i x p y p2 p3
      simp only [Bool.and_eq_true] at h
      obtain ⟨⟨⟨⟨hh, h1⟩, h2⟩, h3⟩, h4⟩ := h
      obtain ⟨f, hf, hne⟩ : ∃ f, tb.xcs.lookup k = some f ∧ f ≠ ("" : Str) := by
        cases q : tb.xcs.lookup k with
        | none => rw [q] at h2; cases h2
        | some f => rw [q] at h2; exact ⟨f, rfl, by simpa using h2⟩
      unfold tgC at h1
      rw [Bool.and_eq_true, decide_eq_true_eq] at h1
      obtain ⟨gg, hd, _⟩ := ok.gl h1.1
      have hm : X.mg x = some (.ref (G.cl k)) := by
        rcases ok.tab.tgs x _ h1.2 with ⟨n, z, _⟩ | ⟨k2, z, hm⟩
        · cases z
        · cases z; exact hm
      exact S_rse (ok.calm hh) (ok.room hh) tk ((ok.tab.xcs k f hf).1 hne) gg hm hd (e_ok e ok tk h4).1 (star1 h3 X.env)
    · cases h
  | .rs0 k, s, h => by
    unfold chkS at h; rw [IS.ev]
    split at h
    · rename_i x p p2 p3
      simp only [Bool.and_eq_true, decide_eq_true_eq] at h
      obtain ⟨⟨hh, h1⟩, h2⟩ := h
      unfold tgC at h1
      rw [Bool.and_eq_true, decide_eq_true_eq] at h1
      obtain ⟨gg, hd, _⟩ := ok.gl h1.1
      have hm : X.mg x = some (.ref (G.cl k)) := by
        rcases ok.tab.tgs x _ h1.2 with ⟨n, z, _⟩ | ⟨k2, z, hm⟩
        · cases z
        · cases z; exact hm
      exact S_rs0 (ok.calm hh) tk ((ok.tab.xcs k _ h2).2 rfl) gg hm hd
    · cases h
  | .ret e, s, h => by
    unfold chkS at h; rw [IS.ev]
    split at h
    · exact S_ret (e_ok e ok tk h).1
    · cases h
  | .retN, s, h => by
    unfold chkS at h; rw [IS.ev]
    split at h
    · exact S_retN
    · cases h
  | .exp e, s, h => by
    unfold chkS at h; rw [IS.ev]
    split at h
    · rw [Bool.and_eq_true] at h
      exact S_expr (e_ok e ok tk h.2).1 (nocomp_ok h.1)
    · cases h
  | .drop i, s, h => by
    unfold chkS at h; rw [IS.ev]
    exact PS.imp (st_ok ok tk po i h) fun D σ H q => drop_imp (fun k ci e => (ok.tab.cls k ci e).fl) q
  | .dput o i e, s, h => by
    unfold chkS at h; rw [IS.ev]
    split at h
    · simp only [Bool.and_eq_true] at h
      obtain ⟨⟨⟨h1, h2⟩, h3⟩, h4⟩ := h
      exact S_dput (by have := ok.units; omega) (e_ok o ok tk h2).1 (e_ok i ok tk h3).1 (e_ok e ok tk h4).1 (nocomp_ok h1)
    · cases h
  | .kput o i e, s, h => by
    unfold chkS at h; rw [IS.ev]
    split at h
    · simp only [Bool.and_eq_true] at h
      obtain ⟨⟨⟨h1, h2⟩, h3⟩, h4⟩ := h
      exact S_kput (by have := ok.units; omega) (e_ok o ok tk h2).1 (e_ok i ok tk h3).1 (e_ok e ok tk h4).1 (nocomp_ok h1)
    · cases h
  | .oput o i e, s, h => by
    unfold chkS at h; rw [IS.ev]
    split at h
    · simp only [Bool.and_eq_true] at h
      obtain ⟨⟨⟨⟨h1, h2⟩, h3⟩, h4⟩, hh⟩ := h
      exact S_oput ok.tab.dun (ok.room hh) ok.gd tk (e_ok o ok tk h2).1 (e_ok i ok tk h3).1 (e_ok e ok tk h4).1 (nocomp_ok h1)
    · cases h
  | .aug i z e, s, h => by
    unfold chkS at h; rw [IS.ev]
    split at h
    · simp only [Bool.and_eq_true, decide_eq_true_eq] at h
      obtain ⟨⟨h1, rfl⟩, h3⟩ := h
      obtain ⟨n1, n2, n3⟩ := loc_of (X := X) h1 ok.hN ok.hs ok.hf
      exact S_aug ok.nd n1 n2 n3 (e_ok e ok tk h3).1
    · cases h
  | .pass, s, h => by
    unfold chkS at h; rw [IS.ev]
    split at h
    · exact S_pass
    · cases h
  | .brk, s, h => by
    unfold chkS at h; rw [IS.ev]
    split at h
    · exact S_break
    · cases h
  | .cnt, s, h => by
    unfold chkS at h; rw [IS.ev]
    split at h
    · exact S_cont
    · cases h
  | .doc, s, h => by
    unfold chkS at h; rw [IS.ev]
    split at h
    · exact S_doc
    · cases h
theorem sts_ok (ok : Okx X c G tb lv) (tk : Takes X W) (po : PassesOwn (model X.prog X.w) X.A X.env X.xe) : ∀ (is : List IS) {ss : List Stmt}, chkSs c tb is ss = true → PSs X ss (tS G W (Z16 tb is))
  | [], ss, h => by
    unfold chkSs at h; rw [Z16]
    split at h
    · exact S_nil
    · cases h
  | i :: is, ss, h => by
    unfold chkSs at h; rw [Z16]
    split at h
    · rw [Bool.and_eq_true] at h
      exact S_cons (st_ok ok tk po i h.1) (sts_ok ok tk po is h.2)
    · cases h
end
end
end Eg
set_option Elab.async false
set_option linter.all false
set_option maxRecDepth 100000
set_option maxHeartbeats 4000000
namespace Eg
open PySem PySem.Spec PyProof.Rows L2
theorem look_mem {A B : Type} [BEq A] [LawfulBEq A] : ∀ {l : List (A × B)} {k : A} {v : B}, l.lookup k = some v → (k, v) ∈ l
  | [], _, _, h => by cases h
  | (a, b) :: l, k, v, h => by
    rw [List.lookup_cons] at h
    cases e : k == a with
    | true =>
      rw [e] at h
      cases h
      rw [eq_of_beq e]
      exact List.mem_cons_self
    | false =>
      rw [e] at h
      exact List.mem_cons_of_mem _ (look_mem h)
structure DX where
  ad : PySem.W.Frag → Addr
  name : Str
  qual : Str
  params : Arguments
  body : List Stmt
  scope : Scope
  dfl : List T := []
def DX.val (d : DX) : He.FnW := some (d.name, (d.qual, (d.params, (FuncBody.stmts d.body, (d.scope, (mainGlobals, ([], builtinsNs)))))))
def seen (K : PySem.W.Frag) (a : Addr) : He.FnW := match K.lookup a with
  | some ⟨_, _, .func g, _⟩ => some (g.name, (g.qualname, (g.params, (g.body, (g.scope, (g.globals, (g.closure, g.builtins)))))))
  | _ => none
def DX.fine (K : PySem.W.Frag) (d : DX) : Bool := PySem.W.keepIn K (.ref (d.ad K)) && (match K.lookup (d.ad K), kTs d.dfl with
  | some ⟨_, _, .func g, _⟩, some vs => PySem.W.codeIn K g.code d.qual && He.dflB K g.defaults vs
  | _, _ => false)
def DX.Is (K : PySem.W.Frag) (d : DX) (fd : FuncData) : Prop := ∃ vs, kTs d.dfl = some vs ∧ FunD K d.name d.qual d.params d.body d.scope vs [] (d.ad K) fd
theorem DX.is_of {K : PySem.W.Frag} {d : DX} (e : seen K (d.ad K) = d.val) (c : d.fine K = true) : ∃ fd, d.Is K fd := by
  unfold DX.fine at c
  rw [Bool.and_eq_true] at c
  obtain ⟨kp, c2⟩ := c
  unfold seen at e
  cases q : K.lookup (d.ad K) with
  | none => rw [q] at c2; cases c2
  | some ob =>
    obtain ⟨oc, od, dt, sl⟩ := ob
    rw [q] at c2 e
    cases kd : kTs d.dfl with
    | none => rw [kd] at c2; cases dt <;> cases c2
    | some vs =>
      rw [kd] at c2
      cases dt with
      | func g =>
        obtain ⟨a1, a2, a3, a4, a5, a6, a7, a8, a9, b1, b2, b3, b4, b5, b6⟩ := g
        have e2 : (some (a1, (a2, (a3, (a4, (a5, (a6, (a7, b6))))))) : He.FnW) = some (d.name, (d.qual, (d.params, (FuncBody.stmts d.body, (d.scope, (mainGlobals, ([], builtinsNs))))))) := e
        simp only [Option.some.injEq, Prod.mk.injEq] at e2
        obtain ⟨h1, h2, h3, h4, h5, h6, h7, h8⟩ := e2
        subst h1 h2 h3 h4 h5 h6 h7 h8
        have c3 : (PySem.W.codeIn K b4 d.qual && He.dflB K a8 vs) = true := c2
        rw [Bool.and_eq_true] at c3
        exact ⟨_, vs, kd, ⟨oc, od, a8, a9, b1, b2, b3, b4, b5, sl, rfl, q, c3.1, He.dflB_ok c3.2, .inl rfl⟩, kp⟩
      | _ => cases c2
def obsX (fx : PySem.W.Frag → Bool) (fn : List DX) (K : PySem.W.Frag) : He.AlD := (fx K && fn.all fun d => d.fine K, fn.map fun d => seen K (d.ad K))
def SaysX (fx : PySem.W.Frag → Bool) (fn : List DX) (K : PySem.W.Frag) : Prop := obsX fx fn K = (true, fn.map DX.val)
section
variable {fx : PySem.W.Frag → Bool} {fn : List DX} {K : PySem.W.Frag}
theorem SaysX.facts (c : SaysX fx fn K) : fx K = true := by
  have c1 : (fx K && fn.all fun d => d.fine K) = true := congrArg (fun z : He.AlD => z.1) c
  rw [Bool.and_eq_true] at c1
  exact c1.1
theorem SaysX.def_ (c : SaysX fx fn K) (i : Nat) {d : DX} (h : fn[i]? = some d := by rfl) : ∃ fd, d.Is K fd := by
  have c1 : (fx K && fn.all fun d => d.fine K) = true := congrArg (fun z : He.AlD => z.1) c
  rw [Bool.and_eq_true] at c1
  have e : (fn.map fun d => seen K (d.ad K)) = fn.map DX.val := congrArg (fun z : He.AlD => z.2) c
  have e2 : (fn.map fun d => seen K (d.ad K))[i]? = (fn.map DX.val)[i]? := by rw [e]
  rw [List.getElem?_map, List.getElem?_map, h] at e2
  exact DX.is_of (Option.some.inj e2) (List.all_eq_true.mp c1.2 d (List.mem_of_getElem? h))
end
structure CS where
  name : Str
  fl : List Str
  props : List Str
  called : Bool
  meths : List Str := []
structure Sx where
  cons : List (Str × T)
  cs : List CS
  isi : List ((Ty × Tg) × Bool)
  tgs : List (Str × Tg)
  xs : List (Str × Option Str) := []
  xex : List Nat := []
  xis : List ((Nat × Tg) × Bool) := []
  xfl : List (Nat × Str) := []
  xcs : List (Nat × Str) := []
  xk : List Nat := []
  xm : List Nat := []
  lam : List He.Defn := []
  dns : List (Nat × Str) := []
  nes : List Nat := []
  cmx : List (Nat × Str) := []
def Sx.nm (sx : Sx) (c : Nat) : Str := match sx.cs[c]? with
  | some d => d.name
  | none => ((sx.xs[c - 100]?).map (·.1)).getD ""
def Sx.fd (sx : Sx) (c : Nat) : List Str := match sx.cs[c]? with
  | some d => d.fl
  | none => ((sx.xs[c - 100]?).bind (·.2)).toList
def lamN (x : He.Defn) : Str := match x.2 with
  | none => x.1
  | some m => x.1 ++ "." ++ m
def lamQ (x : He.Defn) : Str := lamN x ++ ".<locals>." ++ "<lambda>"
def pgA (K : PySem.W.Frag) (C : Addr) (f : Str) : Addr := match PySem.W.recIn K (He.ma K C f) "property" with
  | some (.ref g :: _) => g
  | _ => 0
def gh (sx : Sx) (K : PySem.W.Frag) : Gh := ⟨K, fun c => He.ga K (sx.nm c), sx.fd, sx.lam.map fun x => ((He.cT K x).2, lamQ x), none⟩
theorem gh_cl {sx : Sx} {K : PySem.W.Frag} {k : Nat} {c : CS} (h : sx.cs[k]? = some c) : (gh sx K).cl k = He.ga K c.name := by
  show He.ga K (sx.nm k) = _
  unfold Sx.nm
  rw [h]
theorem gh_fl {sx : Sx} {K : PySem.W.Frag} {k : Nat} {c : CS} (h : sx.cs[k]? = some c) : (gh sx K).fl k = c.fl := by
  show sx.fd k = _
  unfold Sx.fd
  rw [h]
def excB (K : PySem.W.Frag) (C : Addr) : Bool := decide (PySem.W.findIn K (.ref C) "__getattribute__" = some (some (.builtin "BaseException.__getattribute__"))) && (decide (PySem.W.findIn K (.ref C) "__getattr__" = some none) && (decide (PySem.W.subIn K (.ref C) (.type "BaseException") = some true) && (PySem.W.hasDictIn K C &&
  (decide (PySem.W.findIn K (.ref C) "__class__" = some (some (.builtin "object.__class__"))) && (decide (PySem.W.specialIn K (.builtin "object.__class__") "__get__" = some (some (.builtin "getset_descriptor.__get__"))) && (decide (PySem.W.takesIn K (.builtin "object.__class__") = some true) && decide (PySem.W.mroIn K C (.type "object") = some true)))))))
theorem excB_ok {K : PySem.W.Frag} {C : Addr} (h : excB K C = true) : ExcC K C := by
  unfold excB at h
  simp only [Bool.and_eq_true, decide_eq_true_eq] at h
  obtain ⟨h1, h2, h3, h4, h5, h6, h7, h8⟩ := h
  exact ⟨h1, h2, h3, h4, h5, h6, h7, h8⟩
def oexO (b : XB) (C : Addr) : Obj → Bool
  | ⟨.type "type", _, .cls cd, sl⟩ => (match cd.mro, sl.toList with
    | .ref C' :: bm, [_, _, _, _, some (.builtin n), _] => decide (C' = C) && (decide (n = b.newId) && (!cd.hasDel && (cd.hasDict && refsX b bm)))
    | _, _ => false)
  | _ => false
def oexB (K : PySem.W.Frag) (C : Addr) : Bool := (match K.lookup C with
  | some o => oexO .val C o || (oexO .arith C o || oexO .look C o)
  | none => false) && (decide (PySem.W.findIn K (.ref C) "__setattr__" = some (some (.builtin "object.__setattr__"))) && (decide (PySem.W.subIn K (.ref C) (.type "BaseException") = some true) && (decide (PySem.W.typeIn K (.ref C) = some (.type "type")) && PySem.W.keepIn K (.ref C))))
theorem oexO_ok {b : XB} {C : Addr} {o : Obj} (q : oexO b C o = true) : ∃ nm qn N bs bm sn sub ab col dd k0 k1 k2 k3 k5, o = excClassObj nm qn C N bs bm true sn sub ab col dd k0 k1 k2 k3 k5 b.newId ∧ refsX b bm = true := by
  unfold oexO at q
  split at q
  · rename_i dd cd sl
    split at q
    · rename_i C' bm k0 k1 k2 k3 n k5 hm hs
      simp only [Bool.and_eq_true, decide_eq_true_eq, Bool.not_eq_true'] at q
      obtain ⟨e1, e2, hdel, hdict, ht⟩ := q
      obtain ⟨nm, bs, mro, ns, qn, hd, sn, sub, ab, col, del⟩ := cd
      dsimp only at hm hdel hdict
      subst hm hdel hdict e1 e2
      have hsl : sl = #[k0, k1, k2, k3, some (.builtin b.newId), k5] := by
        obtain ⟨l⟩ := sl
        simp only at hs
        rw [hs]
      subst hsl
      exact ⟨nm, qn, ns, bs, bm, sn, sub, ab, col, dd, k0, k1, k2, k3, k5, rfl, ht⟩
    · cases q
  · cases q
theorem oexB_ok {K : PySem.W.Frag} {C : Addr} (h : oexB K C = true) : OexX K C := by
  unfold oexB at h
  simp only [Bool.and_eq_true, decide_eq_true_eq] at h
  obtain ⟨h1, h2, h3, h4, h5⟩ := h
  cases e : K.lookup C with
  | none => rw [e] at h1; cases h1
  | some o =>
    rw [e] at h1
    have go : ∀ b, oexO b C o = true → OexX K C := fun b q => by
      obtain ⟨nm, qn, N, bs, bm, sn, sub, ab, col, dd, k0, k1, k2, k3, k5, e2, ht⟩ := oexO_ok q
      subst e2
      exact ⟨⟨b, nm, qn, N, bs, bm, sn, sub, ab, col, dd, k0, k1, k2, k3, k5, e, ht⟩, h2, h3, h4, h5⟩
    simp only [Bool.or_eq_true] at h1
    rcases h1 with q | q | q
    · exact go _ q
    · exact go _ q
    · exact go _ q
def exnB (K : PySem.W.Frag) (C : Addr) : Bool := (PySem.W.excIn K C XB.val.tl XB.val.newId || (PySem.W.excIn K C XB.arith.tl XB.arith.newId || PySem.W.excIn K C XB.look.tl XB.look.newId)) && (PySem.W.keepIn K (.ref C) && (decide (PySem.W.subIn K (.ref C) (.type "BaseException") = some true) && decide (PySem.W.typeIn K (.ref C) = some (.type "type"))))
theorem exnB_ok {K : PySem.W.Frag} {G : Gh} {c : Nat} (h : exnB K (G.cl c) = true) : XnOk K G c := by
  unfold exnB at h
  simp only [Bool.and_eq_true, Bool.or_eq_true, decide_eq_true_eq] at h
  obtain ⟨h1, h2, h3, h4⟩ := h
  refine ⟨?_, h2, h3, h4⟩
  rcases h1 with q | q | q
  · exact ⟨_, q⟩
  · exact ⟨_, q⟩
  · exact ⟨_, q⟩
def Sx.xfine (sx : Sx) (K : PySem.W.Frag) : Bool :=
  (sx.xex.all fun c => excB K ((gh sx K).cl c)) && ((sx.xis.all fun e => sx.xex.contains e.1.1 && decide (PySem.W.kitOne K (.ref ((gh sx K).cl e.1.1)) (tgVal (gh sx K) e.1.2) = some e.2)) &&
  ((sx.xfl.all fun p => xfB K ((gh sx K).cl p.1) && (decide (PySem.W.findIn K (.ref ((gh sx K).cl p.1)) p.2 = some none) && decide ((gh sx K).fl p.1 = [p.2]))) &&
  ((sx.xcs.all fun p => if p.2 = ("" : Str) then exnB K ((gh sx K).cl p.1) else oexB K ((gh sx K).cl p.1) && (decide (PySem.W.findIn K (.ref ((gh sx K).cl p.1)) p.2 = some none) && (decide ((gh sx K).fl p.1 = [p.2]) && (decide (PySem.W.findIn K (.ref ((gh sx K).cl p.1)) "__init__" = some (some (.ref (He.ma K ((gh sx K).cl p.1) "__init__")))) &&
    decide (PySem.W.typeIn K (.ref (He.ma K ((gh sx K).cl p.1) "__init__")) = some (.type "function")))))) &&
  ((sx.xm.all fun c => decide (PySem.W.exmAny K (.ref ((gh sx K).cl c)) (sx.xk.map fun k => .ref ((gh sx K).cl k)) = some true)) &&
  (sx.lam.all fun x => decide ((He.cT K x).2 ≠ mainGlobals) && sx.lam.all fun y => !decide ((He.cT K y).2 = (He.cT K x).2) || decide (y = x))))))
def propB (K : PySem.W.Frag) (C : Addr) (f : Str) : Bool := decide (PySem.W.findIn K (.ref C) f = some (some (.ref (He.ma K C f)))) && (decide (PySem.W.specialIn K (.ref (He.ma K C f)) "__get__" = some (some (.builtin "property.__get__"))) &&
  (decide (PySem.W.takesIn K (.ref (He.ma K C f)) = some true) && (match PySem.W.recIn K (He.ma K C f) "property" with
    | some (.ref _ :: _) => true
    | _ => false)))
def CS.fine (K : PySem.W.Frag) (c : CS) : Bool := He.Fa.ok K (.cls c.name) && (decide (PySem.W.findIn K (.ref (He.ga K c.name)) "__class__" = some (some (.builtin "object.__class__"))) && (decide (PySem.W.mroIn K (He.ga K c.name) (.type "object") = some true) &&
  ((c.fl.all fun f => He.Fa.ok K (.noat c.name f)) && ((c.props.all fun f => propB K (He.ga K c.name) f) && ((!c.called || He.Fa.ok K (.mkr c.name)) && c.meths.all fun m => He.Fa.ok K (.meth c.name m))))))
def cgA (K : PySem.W.Frag) (C : Addr) (m : Str) : Addr := He5.wf K C "classmethod" m
def Sx.dfine (sx : Sx) (K : PySem.W.Frag) : Bool :=
  (sx.dns.all fun p => He.Fa.ok K (.meth (sx.nm p.1) p.2) && (!itemD p.2 || (PySem.W.noSeq K ((gh sx K).cl p.1) && PySem.W.fnIn K (He.ma K ((gh sx K).cl p.1) p.2)))) && ((sx.nes.all fun c => decide (PySem.W.findIn K (.ref ((gh sx K).cl c)) "__ne__" = some (some (.builtin "object.__ne__"))) && decide (PySem.W.mroIn K ((gh sx K).cl c) (.type "object") = some true)) &&
  (sx.cmx.all fun p => PySem.W.readsIn K ((gh sx K).cl p.1) (.type "type") && (decide (PySem.W.specialIn K (.ref ((gh sx K).cl p.1)) "__getattribute__" = some (some (.builtin "type.__getattribute__"))) &&
    (He5.wrapB K ((gh sx K).cl p.1) "classmethod" "classmethod.__get__" p.2 && PySem.W.fnIn K (cgA K ((gh sx K).cl p.1) p.2)))))
def Sx.fine (sx : Sx) (K : PySem.W.Frag) : Bool :=
  (plainNames.all fun x => He.Fa.ok K (.free x)) && ((sx.cons.all fun p => match PySem.W.nsIn K mainGlobals p.1, kT p.2 with
    | some (some u), some v => He.relB v u
    | _, _ => false) && ((sx.cs.all fun c => c.fine K) && ((sx.isi.all fun e => decide (PySem.W.kitOne K (tyVal (gh sx K) e.1.1) (tgVal (gh sx K) e.1.2) = some e.2)) &&
    ((sx.tgs.all fun p => match p.2 with
      | .ty n => He.Fa.ok K (.free p.1) && decide (bootBuiltins p.1 = some (.type n))
      | .cls k => decide (PySem.W.nsIn K mainGlobals p.1 = some (some (.ref ((gh sx K).cl k))))) &&
    (sx.xfine K && ((sx.cs.isEmpty || (decide (PySem.W.specialIn K (.builtin "object.__class__") "__get__" = some (some (.builtin "getset_descriptor.__get__"))) && decide (PySem.W.takesIn K (.builtin "object.__class__") = some true))) && sx.dfine K))))))
def Sx.cls (sx : Sx) (prs : List (List (Str × (List T → Sto → R T)))) (mts : List (List (Str × Fn)) := []) : List Ci := sx.cs.mapIdx fun k c => ⟨c.fl, (prs[k]?).getD [], (mts[k]?).getD []⟩
section
variable {P : Program} {w : World} {K : PySem.W.Frag} {mg : Str → Option Value} {base : Heap} {lv j : Nat} {G : Gh} {sx : Sx}
theorem Sx.fineD (h : sx.fine K = true) : sx.dfine K = true := by
  unfold Sx.fine at h
  simp only [Bool.and_eq_true] at h
  exact h.2.2.2.2.2.2.2
theorem duno : DuOk P w K mg base lv G [] := fun c x F e => by simp at e
def CmfOk (P : Program) (w : World) (K : PySem.W.Frag) (mg : Str → Option Value) (base : Heap) (lv : Nat) (G : Gh) (l : List (Nat × Fn)) : Prop := ∀ q, q ∈ l → CmOk P w K mg base lv G q.1 q.2
theorem cmno : CmfOk P w K mg base lv G [] := fun q h => by cases h
end
def SubL {A : Type} (xs ys : List A) : Prop := ∀ x, x ∈ xs → x ∈ ys
theorem sbn {A : Type} {ys : List A} : SubL [] ys := fun x h => by cases h
theorem sbc {A : Type} {x : A} {xs ys : List A} (i : Nat) (r : SubL xs ys) (h : ys[i]? = some x := by rfl) : SubL (x :: xs) ys := fun z hz => by
  rcases List.mem_cons.mp hz with rfl | hz
  · exact List.mem_of_getElem? h
  · exact r z hz
def CalOk (P : Program) (w : World) (K : PySem.W.Frag) (mg : Str → Option Value) (base : Heap) (lv : Nat) (G : Gh) (fn : Fn) : Prop := ∃ f, mg fn.name = some (.ref f) ∧ PySem.W.keepIn K (.ref f) = true ∧ Cal P w K mg base lv G fn.ks fn.F f
section
variable {P : Program} {w : World} {K : PySem.W.Frag} {mg : Str → Option Value} {base : Heap} {lv j : Nat} {G : Gh} {sx : Sx} {h : Heap}
def HCalOk (P : Program) (w : World) (K : PySem.W.Frag) (mg : Str → Option Value) (base : Heap) (lv : Nat) (G : Gh) (fn : Fn) : Prop := ∃ f, mg fn.name = some (.ref f) ∧ PySem.W.keepIn K (.ref f) = true ∧ HCal P w K mg base lv G fn.F f
def TCalOk (P : Program) (w : World) (K : PySem.W.Frag) (mg : Str → Option Value) (base : Heap) (lv : Nat) (G : Gh) (h : Hd) : Prop := ∃ f, mg h.name = some (.ref f) ∧ PySem.W.keepIn K (.ref f) = true ∧ TCal P w K mg base lv G h.FT f
theorem HCalOk.mono {fn : Fn} (c : HCalOk P w K mg base j G fn) (hl : j ≤ lv) : HCalOk P w K mg base lv G fn := let ⟨f, h1, h2, h3⟩ := c; ⟨f, h1, h2, fun y A outer s H us vs Q E r g a b d e z q => h3 y A outer s H us vs Q E (r.mono hl) g a b d e z q⟩
theorem TCalOk.mono {h : Hd} (c : TCalOk P w K mg base j G h) (hl : j ≤ lv) : TCalOk P w K mg base lv G h := let ⟨f, h1, h2, h3⟩ := c; ⟨f, h1, h2, fun A outer s H fl co q Q tl l h r g e a b t => h3 A outer s H fl co q Q tl l (Nat.le_trans hl h) r g e a b t⟩
def HFunsOk (P : Program) (w : World) (K : PySem.W.Frag) (mg : Str → Option Value) (base : Heap) (lv : Nat) (G : Gh) (l : List Fn) : Prop := ∀ fn, fn ∈ l → HCalOk P w K mg base lv G fn
theorem hno : HFunsOk P w K mg base lv G [] := fun fn h => by cases h
theorem hco {fn : Fn} {l : List Fn} (c : HCalOk P w K mg base j G fn) (r : HFunsOk P w K mg base lv G l) (hl : j ≤ lv := by decide) : HFunsOk P w K mg base lv G (fn :: l) := fun g hg => by
  rcases List.mem_cons.mp hg with rfl | hg
  · exact c.mono hl
  · exact r g hg
def HdsOk (P : Program) (w : World) (K : PySem.W.Frag) (mg : Str → Option Value) (base : Heap) (lv : Nat) (G : Gh) (l : List Hd) : Prop := ∀ h, h ∈ l → TCalOk P w K mg base (lv + 1) G h
theorem tno : HdsOk P w K mg base lv G [] := fun fn h => by cases h
theorem tco {fn : Hd} {l : List Hd} (c : TCalOk P w K mg base j G fn) (r : HdsOk P w K mg base lv G l) (hl : j ≤ lv + 1 := by decide) : HdsOk P w K mg base lv G (fn :: l) := fun g hg => by
  rcases List.mem_cons.mp hg with rfl | hg
  · exact c.mono hl
  · exact r g hg
def XcsOk (P : Program) (w : World) (K : PySem.W.Frag) (mg : Str → Option Value) (base : Heap) (lv : Nat) (G : Gh) (l : List (Nat × Str)) : Prop := ∀ p, p ∈ l → XcAny P w K mg base lv G p.1 p.2
theorem xno : XcsOk P w K mg base lv G [] := fun fn h => by cases h
theorem xco {p : Nat × Str} {l : List (Nat × Str)} (c : XcAny P w K mg base lv G p.1 p.2) (r : XcsOk P w K mg base lv G l) : XcsOk P w K mg base lv G (p :: l) := fun g hg => by
  rcases List.mem_cons.mp hg with rfl | hg
  · exact c
  · exact r g hg
theorem CalOk.mono {fn : Fn} (c : CalOk P w K mg base j G fn) (hl : j ≤ lv) : CalOk P w K mg base lv G fn := let ⟨f, h1, h2, h3⟩ := c; ⟨f, h1, h2, h3.mono hl⟩
def FunsOk (P : Program) (w : World) (K : PySem.W.Frag) (mg : Str → Option Value) (base : Heap) (lv : Nat) (G : Gh) (l : List Fn) : Prop := ∀ fn, fn ∈ l → CalOk P w K mg base lv G fn
theorem fno : FunsOk P w K mg base lv G [] := fun fn h => by cases h
theorem fco {fn : Fn} {l : List Fn} (c : CalOk P w K mg base j G fn) (r : FunsOk P w K mg base lv G l) (hl : j ≤ lv := by decide) : FunsOk P w K mg base lv G (fn :: l) := fun g hg => by
  rcases List.mem_cons.mp hg with rfl | hg
  · exact c.mono hl
  · exact r g hg
def PropsOk (P : Program) (w : World) (K : PySem.W.Frag) (mg : Str → Option Value) (base : Heap) (lv : Nat) (sx : Sx) (prs : List (List (Str × (List T → Sto → R T)))) : Prop :=
  ∀ (k : Nat) c ps f F, sx.cs[k]? = some c → prs[k]? = some ps → ps.lookup f = some F → f ∈ c.props ∧ Cal P w K mg base lv (gh sx K) [] F (pgA K (He.ga K c.name) f)
theorem pno : PropsOk P w K mg base lv sx [] := fun k c ps f F h1 h2 => by simp at h2
def MethsOk (P : Program) (w : World) (K : PySem.W.Frag) (mg : Str → Option Value) (base : Heap) (lv : Nat) (sx : Sx) (mts : List (List (Str × Fn))) : Prop :=
  ∀ (k : Nat) c ms key fn, sx.cs[k]? = some c → mts[k]? = some ms → ms.lookup key = some fn → fn.name ∈ c.meths ∧ fn.name ∉ c.fl ∧ Cal P w K mg base lv (gh sx K) fn.ks fn.F (He.ma K (He.ga K c.name) fn.name)
theorem mno : MethsOk P w K mg base lv sx [] := fun k c ms key fn h1 h2 => by simp at h2
theorem propB_ok {C : Addr} {f : Str} (hp : propB K C f = true) : PropOf K C f (He.ma K C f) (pgA K C f) := by
  unfold propB at hp
  simp only [Bool.and_eq_true, decide_eq_true_eq] at hp
  obtain ⟨h1, h2, h3, h4⟩ := hp
  refine ⟨h1, h2, h3, ?_⟩
  unfold pgA
  split at h4
  · rename_i g rest e; rw [e]; exact ⟨rest, rfl⟩
  · cases h4
theorem tab_ok (X : K.In h) (Gn : h.Ns mainGlobals mg) (fine : sx.fine K = true) (nd : ∀ c, c ∈ sx.cs → c.fl.Nodup ∧ c.fl.length < 1000) {tb : Tab} {prs : List (List (Str × (List T → Sto → R T)))} (hf : FunsOk P w K mg base lv (gh sx K) tb.funs) (hp : PropsOk P w K mg base lv sx prs)
    (sc : SubL tb.cons sx.cons) (si : SubL tb.isi sx.isi) (stg : SubL tb.tgs sx.tgs) {mts : List (List (Str × Fn))} (hmt : MethsOk P w K mg base lv sx mts) (scl : ∃ n, tb.cls = (sx.cls prs mts).take n)
    (hh : HFunsOk P w K mg base lv (gh sx K) tb.hfuns) (sx1 : SubL tb.xis sx.xis) (sx2 : SubL tb.xfl sx.xfl) (hxc : XcsOk P w K mg base lv (gh sx K) tb.xcs) (ht : HdsOk P w K mg base lv (gh sx K) tb.hds)
    (hdu : DuOk P w K mg base lv (gh sx K) tb.dun := by exact duno) (hne : SubL tb.nes sx.nes := by exact sbn) (hcm : CmfOk P w K mg base lv (gh sx K) tb.cmf := by exact cmno) : TabOk P w K mg base lv (gh sx K) tb := by
  have fine0 := fine
  unfold Sx.fine at fine
  simp only [Bool.and_eq_true] at fine
  have fd := Sx.fineD fine0
  obtain ⟨f1, f2, f3, f4, f5, fx, f6, _⟩ := fine
  unfold Sx.xfine at fx
  simp only [Bool.and_eq_true] at fx
  obtain ⟨x1, x2, x3, _⟩ := fx
  refine ⟨fun x hx => He.free_ok X Gn (List.all_eq_true.mp f1 x hx), fun j p e => ?_, fun j fn e => hf fn (List.mem_of_getElem? e), fun k ci e => ?_, fun ty g b e => ?_, fun j fn e => hh fn (List.mem_of_getElem? e), fun c g b e => ?_, fun c f e => ?_, fun c f e => hxc _ (look_mem e), fun j h e => ht h (List.mem_of_getElem? e), hdu, fun c hc => ?_, fun j q e => hcm q (List.mem_of_getElem? e), fun x g e => ?_⟩
  · have := List.all_eq_true.mp f2 p (sc p (List.mem_of_getElem? e))
    split at this
    · rename_i u v e1 e2
      exact ⟨u, v, (PySem.W.mg_of X Gn e1), He.relB_ok this, e2⟩
    · cases this
  · have e : (sx.cls prs mts)[k]? = some ci := by
      obtain ⟨n, z⟩ := scl
      rw [z, List.getElem?_take] at e
      split at e
      · exact e
      · cases e
    unfold Sx.cls at e
    rw [List.getElem?_mapIdx] at e
    cases ec : sx.cs[k]? with
    | none => rw [ec] at e; cases e
    | some c =>
      rw [ec] at e
      have e : (⟨c.fl, (prs[k]?).getD [], (mts[k]?).getD []⟩ : Ci) = ci := by simpa using e
      subst e
      have hc := List.all_eq_true.mp f3 c (List.mem_of_getElem? ec)
      unfold CS.fine at hc
      simp only [Bool.and_eq_true, decide_eq_true_eq] at hc
      obtain ⟨c1, c2, c3, c4, c5, c6, c7⟩ := hc
      have ecl : (gh sx K).cl k = He.ga K c.name := gh_cl ec
      have efl : (gh sx K).fl k = c.fl := gh_fl ec
      have hne : sx.cs.isEmpty = false := by cases hcs : sx.cs with
        | nil => rw [hcs] at ec; simp at ec
        | cons _ _ => rfl
      rw [hne, Bool.false_or] at f6
      simp only [Bool.and_eq_true, decide_eq_true_eq] at f6
      obtain ⟨n1, n2⟩ := nd c (List.mem_of_getElem? ec)
      refine ⟨efl, by rw [ecl]; exact He.cls_ok c1, by rw [ecl]; exact c2, f6.1, f6.2, by rw [ecl]; exact c3, fun f hf => by rw [ecl]; exact He.noat_ok (List.all_eq_true.mp c4 f hf), n1, n2, fun f F hl => ?_, fun key fn hl => ?_⟩
      rotate_left
      · have hl : ((mts[k]?).getD []).lookup key = some fn := hl
        cases em : mts[k]? with
        | none => rw [em] at hl; cases hl
        | some ms =>
          rw [em] at hl
          obtain ⟨h1, h2, h3⟩ := hmt k c ms key fn ec em hl
          exact ⟨h2, _, by rw [ecl]; exact He.meth_ok (List.all_eq_true.mp c7 _ h1), h3⟩
      have hl : ((prs[k]?).getD []).lookup f = some F := hl
      cases ep : prs[k]? with
      | none => rw [ep] at hl; cases hl
      | some ps =>
        rw [ep] at hl
        obtain ⟨h1, h2⟩ := hp k c ps f F ec ep hl
        exact ⟨_, _, by rw [ecl]; exact propB_ok (List.all_eq_true.mp c5 f h1), h2⟩
  · have := List.all_eq_true.mp f4 _ (si _ (look_mem e))
    simpa using this
  · have := List.all_eq_true.mp x2 _ (sx1 _ (look_mem e))
    rw [Bool.and_eq_true, decide_eq_true_eq] at this
    exact ⟨excB_ok (List.all_eq_true.mp x1 c (by simpa using this.1)), this.2⟩
  · have := List.all_eq_true.mp x3 _ (sx2 _ (look_mem e))
    simp only [Bool.and_eq_true, decide_eq_true_eq] at this
    exact ⟨xfB_ok this.1, this.2.1, this.2.2⟩
  · unfold Sx.dfine at fd
    simp only [Bool.and_eq_true] at fd
    have z := List.all_eq_true.mp fd.2.1 c (hne c hc)
    simp only [Bool.and_eq_true, decide_eq_true_eq] at z
    exact z
  · have := List.all_eq_true.mp f5 _ (stg _ (look_mem e))
    cases g with
    | ty n =>
      simp only [Bool.and_eq_true, decide_eq_true_eq] at this
      exact .inl ⟨n, rfl, He.free_ok X Gn this.1, this.2⟩
    | cls k =>
      rw [decide_eq_true_eq] at this
      exact .inr ⟨k, rfl, PySem.W.mg_of X Gn this⟩
end
section
variable {P : Program} {w : World} {K : PySem.W.Frag} {mg : Str → Option Value} {base : Heap} {lv : Nat} {G : Gh}
def scB (N ps : List Str) (sc : Scope) : Bool := C8.scC N ps sc
theorem fun_ok {d : DX} {fd : FuncData} {N ps : List Str} {tb : Tab} {body : List IS} {md : Bool} (F : d.Is K fd) (hG : G.K = K) (hx : G.xa = none) (tab : TabOk P w K mg base lv G tb) (kc : KnowC G tb.cls) (hs : scB N ps d.scope = true)
    (chk : chkSs ⟨N, d.scope, fun _ => true, false, false⟩ tb body d.body = true) : FnG P w K mg base (lv + 2) (d.ad K) fd ps (Spec G (den tb.cls md ps.length N.length (Z16 tb body))) := by
  obtain ⟨vs, _, F⟩ := F
  obtain ⟨oc, od, dV, kV, doc, pm, an, cdv, ct, osl, rfl, lk, hcd, _⟩ := F.ex
  have S : FnScope N ps d.scope := C8.fnScope_by hs
  refine fnG_of (lv := lv + 1) kc lk hcd S fun A outer s H E room grd => ?_
  have ok : Okx (cxOf (L2.CX P w) P w K mg base N d.qual d.scope (d.ad K) cdv A outer s H E) ⟨N, d.scope, fun _ => true, false, false⟩ G tb lv := ⟨rfl, rfl, rfl, S.nd, hG.symm, fun _ => rfl, fun _ => room, L2H.roomH_of room, (fun y z => by rw [hx] at z; cases z), (fun z => by cases z), (fun _ => hx), (fun z => by cases z), grd, tab⟩
  exact sts_ok ok (takes_of rfl rfl rfl rfl) (passes_of rfl) body chk
theorem cal_of {d : DX} {fd : FuncData} {ps : List Str} {n j : Nat} {F : List T → Sto → R T} {dts : List T} (D : d.Is K fd) (c : FnG P w K mg base lv (d.ad K) fd ps (Spec G F)) (hm : mg d.name = some (.ref (d.ad K))) (hdt : d.dfl.drop j = dts)
    (hb : ∀ vs, kTs d.dfl = some vs → FunD K d.name d.qual d.params d.body d.scope vs [] (d.ad K) fd → ∃ ds, Vals (vs.drop j) ds ∧ Binds K fd ps ds) (hn : n + dts.length = ps.length) : CalOk P w K mg base lv G ⟨d.name, [], padF n dts F⟩ := by
  obtain ⟨vs, hk, FD⟩ := D
  obtain ⟨ds, hd, hbb⟩ := hb vs hk FD
  refine ⟨d.ad K, hm, FD.kp, cal_pad c hbb hd ?_ hn⟩
  subst hdt
  have : ∀ {ts : List T} {vs : List V} (j : Nat), kTs ts = some vs → kTs (ts.drop j) = some (vs.drop j) := fun {ts} => by
    induction ts with
    | nil => intro vs j h; cases h; simp [kTs]
    | cons t ts ih =>
      intro vs j h
      cases j with
      | zero => simpa using h
      | succ j =>
        have h : (match kT t, kTs ts with
          | some v, some vs => some (v :: vs)
          | _, _ => none) = some vs := h
        cases e1 : kT t with
        | none => rw [e1] at h; cases h
        | some v =>
          cases e2 : kTs ts with
          | none => rw [e1, e2] at h; cases h
          | some r =>
            rw [e1, e2] at h
            cases h
            simpa using ih j e2
  exact this j hk
theorem cal_all {d : DX} {fd : FuncData} {ps : List Str} {F : List T → Sto → R T} (D : d.Is K fd) (c : FnG P w K mg base lv (d.ad K) fd ps (Spec G F)) (hm : mg d.name = some (.ref (d.ad K))) (hdt : d.dfl = [])
    (h : ∀ (kV doc pm : Value) (an : Option Addr) (cdv ct : Value) (us : List Value), us.length = ps.length → bindArgs (PySem.W.fnOf d.name d.qual d.params d.body d.scope .none kV doc pm an cdv ct) ⟨us, []⟩ = pure (ps.zip us)) : CalOk P w K mg base lv G ⟨d.name, [], padF ps.length [] F⟩ := by
  refine cal_of (j := 0) D c hm (by rw [hdt]; rfl) (fun vs hk FD => ?_) (by simp)
  rw [hdt] at hk
  cases hk
  exact ⟨[], .nil, FunD.bindsN FD h⟩
theorem pick_vals : ∀ {xs : List V} {us : List Value} (pi : List Nat), Vals xs us → Vals (pi.filterMap fun i => xs[i]?) (pi.filterMap fun i => us[i]?)
  | _, _, [], _ => .nil
  | xs, us, i :: pi, r => by
    rw [List.filterMap_cons, List.filterMap_cons]
    cases e : xs[i]? with
    | none =>
      have h : us[i]? = none := r.none_of e
      rw [h]
      exact pick_vals pi r
    | some x =>
      obtain ⟨u, hu, ru⟩ := r.get e
      rw [hu]
      exact .cons ru (pick_vals pi r)
theorem pick_rps {m : Mm} {H : Hp} : ∀ {ts : List T} {vs : List V} (pi : List Nat), Rps G m H ts vs → Rps G m H (pi.filterMap fun i => ts[i]?) (pi.filterMap fun i => vs[i]?)
  | _, _, [], _ => rfl
  | ts, vs, i :: pi, r => by
    rw [List.filterMap_cons, List.filterMap_cons]
    cases e : ts[i]? with
    | none =>
      have h : vs[i]? = none := List.getElem?_eq_none (by rw [← r.length]; exact List.getElem?_eq_none_iff.mp e)
      rw [h]
      exact pick_rps pi r
    | some x =>
      obtain ⟨v, hv, rv⟩ := r.get e
      rw [hv]
      exact ⟨v, _, rfl, rv, pick_rps pi r⟩
theorem pick_len {A : Type} : ∀ (pi : List Nat) {xs : List A}, (∀ i, i ∈ pi → i < xs.length) → (pi.filterMap fun i => xs[i]?).length = pi.length
  | [], _, _ => rfl
  | i :: pi, xs, h => by
    rw [List.filterMap_cons, List.getElem?_eq_getElem (h i List.mem_cons_self)]
    simp [pick_len pi fun j hj => h j (List.mem_cons_of_mem _ hj)]
theorem cal_cls {sx : Sx} {c : Nat} {C : CS} {cs : List Ci} {F : List T → Sto → R T} (hc : sx.cs[c]? = some C) (mk : He.Fa.ok K (.mkr C.name) = true) (hm : mg C.name = some (.ref (He.ga K C.name))) (kc : KnowC (gh sx K) cs)
    (cal : Cal P w K mg base lv (gh sx K) [] F (He.ma K (He.ga K C.name) "__init__")) : CalOk P w K mg base (lv + 1) (gh sx K) ⟨C.name, [], mkF cs c F⟩ := by
  have e : (gh sx K).cl c = He.ga K C.name := gh_cl hc
  have M := He.mkr_ok mk
  have z := cal_make (md := false) (c := c) (cs := cs) (f := He.ma K (He.ga K C.name) "__init__") (by rw [e]; exact M) kc cal
  rw [e] at z
  exact ⟨_, hm, M.kp, z⟩
theorem cal_clsK {sx : Sx} {c : Nat} {C : CS} {cs : List Ci} {kn : List Str} {F : List T → Sto → R T} (hc : sx.cs[c]? = some C) (mk : He.Fa.ok K (.mkr C.name) = true) (hm : mg C.name = some (.ref (He.ga K C.name))) (kc : KnowC (gh sx K) cs)
    (cal : Cal P w K mg base lv (gh sx K) kn F (He.ma K (He.ga K C.name) "__init__")) : CalOk P w K mg base (lv + 1) (gh sx K) ⟨C.name, kn, mkF cs c F⟩ := by
  have e : (gh sx K).cl c = He.ga K C.name := gh_cl hc
  have M := He.mkr_ok mk
  have z := cal_make (md := false) (c := c) (cs := cs) (f := He.ma K (He.ga K C.name) "__init__") (by rw [e]; exact M) kc cal
  rw [e] at z
  exact ⟨_, hm, M.kp, z⟩
theorem cal_at {d : DX} {fd : FuncData} {ps : List Str} {F : List T → Sto → R T} (D : d.Is K fd) (c : FnG P w K mg base lv (d.ad K) fd ps (Spec G F)) (hdt : d.dfl = [])
    (h : ∀ (kV doc pm : Value) (an : Option Addr) (cdv ct : Value) (us : List Value), us.length = ps.length → bindArgs (PySem.W.fnOf d.name d.qual d.params d.body d.scope .none kV doc pm an cdv ct) ⟨us, []⟩ = pure (ps.zip us)) : Cal P w K mg base lv G [] (padF ps.length [] F) (d.ad K) := by
  obtain ⟨vs, hk, FD⟩ := D
  rw [hdt] at hk
  cases hk
  exact cal_pad c (FunD.bindsN FD h) .nil rfl (by simp)
theorem know_tab {sx : Sx} {cl : List Ci} {prs : List (List (Str × (List T → Sto → R T)))} {mts : List (List (Str × Fn))} (scl : ∃ n, cl = (sx.cls prs mts).take n) : KnowC (gh sx K) cl := fun c ci e => by
  obtain ⟨n, z⟩ := scl
  rw [z, List.getElem?_take] at e
  split at e
  rotate_left
  · cases e
  · skip
    unfold Sx.cls at e
    rw [List.getElem?_mapIdx] at e
    cases ec : sx.cs[c]? with
    | none => rw [ec] at e; cases e
    | some d =>
      rw [ec] at e
      have e : (⟨d.fl, (prs[c]?).getD [], (mts[c]?).getD []⟩ : Ci) = ci := by simpa using e
      subst e
      exact gh_fl ec
end
theorem mkr_of {sx : Sx} {K : PySem.W.Frag} {C : CS} (fine : sx.fine K = true) (i : Nat) (h : sx.cs[i]? = some C) (hc : C.called = true) : He.Fa.ok K (.mkr C.name) = true := by
  unfold Sx.fine at fine
  simp only [Bool.and_eq_true] at fine
  have z := List.all_eq_true.mp fine.2.2.1 C (List.mem_of_getElem? h)
  unfold CS.fine at z
  simp only [Bool.and_eq_true] at z
  have z2 := z.2.2.2.2.2.1
  rw [hc] at z2
  simpa using z2
theorem look_cons {A B : Type} [BEq A] [LawfulBEq A] {a k : A} {b v : B} {l : List (A × B)} (h : ((a, b) :: l).lookup k = some v) : (k = a ∧ v = b) ∨ (k ≠ a ∧ l.lookup k = some v) := by
  rw [List.lookup_cons] at h
  cases e : k == a with
  | true => rw [e] at h; cases h; exact .inl ⟨eq_of_beq e, rfl⟩
  | false => rw [e] at h; exact .inr ⟨fun z => by rw [z] at e; simp at e, h⟩
theorem fd_eq {K : PySem.W.Frag} {d : DX} {fd fd2 : FuncData} (a : d.Is K fd2) (b : d.Is K fd) : fd2 = fd := by
  obtain ⟨_, _, A⟩ := a
  obtain ⟨_, _, B⟩ := b
  obtain ⟨oc, od, dV, kV, doc, pm, an, cdv, ct, osl, e1, lk, _⟩ := A.ex
  obtain ⟨oc2, od2, dV2, kV2, doc2, pm2, an2, cdv2, ct2, osl2, e2, lk2, _⟩ := B.ex
  rw [lk] at lk2
  simp only [Option.some.injEq, Obj.mk.injEq, Data.func.injEq] at lk2
  exact lk2.2.2.1
def Gives (n : Nat) (F : List T → Sto → R T) : Prop := ∀ ns : List Int, ns.length ≤ n → (∀ k ∈ ns, PySem.Builtin.Int.intBits k ≤ 1048576) → F [.scr ns] [] = .ok (.bl true) []
end Eg
set_option Elab.async false
set_option linter.all false
set_option maxRecDepth 100000
set_option maxHeartbeats 2000000
namespace Eg
open PySem PySem.Spec PyProof.Rows L2
section
variable {G : Gh} {m : Mm} {H : Hp}
end
section
variable {P : Program} {w : World} {K : PySem.W.Frag} {mg : Str → Option Value} {base : Heap} {lv : Nat} {G : Gh}
end
end Eg
set_option Elab.async false
set_option linter.all false
set_option maxRecDepth 100000
set_option maxHeartbeats 2000000
namespace Eg
open PySem PySem.Spec PyProof.Rows L2
def RunOb (r : PySem.W.OpenRow) (M : Nat) (w : World) {A : Type} (f : PySem.W.SharedT → A) (v : A) : Prop :=
  ∀ os : OsState, (HandSHeadRun.endF (HandSHeadRun.stepQ (HandSHeadRun.denQ HandSHeadRun.tabQ) r.prog w) M r.prog w os).map f = some v
theorem RunOb.pair {r : PySem.W.OpenRow} {M : Nat} {w : World} {A B C : Type} {f : PySem.W.SharedT → A} {g : PySem.W.SharedT → B} {h : PySem.W.SharedT → C} {a : A} {b : B} {c : C} (k : A → B → C) (hk : ∀ s, h s = k (f s) (g s)) (e : k a b = c) (h1 : RunOb r M w f a) (h2 : RunOb r M w g b) : RunOb r M w h c := fun os => by
  have a1 := h1 os
  have a2 := h2 os
  generalize HandSHeadRun.endF (HandSHeadRun.stepQ (HandSHeadRun.denQ HandSHeadRun.tabQ) r.prog w) M r.prog w os = o at a1 a2 ⊢
  cases o with
  | none => cases a1
  | some s =>
    have b1 : f s = a := Option.some.inj a1
    have b2 : g s = b := Option.some.inj a2
    show some (h s) = some c
    rw [hk, b1, b2, e]
theorem run_join {r : PySem.W.OpenRow} {q : Program} {H : PySem.W.Hook} {ob : PySem.W.SharedT → H.α} {M : Nat} {loose : List PySem.Str} {w : World}
    (h1 : RunOb r M w (fun s => HandSHeadRun.looksF r.prog (PySem.W.boot_heap w.params) s.abs) true)
    (h2 : RunOb r M w (fun s => HandSHeadRun.seenQ q loose (importedModules r.prog.main.body) (fun s => PySem.W.xlAt q [] s && PySem.W.recOk r.toRowW.records s) s.abs) (PySem.W.openGood q loose))
    (h3 : RunOb r M w ob (H.val w)) : HandSHeadRun.RunEq r q H ob M loose w :=
  RunOb.pair (fun a b => (a, b)) (fun s => rfl) rfl h1 (RunOb.pair (fun a b => (a, b)) (fun s => rfl) rfl h2 h3)
def addB : List Addr → Nat → List Addr → (Nat → List Addr → List Addr) → List Addr
  | [], m, f, k => k m f
  | a :: r, m, f, k => match Nat.beq (Nat.land (Nat.shiftRight m a) 1) 0 with
    | true => HandSHeadRun.frNat (Nat.lor m (Nat.shiftLeft 1 a)) fun m' => addB r m' (a :: f) k
    | false => addB r m f k
def goB (g : Addr → Option Obj) : Nat → List Addr → Nat → List Addr → List Addr
  | 0, _, _, all => all
  | n + 1, fr, m, all => addB (fr.flatMap fun a => match g a with
    | some o => He.refsD o
    | none => []) m [] fun m' f => goB g n f m' (f ++ all)
def adsB (g : Addr → Option Obj) (n : Nat) : List Addr := goB g n [mainGlobals] (Nat.shiftLeft 1 mainGlobals) [mainGlobals]
end Eg
set_option Elab.async false
set_option linter.all false
set_option maxRecDepth 100000
set_option maxHeartbeats 2000000
namespace Eg
open PySem PySem.Spec PyProof.Rows L2
end Eg
set_option Elab.async false
set_option linter.all false
set_option maxRecDepth 100000
set_option maxHeartbeats 2000000
namespace Eg
open PySem PySem.Spec PyProof.Rows L2
section
variable {X : Cx} {G : Gh} {W : WX} {t u : TS} {a b : List Stmt}
end
inductive Bk where
  | ss (d : Bool) (l : List IS) | forD (g : IG) (it : II) (b : List IS)
noncomputable def Bk.ev (tb : Tab) : Bk → Fs
  | .ss d l => if d = true then fDrop tb.cls (Z16 tb l) else Z16 tb l
  | .forD g it b => fFor (it.ev tb) g (fDrop tb.cls (Z16 tb b))
def Bk.n : Bk → Nat
  | .ss _ l => l.length
  | .forD _ _ _ => 1
def Bk.chk (c : CC) (tb : Tab) (k : Bk) (sts : List Stmt) : Bool := match k with
  | .ss _ l => chkSs c tb l sts
  | .forD g it b => match sts with
    | [s] => chkS c tb (.for_ g it b) s
    | _ => false
section
variable {X : Cx} {G : Gh} {W : WX} {c : CC} {tb : Tab} {lv : Nat}
end
section
variable {P : Program} {w : World} {K : PySem.W.Frag} {mg : Str → Option Value} {base : Heap} {lv : Nat} {G : Gh}
end
end Eg
set_option Elab.async false
set_option linter.all false
set_option maxRecDepth 100000
set_option maxHeartbeats 4000000
namespace Eg
open PySem PySem.Spec PyProof.Rows L2 LamX
mutual
def noX : T → Bool
  | .exc _ _ => false
  | .tup xs => noXs xs
  | .lst xs => noXs xs
  | .obj _ xs => noXs xs
  | .non => true
  | .bl _ => true
  | .int _ => true
  | .str _ => true
  | .loc _ => true
  | .scr _ => true
  | .cv _ => true
  | .ptp xs => noXs xs
  | .edt => true
def noXs : List T → Bool
  | [] => true
  | x :: xs => noX x && noXs xs
end
def noXc : Cell → Bool
  | .lst xs => noXs xs
  | .ins _ xs => noXs xs
  | .dt kvs => noXs (kvs.map (·.2))
  | .dk kvs => noXs (kvs.map (·.2))
section
variable {G : Gh} {m : Mm} {H : Hp} {st : Sto} {env : Env} {σ : L2.St} {o : Option XA}
mutual
theorem Rp.same : ∀ (t : T) (v : V), (noX t = true ∨ G.xa = none) → Rp G m H t v → Rp { G with xa := o } m H t v
  | .non, _, _, h => h
  | .bl _, _, _, h => h
  | .int _, _, _, h => h
  | .str _, _, _, h => h
  | .tup xs, _, n, ⟨a, vs, e, h, r⟩ => ⟨a, vs, e, h, Rps.same xs vs (n.imp (fun z => by simpa [noX] using z) id) r⟩
  | .lst xs, _, n, ⟨a, vs, e, h, r⟩ => ⟨a, vs, e, h, Rps.same xs vs (n.imp (fun z => by simpa [noX] using z) id) r⟩
  | .obj c xs, _, n, ⟨a, dx, fv, e, h1, h, hf, r⟩ => ⟨a, dx, fv, e, h1, h, hf, Rps.same xs _ (n.imp (fun z => by simpa [noX] using z) id) r⟩
  | .exc c ts, _, n, ⟨y, vs, e1, _⟩ => by
    rcases n with n | n
    · simp [noX] at n
    · rw [n] at e1; cases e1
  | .loc l, _, _, ⟨a, e, h⟩ => ⟨a, e, h⟩
  | .scr ns, _, _, ⟨a, e, h⟩ => ⟨a, e, h⟩
  | .cv _, _, _, h => h
  | .ptp xs, _, n, ⟨a, vs, e, h, r⟩ => ⟨a, vs, e, h, Rps.same xs vs (n.imp (fun z => by simpa [noX] using z) id) r⟩
  | .edt, _, _, ⟨a, e, hn, h⟩ => ⟨a, e, hn, h⟩
theorem Rps.same : ∀ (ts : List T) (vs : List V), (noXs ts = true ∨ G.xa = none) → Rps G m H ts vs → Rps { G with xa := o } m H ts vs
  | [], _, _, h => h
  | t :: ts, _, n, ⟨v, r, e, h, q⟩ => ⟨v, r, e, Rp.same t v (n.imp (fun z => by simp [noXs] at z; exact z.1) id) h, Rps.same ts r (n.imp (fun z => by simp [noXs] at z; exact z.2) id) q⟩
end
theorem RKs.same {κ : Type} : ∀ (ts : List (κ × T)) (vs : List (κ × V)), (noXs (ts.map (·.2)) = true ∨ G.xa = none) → RKs G m H ts vs → RKs { G with xa := o } m H ts vs
  | [], _, _, h => h
  | p :: ts, _, n, ⟨v, r, e, h, q⟩ => ⟨v, r, e, Rp.same p.2 v (n.imp (fun z => by simp [noXs] at z; exact z.1) id) h, RKs.same ts r (n.imp (fun z => by simp only [List.map_cons, noXs, Bool.and_eq_true] at z; exact z.2) id) q⟩
theorem RSto.same (n : st.all noXc = true ∨ G.xa = none) (s : RSto G m H st) : RSto { G with xa := o } m H st where
  nd := s.nd
  fd := s.fd
  len := s.len
  cell := fun i a c h1 h2 => by
    have nc : noXc c = true ∨ G.xa = none := n.imp (fun z => List.all_eq_true.mp z c (List.mem_of_getElem? h2)) id
    have z := s.cell i a c h1 h2
    cases c with
    | lst xs => obtain ⟨vs, e, r⟩ := z; exact ⟨vs, e, Rps.same xs vs nc r⟩
    | ins c xs => obtain ⟨dx, fv, e1, e2, e3, r⟩ := z; exact ⟨dx, fv, e1, e2, e3, Rps.same xs _ nc r⟩
    | dt kvs => obtain ⟨vs, e, r⟩ := z; exact ⟨vs, e, RKs.same kvs vs nc r⟩
    | dk kvs => obtain ⟨vs, e, r⟩ := z; exact ⟨vs, e, RKs.same kvs vs nc r⟩
  foS := s.foS
  tab := s.tab
theorem REnv.heat (n : G.xa = none) (h : REnv G m H env σ) : REnv { G with xa := o } m H env σ := ⟨h.1, fun i t e => let ⟨v, e1, r⟩ := h.2 i t e; ⟨v, e1, Rp.same t v (.inr n) r⟩⟩
theorem RS.heat (n : G.xa = none) (h : RS G m env st σ H) : RS { G with xa := o } m env st σ H := ⟨h.env.heat n, h.sto.same (.inr n)⟩
end
structure Td where
  pre : List (Nat × IE)
  i : Nat
  j : Nat
  hd : List IS
  post : List IS
  xm : List Nat
noncomputable def evPre (tb : Tab) (k : Fs) : List (Nat × IE) → Fs
  | [] => k
  | (i, e) :: r => fun env st => (e.ev tb env st).go env fun t st1 => if 0 < i ∧ i < env.length then evPre tb k r (env.set i (some t)) st1 else .bad
def coolO : O → O
  | .rt t st => if (noX t && st.all noXc) = true then .rt t st else .bad
  | _ => .bad
noncomputable def Td.tryO (tb : Tab) (d : Td) (act : Sto → R T) : Fs := fun env st => match act st with
  | .ok t st2 => if d.i < env.length then Z16 tb d.post (env.set d.i (some t)) st2 else .bad
  | .exc (.exc c ts) st2 => if c ∈ d.xm ∧ d.j < env.length then coolO (Z16 tb.hot d.hd (env.set d.j (some (.exc c ts))) st2) else .bad
  | _ => .bad
noncomputable def Td.ft (tb : Tab) (d : Td) (n : Nat) (act : Sto → R T) (st : Sto) : R T := finO [] false st.length (evPre tb (d.tryO tb act) d.pre (List.replicate n none) st)
def hotCC (c : CC) : CC := ⟨c.N, c.sc, c.fn, true, false⟩
def chkPre (c : CC) (tb : Tab) : List (Nat × IE) → List Stmt → Option (List Stmt)
  | [], ss => some ss
  | (i, e) :: r, ss => match ss with
    | .Assign [.Name x _] v _ :: q => if (decide (0 < i) && locC c i x && noComp v && chkE c tb e v) = true then chkPre c tb r q else none
    | _ => none
def chkTry (c : CC) (tb : Tab) (d : Td) (k1 k2 k3 : Nat) : List Stmt → Bool
  | .Try [.Assign [.Name b _] (.Call (.Name a _) [] [] _) _] [.ExceptHandler (some (.Tuple [.Name x1 _, .Name x2 _, .Name x3 _] _ _)) (some n) (b0 :: suite) _] [] [] _ :: post =>
    locC c d.i b && visC c 0 a && (tgC c tb (.cls k1) x1 && tgC c tb (.cls k2) x2 && tgC c tb (.cls k3) x3) && (locC c d.j n && decide (c.sc.names.lookup n = some .local)) && chkSs (hotCC c) tb.hot d.hd (b0 :: suite) && chkSs c tb d.post post
  | _ => false
def chkTd (c : CC) (tb : Tab) (d : Td) (k1 k2 k3 : Nat) (ss : List Stmt) : Bool := match chkPre c tb d.pre ss with
  | some q => chkTry c tb d k1 k2 k3 q
  | none => false
section
variable {X : Cx} {c : CC} {G : Gh} {tb : Tab} {lv : Nat}
def tTd (G : Gh) (fl : Addr) (m0 : Mm) (H0 : Hp) (g : Fs) : TS := fun D σ H => ∃ m env st, RS G m env st σ H ∧ σ[0]? = some (some (.ref fl)) ∧ Stp m0 H0 m H ∧ Out G W0 D m H (g env st)
theorem pre_ok {fl : Addr} {m0 : Mm} {H0 : Hp} {k : Fs} (ok : Okx X c G tb lv) : ∀ (pre : List (Nat × IE)) {ss rest : List Stmt}, chkPre c tb pre ss = some rest → PSs X rest (tTd G fl m0 H0 k) → PSs X ss (tTd G fl m0 H0 (evPre tb k pre))
  | [], ss, rest, h, hk => by cases h; exact hk
  | (i, e) :: r, ss, rest, h, hk => by
    unfold chkPre at h
    split at h
    · rename_i x px v pos q
      split at h
      · rename_i hc
        simp only [Bool.and_eq_true, decide_eq_true_eq] at hc
        obtain ⟨⟨⟨h1, h2⟩, h3⟩, h4⟩ := hc
        obtain ⟨n1, n2, n3⟩ := loc_of (X := X) h2 ok.hN ok.hs ok.hf
        refine PSs.imp (pss_cons (ps_set ok.nd n1 n2 (e_ok e ok takes0 h4).1 (nocomp_ok h3) n3) (pre_ok ok r h hk)) fun D σ H ⟨m, env, st, rs, h0, S, q⟩ => ?_
        rw [evPre] at q
        show tE G W0 (e.ev tb) σ H fun v H1 => tTd G fl m0 H0 (evPre tb k r) D (σ.set i (some v)) H1
        refine ⟨m, env, st, rs, (Out.go q).imp fun t st1 v H1 m1 rs1 S1 r1 q => ?_⟩
        by_cases hi : 0 < i ∧ i < env.length
        · rw [if_pos hi] at q
          exact ⟨m1, _, st1, rs1.set hi.2 r1, by rw [List.getElem?_set_ne (by omega)]; exact h0, S.trans S1, q⟩
        · rw [if_neg hi] at q; exact q.elim
      · cases h
    · cases h
theorem names_of (ok : Okx X c G tb lv) {k : Nat} {x : Str} (h : tgC c tb (.cls k) x = true) : Names X x (.ref (G.cl k)) := by
  unfold tgC at h
  rw [Bool.and_eq_true, decide_eq_true_eq] at h
  obtain ⟨gg, hd, _⟩ := ok.gl h.1
  refine ⟨gg, hd, .inl ?_⟩
  rcases ok.tab.tgs x _ h.2 with ⟨n, z, _⟩ | ⟨k2, z, hm⟩
  · cases z
  · cases z; exact hm
theorem hot_ok (ok : Okx X c G tb lv) (hx : G.xa = none) (a : Addr) (oe : Obj) (cls : Value) (d : Option Addr) (pn : List (Addr × Obj)) (hz : Zc cls d oe) (hd : ∃ vs, oe.data = .fields vs) :
    Okx (X.suite a ((a, oe) :: pn)) (hotCC c) { G with xa := some ⟨a, oe, cls, d⟩ } tb.hot lv where
  hN := ok.hN
  hs := ok.hs
  hf := ok.hf
  nd := ok.nd
  hK := ok.hK
  calm := fun z => by cases z
  room := fun z => by cases z
  roomH := ⟨ok.roomH.dp, ok.roomH.un⟩
  xin := fun y e => by cases e; exact ⟨List.mem_cons_self, hz, hd⟩
  isHot := fun _ => ⟨_, rfl⟩
  cool := fun z => by cases z
  lam := fun z => by cases z
  gd := ok.gd
  tab := ok.tab.hotT _
theorem try_ok {d : Td} {k1 k2 k3 : Nat} {fl co : Addr} {q : Str} {tl : XK → Hp → VK → Prop} {m0 : Mm} {H0 : Hp} {act : Sto → R T} {ss : List Stmt} (ok : Okx X c G tb lv) (hx : G.xa = none) (hs : X.stack = X.env :: X.outer) (hf : X.env.frame = some X.env.locals)
    (po : PassesOwn (model X.prog X.w) X.A X.env X.xe) (hm : ∀ c ∈ d.xm, PySem.W.exmAny X.K (.ref (G.cl c)) [.ref (G.cl k1), .ref (G.cl k2), .ref (G.cl k3)] = some true)
    (hco : H0 co = some (CodeO co q)) (hnot : co ∉ m0.as)
    (hact : ∀ E H1 m1 st1 Q1, RS G m1 [] st1 [] H1 → Stp m0 H0 m1 H1 → Rn G (fun cls d _ H' => E cls d H') [] [] (Rp G) m1 H1 (act st1) (Kq Q1) → tl E H1 Q1)
    (call : ∀ (a : Str) (W : WX) (pn : List (Addr × Obj)) (xe : Value → Shared → Prop) (p1 p2 : Pos), X.N[0]? = some a → L2.Vis X.env.scope a → (a == ("__debug__" : Str)) = false → (a == ("__classdict__" : Str)) = false → Takes (X.tr pn xe) W →
      PE (X.tr pn xe) (.Call (.Name a p1) [] [] p2) (fun σZ HZ Q => σZ[0]? = some (some (.ref fl)) ∧ HZ co = some (CodeO co q) ∧ tl (WE W σZ) HZ Q))
    (h : chkTry c tb d k1 k2 k3 ss = true) : PSs X ss (tTd G fl m0 H0 (d.tryO tb act)) := by
  unfold chkTry at h
  split at h
  · rename_i b pb a pa pc pA x1 p1 x2 p2 x3 p3 kk tp n b0 suite pos' pos post
    simp only [Bool.and_eq_true, decide_eq_true_eq] at h
    obtain ⟨⟨⟨⟨⟨h1, h2⟩, ⟨h3, h4⟩, h5⟩, h6, h7⟩, h8⟩, h9⟩ := h
    obtain ⟨i1, i2, i3⟩ := loc_of (X := X) h1 ok.hN ok.hs ok.hf
    obtain ⟨v1, v2, v3, v4⟩ := ok.vis h2
    obtain ⟨j1, j2, j3⟩ := loc_of (X := X) h6 ok.hN ok.hs ok.hf
    have tryP := ps_try_as3 (kk := kk) (p1 := p1) (p2 := p2) (p3 := p3) (tp := tp) (pos := pos) (pos' := pos') (b0 := b0) (suite := suite) hs hf ok.nd j1 (show X.env.kindOf n = some .local by unfold PySem.Env.kindOf; rw [ok.hs]; exact h7) (names_of ok h3) (names_of ok h4) (names_of ok h5)
      (fun W pn xe tk _ => pss_one (ps_set (pos := pA) (pos' := pb) (X := X.tr pn xe) ok.nd i1 i2 (call a W pn xe pa pc v1 v2 v3 v4 tk) rfl i3))
      (fun a oe cls dd pn hz hd => sts_ok (hot_ok ok hx a oe cls dd pn hz hd) takes0 PassesOwn.never d.hd h8)
    refine PSs.imp (pss_cons tryP (sts_ok ok takes0 po d.post h9)) fun D σ H ⟨m, env, st, rs, h0, S, qq⟩ => ?_
    unfold Td.tryO at qq
    refine ⟨h0, S.keep co _ hco True.intro hnot, hact _ H m st _ rs.bare S ?_⟩
    cases eA : act st with
    | bad => rw [eA] at qq; exact qq.elim
    | ok t st2 =>
      rw [eA] at qq
      intro v H' m' rs' S' r
      have qq : Out G W0 D m H (if d.i < env.length then Z16 tb d.post (env.set d.i (some t)) st2 else .bad) := qq
      by_cases hi : d.i < env.length
      · rw [if_pos hi] at qq
        have rs2 : RS G m' env st2 σ H' := ⟨rs.env.mov S'.toMov, rs'.sto⟩
        exact ⟨m', _, st2, rs2.set hi r, Out.base S' qq⟩
      · rw [if_neg hi] at qq; exact qq.elim
    | exc e st2 =>
      rw [eA] at qq
      intro cls dd H' m' rs' S' re
      match e, re, qq with
      | .exc cx ts, re, qq =>
        have qq : Out G W0 D m H (if cx ∈ d.xm ∧ d.j < env.length then coolO (Z16 tb.hot d.hd (env.set d.j (some (.exc cx ts))) st2) else .bad) := qq
        by_cases hi : cx ∈ d.xm ∧ d.j < env.length
        · rw [if_pos hi] at qq
          have ecls : cls = .ref (G.cl cx) := by
            match ts, re with
            | [], re => exact re.1
            | [t], re => exact re.1
            | _ :: _ :: _, re => exact re.elim
          refine ⟨by rw [ecls]; exact hm cx hi.1, fun ad oe hz hn => ?_⟩
          have rs2 : RS { G with xa := some ⟨ad, oe, cls, dd⟩ } m' env st2 σ H' := RS.heat hx ⟨rs.env.mov S'.toMov, rs'.sto⟩
          have rx : Rp { G with xa := some ⟨ad, oe, cls, dd⟩ } m' H' (.exc cx ts) (.ref ad) := by
            match ts, re with
            | [], re => exact ⟨_, [], rfl, rfl, re.1, rfl, .inl ⟨rfl, re.2⟩⟩
            | [t], re =>
              obtain ⟨_, a2, v, f, e2, e3, e4, e5, e6⟩ := re
              exact ⟨_, [v], rfl, rfl, ecls, ⟨v, [], rfl, Rp.same t v (.inr hx) e6, rfl⟩, .inr ⟨a2, f, v, rfl, e2, e3, e4, e5⟩⟩
            | _ :: _ :: _, re => exact re.elim
          refine ⟨m', _, st2, rs2.set hi.2 rx, ?_⟩
          have qq := Out.base S' qq
          generalize Z16 tb.hot d.hd (env.set d.j (some (.exc cx ts))) st2 = oo at qq ⊢
          cases oo with
          | rt t st3 =>
            intro v H3 m3 s3 S3 r3
            have qq : Out G W0 D m' H' (if (noX t && st3.all noXc) = true then .rt t st3 else .bad) := qq
            by_cases hc : (noX t && st3.all noXc) = true
            · rw [if_pos hc] at qq
              rw [Bool.and_eq_true] at hc
              exact qq v H3 m3 (RSto.same (G := { G with xa := some ⟨ad, oe, cls, dd⟩ }) (o := G.xa) (.inl hc.2) s3) S3 (Rp.same (G := { G with xa := some ⟨ad, oe, cls, dd⟩ }) (o := G.xa) t v (.inl hc.1) r3)
            · rw [if_neg hc] at qq; exact qq.elim
          | _ => exact qq.elim
        · rw [if_neg hi] at qq; exact qq.elim
      | .non, re, _ => exact re.elim
      | .bl _, re, _ => exact re.elim
      | .int _, re, _ => exact re.elim
      | .str _, re, _ => exact re.elim
      | .tup _, re, _ => exact re.elim
      | .lst _, re, _ => exact re.elim
      | .obj _ _, re, _ => exact re.elim
      | .loc _, re, _ => exact re.elim
      | .scr _, re, _ => exact re.elim
      | .cv _, re, _ => exact re.elim
      | .ptp _, re, _ => exact re.elim
      | .edt, re, _ => exact re.elim
  · cases h
end
section
variable {G : Gh} {m : Mm} {H : Hp} {cs : List Ci}
theorem fin_out {md : Bool} {n : Nat} {o : O} {Q : VK} {E : XK} (kc : KnowC G cs) (hn : m.as.length = n) (q : Rn G (fun cls d _ H => E cls d H) [] [] (Rp G) m H (finO cs md n o) (Kq Q)) :
    Out G (fun cls d _ H => E cls d H) { nx := fun _ H' => Q .non H', rt := Q } m H o := by
  cases o with
  | nx env' st' => exact fun σ' H' m' rs' S => finR_ok (t := .non) (v := .non) kc S hn rs'.sto rfl q
  | rt t st' => exact fun v H' m' s' S rv => finR_ok kc S hn s' rv q
  | bk env' st' => exact q.elim
  | ct env' st' => exact q.elim
  | bad => exact q.elim
  | exc e env' st' =>
    intro cls d σ' H' m' rs' S re
    cases e with
    | exc c us =>
      have q : Rn G (fun cls d _ H => E cls d H) [] [] (Rp G) m H (match frzCs (frz cs st' (ren n none)) (st'.take n ++ more st' none), frzWs (frz cs st' (ren n none)) us with
        | some st', some us => .exc (.exc c us) st'
        | _, _ => .bad) (Kq Q) := q
      cases e1 : frzCs (frz cs st' (ren n none)) (st'.take n ++ more st' none) with
      | none => rw [e1] at q; exact q.elim
      | some st2 =>
        cases e2 : frzWs (frz cs st' (ren n none)) us with
        | none => rw [e1, e2] at q; exact q.elim
        | some us2 =>
          rw [e1, e2] at q
          obtain ⟨m2, s2, S2, r2⟩ := fin_exc kc S hn rs'.sto e1 e2 re
          exact q cls d H' m2 ⟨⟨rfl, fun i t e => by simp at e⟩, s2⟩ S2 r2
    | _ => exact re.elim
end
theorem code_out {G : Gh} {m : Mm} {H : Hp} {st : Sto} {co : Addr} {q : Str} (s : RSto G m H st) (h : H co = some (CodeO co q)) : co ∉ m.as := fun z => by
  obtain ⟨i, hi, e⟩ := List.mem_iff_getElem.mp z
  have hi' : i < st.length := by rw [← s.len]; exact hi
  exact (s.cell i co st[i] (by rw [List.getElem?_eq_getElem hi, e]) (List.getElem?_eq_getElem hi')).nt.2 q h
section
variable {P : Program} {w : World} {K : PySem.W.Frag} {mg : Str → Option Value} {base : Heap} {lv : Nat} {G : Gh}
theorem told_ok {d : DX} {fd : FuncData} {N : List Str} {a : Str} {tb : Tab} {td : Td} {k1 k2 k3 : Nat} (F : d.Is K fd) (hG : G.K = K) (hx : G.xa = none) (tab : TabOk P w K mg base lv G tb) (hs : scB N [a] d.scope = true)
    (chk : chkTd ⟨N, d.scope, fun _ => true, false, false⟩ tb td k1 k2 k3 d.body = true) (hm : ∀ c ∈ td.xm, PySem.W.exmAny K (.ref (G.cl c)) [.ref (G.cl k1), .ref (G.cl k2), .ref (G.cl k3)] = some true) (hdt : d.dfl = [])
    (hbind : ∀ (kV doc pm : Value) (an : Option Addr) (cdv ct : Value) (us : List Value), us.length = [a].length → bindArgs (PySem.W.fnOf d.name d.qual d.params d.body d.scope .none kV doc pm an cdv ct) ⟨us, []⟩ = pure ([a].zip us)) :
    TCal P w K mg base lv G (td.ft tb N.length) (d.ad K) := by
  intro A outer s H fl co q Q tl l hl room grd e0 hco act ⟨m, st, ac, rs, hact, wish⟩
  obtain ⟨vs, hk, FD⟩ := F
  rw [hdt] at hk
  cases hk
  have kin : K.In s.heap := e0.mod.kin.keeps fun b o z => (e0.bs b o z).1
  have hb := (FunD.bindsN FD hbind) s [.ref fl] kin rfl
  obtain ⟨oc, od, dV, kV, doc, pm, an, cdv, ct, osl, rfl, lk, hcd, _⟩ := FD.ex
  have S : FnScope N [a] d.scope := C8.fnScope_by hs
  have hlen : 1 ≤ N.length := by have := congrArg List.length S.pre; rw [List.length_take] at this; simp at this; omega
  refine run_ofS (N := N) (ps := [a]) (us := [.ref fl]) (vs := [.ref fl]) lk hcd S room e0 hb (.cons rfl .nil) rfl fun room1 => ?_
  have ok : Okx (cxOf C8.CX0 P w K mg base N d.qual d.scope (d.ad K) cdv A outer s H C8.E0) ⟨N, d.scope, fun _ => true, false, false⟩ G tb lv :=
    ⟨rfl, rfl, rfl, S.nd, hG.symm, fun _ => rfl, fun _ => room1.mono (by omega), L2H.roomH_of (room1.mono (by omega)), (fun y z => by rw [hx] at z; cases z), (fun z => by cases z), (fun _ => hx), (fun z => by cases z), grd, tab⟩
  unfold chkTd at chk
  cases e1 : chkPre ⟨N, d.scope, fun _ => true, false, false⟩ tb td.pre d.body with
  | none => rw [e1] at chk; cases chk
  | some rest =>
    rw [e1] at chk
    have P1 := try_ok (fl := fl) (co := co) (q := q) (tl := tl) (m0 := m) (H0 := H) (act := ac) ok hx rfl rfl (passes_of rfl) hm hco (code_out rs.sto hco) hact
      (fun a W pn xe p1 p2 h1 h2 h3 h4 tk => act N d.qual d.scope (d.ad K) cdv a W pn xe p1 p2 h1 h2 h3 h4 room1 tk) chk
    refine ⟨_, pre_ok ok td.pre e1 P1, m, List.replicate N.length none, st, ⟨⟨?_, fun i t e => ?_⟩, rs.sto⟩, ?_, Stp.refl m H, ?_⟩
    · unfold L2.start
      rw [List.length_replicate, List.length_append, List.length_map, List.length_replicate]
      show N.length = 1 + (N.length - 1)
      omega
    · rw [List.getElem?_replicate] at e
      split at e <;> cases e
    · rfl
    · exact fin_out (E := fun _ _ _ => False) (cs := []) (fun c ci e => by simp at e) rs.sto.len wish
end
end Eg
set_option Elab.async false
set_option linter.all false
set_option maxRecDepth 100000
set_option maxHeartbeats 4000000
namespace Eg
open PySem PySem.Spec PyProof.Rows L2 LamX
section
variable {P : Program} {w : World} {K : PySem.W.Frag} {mg : Str → Option Value} {base : Heap} {lv : Nat} {G : Gh}
theorem hfun_ok {d : DX} {fd : FuncData} {N ps : List Str} {tb : Tab} {body : List IS} {md : Bool} (D : d.Is K fd) (hG : G.K = K) (tab : TabOk P w K mg base lv G tb) (hs : scB N ps d.scope = true)
    (chk : chkSs ⟨N, d.scope, fun _ => true, true, false⟩ tb.hot body d.body = true) (hm : mg d.name = some (.ref (d.ad K))) (hdt : d.dfl = [])
    (hbind : ∀ (kV doc pm : Value) (an : Option Addr) (cdv ct : Value) (us : List Value), us.length = ps.length → bindArgs (PySem.W.fnOf d.name d.qual d.params d.body d.scope .none kV doc pm an cdv ct) ⟨us, []⟩ = pure (ps.zip us)) :
    HCalOk P w K mg base (lv + 2) G ⟨d.name, [], padF ps.length [] (den [] md ps.length N.length (Z16 tb.hot body))⟩ := by
  obtain ⟨vs0, hk, FD⟩ := D
  rw [hdt] at hk
  cases hk
  refine ⟨d.ad K, hm, FD.kp, fun y A outer s H us vs Q E room grd pin hz hd e0 rv spec => ?_⟩
  have kin : K.In s.heap := e0.mod.kin.keeps fun b o z => (e0.bs b o z).1
  obtain ⟨m, st, ts, rs, r, q⟩ := spec
  have q : Rn { G with xa := some y } (fun cls d _ H' => E cls d H') [] [] (Rp { G with xa := some y }) m H (padF ps.length [] (den [] md ps.length N.length (Z16 tb.hot body)) ts st) (Kq Q) := q
  unfold padF at q
  by_cases hl : ts.length = ps.length
  · rw [if_pos hl, List.append_nil] at q
    have lenv : vs.length = ps.length := by rw [← r.length]; exact hl
    have bnd := (FunD.bindsN FD hbind) s us kin (by rw [List.append_nil, ← rv.length]; exact lenv)
    rw [List.append_nil] at bnd
    obtain ⟨oc, od, dV, kV, doc, pm, an, cdv, ct, osl, rfl, look, code, _⟩ := FD.ex
    have S : FnScope N ps d.scope := C8.fnScope_by hs
    obtain ⟨_, wish⟩ := den_imp (N := N) (cs := []) (G := { G with xa := some y }) (fun c ci e => by simp at e) (show Spec { G with xa := some y } (den [] md ps.length N.length (Z16 tb.hot body)) vs H Q E from ⟨m, st, ts, rs, r, q⟩)
    have unl : s.heap.NoLimit := e0.mod.nolimit.keeps fun b o z => (e0.bs b o z).1
    have kinds : ∀ y ∈ ps.zip us, d.scope.names.lookup y.1 = some .local ∨ (d.scope.names.lookup y.1 = some .cell ∧ ((cellsFrom (s.heap.objs.size + 1) d.scope.names []).lookup y.1).isSome = true) := fun y hy => by
      rcases S.par y.1 (List.of_mem_zip (a := y.1) (b := y.2) hy).1 with z | z
      · exact .inl z
      · exact .inr ⟨z, PySem.W.cellsFrom_some d.scope.names _ _ (.inl z)⟩
    refine codeAny_call_function room.depth (kin (d.ad K) _ look) rfl S.co S.gen rfl (PySem.W.codeRec_of kin code) (bnd _ _ _ _ ?_)
    refine wpAny_newFunctionEnv_cells S.kind kinds fun env same s1 inC => ?_
    subst same
    refine ⟨unl.keeps inC.toInCall.keep, codeAny_func ?_⟩
    have J : Inv (L2H.cxH (L2.CX P w) P w K mg base N d.qual d.scope (d.ad K) cdv A outer s H E (y.a, y.oe)) [] (L2.start N vs) H s1 := L2H.inv_startH S pin e0 lenv rv inC
    have rm : L2H.RoomH (lv + 1) (A.deeper (envOfC d.qual d.scope s.heap.objs.size (d.ad K) cdv)) := room.deeper _
    have ok : Okx (L2H.cxH (L2.CX P w) P w K mg base N d.qual d.scope (d.ad K) cdv A outer s H E (y.a, y.oe)) ⟨N, d.scope, fun _ => true, true, false⟩ { G with xa := some y } tb.hot lv := {
      hN := rfl, hs := rfl, hf := rfl, nd := S.nd, hK := hG.symm, calm := fun z => (by cases z), room := fun z => (by cases z), roomH := rm
      xin := fun y2 e => by cases e; exact ⟨List.mem_cons_self, hz, hd⟩
      isHot := fun _ => ⟨_, rfl⟩, cool := fun z => (by cases z), lam := fun z => (by cases z), gd := grd, tab := tab.hotT y }
    refine wpAny_mono ((sts_ok ok (takes_of rfl rfl rfl rfl) (passes_of rfl) body chk).run [] s1 (L2.start N vs) H _ J wish) (fun fl s2 z => ?_) fun _ _ z => z
    have out : ∀ {σ2 : L2.St} {H2 : Hp} {v : V} {u : Value}, Inv (L2H.cxH (L2.CX P w) P w K mg base N d.qual d.scope (d.ad K) cdv A outer s H E (y.a, y.oe)) [] σ2 H2 s2 → RelV v u → Q v H2 → CE outer P w H s Q u s2 :=
      fun {σ2 H2 v u} J2 r2 q2 => ⟨v, H2, J2.os, J2.bare, J2.base, J2.hok, r2, q2⟩
    match fl, z with
    | .ret u, ⟨v, _, _, J2, r2, q2⟩ => exact out J2 r2 q2
    | .next, ⟨_, _, J2, q2⟩ => exact out (v := V.non) (u := Value.none) J2 rfl q2
    | .brk, ⟨_, _, _, q2⟩ => exact q2.elim
    | .cont, ⟨_, _, _, q2⟩ => exact q2.elim
  · rw [if_neg hl] at q; exact q.elim
structure LamIn (K : PySem.W.Frag) (mg : Str → Option Value) (base : Heap) (G : Gh) (d : DX) (x : He.Defn) : Prop where
  had : d.ad K = He.fAd K x
  dq : d.qual = lamN x
  tb : TabB base mg (He.cT K x).1 (He.cT K x).2
  mem : ((He.cT K x).2, lamQ x) ∈ G.tb
  only : ∀ y ∈ G.tb, y.1 = (He.cT K x).2 → y.2 = lamQ x
theorem lam_okx {d : DX} {N ps : List Str} {tb : Tab} {x : He.Defn} {oc : Value} {od an : Option Addr} {dV kV doc pm cdv ct : Value} {osl : Array (Option Value)} {A : Around} {outer : List PySem.Env} {s : Shared} {H : Hp} {E : XK}
    (L : LamIn K mg base G d x) (hG : G.K = K) (hx : G.xa = none) (tab : TabOk P w K mg base lv G tb) (S : FnScope N ps d.scope) (lk : K.lookup (d.ad K) = some ⟨oc, od, .func (PySem.W.fnOf d.name d.qual d.params d.body d.scope dV kV doc pm an cdv ct), osl⟩) (hcd : PySem.W.codeIn K cdv d.qual = true)
    (room : Room (lv + 3) (A.deeper (envOfC d.qual d.scope s.heap.objs.size (d.ad K) cdv))) (grd : A.guards = some []) :
    Okx (cxOf (L2.CX P w) P w K mg base N d.qual d.scope (d.ad K) cdv A outer s H E) ⟨N, d.scope, fun _ => true, false, true⟩ G tb lv := by
  refine ⟨rfl, rfl, rfl, S.nd, hG.symm, fun _ => rfl, fun _ => room.mono (by omega), L2H.roomH_of (room.mono (by omega)), (fun y z => by rw [hx] at z; cases z), (fun z => by cases z), (fun _ => hx), (fun _ => ⟨room, (He.cT K x).1, (He.cT K x).2, ?_, L.tb, ?_, ?_⟩), grd, tab⟩
  · obtain ⟨c, rfl⟩ := He.codeIn_ref hcd
    have lk2 := lk
    rw [L.had] at lk2
    show Value.ref c = .ref (He.codeOf K x)
    rw [He.codeOf_eq lk2 rfl]
  · show (_, d.qual ++ ".<locals>." ++ "<lambda>") ∈ G.tb
    rw [L.dq]
    exact L.mem
  · intro y hy e
    show y.2 = d.qual ++ ".<locals>." ++ "<lambda>"
    rw [L.dq]
    exact L.only y hy e
theorem fun_okL {d : DX} {fd : FuncData} {N ps : List Str} {tb : Tab} {body : List IS} {md : Bool} {x : He.Defn} (L : LamIn K mg base G d x) (F : d.Is K fd) (hG : G.K = K) (hx : G.xa = none) (tab : TabOk P w K mg base lv G tb) (kc : KnowC G tb.cls) (hs : scB N ps d.scope = true)
    (chk : chkSs ⟨N, d.scope, fun _ => true, false, true⟩ tb body d.body = true) : FnG P w K mg base (lv + 4) (d.ad K) fd ps (Spec G (den tb.cls md ps.length N.length (Z16 tb body))) := by
  obtain ⟨vs, _, F⟩ := F
  obtain ⟨oc, od, dV, kV, doc, pm, an, cdv, ct, osl, rfl, lk, hcd, _⟩ := F.ex
  have S : FnScope N ps d.scope := C8.fnScope_by hs
  refine fnG_of (lv := lv + 3) kc lk hcd S fun A outer s H E room grd => ?_
  exact sts_ok (lam_okx L hG hx tab S lk hcd room grd) (takes_of rfl rfl rfl rfl) (passes_of rfl) body chk
def isInit (f : Str) : List Stmt → Bool
  | [.Assign [.Attribute (.Name s _) y _] (.Name z _) _] => decide (s = "self") && decide (y = f) && decide (z = f)
  | _ => false
def visB (sc : Scope) (x : Str) : Bool := match sc.names.lookup x with
  | some .local => true
  | some .cell => true
  | some .free => true
  | _ => false
theorem visB_ok {sc : Scope} {x : Str} (h : visB sc x = true) : L2.Vis sc x := by
  unfold visB at h
  unfold L2.Vis
  split at h
  · rename_i z; exact .inl z
  · rename_i z; exact .inr (.inl z)
  · rename_i z; exact .inr (.inr z)
  · cases h
def initB (f : Str) (d : DX) : Bool := isInit f d.body && (scB ["self", f] ["self", f] d.scope && (visB d.scope "self" && (visB d.scope f && (!(f == ("__debug__" : Str)) && !(f == ("__classdict__" : Str))))))
theorem xn_of {sx : Sx} {c : Nat} (fine : sx.fine K = true) (hc : (c, ("" : Str)) ∈ sx.xcs) : XnOk K (gh sx K) c := by
  unfold Sx.fine at fine
  simp only [Bool.and_eq_true] at fine
  obtain ⟨_, _, _, _, _, fx, _⟩ := fine
  unfold Sx.xfine at fx
  simp only [Bool.and_eq_true] at fx
  obtain ⟨_, _, _, x4, _⟩ := fx
  have z := List.all_eq_true.mp x4 _ hc
  rw [if_pos rfl] at z
  exact exnB_ok z
theorem xc_of {sx : Sx} {c : Nat} {f : Str} {d : DX} {fd : FuncData} (fine : sx.fine K = true) (hc : (c, f) ∈ sx.xcs) (D : d.Is K fd) (had : d.ad K = He.ma K ((gh sx K).cl c) "__init__") (h : initB f d = true) (hdt : d.dfl = []) (hl : 1 ≤ lv)
    (hbind : ∀ (kV doc pm : Value) (an : Option Addr) (cdv ct : Value) (us : List Value), us.length = (["self", f] : List Str).length → bindArgs (PySem.W.fnOf d.name d.qual d.params d.body d.scope .none kV doc pm an cdv ct) ⟨us, []⟩ = pure ((["self", f] : List Str).zip us)) :
    XcAny P w K mg base lv (gh sx K) c f := by
  refine ⟨fun hne => ?_, fun e => ?_⟩
  case refine_2 =>
    unfold initB at h
    rw [Bool.and_eq_true] at h
    obtain ⟨h1, h2⟩ := h
    exact xn_of fine (by rw [← e]; exact hc)
  unfold Sx.fine at fine
  simp only [Bool.and_eq_true] at fine
  obtain ⟨_, _, _, _, _, fx, _⟩ := fine
  unfold Sx.xfine at fx
  simp only [Bool.and_eq_true] at fx
  obtain ⟨_, _, _, x4, _⟩ := fx
  have z := List.all_eq_true.mp x4 _ hc
  rw [if_neg hne] at z
  simp only [Bool.and_eq_true, decide_eq_true_eq] at z
  obtain ⟨z1, z2, z3, z4, z5⟩ := z
  obtain ⟨vs0, hk, FD⟩ := D
  rw [hdt] at hk
  cases hk
  unfold initB at h
  simp only [Bool.and_eq_true, Bool.not_eq_true'] at h
  obtain ⟨h1, h2, h3, h4, h5, h6⟩ := h
  unfold isInit at h1
  split at h1
  · rename_i s p1 y p2 zz p3 p4 eb
    simp only [Bool.and_eq_true, decide_eq_true_eq] at h1
    obtain ⟨⟨rfl, rfl⟩, rfl⟩ := h1
    have FD2 := FD
    rw [eb] at FD2
    have T := oexB_ok z1
    refine ⟨T, z3, hl, d.ad K, fd, ["self", zz], by rw [had]; exact z4, by rw [had]; exact z5, init_ok (a := 0) FD2 (C8.fnScope_by h2) (visB_ok h3) (visB_ok h4) h5 h6 T z2, FunD.bindsN FD hbind⟩
  · cases h1
end
def adsT (g : Addr → Option Obj) (n : Nat) : List Addr := adsB g n ++ [cStatics]
def obsT (n : Nat) (fx : PySem.W.Frag → Bool) (fn : List DX) (tf : List He.Defn) (g : Addr → Option Obj) : He.AlD := ((obsX fx fn (He.frT g (adsT g n))).1 && He.tabsB g tf (He.frT g (adsT g n)), (obsX fx fn (He.frT g (adsT g n))).2)
structure TabsAt (K : PySem.W.Frag) (h : Heap) (tf : List He.Defn) : Prop where
  hd : ∀ p ∈ tf, PySem.W.codeHdIn K (He.cT K p).1 (He.cT K p).2 = true
  out : ∀ p ∈ tf, K.lookup (He.cT K p).2 = none
  empty : ∀ p ∈ tf, h.get? (He.cT K p).2 = some { cls := .none, data := .fields #[] }
theorem tabs_of {K0 : PySem.W.Frag} {g : Heap} {n : Nat} {tf : List He.Defn} (e : He.tabsB g.get? tf (He.frT g.get? (adsT g.get? n)) = true) : TabsAt (He.frT g.get? (adsT g.get? n)) g tf := by
  have key : ∀ p ∈ tf, PySem.W.codeHdIn (He.frT g.get? (adsT g.get? n)) (He.cT (He.frT g.get? (adsT g.get? n)) p).1 (He.cT (He.frT g.get? (adsT g.get? n)) p).2 = true ∧ ∃ o, g.get? (He.cT (He.frT g.get? (adsT g.get? n)) p).2 = some o ∧ He.emptyTab o = true := fun p hp => by
    have z := List.all_eq_true.mp e p hp
    rw [Bool.and_eq_true] at z
    refine ⟨z.1, ?_⟩
    cases q : g.get? (He.cT (He.frT g.get? (adsT g.get? n)) p).2 with
    | none => rw [q] at z; cases z.2
    | some o => rw [q] at z; exact ⟨o, rfl, z.2⟩
  exact ⟨fun p hp => (key p hp).1, fun p hp => let ⟨_, o, q, z⟩ := key p hp; He.frT_none q z, fun p hp => by
    obtain ⟨_, o, q, z⟩ := key p hp
    rw [q, He.emptyTab_eq z]⟩
def hookT (n : Nat) (fx : PySem.W.Frag → Bool) (fn : List DX) (tf : List He.Defn) : PySem.W.Hook where
  α := He.AlD
  obs := fun s => obsT n fx fn tf s.heap.get?
  val := fun _ => (true, fn.map DX.val)
  says := fun _ h => ∃ K : PySem.W.Frag, K.In h ∧ SaysX fx fn K ∧ TabsAt K h tf
  of := fun _ s z => by
    have z1 : ((obsX fx fn (He.frT s.heap.get? (adsT s.heap.get? n))).1 && He.tabsB s.heap.get? tf (He.frT s.heap.get? (adsT s.heap.get? n))) = true := congrArg (fun z : He.AlD => z.1) z
    have z2 : (obsX fx fn (He.frT s.heap.get? (adsT s.heap.get? n))).2 = fn.map DX.val := congrArg (fun z : He.AlD => z.2) z
    rw [Bool.and_eq_true] at z1
    exact ⟨_, He.frT_in, Prod.ext z1.1 z2, tabs_of (K0 := []) z1.2⟩
  keeps := fun _ _ _ ⟨K, hin, c, t⟩ k => ⟨K, PySem.W.Frag.In.keeps hin k, c, ⟨t.hd, t.out, fun p hp => k _ _ (t.empty p hp)⟩⟩
theorem obsT_eq {n : Nat} {fx : PySem.W.Frag → Bool} {fn : List DX} {tf : List He.Defn} {g : Addr → Option Obj} {s : Shared} (h : ∀ a, g a = s.heap.get? a) : obsT n fx fn tf g = (hookT n fx fn tf).obs s := by
  have e : g = s.heap.get? := funext h
  subst e
  rfl
end Eg
set_option Elab.async false
set_option linter.all false
set_option maxRecDepth 100000
set_option maxHeartbeats 4000000
namespace Eg
open PySem PySem.Spec PyProof.Rows L2 LamX
theorem end_lawT {P : Program} {w : World} {K : PySem.W.Frag} {mg mb : Str → Option Value} {k : Nat} {fa a : Addr} {fd : FuncData} {x : Str} {F : List T → Sto → R T} {G : Gh} {s₁ : Shared} {vs : List Value} {ns : List Int} {cs : List (Addr × Addr)}
    (inH : K.In s₁.heap) (gl : s₁.heap.Ns mainGlobals mg) (bl : s₁.heap.Ns builtinsNs mb) (bb : ∀ x : Str, x ≠ "__name__" → mb x = bootBuiltins x) (nl : s₁.heap.NoLimit) (gs : s₁.gens = #[])
    (tabs : ∀ p ∈ cs, s₁.heap.get? p.2 = some { cls := .none, data := .fields #[] }) (tout : ∀ p ∈ cs, K.lookup p.2 = none) (thd : ∀ p ∈ cs, PySem.W.codeHdIn K p.1 p.2 = true)
    (bmn : ∃ (bm : Addr) (ob : Obj), mg "__builtins__" = some (.ref bm) ∧ bm ≠ builtinsNs ∧ s₁.heap.get? bm = some ob ∧ ob.cls = .type "module" ∧ ob.dict = some builtinsNs ∧ ob.data = .plain)
    (obj : s₁.heap.get? a = some { cls := .type "list", data := .seq vs.toArray }) (are : IntsAre vs ns) (small : ns.length ≤ sizeLine) (room : Room k callerA) (hG : G.K = K) (htb : ∀ y ∈ G.tb, y.1 ∈ cs.map (·.2))
    (promise : ∀ ground : Heap, K.In ground → ground.Ns mainGlobals mg → (∀ p ∈ cs, TabB ground mg p.1 p.2) → FnG P w K mg ground k fa fd [x] (Spec G F)) (binds : ∀ (s : Shared) (u : Value), BindsTo s fd ⟨[u], []⟩ [(x, u)])
    (gives : F [.scr ns] [] = .ok (.bl true) []) :
    codeAny (model P w) callerA (.call (.ref fa) ⟨[.ref a], []⟩) (fun r s' => r = .ok (.ret (.bool true)) ∧ OldK s₁.heap s'.heap ∧ s'.os = s₁.os ∧ AllBare s'.gens) s₁ := by
  have vals := vals_ints are
  have same := are.length
  have tabAt : ∀ b : Addr, b ∈ cs.map (·.2) → s₁.heap.get? b = some { cls := .none, data := .fields #[] } := fun b hb => by
    obtain ⟨p, hp, rfl⟩ := List.mem_map.mp hb
    exact tabs p hp
  have aOut : a ∉ cs.map (·.2) := fun z => by
    have y := tabAt a z
    rw [obj] at y
    have y2 : Data.seq vs.toArray _ = Data.fields #[] := congrArg Obj.data (Option.some.inj y)
    cases y2
  have go : ∀ Hs : Hp, (∀ b, b ∈ cs.map (·.2) → Hs b = some (.tbl #[])) → (∀ b, Hs b = none ∨ b ∈ cs.map (·.2) ∨ ∃ o xs, Hs b = some (.frz o (.lst xs))) → SqL K Hs a (ns.map V.int) → HOk P w Hs s₁.heap → (∀ b, Hs b ≠ none → b = a ∨ b ∈ cs.map (·.2)) → (Hs a ≠ none → K.lookup a = none) →
      codeAny (model P w) callerA (.call (.ref fa) ⟨[.ref a], []⟩) (fun r s' => r = .ok (.ret (.bool true)) ∧ OldK s₁.heap s'.heap ∧ s'.os = s₁.os ∧ AllBare s'.gens) s₁ := by
    intro Hs tb only sq held alone apart
    have keep : ∀ {b : Addr} {u : Obj}, s₁.heap.get? b = some u → Hs b = none → (hidT s₁.heap Hs).get? b = some u := fun z n => hidT_get z n
    have isA : ∀ {b : Addr} {u : HO}, Hs b = some u → b = a ∨ b ∈ cs.map (·.2) := fun {b u} z => alone b (by rw [z]; exact nofun)
    have free : ∀ {b : Addr} {u : Obj}, s₁.heap.get? b = some u → (∀ us n, u.data ≠ .seq us n) → u.data ≠ .fields #[] → Hs b = none := fun {b u} z n1 n2 => by
      cases q : Hs b with
      | none => rfl
      | some v =>
        rcases isA q with y | y
        · rw [y, obj] at z
          cases z
          exact absurd rfl (n1 _ _)
        · rw [tabAt b y] at z
          cases z
          exact absurd rfl n2
    have nsG : ∀ {b : Addr} {m : Str → Option Value}, s₁.heap.Ns b m → (hidT s₁.heap Hs).Ns b m := fun {b m} ⟨u, es, ep, z, dz, more⟩ => ⟨u, es, ep, keep z (free z (fun us n y => by rw [dz] at y; cases y) fun y => by rw [dz] at y; cases y), dz, more⟩
    have inG : K.In (hidT s₁.heap Hs) := fun b u z => keep (inH b u z) (by
      cases q : Hs b with
      | none => rfl
      | some v =>
        rcases isA q with y | y
        · rw [y] at z q
          rw [apart (by rw [q]; exact nofun)] at z
          cases z
        · obtain ⟨p, hp, e⟩ := List.mem_map.mp y
          rw [← e, tout p hp] at z
          cases z)
    have md : Mod K mg (hidT s₁.heap Hs) := ⟨inG, nsG gl, ⟨mb, nsG bl, bb⟩, let ⟨mc, z1, z2⟩ := nl; ⟨mc, nsG z1, z2⟩⟩
    have start0 : Env0 P w K mg (hidT s₁.heap Hs) callerA [] s₁ Hs := ⟨rfl, md, fun b u z => of_hidT z, Nat.le_of_eq (hidT_size _ _), trivial, fun b hb => absurd (show b ∈ ([] : List Addr) from hb) List.not_mem_nil, held, .of_eq gs⟩
    have tbs : ∀ p ∈ cs, TabB (hidT s₁.heap Hs) mg p.1 p.2 := fun p hp => by
      obtain ⟨bm, ob, b1, b2, b3, b4, b5, b6⟩ := bmn
      obtain ⟨u, es, ep, z, dz, more⟩ := gl
      have at_ := tabs p hp
      refine TabB.mk (PySem.W.codeHd_of_K inG (thd p hp)) ⟨bm, ob, b1, b2, fun q => ?_, fun q => ?_, keep b3 (free b3 (fun us n y => by rw [b6] at y; cases y) fun y => by rw [b6] at y; cases y), b4, b5, b6⟩ fun q => ?_
      · rw [q, z] at b3
        cases b3
        rw [dz] at b6
        cases b6
      · rw [q, at_] at b3
        cases b3
        cases b6
      · rw [q, at_] at z
        cases z
        cases dz
    have sp : Spec G F [.ref a] Hs (fun v _ => v = .bl true) (fun _ _ _ => False) := by
      refine ⟨⟨[], fun _ => False⟩, [], [.scr ns], ⟨⟨rfl, fun i t e => by simp at e⟩, ⟨List.nodup_nil, (fun a h => by cases h), rfl, (fun i a c h => by simp at h), (fun a h => h.elim), fun y hy => TabS.nil (tb _ (htb y hy))⟩⟩, ⟨.ref a, [], rfl, ⟨a, rfl, ?_⟩, rfl⟩, ?_⟩
      · rcases sq with sq | sq
        · exact .inl ⟨fun z => z.elim (fun z => by cases z) id, sq⟩
        · exact .inr (by rw [hG]; exact sq)
      · rw [gives]
        exact fun b H' m' _ _ r => r
    refine codeAny_mono ((promise _ inG (nsG gl) tbs).go callerA [] s₁ Hs ⟨[.ref a], []⟩ [.ref a] [.ref a] _ _ room rfl start0 (binds s₁ (.ref a)) (.cons rfl .nil) rfl sp) fun r s2 z => ?_
    match r, z with
    | .error e, z =>
      obtain ⟨_, _, _, _, _, _, _, _, _, _, _, _, no⟩ := z
      exact no.elim
    | .ok .next, z => exact z.elim
    | .ok .brk, z => exact z.elim
    | .ok .cont, z => exact z.elim
    | .ok (.ret u), z =>
      obtain ⟨v, H2, os, bare, un, held2, rv, ev⟩ := z
      have ev : v = .bl true := ev
      subst ev
      obtain rfl : u = Value.bool true := rv
      have stay : ∀ b ob, b ∉ cs.map (·.2) → s₁.heap.get? b = some ob → s2.heap.get? b = some ob := fun b ob no zb => by
        cases q : Hs b with
        | none => exact un.keep b ob zb q (fun y => absurd (show b ∈ ([] : List Addr) from y) List.not_mem_nil) List.not_mem_nil
        | some v =>
          rcases only b with y | y | ⟨o3, xs, y⟩
          · rw [q] at y; cases y
          · exact absurd y no
          · have y2 := un.frzs b o3 _ y
            obtain ⟨y3, _⟩ := held b _ y
            obtain ⟨y4, _⟩ := held2 b _ y2
            rw [zb] at y3
            cases y3
            exact y4
      have grew : ∀ p ∈ cs, ∃ more : Array Value, s2.heap.get? p.2 = some { cls := .none, data := .fields more } := fun p hp => by
        obtain ⟨more, z⟩ := un.tbls p.2 #[] (tb _ (List.mem_map.mpr ⟨p, hp, rfl⟩))
        exact ⟨_, held2 p.2 _ z⟩
      refine ⟨rfl, ⟨fun b ob zb => ?_, fun b ob zb => ?_⟩, os, bare⟩
      · by_cases hb : b ∈ cs.map (·.2)
        · obtain ⟨p, hp, rfl⟩ := List.mem_map.mp hb
          obtain ⟨more, hm⟩ := grew p hp
          rw [tabs p hp] at zb
          cases zb
          exact .inr (.inl ⟨((PySem.W.codeHd_of_K inH (thd p hp)).tab (tabs p hp)).isCodeTable, rfl, #[], more, rfl, by rw [Array.empty_append]; exact hm⟩)
        · exact .inl (stay b ob hb zb)
      · by_cases hb : b ∈ cs.map (·.2)
        · obtain ⟨p, hp, rfl⟩ := List.mem_map.mp hb
          obtain ⟨more, hm⟩ := grew p hp
          exact ⟨_, hm⟩
        · exact ⟨ob, stay b ob hb zb⟩
  cases known : K.lookup a with
  | some ob =>
    have z := inH a ob known
    rw [obj] at z
    cases z
    have out : ∀ b, b ∉ cs.map (·.2) → (if b ∈ cs.map (·.2) then some (HO.tbl #[]) else none) = none := fun b hb => if_neg hb
    refine go (fun b => if b ∈ cs.map (·.2) then some (.tbl #[]) else none) (fun b hb => if_pos hb) (fun b => ?_) (.inr ⟨_, vs.toArray, _, known, rfl, rfl, rfl, by rw [List.size_toArray, same]; exact small, by simpa using vals⟩) (fun b u y => ?_) (fun b y => ?_) fun y => absurd (out a aOut) y
    · by_cases hb : b ∈ cs.map (·.2)
      · exact .inr (.inl hb)
      · exact .inl (out b hb)
    · by_cases hb : b ∈ cs.map (·.2)
      · have y2 := (if_pos hb).symm.trans y
        cases y2
        exact tabAt b hb
      · have y2 := (out b hb).symm.trans y
        cases y2
    · by_cases hb : b ∈ cs.map (·.2)
      · exact .inr hb
      · exact absurd (out b hb) y
  | none =>
    refine go (fun b => if b = a then some (.frz { cls := .type "list", data := .seq vs.toArray } (.lst (ns.map V.int))) else if b ∈ cs.map (·.2) then some (.tbl #[]) else none) (fun b hb => (if_neg (fun z : b = a => aOut (by rw [← z]; exact hb))).trans (if_pos hb)) (fun b => ?_) (.inl (.inr ⟨_, if_pos rfl⟩)) (fun b u y => ?_) (fun b y => ?_) fun _ => known
    · by_cases hb : b = a
      · exact .inr (.inr ⟨_, _, if_pos hb⟩)
      · by_cases hc : b ∈ cs.map (·.2)
        · exact .inr (.inl hc)
        · exact .inl ((if_neg hb).trans (if_neg hc))
    · by_cases hb : b = a
      · have y2 := (if_pos hb).symm.trans y
        cases y2
        rw [hb]
        exact ⟨obj, by rw [List.length_map]; exact small, vs, _, vals, obj⟩
      · have y2 := (if_neg hb).symm.trans y
        by_cases hc : b ∈ cs.map (·.2)
        · have y3 := (if_pos hc).symm.trans y2
          cases y3
          exact tabAt b hc
        · have y3 := (if_neg hc).symm.trans y2
          cases y3
    · by_cases hb : b = a
      · exact .inl hb
      · by_cases hc : b ∈ cs.map (·.2)
        · exact .inr hc
        · exact absurd ((if_neg hb).trans (if_neg hc)) y
theorem walk_endT {l : PySem.W.OpenLaw} {n k : Nat} {q : Program} {loose : List Str} {XP : (Str → Option Value) → Heap → Prop} {YP : World → Heap → Prop} {d : DefRec} {x : Str} (most : l.most = some n) (mostS : n ≤ sizeLine) (nodf : d.params.defaults = []) (room : Room k callerA)
    {F : List T → Sto → R T} (gives : Gives n F)
    (all : ∀ (w : World) (mg : Str → Option Value) (fa : Addr) (h : Heap), YP w h → h.Ns mainGlobals mg → mg d.name = some (.ref fa) →
      ∃ (K : PySem.W.Frag) (fd : FuncData) (G : Gh) (tf : List He.Defn), K.In h ∧ TabsAt K h tf ∧ G.K = K ∧ (∀ y ∈ G.tb, y.1 ∈ (tf.map (He.cT K)).map (·.2)) ∧ (∀ (s : Shared) (u : Value), BindsTo s fd ⟨[u], []⟩ [(x, u)]) ∧
        ∀ ground : Heap, K.In ground → ground.Ns mainGlobals mg → (∀ p ∈ tf, TabB ground mg (He.cT K p).1 (He.cT K p).2) → FnG l.prog w K mg ground k fa fd [x] (Spec G F)) :
    PySem.W.WalkO q loose XP YP l.row.toRowW d [] (fun f vs => PySem.call f vs) := by
  refine Att.attach_callB most nodf fun w s₀ s₁ mg mb fa o pm cd doc a vs ns B Y _ _ _ found obj are len bits gs => ?_
  obtain ⟨K, fd, G, tf, inH, ta, hG, htb, hb, hF⟩ := all w mg fa _ Y B.T.g found
  refine end_lawT (cs := tf.map (He.cT K)) inH B.T.g B.T.b B.T.builtins B.T.nolimit gs (fun p hp => ?_) (fun p hp => ?_) (fun p hp => ?_) B.T.bmain obj are (Nat.le_trans len mostS) room hG htb (fun ground h1 h2 h3 => hF ground h1 h2 fun p hp => h3 _ (List.mem_map.mpr ⟨p, hp, rfl⟩)) hb (gives ns len bits)
  · obtain ⟨z, hz, rfl⟩ := List.mem_map.mp hp
    exact ta.empty z hz
  · obtain ⟨z, hz, rfl⟩ := List.mem_map.mp hp
    exact ta.out z hz
  · obtain ⟨z, hz, rfl⟩ := List.mem_map.mp hp
    exact ta.hd z hz
end Eg
set_option Elab.async false
set_option linter.all false
set_option maxRecDepth 100000
set_option maxHeartbeats 4000000
namespace Eg
open PySem PySem.Spec PyProof.Rows L2 LamX
def xNames : List (Str × Option Str) := [("WrongValue", none), ("InvalidText", some "given"), ("InvalidNumber", some "given"), ("InvalidName", some "given"), ("InvalidTables", some "given"), ("InvalidRound", some "given"), ("InvalidSchedule", some "given"), ("InvalidWish", some "given"), ("InvalidIndex", some "given"),
  ("NotAFair", some "given"), ("InvalidHosts", some "index"), ("InvalidGuests", some "index"), ("InvalidMeetings", some "index"), ("InvalidUrgent", some "index"), ("InvalidGrowth", some "index"), ("InvalidChanges", some "index"), ("InvalidAsked", some "index"),
  ("WrongName", none), ("UnknownName", some "given"), ("NoAnswer", none), ("TooFewRounds", some "given"), ("TooMany", some "given"), ("NothingToUndo", none), ("Broken", some "index")]
def xVal : List Nat := [101, 102, 103, 104, 105, 106, 107, 108, 109, 110, 111, 112, 113, 114, 115, 116]
def xOwn : List Nat := xVal ++ [118, 120, 121, 122, 123]
def xUn (c k : Nat) : Bool := Nat.beq (if Nat.ble c 116 then 0 else if Nat.ble c 118 then 1 else 2) k
def xTgs (c : Nat) : List ((Nat × Tg) × Bool) := [((c, .cls 100), xUn c 0), ((c, .cls 117), xUn c 1), ((c, .cls 119), xUn c 2), ((c, .ty "ValueError"), xUn c 0), ((c, .ty "LookupError"), xUn c 1), ((c, .ty "ArithmeticError"), xUn c 2)] ++ xOwn.map fun k => ((c, .cls k), Nat.beq c k)
def XIS (l : List Nat) : List ((Nat × Tg) × Bool) := l.flatMap xTgs
def XFL (l : List Nat) : List (Nat × Str) := List.filter (fun p => l.contains p.1) [(101, "given"), (102, "given"), (103, "given"), (104, "given"), (105, "given"), (106, "given"), (107, "given"), (108, "given"), (109, "given"), (110, "index"), (111, "index"), (112, "index"), (113, "index"), (114, "index"), (115, "index"), (116, "index"), (118, "given"), (120, "given"), (121, "given"), (123, "index")]
theorem sbr {A : Type} {xs : List A} : SubL xs xs := fun _ h => h
section
variable {P : Program} {w : World} {K : PySem.W.Frag} {mg : Str → Option Value} {base : Heap} {lv : Nat} {G : Gh}
theorem xm_of {sx : Sx} (fine : sx.fine K = true) : ∀ c ∈ sx.xm, PySem.W.exmAny K (.ref ((gh sx K).cl c)) (sx.xk.map fun k => .ref ((gh sx K).cl k)) = some true := fun c hc => by
  unfold Sx.fine at fine
  simp only [Bool.and_eq_true] at fine
  obtain ⟨_, _, _, _, _, fx, _⟩ := fine
  unfold Sx.xfine at fx
  simp only [Bool.and_eq_true] at fx
  obtain ⟨_, _, _, _, x5, _⟩ := fx
  simpa using List.all_eq_true.mp x5 c hc
theorem lam_of {sx : Sx} {d : DX} {x : He.Defn} (fine : sx.fine K = true) (hx : x ∈ sx.lam) (had : d.ad K = He.fAd K x) (dq : d.qual = lamN x) (hT : ∀ p ∈ sx.lam, TabB base mg (He.cT K p).1 (He.cT K p).2) : LamIn K mg base (gh sx K) d x := by
  unfold Sx.fine at fine
  simp only [Bool.and_eq_true] at fine
  obtain ⟨_, _, _, _, _, fx, _⟩ := fine
  unfold Sx.xfine at fx
  simp only [Bool.and_eq_true] at fx
  obtain ⟨_, _, _, _, _, x6⟩ := fx
  refine ⟨had, dq, hT x hx, List.mem_map.mpr ⟨x, hx, rfl⟩, fun y hy e => ?_⟩
  obtain ⟨z, hz, rfl⟩ := List.mem_map.mp hy
  have q := List.all_eq_true.mp (by have q := List.all_eq_true.mp x6 x hx; rw [Bool.and_eq_true] at q; exact q.2) z hz
  rw [Bool.or_eq_true, Bool.not_eq_true', decide_eq_false_iff_not, decide_eq_true_eq] at q
  rcases q with q | q
  · exact absurd e q
  · rw [q]
theorem lam_tb {sx : Sx} : ∀ y ∈ (gh sx K).tb, y.1 ∈ (sx.lam.map (He.cT K)).map (·.2) := fun y hy => by
  obtain ⟨z, hz, rfl⟩ := List.mem_map.mp hy
  exact List.mem_map.mpr ⟨_, List.mem_map.mpr ⟨z, hz, rfl⟩, rfl⟩
theorem told_okC {d : DX} {fd : FuncData} {N : List Str} {a : Str} {tb : Tab} {td : Td} {k1 k2 k3 : Nat} (F : d.Is K fd) (hG : G.K = K) (hx : G.xa = none) (tab : TabOk P w K mg base lv G tb) (hs : scB N [a] d.scope = true)
    (chk : chkTd ⟨N, d.scope, fun _ => true, false, false⟩ tb td k1 k2 k3 d.body = true) (hm : ∀ c ∈ td.xm, PySem.W.exmAny K (.ref (G.cl c)) [.ref (G.cl k1), .ref (G.cl k2), .ref (G.cl k3)] = some true) (hm0 : mg d.name = some (.ref (d.ad K))) (hdt : d.dfl = [])
    (hbind : ∀ (kV doc pm : Value) (an : Option Addr) (cdv ct : Value) (us : List Value), us.length = [a].length → bindArgs (PySem.W.fnOf d.name d.qual d.params d.body d.scope .none kV doc pm an cdv ct) ⟨us, []⟩ = pure ([a].zip us)) :
    TCalOk P w K mg base lv G ⟨d.name, td.ft tb N.length⟩ := by
  have F0 := F
  obtain ⟨vs, hk, FD⟩ := F0
  exact ⟨d.ad K, hm0, FD.kp, told_ok F hG hx tab hs chk hm hdt hbind⟩
end
end Eg
set_option Elab.async false
set_option linter.all false
set_option maxRecDepth 100000
set_option maxHeartbeats 4000000
namespace Eg
open PySem PySem.Spec PyProof.Rows L2
section
variable {P : Program} {w : World} {K : PySem.W.Frag} {mg : Str → Option Value} {base : Heap} {lv : Nat} {G : Gh}
theorem kTs_len {ts : List T} {vs : List V} (h : kTs ts = some vs) : ts.length = vs.length :=
  (kTs_rp (G := ⟨[], fun _ => 0, fun _ => [], [], none⟩) (m := ⟨[], fun _ => False⟩) (H := fun _ => none) h).length
theorem cal_kwD {d : DX} {fd : FuncData} {ps kn : List Str} {n : Nat} {F : List T → Sto → R T} (pi : List Nat) (j : Nat) (D : d.Is K fd) (c : FnG P w K mg base lv (d.ad K) fd ps (Spec G F)) (hne : d.dfl ≠ [])
    (h : ∀ (T : Addr) (kV doc pm : Value) (an : Option Addr) (cdv ct : Value) (us ws its : List Value), us.length = n → ws.length = kn.length → its.length = d.dfl.length →
      ∃ k, bindArgs (PySem.W.fnOf d.name d.qual d.params d.body d.scope (.ref T) kV doc pm an cdv ct) ⟨us, kn.zip ws⟩ = seqItems? (.ref T) >>= k ∧ k (some its.toArray) = pure (ps.zip (pi.filterMap fun i => (us ++ ws ++ its.drop j)[i]?)))
    (hpi : (pi.all fun i => decide (i < n + kn.length + (d.dfl.length - j))) = true) (hn : pi.length = ps.length) :
    Cal P w K mg base lv G kn (kwF n kn.length (fun ts => pi.filterMap fun i => (ts ++ d.dfl.drop j)[i]?) F) (d.ad K) := by
  obtain ⟨vs0, hk, FD⟩ := D
  have hl := kTs_len hk
  have hdr : ∀ {ts : List T} {vs : List V} (j : Nat), kTs ts = some vs → kTs (ts.drop j) = some (vs.drop j) := fun {ts} => by
    induction ts with
    | nil => intro vs j h; cases h; simp [kTs]
    | cons t ts ih =>
      intro vs j h
      cases j with
      | zero => simpa using h
      | succ j =>
        have h : (match kT t, kTs ts with
          | some v, some vs => some (v :: vs)
          | _, _ => none) = some vs := h
        cases e1 : kT t with
        | none => rw [e1] at h; cases h
        | some v =>
          cases e2 : kTs ts with
          | none => rw [e1, e2] at h; cases h
          | some r =>
            rw [e1, e2] at h
            cases h
            simpa using ih j e2
  obtain ⟨oc, od, dV, kV, doc, pm, an, cdv, ct, osl, rfl, lk, hcd, hD, hK⟩ := FD.ex
  rcases hD with ⟨e, _⟩ | ⟨_, T, o, its, m, rfl, lT, oT, rT⟩
  · rw [e] at hl
    exact absurd (List.length_eq_zero_iff.mp hl) hne
  · have li : its.length = d.dfl.length := by rw [hl]; exact rT.length.symm
    refine cal_kw c ⟨fun us ws => pi.filterMap fun i => (us ++ ws ++ its.drop j)[i]?, fun vs zs => pi.filterMap fun i => (vs ++ zs ++ vs0.drop j)[i]?, ⟨fun s us ws kin h1 h2 => ?_, fun r1 r2 => pick_vals pi ((r1.append r2).append (rT.drop j))⟩, fun us ws h1 h2 => ?_, fun G m H ts vs zs _ r => pick_rps pi (r.append (kTs_rp (hdr j hk)))⟩
    · obtain ⟨k, e1, e2⟩ := h T kV doc pm an cdv ct us ws its h1 h2 li
      refine BindsTo.of_looks fun M => ?_
      rw [e1]
      exact looks_items kin lT oT (.of_pure e2)
    · rw [← hn]
      refine pick_len pi fun i hi => ?_
      have := List.all_eq_true.mp hpi i hi
      rw [List.length_append, List.length_append, h1, h2, List.length_drop, li]
      simpa using this
end
end Eg
set_option Elab.async false
set_option linter.all false
set_option maxRecDepth 100000
set_option maxHeartbeats 4000000
namespace Eg
open PySem PySem.Spec PyProof.Rows L2 LamX
def Sx.fq1 (sx : Sx) (K : PySem.W.Frag) : Bool :=
  (plainNames.all fun x => He.Fa.ok K (.free x)) && ((sx.cons.all fun p => match PySem.W.nsIn K mainGlobals p.1, kT p.2 with
    | some (some u), some v => He.relB v u
    | _, _ => false) && ((sx.cs.all fun c => c.fine K) && ((sx.isi.all fun e => decide (PySem.W.kitOne K (tyVal (gh sx K) e.1.1) (tgVal (gh sx K) e.1.2) = some e.2)) &&
    (sx.tgs.all fun p => match p.2 with
      | .ty n => He.Fa.ok K (.free p.1) && decide (bootBuiltins p.1 = some (.type n))
      | .cls k => decide (PySem.W.nsIn K mainGlobals p.1 = some (some (.ref ((gh sx K).cl k))))))))
def Sx.fq2 (sx : Sx) (K : PySem.W.Frag) : Bool :=
  sx.xfine K && ((sx.cs.isEmpty || (decide (PySem.W.specialIn K (.builtin "object.__class__") "__get__" = some (some (.builtin "getset_descriptor.__get__"))) && decide (PySem.W.takesIn K (.builtin "object.__class__") = some true))) && sx.dfine K)
theorem and6 (a b c d e f : Bool) : (a && (b && (c && (d && (e && f))))) = ((a && (b && (c && (d && e)))) && f) := by cases a <;> cases b <;> cases c <;> cases d <;> cases e <;> rfl
theorem Sx.fq_eq (sx : Sx) (K : PySem.W.Frag) : sx.fine K = (sx.fq1 K && sx.fq2 K) := and6 _ _ _ _ _ _
def Sx.xfa (sx : Sx) (K : PySem.W.Frag) : Bool :=
  (sx.xex.all fun c => excB K ((gh sx K).cl c)) && ((sx.xis.all fun e => sx.xex.contains e.1.1 && decide (PySem.W.kitOne K (.ref ((gh sx K).cl e.1.1)) (tgVal (gh sx K) e.1.2) = some e.2)))
def Sx.xfb (sx : Sx) (K : PySem.W.Frag) : Bool :=
  ((sx.xfl.all fun p => xfB K ((gh sx K).cl p.1) && (decide (PySem.W.findIn K (.ref ((gh sx K).cl p.1)) p.2 = some none) && decide ((gh sx K).fl p.1 = [p.2]))) &&
  ((sx.xcs.all fun p => if p.2 = ("" : Str) then exnB K ((gh sx K).cl p.1) else oexB K ((gh sx K).cl p.1) && (decide (PySem.W.findIn K (.ref ((gh sx K).cl p.1)) p.2 = some none) && (decide ((gh sx K).fl p.1 = [p.2]) && (decide (PySem.W.findIn K (.ref ((gh sx K).cl p.1)) "__init__" = some (some (.ref (He.ma K ((gh sx K).cl p.1) "__init__")))) &&
    decide (PySem.W.typeIn K (.ref (He.ma K ((gh sx K).cl p.1) "__init__")) = some (.type "function")))))) &&
  ((sx.xm.all fun c => decide (PySem.W.exmAny K (.ref ((gh sx K).cl c)) (sx.xk.map fun k => .ref ((gh sx K).cl k)) = some true)) &&
  (sx.lam.all fun x => decide ((He.cT K x).2 ≠ mainGlobals) && sx.lam.all fun y => !decide ((He.cT K y).2 = (He.cT K x).2) || decide (y = x)))))
def Sx.fq3 (sx : Sx) (K : PySem.W.Frag) : Bool :=
  (sx.cs.isEmpty || (decide (PySem.W.specialIn K (.builtin "object.__class__") "__get__" = some (some (.builtin "getset_descriptor.__get__"))) && decide (PySem.W.takesIn K (.builtin "object.__class__") = some true))) && sx.dfine K
theorem Sx.xf_eq (sx : Sx) (K : PySem.W.Frag) : sx.xfine K = (sx.xfa K && sx.xfb K) := (Bool.and_assoc _ _ _).symm
theorem Sx.fq2_eq (sx : Sx) (K : PySem.W.Frag) : sx.fq2 K = (sx.xfa K && (sx.xfb K && sx.fq3 K)) := by
  show (sx.xfine K && sx.fq3 K) = _
  rw [Sx.xf_eq, Bool.and_assoc]
end Eg
set_option Elab.async false
set_option linter.all false
set_option maxRecDepth 100000
set_option maxHeartbeats 0
namespace EgLaw
open PySem PySem.Spec PyProof.Rows L2 Eg
def cs_0 : CS := { name := "Fair", fl := ["givers", "takers", "places"], props := ["hosts", "guests", "tables", "names"], called := true }
def sx0 : Sx := { cons := [], cs := [cs_0], isi := [], tgs := [] }
end EgLaw
set_option Elab.async false
set_option linter.all false
set_option maxRecDepth 100000
set_option maxHeartbeats 0
namespace EgLaw
open PySem PySem.Spec PyProof.Rows L2 Eg
abbrev RO : PySem.W.OpenRow := PySem.W.OpenLaw.row PySem.Challenge.rw_meetrounds_k04_guests_and_tables_refused
def top (i : Nat) : Stmt := PySem.Challenge.pw_meetrounds_k04_guests_and_tables_refused.main.body.getD i (.Pass ⟨0, 0, 0, 0⟩)
def met (i j : Nat) : Stmt := (C8.clsBody (top i)).getD j (.Pass ⟨0, 0, 0, 0⟩)
def sx : Sx := { cons := [("LONGEST_NAME", (.int 8)), ("DIGITS", (.str "0123456789")), ("LETTERS", (.str "abcdefghijklmnopqrstuvwxyz")), ("MOST_BOUND", (.int 4)), ("MOST_SIDE", (.int 4)), ("MOST_TABLES", (.int 12))], cs := [cs_0], isi := [((.non, (.ty "bool")), false), ((.bl, (.ty "bool")), true), ((.int, (.ty "bool")), false), ((.str, (.ty "bool")), false), ((.tup, (.ty "bool")), false), ((.lst, (.ty "bool")), false), (((.cls 0), (.ty "bool")), false), ((.dct, (.ty "bool")), false), ((.non, (.ty "int")), false), ((.bl, (.ty "int")), true), ((.int, (.ty "int")), true), ((.str, (.ty "int")), false), ((.tup, (.ty "int")), false), ((.lst, (.ty "int")), false), (((.cls 0), (.ty "int")), false), ((.dct, (.ty "int")), false), ((.non, (.ty "str")), false), ((.bl, (.ty "str")), false), ((.int, (.ty "str")), false), ((.str, (.ty "str")), true), ((.tup, (.ty "str")), false), ((.lst, (.ty "str")), false), (((.cls 0), (.ty "str")), false), ((.dct, (.ty "str")), false), ((.non, (.ty "tuple")), false), ((.bl, (.ty "tuple")), false), ((.int, (.ty "tuple")), false), ((.str, (.ty "tuple")), false), ((.tup, (.ty "tuple")), true), ((.lst, (.ty "tuple")), false), (((.cls 0), (.ty "tuple")), false), ((.dct, (.ty "tuple")), false)], tgs := [("bool", (.ty "bool")), ("int", (.ty "int")), ("str", (.ty "str")), ("tuple", (.ty "tuple")), ("InvalidHosts", (.cls 110)), ("InvalidGuests", (.cls 111)), ("InvalidTables", (.cls 104)), ("NoAnswer", (.cls 119)), ("WrongName", (.cls 117)), ("WrongValue", (.cls 100)), ("ArithmeticError", (.ty "ArithmeticError")), ("LookupError", (.ty "LookupError")), ("ValueError", (.ty "ValueError")), ("InvalidName", (.cls 103)), ("InvalidNumber", (.cls 102)), ("InvalidText", (.cls 101)), ("InvalidSchedule", (.cls 106)), ("InvalidRound", (.cls 105)), ("NotAFair", (.cls 109)), ("InvalidIndex", (.cls 108)), ("InvalidWish", (.cls 107)), ("InvalidMeetings", (.cls 112)), ("InvalidChanges", (.cls 115)), ("InvalidGrowth", (.cls 114)), ("InvalidUrgent", (.cls 113)), ("TooFewRounds", (.cls 120)), ("UnknownName", (.cls 118)), ("InvalidAsked", (.cls 116)), ("Broken", (.cls 123)), ("NothingToUndo", (.cls 122)), ("TooMany", (.cls 121))], xs := xNames, xcs := [(104, "given"), (110, "index"), (111, "index")], xex := [104, 110, 111], xis := XIS [104, 110, 111], xfl := XFL [104, 110, 111], xk := [100, 117, 119], xm := [104, 110, 111], lam := [("_law_right", none)] }
def d_is_integer_k04 : DX := ⟨fun K => He.ga K "is_integer", "is_integer", "is_integer", defArgs (top 32), defBody (top 32), defScope (top 32), []⟩
def d_is_within_k04 : DX := ⟨fun K => He.ga K "is_within", "is_within", "is_within", defArgs (top 33), defBody (top 33), defScope (top 33), []⟩
def d_is_name : DX := ⟨fun K => He.ga K "is_name", "is_name", "is_name", defArgs (top 34), defBody (top 34), defScope (top 34), []⟩
def d_is_member_k04 : DX := ⟨fun K => He.ga K "is_member", "is_member", "is_member", defArgs (top 37), defBody (top 37), defScope (top 37), []⟩
def d_wrong_member_k04 : DX := ⟨fun K => He.ga K "wrong_member", "wrong_member", "wrong_member", defArgs (top 38), defBody (top 38), defScope (top 38), []⟩
def d_is_tables_k04 : DX := ⟨fun K => He.ga K "is_tables", "is_tables", "is_tables", defArgs (top 39), defBody (top 39), defScope (top 39), []⟩
def d_check_sides_k04 : DX := ⟨fun K => He.ga K "check_sides", "check_sides", "check_sides", defArgs (top 40), defBody (top 40), defScope (top 40), []⟩
def d_Fair_init_k04 : DX := ⟨fun K => He.ma K (He.ga K "Fair") "__init__", "__init__", "Fair.__init__", defArgs (met 43 0), defBody (met 43 0), defScope (met 43 0), [.non]⟩
def d_Fair_hosts : DX := ⟨fun K => pgA K (He.ga K "Fair") "hosts", "hosts", "Fair.hosts", defArgs (met 43 2), defBody (met 43 2), defScope (met 43 2), []⟩
def d_Fair_guests : DX := ⟨fun K => pgA K (He.ga K "Fair") "guests", "guests", "Fair.guests", defArgs (met 43 3), defBody (met 43 3), defScope (met 43 3), []⟩
def d_Fair_tables : DX := ⟨fun K => pgA K (He.ga K "Fair") "tables", "tables", "Fair.tables", defArgs (met 43 4), defBody (met 43 4), defScope (met 43 4), []⟩
def d_Fair_names : DX := ⟨fun K => pgA K (He.ga K "Fair") "names", "names", "Fair.names", defArgs (met 43 5), defBody (met 43 5), defScope (met 43 5), []⟩
def d_law_jug : DX := ⟨fun K => He.ga K "_law_jug", "_law_jug", "_law_jug", defArgs (top 45), defBody (top 45), defScope (top 45), []⟩
def d_law_pour : DX := ⟨fun K => He.ga K "_law_pour", "_law_pour", "_law_pour", defArgs (top 46), defBody (top 46), defScope (top 46), []⟩
def d_law_word : DX := ⟨fun K => He.ga K "_law_word", "_law_word", "_law_word", defArgs (top 47), defBody (top 47), defScope (top 47), []⟩
def d_law_words : DX := ⟨fun K => He.ga K "_law_words", "_law_words", "_law_words", defArgs (top 48), defBody (top 48), defScope (top 48), []⟩
def d_law_bases_k04 : DX := ⟨fun K => He.ga K "_law_bases", "_law_bases", "_law_bases", defArgs (top 49), defBody (top 49), defScope (top 49), []⟩
def d_law_within_k04 : DX := ⟨fun K => He.ga K "_law_within", "_law_within", "_law_within", defArgs (top 50), defBody (top 50), defScope (top 50), []⟩
def d_law_is_name : DX := ⟨fun K => He.ga K "_law_is_name", "_law_is_name", "_law_is_name", defArgs (top 51), defBody (top 51), defScope (top 51), []⟩
def d_law_odd : DX := ⟨fun K => He.ga K "_law_odd", "_law_odd", "_law_odd", defArgs (top 52), defBody (top 52), defScope (top 52), []⟩
def d_law_class_k04 : DX := ⟨fun K => He.ga K "_law_class", "_law_class", "_law_class", defArgs (top 53), defBody (top 53), defScope (top 53), []⟩
def d_law_keeps_k04 : DX := ⟨fun K => He.ga K "_law_keeps", "_law_keeps", "_law_keeps", defArgs (top 54), defBody (top 54), defScope (top 54), []⟩
def d_law_told_k04 : DX := ⟨fun K => He.ga K "_law_told", "_law_told", "_law_told", defArgs (top 55), defBody (top 55), defScope (top 55), []⟩
def d_law_wrong : DX := ⟨fun K => He.ga K "_law_wrong", "_law_wrong", "_law_wrong", defArgs (top 56), defBody (top 56), defScope (top 56), []⟩
def d_law_bent_k04 : DX := ⟨fun K => He.ga K "_law_bent", "_law_bent", "_law_bent", defArgs (top 57), defBody (top 57), defScope (top 57), []⟩
def d_law_bent_side : DX := ⟨fun K => He.ga K "_law_bent_side", "_law_bent_side", "_law_bent_side", defArgs (top 58), defBody (top 58), defScope (top 58), []⟩
def d_law_seen : DX := ⟨fun K => He.ga K "_law_seen", "_law_seen", "_law_seen", defArgs (top 60), defBody (top 60), defScope (top 60), []⟩
def d_law_right_k04 : DX := ⟨fun K => He.ga K "_law_right", "_law_right", "_law_right", defArgs (top 59), defBody (top 59), defScope (top 59), []⟩
def d_law_k04 : DX := ⟨fun K => He.ga K "law", "law", "law", defArgs (top 61), defBody (top 61), defScope (top 61), []⟩
def nm0 : List Str := ["WrongValue", "InvalidText", "InvalidNumber", "InvalidName", "InvalidTables", "InvalidRound", "InvalidSchedule", "InvalidWish", "InvalidIndex", "NotAFair", "InvalidHosts", "InvalidGuests", "InvalidMeetings", "InvalidUrgent", "InvalidGrowth", "InvalidChanges", "InvalidAsked", "WrongName", "UnknownName", "NoAnswer", "TooFewRounds", "TooMany", "NothingToUndo", "Broken", "MOST_SIDE", "MOST_BOUND", "MOST_TABLES", "LETTERS", "DIGITS", "LONGEST_NAME"]
def nm1 : List Str := ["is_integer", "is_within", "is_name", "read_number", "is_member", "wrong_member", "is_tables", "check_sides", "read_member", "read_fair", "Fair", "_law_jug", "_law_pour", "_law_word", "_law_words", "_law_bases", "_law_within", "_law_is_name", "_law_odd", "_law_class", "_law_keeps", "_law_told", "_law_wrong", "_law_bent", "_law_bent_side", "_law_right", "_law_seen"]
def names : List Str := nm0 ++ nm1
def glo : List Str := (["is_integer", "is_within", "is_name", "is_member", "wrong_member", "is_tables", "check_sides", "_law_jug", "_law_pour", "_law_word", "_law_words", "_law_bases", "_law_within", "_law_is_name", "_law_odd", "_law_class", "_law_keeps", "_law_told", "_law_wrong", "_law_bent", "_law_bent_side", "_law_seen", "_law_right", "law", "Fair", "InvalidTables", "InvalidHosts", "InvalidGuests"] : List Str)
def fx (K : PySem.W.Frag) : Bool := sx.fine K && glo.all fun x => He.Fa.ok K (.glo x)
def d_InvalidTables_init : DX := ⟨fun K => He.ma K (He.ga K "InvalidTables") "__init__", "__init__", "InvalidTables.__init__", defArgs (met 5 0), defBody (met 5 0), defScope (met 5 0), []⟩
def d_InvalidHosts_init : DX := ⟨fun K => He.ma K (He.ga K "InvalidHosts") "__init__", "__init__", "InvalidHosts.__init__", defArgs (met 11 0), defBody (met 11 0), defScope (met 11 0), []⟩
def d_InvalidGuests_init : DX := ⟨fun K => He.ma K (He.ga K "InvalidGuests") "__init__", "__init__", "InvalidGuests.__init__", defArgs (met 12 0), defBody (met 12 0), defScope (met 12 0), []⟩
def fn : List DX := ([d_is_integer_k04, d_is_within_k04, d_is_name, d_is_member_k04, d_wrong_member_k04, d_is_tables_k04, d_check_sides_k04, d_Fair_init_k04, d_Fair_hosts, d_Fair_guests, d_Fair_tables, d_Fair_names, d_law_jug, d_law_pour, d_law_word, d_law_words, d_law_bases_k04, d_law_within_k04, d_law_is_name, d_law_odd, d_law_class_k04, d_law_keeps_k04, d_law_told_k04, d_law_wrong, d_law_bent_k04, d_law_bent_side, d_law_seen, d_law_right_k04, d_law_k04, d_InvalidTables_init] : List DX) ++ ([d_InvalidHosts_init, d_InvalidGuests_init] : List DX)
def tf : List He.Defn := sx.lam
abbrev hk : PySem.W.Hook := hookT 6 fx fn tf
def ob (s : PySem.W.SharedT) : He.AlD := obsT 6 fx fn tf (HandSHeadRun.getT s)
theorem ob_eq (s : PySem.W.SharedT) : ob s = hk.obs s.abs := obsT_eq (HandSHeadRun.getT_eq s)
end EgLaw
set_option Elab.async false
set_option linter.all false
set_option maxRecDepth 100000
set_option maxHeartbeats 0
namespace EgLaw
open PySem PySem.Spec PyProof.Rows L2 Eg
theorem run_l (w : World) : RunOb RO 20000 w (fun s => HandSHeadRun.looksF RO.prog (PySem.W.boot_heap w.params) s.abs) true := by
  intro os
  kernel_rfl
theorem run_s (w : World) : RunOb RO 20000 w (fun s => HandSHeadRun.seenQ (PySem.W.view RO.prog [61]) names (importedModules RO.prog.main.body) (fun s => PySem.W.xlAt (PySem.W.view RO.prog [61]) [] s && PySem.W.recOk RO.toRowW.records s) s.abs) (PySem.W.openGood (PySem.W.view RO.prog [61]) names) := by
  intro os
  kernel_rfl
theorem run_o (w : World) : RunOb RO 20000 w ob (hk.val w) := by
  intro os
  kernel_rfl
theorem run (w : World) : HandSHeadRun.RunEq RO (PySem.W.view RO.prog [61]) hk ob 20000 names w := run_join (run_l w) (run_s w) (run_o w)
end EgLaw
set_option Elab.async false
set_option linter.all false
set_option maxRecDepth 100000
set_option maxHeartbeats 4000000
namespace Eg
abbrev IsiTb := List ((Ty × Tg) × Bool)
theorem ap_fNever (u1 : Env) (u2 : Sto) : fNever  u1 u2 = (.bad) := rfl
theorem ap_fK (c : T) (u1 : Env) (st : Sto) : fK c u1 st = (.ok c st) := rfl
theorem ap_fGl (tb : Tab) (j : Nat) (u1 : Env) (st : Sto) : fGl tb j u1 st = (match tb.cons[j]? with
  | some p => .ok p.2 st
  | none => .bad) := rfl
def k1_fBin (op : PySem.Operator) (x : T) (y : T) (st2 : Sto) : R T := R.opt (binT op x y) st2
def k2_fBin (op : PySem.Operator) (fb : Env → Sto → R T) (env : Env) (x : T) (st1 : Sto) : R T := (fb env st1).bnd (k1_fBin op x)
theorem ap_fBin (op : PySem.Operator) (fa fb : Env → Sto → R T) (env : Env) (st : Sto) : fBin op fa fb env st = ((fa env st).bnd (k2_fBin op fb env)) := rfl
def Z50  (x : T) (st1 : Sto) : R T := match x with
  | .int i => .ok (.int (-i)) st1
  | _ => .bad
theorem Z51 (fa : Env → Sto → R T) (env : Env) (st : Sto) : fNeg fa env st = ((fa env st).bnd (Z50)) := rfl
def k1_fCmp (op : PySem.CmpOp) (x : T) (y : T) (st2 : Sto) : R T := R.opt ((cmpT st2 op x y).map .bl) st2
def k2_fCmp (op : PySem.CmpOp) (fb : Env → Sto → R T) (env : Env) (x : T) (st1 : Sto) : R T := (fb env st1).bnd (k1_fCmp op x)
theorem ap_fCmp (op : PySem.CmpOp) (fa fb : Env → Sto → R T) (env : Env) (st : Sto) : fCmp op fa fb env st = ((fa env st).bnd (k2_fCmp op fb env)) := rfl
def k1_fIsN (n : Bool) (x : T) (st1 : Sto) : R T := .ok (.bl (isNn n x)) st1
theorem ap_fIsN (n : Bool) (fa : Env → Sto → R T) (env : Env) (st : Sto) : fIsN n fa env st = ((fa env st).bnd (k1_fIsN n)) := rfl
def k1_fTup  (xs : List T) (st1 : Sto) : R T := if xs.length ≤ lim then .ok (.tup xs) st1 else .bad
theorem ap_fTup (fs : Env → Sto → R (List T)) (env : Env) (st : Sto) : fTup fs env st = ((fs env st).bnd (k1_fTup)) := rfl
def k1_fIx (x : T) (y : T) (st2 : Sto) : R T := R.opt (ixT st2 x y) st2
def k2_fIx (fb : Env → Sto → R T) (env : Env) (x : T) (st1 : Sto) : R T := (fb env st1).bnd (k1_fIx x)
theorem ap_fIx (fa fb : Env → Sto → R T) (env : Env) (st : Sto) : fIx fa fb env st = ((fa env st).bnd (k2_fIx fb env)) := rfl
def k1_fSl (x : T) (l : Option Int) (u : Option Int) (st3 : Sto) : R T := match x with
  | .tup xs => .ok (.tup (cut xs l u)) st3
  | .str z => if z.length ≤ lim then .ok (.str (L2.cutS z l u)) st3 else .bad
  | _ => .bad
def k2_fSl (fh : Env → Sto → R (Option Int)) (env : Env) (x : T) (l : Option Int) (st2 : Sto) : R T := (fh env st2).bnd (k1_fSl x l)
def k3_fSl (fl : Env → Sto → R (Option Int)) (fh : Env → Sto → R (Option Int)) (env : Env) (x : T) (st1 : Sto) : R T := (fl env st1).bnd (k2_fSl fh env x)
theorem ap_fSl (fa : Env → Sto → R T) (fl fh : Env → Sto → R (Option Int)) (env : Env) (st : Sto) : fSl fa fl fh env st = ((fa env st).bnd (k3_fSl fl fh env)) := rfl
def k1_fFz  (xs : List T) (st1 : Sto) : R T := .ok (.lst xs) st1
theorem ap_fFz (fl : Env → Sto → R (List T)) (env : Env) (st : Sto) : fFz fl env st = ((fl env st).bnd (k1_fFz)) := rfl
theorem ap_fFn (o : Option Fn) (fs fk : Env → Sto → R (List T)) (env : Env) (st : Sto) : fFn o fs fk env st = (match o with
  | some fn => (fs env st).bnd fun xs st1 => (fk env st1).bnd fun ys st2 => if ys.length = fn.ks.length then fn.F (xs ++ ys) st2 else .bad
  | none => .bad) := rfl
def k1_fBi (b : Bi) (xs : List T) (st1 : Sto) : R T := R.opt (biT st1 b xs) st1
theorem ap_fBi (b : Bi) (fs : Env → Sto → R (List T)) (env : Env) (st : Sto) : fBi b fs env st = ((fs env st).bnd (k1_fBi b)) := rfl
theorem ap_fNil (u1 : Env) (st : Sto) : fNil  u1 st = (.ok [] st) := rfl
def k1_fCons (x : T) (xs : List T) (st2 : Sto) : R (List T) := .ok (x :: xs) st2
def k2_fCons (fs : Env → Sto → R (List T)) (env : Env) (x : T) (st1 : Sto) : R (List T) := (fs env st1).bnd (k1_fCons x)
theorem ap_fCons (fa : Env → Sto → R T) (fs : Env → Sto → R (List T)) (env : Env) (st : Sto) : Z11 fa fs env st = ((fa env st).bnd (k2_fCons fs env)) := rfl
theorem ap_fNo0 (u1 : Env) (st : Sto) : fNo'  u1 st = (.ok none st) := rfl
def k1_fSo  (x : T) (st1 : Sto) : R (Option Int) := match x with
  | .int i => .ok (some i) st1
  | _ => .bad
theorem ap_fSo (fa : Env → Sto → R T) (env : Env) (st : Sto) : fSo fa env st = ((fa env st).bnd (k1_fSo)) := rfl
def k1_fNot  (x : T) (st1 : Sto) : R T := match x with
    | .bl b => .ok (.bl (!b)) st1
    | _ => .bad
theorem ap_fNot (fa : Env → Sto → R T) (env : Env) (st : Sto) : fNot fa env st = ((fa env st).bnd (k1_fNot)) := rfl
def Z23 (o1 : PySem.CmpOp) (o2 : PySem.CmpOp) (fc : Env → Sto → R T) (env : Env) (x : T) (y : T) (st2 : Sto) : R T := (R.opt (cmpT st2 o1 x y) st2).bnd fun k st3 =>
      if k = true then (fc env st3).bnd fun z st4 => R.opt ((cmpT st4 o2 y z).map .bl) st4 else .ok (.bl false) st3
def Z22 (o1 : PySem.CmpOp) (o2 : PySem.CmpOp) (fb : Env → Sto → R T) (fc : Env → Sto → R T) (env : Env) (x : T) (st1 : Sto) : R T := (fb env st1).bnd (Z23 o1 o2 fc env x)
theorem Z24 (o1 o2 : PySem.CmpOp) (fa fb fc : Env → Sto → R T) (env : Env) (st : Sto) : fChain o1 o2 fa fb fc env st = ((fa env st).bnd (Z22 o1 o2 fb fc env)) := rfl
def k1_fAnd (fb : Env → Sto → R T) (env : Env) (x : T) (st1 : Sto) : R T := match x with
    | .bl true => fBl fb env st1
    | .bl false => .ok (.bl false) st1
    | _ => .bad
theorem ap_fAnd (fa fb : Env → Sto → R T) (env : Env) (st : Sto) : fAnd fa fb env st = ((fa env st).bnd (k1_fAnd fb env)) := rfl
def k1_fOr (fb : Env → Sto → R T) (env : Env) (x : T) (st1 : Sto) : R T := match x with
    | .bl true => .ok (.bl true) st1
    | .bl false => fBl fb env st1
    | _ => .bad
theorem ap_fOr (fa fb : Env → Sto → R T) (env : Env) (st : Sto) : fOr fa fb env st = ((fa env st).bnd (k1_fOr fb env)) := rfl
def k1_fIte (fa : Env → Sto → R T) (fb : Env → Sto → R T) (env : Env) (x : T) (st1 : Sto) : R T := match x with
    | .bl true => fa env st1
    | .bl false => fb env st1
    | _ => .bad
theorem ap_fIte (fc fa fb : Env → Sto → R T) (env : Env) (st : Sto) : fIte fc fa fb env st = ((fc env st).bnd (k1_fIte fa fb env)) := rfl
def k1_fBl  (y : T) (st2 : Sto) : R T := match y with
      | .bl c => .ok (.bl c) st2
      | _ => .bad
theorem ap_fBl (fb : Env → Sto → R T) (env : Env) (st : Sto) : fBl fb env st = ((fb env st).bnd (k1_fBl)) := rfl
def Z39  (xs : List T) (st1 : Sto) : R T := .ok (.loc st1.length) (st1 ++ [.lst xs])
theorem Z49 (fl : Env → Sto → R (List T)) (env : Env) (st : Sto) : fNew fl env st = ((fl env st).bnd (Z39)) := rfl
def k1_fMu (o : Mu) (fs : Env → Sto → R (List T)) (env : Env) (x : T) (st1 : Sto) : R T := if (lstAt st1 x).isSome then (fs env st1).bnd fun ys st2 => match lstAt st2 x with
  | some (l, xs) => match muT o xs ys with
    | some (r, xs') => .ok r (st2.set l (.lst xs'))
    | none => .bad
  | none => .bad else .bad
theorem ap_fMu (o : Mu) (fa : Env → Sto → R T) (fs : Env → Sto → R (List T)) (env : Env) (st : Sto) : fMu o fa fs env st = ((fa env st).bnd (k1_fMu o fs env)) := rfl
def Z17  (x : T) (st1 : Sto) : R T := R.opt (strT x) st1
theorem Z18 (fa : Env → Sto → R T) (env : Env) (st : Sto) : fStr fa env st = ((fa env st).bnd (Z17)) := rfl
def k1_fRepr  (x : T) (st1 : Sto) : R T := R.opt (reprT st1 x) st1
theorem ap_fRepr (fa : Env → Sto → R T) (env : Env) (st : Sto) : fRepr fa env st = ((fa env st).bnd (k1_fRepr)) := rfl
def k1_fAttr (cs : List Ci) (f : PySem.Str) (x : T) (st1 : Sto) : R T := match insOf st1 x with
  | some (c, vs) => match cs[c]? with
    | some ci => match fldIx ci.fl f with
      | some i => R.opt vs[i]? st1
      | none => match ci.props.lookup f with
        | some F => (F [x] st1).nox
        | none => .bad
    | none => .bad
  | none => .bad
theorem ap_fAttr (cs : List Ci) (f : PySem.Str) (fa : Env → Sto → R T) (env : Env) (st : Sto) : fAttr cs f fa env st = ((fa env st).bnd (k1_fAttr cs f)) := rfl
def k1_fDl  (xs : List T) (st1 : Sto) : R (List T) := if xs.length ≤ lim then .ok xs st1 else .bad
theorem ap_fDl (fs : Env → Sto → R (List T)) (env : Env) (st : Sto) : fDl fs env st = ((fs env st).bnd (k1_fDl)) := rfl
def k1_fCat (x : T) (y : T) (st2 : Sto) : R (List T) := match ownL st2 x, ownL st2 y with
    | some xs, some ys => if xs.length + ys.length ≤ lim then .ok (xs ++ ys) st2 else .bad
    | _, _ => .bad
def k2_fCat (fb : Env → Sto → R T) (env : Env) (x : T) (st1 : Sto) : R (List T) := (fb env st1).bnd (k1_fCat x)
theorem ap_fCat (fa fb : Env → Sto → R T) (env : Env) (st : Sto) : fCat fa fb env st = ((fa env st).bnd (k2_fCat fb env)) := rfl
def k1_fLi  (x : T) (st1 : Sto) : R (List T) := R.opt (seqOf st1 x) st1
theorem ap_fLi (fa : Env → Sto → R T) (env : Env) (st : Sto) : fLi fa env st = ((fa env st).bnd (k1_fLi)) := rfl
def Z57 (x : T) (l : Option Int) (u : Option Int) (st3 : Sto) : R (List T) := match lstOf st3 x with
    | some xs => .ok (cut xs l u) st3
    | none => .bad
def Z56 (fh : Env → Sto → R (Option Int)) (env : Env) (x : T) (l : Option Int) (st2 : Sto) : R (List T) := (fh env st2).bnd (Z57 x l)
def Z58 (fl : Env → Sto → R (Option Int)) (fh : Env → Sto → R (Option Int)) (env : Env) (x : T) (st1 : Sto) : R (List T) := (fl env st1).bnd (Z56 fh env x)
theorem ap_fSlL (fa : Env → Sto → R T) (fl fh : Env → Sto → R (Option Int)) (env : Env) (st : Sto) : fSlL fa fl fh env st = ((fa env st).bnd (Z58 fl fh env)) := rfl
def k1_fSeq  (x : T) (st1 : Sto) : R (List T) := match x with
    | .lst xs => .ok xs st1
    | .tup xs => .ok xs st1
    | .scr ns => .ok (ns.map .int) st1
    | .str y => .ok (chars y) st1
    | .ptp xs => .ok xs st1
    | _ => .bad
theorem ap_fSeq (fa : Env → Sto → R T) (env : Env) (st : Sto) : fSeq fa env st = ((fa env st).bnd (k1_fSeq)) := rfl
def k1_fEn  (x : T) (st1 : Sto) : R (List T) := match x with
    | .lst xs => .ok (numbered 0 xs) st1
    | .tup xs => .ok (numbered 0 xs) st1
    | _ => .bad
theorem ap_fEn (fa : Env → Sto → R T) (env : Env) (st : Sto) : fEn fa env st = ((fa env st).bnd (k1_fEn)) := rfl
def k1_fPr (x : T) (y : T) (st2 : Sto) : R (List T) := match x, y with
    | .lst xs, .lst ys => .ok (pairs xs ys) st2
    | .tup xs, .tup ys => .ok (pairs xs ys) st2
    | .lst xs, .tup ys => .ok (pairs xs ys) st2
    | .tup xs, .lst ys => .ok (pairs xs ys) st2
    | _, _ => .bad
def k2_fPr (fb : Env → Sto → R T) (env : Env) (x : T) (st1 : Sto) : R (List T) := (fb env st1).bnd (k1_fPr x)
theorem ap_fPr (fa fb : Env → Sto → R T) (env : Env) (st : Sto) : fPr fa fb env st = ((fa env st).bnd (k2_fPr fb env)) := rfl
def k1_fTst  (x : T) (st1 : Sto) : R Bool := R.opt (asBl x) st1
theorem ap_fTst (fa : Env → Sto → R T) (env : Env) (st : Sto) : fTst fa env st = ((fa env st).bnd (k1_fTst)) := rfl
theorem ap_fYes (u1 : Env) (st : Sto) : fYes  u1 st = (.ok true st) := rfl
theorem ap_fNx (env : Env) (st : Sto) : fNx  env st = (.nx env st) := rfl
def k1_fAsg (ft : Ft) (env : Env) (t : T) (st1 : Sto) : O := match ft t env st1 with
  | .nx env' st' => .nx env' st'
  | .exc e env' st' => .exc e env' st'
  | _ => .bad
theorem ap_fAsg (fa : Env → Sto → R T) (ft : Ft) (env : Env) (st : Sto) : fAsg fa ft env st = ((fa env st).go env (k1_fAsg ft env)) := rfl
def k1_fPar2 (i : Nat) (j : Nat) (env : Env) (ts : List T) (st1 : Sto) : O := match ts with
  | [t, u] => if i < env.length ∧ j < env.length then .nx ((env.set i (some t)).set j (some u)) st1 else .bad
  | _ => .bad
theorem ap_fPar2 (i j : Nat) (fs : Env → Sto → R (List T)) (env : Env) (st : Sto) : fPar2 i j fs env st = ((fs env st).go env (k1_fPar2 i j env)) := rfl
def k1_fIf (f : Fs) (g : Fs) (env : Env) (t : T) (st1 : Sto) : O := match t with
  | .bl true => f env st1
  | .bl false => g env st1
  | _ => .bad
theorem ap_fIf (fc : Env → Sto → R T) (f g : Fs) (env : Env) (st : Sto) : fIf fc f g env st = ((fc env st).go env (k1_fIf f g env)) := rfl
def k1_fRet  (t : T) (st1 : Sto) : O := .rt t st1
theorem ap_fRet (fa : Env → Sto → R T) (env : Env) (st : Sto) : fRet fa env st = ((fa env st).go env (k1_fRet)) := rfl
def k1_fExp (env : Env) (u9 : T) (st1 : Sto) : O := .nx env st1
theorem ap_fExp (fa : Env → Sto → R T) (env : Env) (st : Sto) : fExp fa env st = ((fa env st).go env (k1_fExp env)) := rfl
def k1_fFor (g : IG) (f : Fs) (env : Env) (xs : List T) (st1 : Sto) : O := walkO g f xs env st1
theorem ap_fFor (fit : Env → Sto → R (List T)) (g : IG) (f : Fs) (env : Env) (st : Sto) : fFor fit g f env st = ((fit env st).go env (k1_fFor g f env)) := rfl
theorem ap_fG (g : IG) (t : T) (env : Env) (st : Sto) : fG g t env st = (match g.set t env with
  | some env' => .nx env' st
  | none => .bad) := rfl
def k1_fSub (t : T) (env : Env) (x : T) (y : T) (st2 : Sto) : O := match lstAt st2 x, y with
  | some (l, xs), .int k => match L2.ixN xs.length k with
    | some j => .nx env (st2.set l (.lst (xs.set j t)))
    | none => .bad
  | _, _ => .bad
def k2_fSub (fb : Env → Sto → R T) (t : T) (env : Env) (x : T) (st1 : Sto) : O := (fb env st1).go env (k1_fSub t env x)
theorem ap_fSub (fa fb : Env → Sto → R T) (t : T) (env : Env) (st : Sto) : fSub fa fb t env st = ((fa env st).go env (k2_fSub fb t env)) := rfl
theorem ap_fTu (n : Nat) (g : List T → Env → Sto → O) (t : T) (env : Env) (st : Sto) : fTu n g t env st = (match t with
  | .tup ts => if ts.length = n then g ts env st else .bad
  | _ => .bad) := rfl
theorem ap_fNo (ts : List T) (env : Env) (st : Sto) : fNo  ts env st = (match ts with
  | [] => .nx env st
  | _ => .bad) := rfl
theorem ap_fCo (f : Ft) (g : List T → Env → Sto → O) (ts : List T) (env : Env) (st : Sto) : fCo f g ts env st = (match ts with
  | t :: ts => (f t env st).seq fun env1 st1 => g ts env1 st1
  | [] => .bad) := rfl
def k1_fFld (cs : List Ci) (f : PySem.Str) (env : Env) (y : T) (x : T) (st2 : Sto) : O := match x with
  | .loc l => match putC cs f y st2 l with
    | some st3 => .nx env st3
    | none => .bad
  | _ => .bad
def k2_fFld (cs : List Ci) (f : PySem.Str) (fo : Env → Sto → R T) (env : Env) (y : T) (st1 : Sto) : O := (fo env st1).go env (k1_fFld cs f env y)
theorem ap_fFld (cs : List Ci) (f : PySem.Str) (fv fo : Env → Sto → R T) (env : Env) (st : Sto) : fFld cs f fv fo env st = ((fv env st).go env (k2_fFld cs f fo env)) := rfl
def Z14 (n : Nat) (tb : IsiTb) (g : Tg) (x : T) (st1 : Sto) : R T := R.opt ((isiT n tb g st1 x).map .bl) st1
theorem Z15 (n : Nat) (tb : IsiTb) (g : Tg) (fa : Env → Sto → R T) (env : Env) (st : Sto) : fIsi n tb g fa env st = ((fa env st).bnd (Z14 n tb g)) := rfl
theorem ap_evSs (tb : Tab) (s : IS) (ss : List IS) (env : Env) (st : Sto) : Z16 tb (s :: ss) env st = (s.ev tb env st).seq (Z16 tb ss) := by rw [Z16]
theorem ap_evSs0 (tb : Tab) (env : Env) (st : Sto) : Z16 tb [] env st = .nx env st := by rw [Z16]; rfl
def Ev {A : Type} (r : R A) (Q : A → Sto → Prop) : Prop := ∃ a st, r = .ok a st ∧ Q a st
theorem Ev.ok {A : Type} {a : A} {st : Sto} {Q : A → Sto → Prop} (h : Q a st) : Ev (.ok a st) Q := ⟨a, st, rfl, h⟩
theorem Ev.bnd {A B : Type} {x : R A} {f : A → Sto → R B} {P : A → Sto → Prop} {Q : B → Sto → Prop} (h : Ev x P) (k : ∀ a st, P a st → Ev (f a st) Q) : Ev (x.bnd f) Q := by
  obtain ⟨a, st, e, p⟩ := h
  obtain ⟨b, st2, e2, q⟩ := k a st p
  exact ⟨b, st2, by rw [e]; exact e2, q⟩
theorem Ev.imp {A : Type} {x : R A} {P Q : A → Sto → Prop} (h : Ev x P) (k : ∀ a st, P a st → Q a st) : Ev x Q := let ⟨a, st, e, p⟩ := h; ⟨a, st, e, k a st p⟩
@[simp] theorem bnd_ok' {A B : Type} {a : A} {st : Sto} {f : A → Sto → R B} : (R.ok a st).bnd f = f a st := rfl
@[simp] theorem go_ok' {A : Type} {a : A} {st : Sto} {env : Env} {f : A → Sto → O} : (R.ok a st).go env f = f a st := rfl
@[simp] theorem seq_nx' {env : Env} {st : Sto} {f : Env → Sto → O} : (O.nx env st).seq f = f env st := rfl
@[simp] theorem seq_rt' {t : T} {st : Sto} {f : Env → Sto → O} : (O.rt t st).seq f = .rt t st := rfl
@[simp] theorem opt_some' {A : Type} {a : A} {st : Sto} : R.opt (some a) st = .ok a st := rfl
@[simp] theorem nox_ok' {A : Type} {a : A} {st : Sto} : (R.ok a st).nox = .ok a st := rfl
def Nl (t : T) : Prop := ∀ f, frzW f t = some t
def Nls (ts : List T) : Prop := ∀ f, frzWs f ts = some ts
def NL (st : Sto) : Prop := ∀ f : Nat → Option T, (∀ i, i < st.length → f i = some (.loc i)) → frzCs f st = some st
theorem frzCs_all {f : Nat → Option T} : ∀ {st : Sto}, frzCs f st = some st ↔ ∀ c, c ∈ st → frzC f c = some c
  | [] => ⟨fun _ c hc => (by cases hc), fun _ => rfl⟩
  | c :: st => by
    have e : frzCs f (c :: st) = match frzC f c, frzCs f st with
      | some d, some ds => some (d :: ds)
      | _, _ => none := rfl
    rw [e]
    constructor
    · intro h
      cases e1 : frzC f c with
      | none => rw [e1] at h; cases h
      | some y =>
        cases e2 : frzCs f st with
        | none => rw [e1, e2] at h; cases h
        | some ys =>
          rw [e1, e2] at h
          simp only [Option.some.injEq, List.cons.injEq] at h
          intro d hd
          rcases List.mem_cons.mp hd with rfl | hd
          · rw [e1, h.1]
          · exact frzCs_all.mp (by rw [e2, h.2]) d hd
    · intro h
      rw [h c List.mem_cons_self, frzCs_all.mpr fun d hd => h d (List.mem_cons_of_mem _ hd)]
@[simp] theorem nl_non : Nl .non := fun _ => by rw [frzW]
@[simp] theorem nl_bl {b : Bool} : Nl (.bl b) := fun _ => by rw [frzW]
@[simp] theorem nl_int {b : Int} : Nl (.int b) := fun _ => by rw [frzW]
@[simp] theorem nl_str {b : PySem.Str} : Nl (.str b) := fun _ => by rw [frzW]
@[simp] theorem nl_scr {b : List Int} : Nl (.scr b) := fun _ => by rw [frzW]
@[simp] theorem nl_cv {b : Nat} : Nl (.cv b) := fun _ => by rw [frzW]
@[simp] theorem nls_nil : Nls [] := fun _ => by rw [frzWs]
@[simp] theorem nls_cons {x : T} {xs : List T} : Nls (x :: xs) ↔ Nl x ∧ Nls xs := by
  constructor
  · intro h
    have key : ∀ f, frzW f x = some x ∧ frzWs f xs = some xs := fun f => by
      have := h f
      rw [frzWs] at this
      cases e1 : frzW f x with
      | none => rw [e1] at this; cases this
      | some y =>
        cases e2 : frzWs f xs with
        | none => rw [e1, e2] at this; cases this
        | some ys =>
          rw [e1, e2] at this
          simp only [Option.some.injEq, List.cons.injEq] at this
          exact ⟨by rw [this.1], by rw [this.2]⟩
    exact ⟨fun f => (key f).1, fun f => (key f).2⟩
  · rintro ⟨h1, h2⟩ f
    rw [frzWs, h1 f, h2 f]
theorem nls_of {xs : List T} (h : ∀ x, x ∈ xs → Nl x) : Nls xs := by
  induction xs with
  | nil => exact nls_nil
  | cons x xs ih => exact nls_cons.mpr ⟨h x List.mem_cons_self, ih fun y hy => h y (List.mem_cons_of_mem _ hy)⟩
theorem nls_mem {xs : List T} (h : Nls xs) : ∀ x, x ∈ xs → Nl x := by
  induction xs with
  | nil => intro x hx; cases hx
  | cons y ys ih =>
    obtain ⟨h1, h2⟩ := nls_cons.mp h
    intro x hx
    rcases List.mem_cons.mp hx with rfl | hx
    · exact h1
    · exact ih h2 x hx
@[simp] theorem nls_app {xs ys : List T} : Nls (xs ++ ys) ↔ Nls xs ∧ Nls ys := by
  constructor
  · intro h
    exact ⟨nls_of fun x hx => nls_mem h x (List.mem_append_left _ hx), nls_of fun x hx => nls_mem h x (List.mem_append_right _ hx)⟩
  · rintro ⟨h1, h2⟩
    exact nls_of fun x hx => (List.mem_append.mp hx).elim (nls_mem h1 x) (nls_mem h2 x)
@[simp] theorem nl_tup {xs : List T} : Nl (.tup xs) ↔ Nls xs := by
  constructor
  · intro h f
    have := h f
    rw [frzW] at this
    obtain ⟨ys, e1, e2⟩ := Option.map_eq_some_iff.mp this
    cases e2; exact e1
  · intro h f; rw [frzW, h f]; rfl
@[simp] theorem nl_edt : Nl .edt := fun f => by rw [frzW]
@[simp] theorem nl_ptp {xs : List T} : Nl (.ptp xs) ↔ Nls xs := by
  constructor
  · intro h f
    have := h f
    rw [frzW] at this
    obtain ⟨ys, e1, e2⟩ := Option.map_eq_some_iff.mp this
    cases e2; exact e1
  · intro h f; rw [frzW, h f]; rfl
@[simp] theorem nl_lst {xs : List T} : Nl (.lst xs) ↔ Nls xs := by
  constructor
  · intro h f
    have := h f
    rw [frzW] at this
    obtain ⟨ys, e1, e2⟩ := Option.map_eq_some_iff.mp this
    cases e2; exact e1
  · intro h f; rw [frzW, h f]; rfl
@[simp] theorem nl_obj {c : Nat} {xs : List T} : Nl (.obj c xs) ↔ Nls xs := by
  constructor
  · intro h f
    have := h f
    rw [frzW] at this
    obtain ⟨ys, e1, e2⟩ := Option.map_eq_some_iff.mp this
    cases e2; exact e1
  · intro h f; rw [frzW, h f]; rfl
@[simp] theorem NL_nil : NL [] := fun _ _ => rfl
theorem NL_cons {c : Cell} {st : Sto} (h1 : ∀ f, frzC f c = some c) (h2 : NL st) : NL (c :: st) := fun f hf => frzCs_all.mpr fun d hd => by
  rcases List.mem_cons.mp hd with rfl | hd
  · exact h1 f
  · exact frzCs_all.mp (h2 f fun i hi => hf i (by rw [List.length_cons]; omega)) d hd
theorem NL_lst {xs : List T} {st : Sto} (h1 : Nls xs) (h2 : NL st) : NL (.lst xs :: st) := NL_cons (fun f => by show (frzWs f xs).map Cell.lst = _; rw [h1 f]; rfl) h2
theorem NL_app' {st st2 : Sto} (h1 : NL st) (h2 : ∀ f : Nat → Option T, (∀ i, i < st.length + st2.length → f i = some (.loc i)) → ∀ c, c ∈ st2 → frzC f c = some c) : NL (st ++ st2) := fun f hf => frzCs_all.mpr fun d hd => by
  rw [List.length_append] at hf
  rcases List.mem_append.mp hd with hd | hd
  · exact frzCs_all.mp (h1 f fun i hi => hf i (by omega)) d hd
  · exact h2 f hf d hd
theorem NL_app {st st2 : Sto} (h1 : NL st) (h2 : NL st2) : NL (st ++ st2) := NL_app' h1 fun f hf c hc => frzCs_all.mp (h2 f fun i hi => hf i (by omega)) c hc
theorem frz_id {cs : List Ci} {st : Sto} {n i : Nat} {kp : Option Nat} (h : i < n) : frz cs st (ren n kp) i = some (.loc i) := by
  unfold frz frzL ren
  rw [if_pos h]
theorem kept_nl {md : Bool} {n : Nat} {t : T} (h : Nl t) : kept md n t = none := by
  cases t with
  | loc l => have := h (fun _ => none); rw [frzW] at this; cases this
  | _ => rfl
theorem fin_nl {cs : List Ci} {md : Bool} {st loc : Sto} {t : T} (h : NL st) (ht : Nl t) : finR cs md st.length t (st ++ loc) = .ok t st := by
  unfold finR
  rw [kept_nl ht]
  simp only [more, List.append_nil, List.take_left']
  rw [h _ fun i hi => frz_id hi, ht _]
theorem Z20 {cs : List Ci} {md : Bool} {st : Sto} {t : T} (h : NL st) (ht : Nl t) : finR cs md st.length t st = .ok t st := by
  have := fin_nl (cs := cs) (md := md) (loc := []) h ht
  rwa [List.append_nil] at this
theorem fin_lst {cs : List Ci} {st loc : Sto} {l : Nat} {xs : List T} (h : NL st) (hl : (st ++ loc)[l]? = some (.lst xs)) (hge : st.length ≤ l) (hx : Nls xs) : finR cs false st.length (.loc l) (st ++ loc) = .ok (.lst xs) st := by
  unfold finR
  have hk : kept false st.length (.loc l) = none := by
    show (if false = true ∧ st.length ≤ l then some l else none) = none
    rw [if_neg (by simp)]
  rw [hk]
  simp only [more, List.append_nil, List.take_left']
  rw [h _ fun i hi => frz_id hi, frzW]
  have : frz cs (st ++ loc) (ren st.length none) l = some (.lst xs) := by
    unfold frz frzL ren
    rw [if_neg (by omega), if_neg (by simp)]
    simp only [hl]
    rw [hx _]
    rfl
  rw [this]
theorem fin_keep {cs : List Ci} {st loc : Sto} {l : Nat} {c : Cell} (h : NL st) (hl : (st ++ loc)[l]? = some c) (hge : st.length ≤ l) (hc : ∀ f, frzC f c = some c) : finR cs true st.length (.loc l) (st ++ loc) = .ok (.loc st.length) (st ++ [c]) := by
  unfold finR
  have hk : kept true st.length (.loc l) = some l := by
    show (if true = true ∧ st.length ≤ l then some l else none) = some l
    rw [if_pos ⟨rfl, hge⟩]
  rw [hk]
  simp only [more, List.take_left', hl, Option.toList_some]
  rw [frzCs_all.mpr (fun d hd => by
    rcases List.mem_append.mp hd with hd | hd
    · exact frzCs_all.mp (h _ fun i hi => frz_id hi) d hd
    · rw [List.mem_singleton.mp hd]; exact hc _), frzW]
  have : frz cs (st ++ loc) (ren st.length (some l)) l = some (.loc st.length) := by
    unfold frz frzL ren
    rw [if_neg (by omega), if_pos rfl]
  rw [this]
@[simp] theorem finO_rt {cs : List Ci} {md : Bool} {n : Nat} {t : T} {st : Sto} : finO cs md n (.rt t st) = finR cs md n t st := rfl
@[simp] theorem finO_nx {cs : List Ci} {md : Bool} {n : Nat} {env : Env} {st : Sto} : finO cs md n (.nx env st) = finR cs false n .non st := rfl
theorem log2_lt {n k : Nat} (h : n < 2 ^ k) (hk : 0 < k) : n.log2 < k := by
  by_cases h0 : n = 0
  · subst h0; simpa using hk
  · exact (Nat.log2_lt h0).mpr h
theorem mul_ok {i j : Int} (a b : Nat) (hi : i.natAbs < 2 ^ a) (hj : j.natAbs < 2 ^ b) (ha : 0 < a) (hb : 0 < b) (h : a + b ≤ 100000000) : MulOk i j := by
  unfold MulOk
  have := log2_lt hi ha
  have := log2_lt hj hb
  omega
theorem div_ok {j : Int} (h : 0 < j) (h2 : j < 2 ^ 64) : DivOk j := by
  refine ⟨h, ?_⟩
  have : j.natAbs < 2 ^ 64 := by
    have : (j.natAbs : Int) < 2 ^ 64 := by rw [Int.natAbs_of_nonneg (by omega)]; exact h2
    exact_mod_cast this
  have := log2_lt this (by decide)
  omega
section
variable {a b : Int} {st : Sto} {x y : T} {xs ys : List T} {s t : PySem.Str}
@[simp] theorem bin_add : binT .Add (.int a) (.int b) = some (.int (a + b)) := rfl
@[simp] theorem bin_sub : binT .Sub (.int a) (.int b) = some (.int (a - b)) := rfl
@[simp] theorem bin_mul (h : MulOk a b) : binT .Mult (.int a) (.int b) = some (.int (a * b)) := if_pos h
@[simp] theorem bin_div (h : DivOk b) : binT .FloorDiv (.int a) (.int b) = some (.int (a / b)) := if_pos h
@[simp] theorem bin_mod (h : 0 < b) : binT .Mod (.int a) (.int b) = some (.int (a % b)) := if_pos h
@[simp] theorem bin_pow (h : PowOk a b) : binT .Pow (.int a) (.int b) = some (.int (a ^ b.toNat)) := if_pos h
@[simp] theorem bin_tup (h : xs.length + ys.length ≤ lim) : binT .Add (.tup xs) (.tup ys) = some (.tup (xs ++ ys)) := if_pos h
@[simp] theorem bin_str (h : s.length + t.length ≤ lim) : binT .Add (.str s) (.str t) = some (.str (s ++ t)) := if_pos h
@[simp] theorem ix_tup' : ixT st (.tup xs) (.int a) = L2.atI xs a := rfl
@[simp] theorem ix_lst' : ixT st (.lst xs) (.int a) = L2.atI xs a := rfl
@[simp] theorem ix_scr' {ns : List Int} : ixT st (.scr ns) (.int a) = L2.atI (ns.map T.int) a := rfl
@[simp] theorem ix_loc0 : ixT (.lst xs :: st) (.loc 0) (.int a) = L2.atI xs a := rfl
@[simp] theorem cmp_lt : cmpT st .Lt (.int a) (.int b) = some (decide (a < b)) := rfl
@[simp] theorem cmp_le : cmpT st .LtE (.int a) (.int b) = some (decide (a ≤ b)) := rfl
@[simp] theorem cmp_gt : cmpT st .Gt (.int a) (.int b) = some (decide (b < a)) := rfl
@[simp] theorem cmp_ge : cmpT st .GtE (.int a) (.int b) = some (decide (b ≤ a)) := rfl
@[simp] theorem cmp_eq : cmpT st .Eq x y = eqT (frozen st x) (frozen st y) := rfl
@[simp] theorem cmp_ne : cmpT st .NotEq x y = (eqT (frozen st x) (frozen st y)).map (!·) := rfl
@[simp] theorem cmp_in : cmpT st .In x y = inT st x y := rfl
@[simp] theorem cmp_nin : cmpT st .NotIn x y = (inT st x y).map (!·) := rfl
@[simp] theorem fr_int : frozen st (.int a) = .int a := rfl
@[simp] theorem fr_non : frozen st .non = .non := rfl
@[simp] theorem fr_bl {k : Bool} : frozen st (.bl k) = .bl k := rfl
@[simp] theorem fr_str : frozen st (.str s) = .str s := rfl
@[simp] theorem fr_tup : frozen st (.tup xs) = .tup xs := rfl
@[simp] theorem fr_lst : frozen st (.lst xs) = .lst xs := rfl
theorem eqT_of {u v : T} (h1 : data u = true) (h2 : data v = true) (h3 : dep u ≤ 60) (h4 : dep v ≤ 60) : eqT u v = some (eqv u v) := by
  unfold eqT
  rw [h1, h2, decide_eq_true h3, decide_eq_true h4]
  rfl
@[simp] theorem eq_int : eqT (.int a) (.int b) = some (a == b) := by rw [eqT_of rfl rfl (by simp [dep]) (by simp [dep])]; simp [eqv]
@[simp] theorem len_tup : biT st .len [.tup xs] = some (.int xs.length) := rfl
@[simp] theorem len_lst : biT st .len [.lst xs] = some (.int xs.length) := rfl
@[simp] theorem len_scr {ns : List Int} : biT st .len [.scr ns] = some (.int ns.length) := by show some (T.int ((ns.map T.int).length : Nat)) = _; rw [List.length_map]
@[simp] theorem abs_int : biT st .abs [.int a] = some (.int (if a < 0 then -a else a)) := rfl
@[simp] theorem int_int : biT st .int [.int a] = some (.int a) := rfl
@[simp] theorem int_bl {k : Bool} : biT st .int [.bl k] = some (.int (if k then 1 else 0)) := rfl
@[simp] theorem max_2 : biT st .max [.int a, .int b] = some (.int (if b > a then b else a)) := rfl
@[simp] theorem min_2 : biT st .min [.int a, .int b] = some (.int (if b < a then b else a)) := rfl
@[simp] theorem max_3 {c : Int} : biT st .max [.int a, .int b, .int c] = some (.int (if c > (if b > a then b else a) then c else (if b > a then b else a))) := rfl
@[simp] theorem min_3 {c : Int} : biT st .min [.int a, .int b, .int c] = some (.int (if c < (if b < a then b else a) then c else (if b < a then b else a))) := rfl
@[simp] theorem tup_lst : biT st .tuple [.lst xs] = some (.tup xs) := rfl
@[simp] theorem tup_tup : biT st .tuple [.tup xs] = some (.tup xs) := rfl
@[simp] theorem dm_ok (h : DivOk b) : biT st .divmod [.int a, .int b] = some (.tup [.int (a / b), .int (a % b)]) := if_pos h
theorem ints_map (ns : List Int) : intsOf (ns.map T.int) = some ns := by
  induction ns with
  | nil => rfl
  | cons n ns ih => show (intsOf (ns.map T.int)).map (n :: ·) = _; rw [ih]; rfl
@[simp] theorem sum_lst {ns : List Int} : biT st .sum [.lst (ns.map T.int)] = some (.int ns.sum) := by
  show ((some (ns.map T.int)).bind intsOf).map (fun ns => T.int ns.sum) = _
  rw [Option.bind_some, ints_map]; rfl
@[simp] theorem sum_tupl {ns : List Int} : biT st .sum [.tup (ns.map T.int)] = some (.int ns.sum) := by
  show ((some (ns.map T.int)).bind intsOf).map (fun ns => T.int ns.sum) = _
  rw [Option.bind_some, ints_map]; rfl
end
@[simp] theorem cut_take {A : Type} {xs : List A} {k : Nat} : cut xs none (some (k : Int)) = xs.take k := by
  unfold cut
  rw [HT.sIx_none, HT.sIx_nat, List.drop_zero, Nat.sub_zero, List.take_eq_take_iff]
  omega
@[simp] theorem cut_drop {A : Type} {xs : List A} {k : Nat} : cut xs (some (k : Int)) none = xs.drop k := by
  unfold cut
  rw [HT.sIx_none, HT.sIx_nat]
  by_cases h : k ≤ xs.length
  · rw [Nat.min_eq_left h, List.take_of_length_le (by rw [List.length_drop]; exact Nat.le_refl _)]
  · rw [Nat.min_eq_right (by omega), List.drop_eq_nil_of_le (Nat.le_refl _), List.drop_eq_nil_of_le (by omega)]
    simp
@[simp] theorem cut_take3 {A : Type} {xs : List A} : cut xs none (some 3) = xs.take 3 := cut_take (k := 3)
theorem each_inv {f : T → Sto → R (Option T)} {P : Nat → Sto → Prop} {Q : Nat → T → Prop} : ∀ {xs : List T} {n : Nat} {st : Sto}, P n st → (∀ i x st, xs[i]? = some x → P (n + i) st → Ev (f x st) fun o st' => (∃ y, o = some y ∧ Q (n + i) y) ∧ P (n + i + 1) st') →
    Ev (each f xs st) fun ys st' => ys.length = xs.length ∧ (∀ i y, ys[i]? = some y → Q (n + i) y) ∧ P (n + xs.length) st'
  | [], n, st, h, _ => Ev.ok ⟨rfl, fun i y e => by simp at e, h⟩
  | x :: xs, n, st, h, k => by
    unfold each
    refine Ev.bnd (k 0 x st rfl h) fun o st1 ⟨⟨y, ho, hq⟩, h1⟩ => ?_
    refine Ev.bnd (each_inv (xs := xs) (n := n + 1) (P := P) (Q := Q) h1 fun i z st2 hz hp => ?_) fun ys st2 ⟨l, q, p⟩ => ?_
    · have := k (i + 1) z st2 (by simpa using hz) (by rw [show n + (i + 1) = n + 1 + i by omega]; exact hp)
      rw [show n + (i + 1) = n + 1 + i by omega] at this
      exact this
    · subst ho
      refine Ev.ok ⟨by simp [l], fun i z e => ?_, by rw [show n + (x :: xs).length = n + 1 + xs.length by simp; omega]; exact p⟩
      cases i with
      | zero => simp at e; subst e; simpa using hq
      | succ i => have := q i z (by simpa using e); rw [show n + (i + 1) = n + 1 + i by omega]; exact this
theorem walk_inv {g : IG} {f : Fs} {P : Nat → Env → Sto → Prop} {Q : O → Prop} : ∀ {xs : List T} {n : Nat} {env : Env} {st : Sto}, P n env st →
    (∀ i x env st, xs[i]? = some x → P (n + i) env st → ∃ env1, g.set x env = some env1 ∧ ((∃ env2 st2, (f env1 st = .nx env2 st2 ∨ f env1 st = .ct env2 st2) ∧ P (n + i + 1) env2 st2) ∨ (∃ t s, f env1 st = .rt t s ∧ Q (.rt t s)))) →
    (∀ env st, P (n + xs.length) env st → Q (.nx env st)) → Q (walkO g f xs env st)
  | [], n, env, st, h, _, d => d env st h
  | x :: xs, n, env, st, h, k, d => by
    obtain ⟨env1, e1, hh⟩ := k 0 x env st rfl h
    unfold walkO
    rw [e1]
    rcases hh with ⟨env2, st2, e2, p⟩ | ⟨t, s, e2, q⟩
    · have go : Q (walkO g f xs env2 st2) := by
        refine walk_inv (P := P) (n := n + 1) p (fun i z env3 st3 hz hp => ?_) fun env3 st3 hp => d env3 st3 (by rw [show n + (x :: xs).length = n + 1 + xs.length by simp; omega]; exact hp)
        have := k (i + 1) z env3 st3 (by simpa using hz) (by rw [show n + (i + 1) = n + 1 + i by omega]; exact hp)
        rw [show n + (i + 1) + 1 = n + 1 + i + 1 by omega] at this
        exact this
      rcases e2 with e2 | e2
      · simp only [e2]; exact go
      · simp only [e2]; exact go
    · simp only [e2]; exact q
section
variable {own : List Nat} {fe : Env → Sto → R T} {g : IG} {fit : Env → Sto → R (List T)} {ft : Env → Sto → R Bool} {env : Env} {st : Sto}
theorem lc_mapE {B : Type} {ys : List B} {emb h : B → T} (hit : fit env st = .ok (ys.map emb) st) (hl : ys.length ≤ 16777216) (ht : ∀ y, y ∈ ys → fTurn own fe g ft env (emb y) st = .ok (some (h y)) st) : fLc own fe g fit ft env st = .ok (ys.map h) st := by
  unfold fLc
  rw [hit, bnd_ok', if_pos (by rw [List.length_map]; exact hl)]
  have : each (fTurn own fe g ft env) (ys.map emb) st = .ok (ys.map h) st := by
    clear hit hl
    induction ys with
    | nil => rfl
    | cons y ys ih =>
      rw [List.map_cons, List.map_cons]
      unfold each
      rw [ht y List.mem_cons_self, bnd_ok', ih fun z hz => ht z (List.mem_cons_of_mem _ hz)]
      rfl
  rw [this]; rfl
theorem lc_filterE {B : Type} {ys : List B} {emb : B → T} {h : B → Option T} (hit : fit env st = .ok (ys.map emb) st) (hl : ys.length ≤ 16777216) (ht : ∀ y, y ∈ ys → fTurn own fe g ft env (emb y) st = .ok (h y) st) : fLc own fe g fit ft env st = .ok (ys.filterMap h) st := by
  unfold fLc
  rw [hit, bnd_ok', if_pos (by rw [List.length_map]; exact hl)]
  have : each (fTurn own fe g ft env) (ys.map emb) st = .ok (ys.filterMap h) st := by
    clear hit hl
    induction ys with
    | nil => rfl
    | cons y ys ih =>
      rw [List.map_cons, List.filterMap_cons]
      unfold each
      rw [ht y List.mem_cons_self, bnd_ok', ih fun z hz => ht z (List.mem_cons_of_mem _ hz)]
      cases h y <;> rfl
  rw [this]; rfl
theorem lc_inv {xs : List T} {st1 : Sto} {P : Nat → Sto → Prop} {Q : Nat → T → Prop} (hit : fit env st = .ok xs st1) (hl : xs.length ≤ 16777216) (h0 : P 0 st1)
    (step : ∀ i x st, xs[i]? = some x → P i st → Ev (fTurn own fe g ft env x st) fun o st' => (∃ y, o = some y ∧ Q i y) ∧ P (i + 1) st') : Ev (fLc own fe g fit ft env st) fun ys st' => ys.length = xs.length ∧ (∀ i y, ys[i]? = some y → Q i y) ∧ P xs.length st' := by
  unfold fLc
  rw [hit, bnd_ok', if_pos (show xs.length ≤ lim from hl)]
  obtain ⟨ys, s2, e, q1, q2, q3⟩ := each_inv (n := 0) (f := fTurn own fe g ft env) (P := P) (Q := Q) h0 fun i x st hx hp => by
    rw [Nat.zero_add] at hp ⊢
    exact step i x st hx hp
  rw [e]
  refine Ev.ok ⟨q1, fun i y hy => by simpa using q2 i y hy, by simpa using q3⟩
end
theorem range_emb (n : Nat) : rangeT 0 n = (List.range n).map fun (i : Nat) => T.int (i : Int) := by
  unfold rangeT
  simp
theorem rg_ok {k : Nat} (h : k ≤ 1000000) : RgOk (k : Int) := by
  have h2 : (k : Int) ≤ 1000000 := by omega
  have h3 : (0 : Int) ≤ k := Int.natCast_nonneg k
  unfold RgOk
  constructor
  · exact Int.le_trans (by decide) h3
  · exact Int.lt_of_le_of_lt h2 (by decide)
theorem rg1_eq {fa : Env → Sto → R T} {env : Env} {st st1 : Sto} {k : Nat} (h : fa env st = .ok (.int k) st1) (hk : k ≤ 1000000) : fRg1 fa env st = .ok ((List.range k).map fun (j : Nat) => T.int (j : Int)) st1 := by
  show (fa env st).bnd _ = _
  rw [h, bnd_ok', ← range_emb]
  exact if_pos (rg_ok hk)
@[simp] theorem get_last {st : Sto} {c : Cell} : (st ++ [c])[st.length]? = some c := by simp
@[simp] theorem set_last {st : Sto} {c d : Cell} : (st ++ [c]).set st.length d = st ++ [d] := by
  rw [List.set_append_right _ _ (Nat.le_refl _)]
  simp
end Eg
set_option Elab.async false
set_option linter.all false
set_option maxRecDepth 100000
set_option maxHeartbeats 4000000
namespace Eg
def k1_fRse (c : Nat) (env : Env) (t : T) (st1 : Sto) : O := .exc (.exc c [t]) env st1
theorem ap_fRse (c : Nat) (fe : Env → Sto → R T) (env : Env) (st : Sto) : fRse c fe env st = ((fe env st).go env (k1_fRse c env)) := rfl
@[simp] theorem bnd_exc' {A B : Type} {a : T} {st : Sto} {f : A → Sto → R B} : (R.exc a st : R A).bnd f = .exc a st := rfl
@[simp] theorem go_exc' {A : Type} {a : T} {st : Sto} {env : Env} {f : A → Sto → O} : (R.exc a st : R A).go env f = .exc a env st := rfl
@[simp] theorem seq_exc' {t : T} {env : Env} {st : Sto} {f : Env → Sto → O} : (O.exc t env st).seq f = .exc t env st := rfl
theorem finO_exc {cs : List Ci} {md : Bool} {n c : Nat} {ts : List T} {env : Env} {st : Sto} : finO cs md n (.exc (.exc c ts) env st) = (match frzCs (frz cs st (ren n none)) (st.take n ++ more st none), frzWs (frz cs st (ren n none)) ts with
  | some st', some us => .exc (.exc c us) st'
  | _, _ => .bad) := rfl
end Eg
set_option Elab.async false
set_option linter.all false
set_option maxRecDepth 100000
set_option maxHeartbeats 4000000
namespace Eg
def k1_fRvT (x : T) (st1 : Sto) : R T := match x with
  | .tup xs => .ok (.tup xs.reverse) st1
  | _ => .bad
theorem ap_fRvT (fa : Env → Sto → R T) (env : Env) (st : Sto) : fRvT fa env st = (fa env st).bnd k1_fRvT := rfl
theorem ap_fEd (env : Env) (st : Sto) : fEd env st = .ok .edt st := rfl
theorem ap_fEqz (fa fb : Env → Sto → R T) (env : Env) (st : Sto) : fEqz fa fb env st = (fa env st).bnd fun x st1 => (fb env st1).bnd fun y st2 => eqzR x y st2 := rfl
end Eg
set_option Elab.async false
set_option linter.all false
set_option maxRecDepth 100000
namespace Eg
open PySem
theorem textFrom_le : ∀ (ts : List Str) (k : Nat) (acc : Str), (textFrom k acc ts).length ≤ acc.length + (ts.map fun t => t.length + 2).sum
  | [], k, acc => by show acc.length ≤ _; simp
  | t :: r, k, acc => by
    have h := textFrom_le r (k + 1) (acc ++ (if k > 0 then ", " else "" : String) ++ t)
    show (textFrom (k + 1) (acc ++ (if k > 0 then ", " else "" : String) ++ t) r).length ≤ _
    rw [strLen_append, strLen_append] at h
    have : ((if k > 0 then ", " else "" : String) : Str).length ≤ 2 := by split <;> decide
    simp only [List.map_cons, List.sum_cons]
    omega
theorem listText_le (ts : List Str) : (listText ts).length ≤ 2 + (ts.map fun t => t.length + 2).sum := by
  unfold listText
  rw [strLen_append]
  have h := textFrom_le ts 0 "["
  have h1 : (("[" : String) : Str).length = 1 := by decide
  have h2 : (("]" : String) : Str).length = 1 := by decide
  omega
theorem tupleText_le (ts : List Str) : (tupleText ts).length ≤ 3 + (ts.map fun t => t.length + 2).sum := by
  unfold tupleText
  rw [strLen_append, strLen_append]
  have h := StrLaws.join_length_le ", " ts
  have h1 : (("(" : String) : Str).length = 1 := by decide
  have h2 : ((if ts.length == 1 then ",)" else ")" : String) : Str).length ≤ 2 := by split <;> decide
  have h3 : ((", " : String) : Str).length = 2 := by decide
  rw [h3] at h
  have h4 : (ts.map fun t => t.length + 2).sum = (ts.map (·.length)).sum + ts.length * 2 := by
    clear h h1 h2 h3
    induction ts with
    | nil => rfl
    | cons t r ih => simp only [List.map_cons, List.sum_cons, List.length_cons, ih]; omega
  omega
mutual
def shB : T → Nat
  | .non => 4
  | .bl _ => 5
  | .int i => i.natAbs.log2 + 2
  | .edt => 4
  | .str x => 10 * x.length + 2
  | .lst xs => 3 + shBs xs
  | .tup xs => 3 + shBs xs
  | _ => 0
def shBs : List T → Nat
  | [] => 0
  | x :: xs => shB x + 2 + shBs xs
end
mutual
def shI : T → Bool
  | .int i => decide (i.natAbs.log2 < 1920)
  | .lst xs => shIs xs
  | .tup xs => shIs xs
  | _ => true
def shIs : List T → Bool
  | [] => true
  | x :: xs => shI x && shIs xs
end
theorem signs_ok {x : Str} (h : PyData.strOk x = true) : ∀ c ∈ x.cps.toList, c < 16 ^ 8 := fun c hc => by
  have h2 : x.cps.all (· < 0x110000) = true := h
  rw [← Array.all_toList, List.all_eq_true] at h2
  have := h2 c hc
  simp at this
  omega
mutual
theorem shown_leE : ∀ t : T, Z29 t = true → (toD t).shown.length ≤ shB t
  | .non, _ => by simp only [toD, PyData.shown, shB]; decide
  | .bl b, _ => by cases b <;> simp only [toD, PyData.shown, shB] <;> decide
  | .int i, _ => by
    simp only [toD, PyData.shown, shB]
    rw [PyProof.Rows.ofString_len]
    exact int_text_length_le (k := i.natAbs.log2 + 1) (by omega) (by omega)
  | .str x, h => by
    simp only [toD, PyData.shown, shB]
    exact StrLaws.reprText_len x (signs_ok (by simpa [Z29] using h))
  | .tup xs, h => by
    simp only [toD, PyData.shown, shB]
    exact Nat.le_trans (tupleText_le _) (Nat.add_le_add_left (showns_leE xs (by simpa [Z29] using h)) 3)
  | .lst xs, h => by
    simp only [toD, PyData.shown, shB]
    have h1 := listText_le (PyData.shownAll (toDs xs))
    have h2 := showns_leE xs (by simpa [Z29] using h)
    omega
  | .obj _ _, h => by simp [Z29] at h
  | .exc _ _, h => by simp [Z29] at h
  | .loc _, h => by simp [Z29] at h
  | .scr _, h => by simp [Z29] at h
  | .cv _, h => by simp [Z29] at h
  | .ptp _, h => by simp [Z29] at h
  | .edt, _ => by simp only [toD, PyData.shown, PyData.shownKv, shB]; decide
theorem showns_leE : ∀ xs : List T, datasE xs = true → ((PyData.shownAll (toDs xs)).map fun t => t.length + 2).sum ≤ shBs xs
  | [], _ => by simp [toDs, PyData.shownAll, shBs]
  | x :: xs, h => by
    simp only [datasE, Bool.and_eq_true] at h
    have h1 := shown_leE x h.1
    have h2 := showns_leE xs h.2
    simp only [toDs, PyData.shownAll, List.map_cons, List.sum_cons, shBs]
    omega
end
mutual
theorem showable_okE : ∀ t : T, Z29 t = true → shI t = true → (toD t).showable = true
  | .non, _, _ => by simp only [toD, PyData.showable]
  | .bl b, _, _ => by simp only [toD, PyData.showable]
  | .int i, _, h => by simpa only [toD, PyData.showable, shI] using h
  | .str x, _, _ => by simp only [toD, PyData.showable]
  | .tup xs, h, k => by
    simp only [toD, PyData.showable]
    exact showables_okE xs (by simpa [Z29] using h) (by simpa [shI] using k)
  | .lst xs, h, k => by
    simp only [toD, PyData.showable]
    exact showables_okE xs (by simpa [Z29] using h) (by simpa [shI] using k)
  | .obj _ _, h, _ => by simp [Z29] at h
  | .exc _ _, h, _ => by simp [Z29] at h
  | .loc _, h, _ => by simp [Z29] at h
  | .scr _, h, _ => by simp [Z29] at h
  | .cv _, h, _ => by simp [Z29] at h
  | .ptp _, h, _ => by simp [Z29] at h
  | .edt, _, _ => by simp only [toD, PyData.showable, PyData.showableKv]
theorem showables_okE : ∀ xs : List T, datasE xs = true → shIs xs = true → PyData.showableAll (toDs xs) = true
  | [], _, _ => by simp only [toDs, PyData.showableAll]
  | x :: xs, h, k => by
    simp only [datasE, Bool.and_eq_true] at h
    simp only [shIs, Bool.and_eq_true] at k
    simp only [toDs, PyData.showableAll, Bool.and_eq_true]
    exact ⟨showable_okE x h.1 k.1, showables_okE xs h.2 k.2⟩
end
def sh (t : T) : Str := (toD t).shown
theorem repr_ofE {t : T} {st : Sto} (hf : frozen st t = t) (h1 : Z29 t = true) (h2 : shI t = true) (h3 : dep t ≤ 60) (h4 : shB t ≤ 16777216) : reprT st t = some (.str (sh t)) := by
  have k : okShow t = true := by
    unfold okShow
    simp only [Bool.and_eq_true, decide_eq_true_eq]
    exact ⟨⟨⟨h1, showable_okE t h1 h2⟩, h3⟩, Nat.le_trans (shown_leE t h1) h4⟩
  unfold reprT
  rw [hf]
  exact if_pos k
theorem so_iff {x : Str} : PyData.strOk x = true ↔ ∀ c ∈ x.cps.toList, c < 0x110000 := by
  unfold PyData.strOk
  rw [← Array.all_toList, List.all_eq_true]
  simp
theorem so_char (c : Char) : c.toNat < 0x110000 := by
  have := c.valid
  rcases this with h | h
  · have : c.toNat < 0xd800 := h
    omega
  · exact h.2
theorem so_ofString (s : String) : PyData.strOk (Str.ofString s) = true := so_iff.mpr fun c hc => by
  rw [Str.ofString_eq_toList] at hc
  obtain ⟨d, _, rfl⟩ := List.mem_map.mp (by simpa using hc)
  exact so_char d
theorem so_app {x y : Str} (h1 : PyData.strOk x = true) (h2 : PyData.strOk y = true) : PyData.strOk (x ++ y) = true := so_iff.mpr fun c hc => by
  rw [Str.cps_append, Array.toList_append] at hc
  rcases List.mem_append.mp hc with h | h
  · exact so_iff.mp h1 c h
  · exact so_iff.mp h2 c h
theorem so_reprChar {q c : Nat} (hc : c < 0x110000) : ∀ d ∈ Builtin.Str.reprChar q c, d < 0x110000 := fun d hd => by
  have hx : ∀ w : Nat, d ∈ (List.replicate (w - ((Nat.toDigits 16 c).map Char.toNat).length) 48 ++ (Nat.toDigits 16 c).map Char.toNat) → d < 0x110000 := fun w h => by
    rcases List.mem_append.mp h with h | h
    · rw [List.eq_of_mem_replicate h]; decide
    · obtain ⟨e, _, rfl⟩ := List.mem_map.mp h
      exact so_char e
  unfold Builtin.Str.reprChar at hd
  dsimp only at hd
  repeat' split at hd
  all_goals simp only [List.mem_append, List.mem_cons, List.not_mem_nil, or_false] at hd
  all_goals first
    | omega
    | (rcases hd with (h | h) | h
       · omega
       · omega
       · exact hx _ (List.mem_append.mpr h))
theorem so_fold {q : Nat} : ∀ (l : List Nat) (acc : Array Nat), (∀ c ∈ l, c < 0x110000) → (∀ c ∈ acc.toList, c < 0x110000) → ∀ c ∈ (l.foldl (fun out c => out ++ (Builtin.Str.reprChar q c).toArray) acc).toList, c < 0x110000
  | [], acc, _, h => h
  | c :: r, acc, h1, h2 => by
    rw [List.foldl_cons]
    refine so_fold r _ (fun d hd => h1 d (List.mem_cons_of_mem _ hd)) fun d hd => ?_
    rw [Array.toList_append] at hd
    rcases List.mem_append.mp hd with h | h
    · exact h2 d h
    · exact so_reprChar (h1 c List.mem_cons_self) d (by simpa using h)
theorem so_reprText {x : Str} (h : PyData.strOk x = true) : PyData.strOk (reprText x) = true := so_iff.mpr fun c hc => by
  have hq : reprQuote x < 0x110000 := by unfold reprQuote; split <;> decide
  unfold reprText at hc
  rw [Array.toList_push, ← Array.foldl_toList] at hc
  rcases List.mem_append.mp hc with h1 | h1
  · exact so_fold x.cps.toList _ (so_iff.mp h) (by intro c hc; simp at hc; omega) c h1
  · rw [List.mem_singleton.mp h1]; exact hq
theorem so_join {sep : Str} (hs : PyData.strOk sep = true) : ∀ ts : List Str, (∀ t ∈ ts, PyData.strOk t = true) → PyData.strOk (Str.join sep ts) = true
  | [], _ => so_iff.mpr fun c hc => by have : c ∈ (Str.empty).cps.toList := hc; simp [Str.empty] at this
  | [x], h => h x (by simp)
  | x :: y :: r, h => by
    show PyData.strOk (x ++ sep ++ Str.join sep (y :: r)) = true
    exact so_app (so_app (h x (by simp)) hs) (so_join hs (y :: r) fun t ht => h t (List.mem_cons_of_mem _ ht))
theorem so_textFrom : ∀ (ts : List Str) (k : Nat) (acc : Str), PyData.strOk acc = true → (∀ t ∈ ts, PyData.strOk t = true) → PyData.strOk (textFrom k acc ts) = true
  | [], _, _, h, _ => h
  | t :: r, k, acc, h, h2 => so_textFrom r (k + 1) _ (so_app (so_app h (by split <;> exact so_ofString _)) (h2 t (by simp))) fun t ht => h2 t (List.mem_cons_of_mem _ ht)
mutual
theorem so_shownE : ∀ t : T, Z29 t = true → PyData.strOk (toD t).shown = true
  | .non, _ => by simp only [toD, PyData.shown]; exact so_ofString _
  | .bl b, _ => by cases b <;> simp only [toD, PyData.shown] <;> exact so_ofString _
  | .int i, _ => by simp only [toD, PyData.shown]; exact so_ofString _
  | .str x, h => by simp only [toD, PyData.shown]; exact so_reprText (by simpa [Z29] using h)
  | .tup xs, h => by
    simp only [toD, PyData.shown]
    unfold tupleText
    exact so_app (so_app (so_ofString _) (so_join (so_ofString _) _ (so_shownsE xs (by simpa [Z29] using h)))) (by split <;> exact so_ofString _)
  | .lst xs, h => by
    simp only [toD, PyData.shown]
    unfold listText
    exact so_app (so_textFrom _ _ _ (so_ofString _) (so_shownsE xs (by simpa [Z29] using h))) (so_ofString _)
  | .obj _ _, h => by simp [Z29] at h
  | .exc _ _, h => by simp [Z29] at h
  | .loc _, h => by simp [Z29] at h
  | .scr _, h => by simp [Z29] at h
  | .cv _, h => by simp [Z29] at h
  | .ptp _, h => by simp [Z29] at h
  | .edt, _ => by simp only [toD, PyData.shown, PyData.shownKv, dictText]; exact so_app (so_app (so_ofString _) (so_join (so_ofString _) [] (by simp))) (so_ofString _)
theorem so_shownsE : ∀ xs : List T, datasE xs = true → ∀ t ∈ PyData.shownAll (toDs xs), PyData.strOk t = true
  | [], _ => by simp [toDs, PyData.shownAll]
  | x :: xs, h => by
    simp only [datasE, Bool.and_eq_true] at h
    simp only [toDs, PyData.shownAll]
    intro t ht
    rcases List.mem_cons.mp ht with e | e
    · rw [e]; exact so_shownE x h.1
    · exact so_shownsE xs h.2 t e
end
theorem so_shown (t : T) (h : data t = true) : PyData.strOk (toD t).shown = true := so_shownE t (data_E t h)
@[simp] theorem data_sh {t : T} (h : data t = true) : data (.str (sh t)) = true := by
  simp only [data]
  exact so_shown t h
end Eg
set_option Elab.async false
set_option linter.all false
set_option maxRecDepth 100000
set_option maxHeartbeats 0
namespace EgLaw
open PySem PySem.Spec PyProof.Rows L2 Eg
def b_is_integer_k04 : List IS := [(.ret (.and (.isi (.ty "int") (.v 0)) (.not (.isi (.ty "bool") (.v 0)))))]
noncomputable def Z35 : Tab := { cons := [], funs := [], cls := [], isi := [((.non, (.ty "bool")), false), ((.bl, (.ty "bool")), true), ((.int, (.ty "bool")), false), ((.str, (.ty "bool")), false), ((.tup, (.ty "bool")), false), ((.lst, (.ty "bool")), false), (((.cls 0), (.ty "bool")), false), ((.dct, (.ty "bool")), false), ((.non, (.ty "int")), false), ((.bl, (.ty "int")), true), ((.int, (.ty "int")), true), ((.str, (.ty "int")), false), ((.tup, (.ty "int")), false), ((.lst, (.ty "int")), false), (((.cls 0), (.ty "int")), false), ((.dct, (.ty "int")), false)], tgs := [("bool", (.ty "bool")), ("int", (.ty "int"))] }
theorem tbf_of_is_integer_k04 : Z35.funs = ([] : List Fn) := rfl
theorem tbc_of_is_integer_k04 : Z35.cons = ([] : List (Str × T)) := rfl
theorem i0_of_is_integer_k04 {n : Nat} {st : Sto} : isiT n Z35.isi (.ty "bool") st .non = some false := by rfl
theorem i1_of_is_integer_k04 {n : Nat} {st : Sto} {a : Bool} : isiT n Z35.isi (.ty "bool") st (.bl a) = some true := by rfl
theorem i2_of_is_integer_k04 {n : Nat} {st : Sto} {a : Int} : isiT n Z35.isi (.ty "bool") st (.int a) = some false := by rfl
theorem i3_of_is_integer_k04 {n : Nat} {st : Sto} {a : Str} : isiT n Z35.isi (.ty "bool") st (.str a) = some false := by rfl
theorem i4_of_is_integer_k04 {n : Nat} {st : Sto} {a : List T} : isiT n Z35.isi (.ty "bool") st (.tup a) = some false := by rfl
theorem i5_of_is_integer_k04 {n : Nat} {st : Sto} {a : List T} : isiT n Z35.isi (.ty "bool") st (.lst a) = some false := by rfl
theorem i7_of_is_integer_k04 {n : Nat} {st : Sto} : isiT n Z35.isi (.ty "bool") st .edt = some false := by rfl
theorem i8_of_is_integer_k04 {n : Nat} {st : Sto} : isiT n Z35.isi (.ty "int") st .non = some false := by rfl
theorem i9_of_is_integer_k04 {n : Nat} {st : Sto} {a : Bool} : isiT n Z35.isi (.ty "int") st (.bl a) = some true := by rfl
theorem i10_of_is_integer_k04 {n : Nat} {st : Sto} {a : Int} : isiT n Z35.isi (.ty "int") st (.int a) = some true := by rfl
theorem i11_of_is_integer_k04 {n : Nat} {st : Sto} {a : Str} : isiT n Z35.isi (.ty "int") st (.str a) = some false := by rfl
theorem i12_of_is_integer_k04 {n : Nat} {st : Sto} {a : List T} : isiT n Z35.isi (.ty "int") st (.tup a) = some false := by rfl
theorem i13_of_is_integer_k04 {n : Nat} {st : Sto} {a : List T} : isiT n Z35.isi (.ty "int") st (.lst a) = some false := by rfl
theorem i15_of_is_integer_k04 {n : Nat} {st : Sto} : isiT n Z35.isi (.ty "int") st .edt = some false := by rfl
noncomputable def Z66 : List T → Sto → R T := den Z35.cls false 1 1 (Z16 Z35 b_is_integer_k04)
def b_is_within_k04 : List IS := [(.ret (.and (.call 0 (.cons (.v 0) .nil) .nil) (.chain .LtE .LtE (.v 1) (.v 0) (.v 2))))]
noncomputable def tb_is_within_k04 : Tab := { cons := [], funs := [⟨"is_integer", [], (padF 1 [] Z66)⟩], cls := [], isi := [], tgs := [] }
theorem tbf_of_is_within_k04 : tb_is_within_k04.funs = ([⟨"is_integer", [], (padF 1 [] Z66)⟩] : List Fn) := rfl
theorem tbc_of_is_within_k04 : tb_is_within_k04.cons = ([] : List (Str × T)) := rfl
noncomputable def Z76 : List T → Sto → R T := den tb_is_within_k04.cls false 3 3 (Z16 tb_is_within_k04 b_is_within_k04)
def e1_is_name : IE := (.or (.cmp .In (.v 1) (.g 2)) (.cmp .In (.v 1) (.g 1)))
def b_is_name : List IS := [(.cond (.or (.not (.isi (.ty "str") (.v 0))) (.not (.chain .LtE .LtE (.k (.int 1)) (.bi .len (.cons (.v 0) .nil)) (.g 0)))) [(.ret (.k (.bl false)))] []),
  (.ret (.and (.cmp .In (.ix (.v 0) (.k (.int 0))) (.g 2)) (.bi .all (.cons (.fz (.lc [1] e1_is_name (.name 1) (.seq (.v 0)) .none)) .nil))))]
noncomputable def tb_is_name : Tab := { cons := [("LONGEST_NAME", (.int 8)), ("DIGITS", (.str "0123456789")), ("LETTERS", (.str "abcdefghijklmnopqrstuvwxyz"))], funs := [], cls := [], isi := [((.non, (.ty "str")), false), ((.bl, (.ty "str")), false), ((.int, (.ty "str")), false), ((.str, (.ty "str")), true), ((.tup, (.ty "str")), false), ((.lst, (.ty "str")), false), (((.cls 0), (.ty "str")), false)], tgs := [("str", (.ty "str"))] }
theorem tbf_of_is_name : tb_is_name.funs = ([] : List Fn) := rfl
theorem tbc_of_is_name : tb_is_name.cons = ([("LONGEST_NAME", (.int 8)), ("DIGITS", (.str "0123456789")), ("LETTERS", (.str "abcdefghijklmnopqrstuvwxyz"))] : List (Str × T)) := rfl
theorem i0_of_is_name {n : Nat} {st : Sto} : isiT n tb_is_name.isi (.ty "str") st .non = some false := by rfl
theorem i1_of_is_name {n : Nat} {st : Sto} {a : Bool} : isiT n tb_is_name.isi (.ty "str") st (.bl a) = some false := by rfl
theorem i2_of_is_name {n : Nat} {st : Sto} {a : Int} : isiT n tb_is_name.isi (.ty "str") st (.int a) = some false := by rfl
theorem i3_of_is_name {n : Nat} {st : Sto} {a : Str} : isiT n tb_is_name.isi (.ty "str") st (.str a) = some true := by rfl
theorem i4_of_is_name {n : Nat} {st : Sto} {a : List T} : isiT n tb_is_name.isi (.ty "str") st (.tup a) = some false := by rfl
theorem i5_of_is_name {n : Nat} {st : Sto} {a : List T} : isiT n tb_is_name.isi (.ty "str") st (.lst a) = some false := by rfl
noncomputable def F_is_name : List T → Sto → R T := den tb_is_name.cls false 1 2 (Z16 tb_is_name b_is_name)
def b_is_member_k04 : List IS := [(.cond (.or (.not (.isi (.ty "tuple") (.v 0))) (.or (.cmp .NotEq (.bi .len (.cons (.v 0) .nil)) (.k (.int 2))) (.not (.call 0 (.cons (.ix (.v 0) (.k (.int 0))) .nil) .nil)))) [(.ret (.k (.bl false)))] []),
  (.ret (.call 1 (.cons (.ix (.v 0) (.k (.int 1))) (.cons (.k (.int 1)) (.cons (.g 0) .nil))) .nil))]
noncomputable def Z60 : Tab := { cons := [("MOST_BOUND", (.int 4))], funs := [⟨"is_name", [], (padF 1 [] F_is_name)⟩, ⟨"is_within", [], (padF 3 [] Z76)⟩], cls := [], isi := [((.non, (.ty "tuple")), false), ((.bl, (.ty "tuple")), false), ((.int, (.ty "tuple")), false), ((.str, (.ty "tuple")), false), ((.tup, (.ty "tuple")), true), ((.lst, (.ty "tuple")), false), (((.cls 0), (.ty "tuple")), false), ((.dct, (.ty "tuple")), false)], tgs := [("tuple", (.ty "tuple"))] }
theorem tbf_of_is_member_k04 : Z60.funs = ([⟨"is_name", [], (padF 1 [] F_is_name)⟩, ⟨"is_within", [], (padF 3 [] Z76)⟩] : List Fn) := rfl
theorem tbc_of_is_member_k04 : Z60.cons = ([("MOST_BOUND", (.int 4))] : List (Str × T)) := rfl
theorem i0_of_is_member_k04 {n : Nat} {st : Sto} : isiT n Z60.isi (.ty "tuple") st .non = some false := by rfl
theorem i1_of_is_member_k04 {n : Nat} {st : Sto} {a : Bool} : isiT n Z60.isi (.ty "tuple") st (.bl a) = some false := by rfl
theorem i2_of_is_member_k04 {n : Nat} {st : Sto} {a : Int} : isiT n Z60.isi (.ty "tuple") st (.int a) = some false := by rfl
theorem i3_of_is_member_k04 {n : Nat} {st : Sto} {a : Str} : isiT n Z60.isi (.ty "tuple") st (.str a) = some false := by rfl
theorem i4_of_is_member_k04 {n : Nat} {st : Sto} {a : List T} : isiT n Z60.isi (.ty "tuple") st (.tup a) = some true := by rfl
theorem i5_of_is_member_k04 {n : Nat} {st : Sto} {a : List T} : isiT n Z60.isi (.ty "tuple") st (.lst a) = some false := by rfl
theorem i7_of_is_member_k04 {n : Nat} {st : Sto} : isiT n Z60.isi (.ty "tuple") st .edt = some false := by rfl
noncomputable def Z64 : List T → Sto → R T := den Z60.cls false 1 1 (Z16 Z60 b_is_member_k04)
def e1_wrong_member_k04 : IE := (.ix (.v 4) (.k (.int 0)))
def Z77 : List IS := [(.cond (.or (.not (.call 0 (.cons (.v 3) .nil) .nil)) (.or (.cmp .GtE (.v 2) (.g 0)) (.cmp .In (.ix (.v 3) (.k (.int 0))) (.bin .Add (.v 1) (.bi .tuple (.cons (.fz (.lc [4] e1_wrong_member_k04 (.name 4) (.seq (.sl (.v 0) .none (.some (.v 2)))) .none)) .nil)))))) [(.ret (.v 2))] [])]
def b_wrong_member_k04 : List IS := [(.for_ (.tup [(.name 2), (.name 3)]) (.enum (.v 0)) Z77),
  (.ret (.k .non))]
noncomputable def Z59 : Tab := { cons := [("MOST_SIDE", (.int 4))], funs := [⟨"is_member", [], (padF 1 [] Z64)⟩], cls := [], isi := [], tgs := [] }
theorem tbf_of_wrong_member_k04 : Z59.funs = ([⟨"is_member", [], (padF 1 [] Z64)⟩] : List Fn) := rfl
theorem tbc_of_wrong_member_k04 : Z59.cons = ([("MOST_SIDE", (.int 4))] : List (Str × T)) := rfl
noncomputable def Z55 : List T → Sto → R T := den Z59.cls false 2 5 (Z16 Z59 b_wrong_member_k04)
def b_is_tables_k04 : List IS := [(.ret (.or (.isN false (.v 0)) (.call 0 (.cons (.v 0) (.cons (.k (.int 1)) (.cons (.g 0) .nil))) .nil)))]
noncomputable def tb_is_tables_k04 : Tab := { cons := [("MOST_TABLES", (.int 12))], funs := [⟨"is_within", [], (padF 3 [] Z76)⟩], cls := [], isi := [], tgs := [] }
theorem tbf_of_is_tables_k04 : tb_is_tables_k04.funs = ([⟨"is_within", [], (padF 3 [] Z76)⟩] : List Fn) := rfl
theorem tbc_of_is_tables_k04 : tb_is_tables_k04.cons = ([("MOST_TABLES", (.int 12))] : List (Str × T)) := rfl
noncomputable def F_is_tables_k04 : List T → Sto → R T := den tb_is_tables_k04.cls false 1 1 (Z16 tb_is_tables_k04 b_is_tables_k04)
def e1_check_sides_k04 : IE := (.ix (.v 3) (.k (.int 0)))
def b_check_sides_k04 : List IS := [(.cond (.or (.not (.isi (.ty "tuple") (.v 0))) (.cmp .Eq (.bi .len (.cons (.v 0) .nil)) (.k (.int 0)))) [(.rse 110 (.k .non))] []),
  (.asg (.pl (.name 2)) (.call 0 (.cons (.v 0) (.cons (.tup .nil) .nil)) .nil)),
  (.cond (.isN true (.v 2)) [(.rse 110 (.v 2))] []),
  (.cond (.or (.not (.isi (.ty "tuple") (.v 1))) (.cmp .Eq (.bi .len (.cons (.v 1) .nil)) (.k (.int 0)))) [(.rse 111 (.k .non))] []),
  (.asg (.pl (.name 2)) (.call 0 (.cons (.v 1) (.cons (.bi .tuple (.cons (.fz (.lc [3] e1_check_sides_k04 (.name 3) (.seq (.v 0)) .none)) .nil)) .nil)) .nil)),
  (.cond (.isN true (.v 2)) [(.rse 111 (.v 2))] [])]
noncomputable def Z28 : Tab := { cons := [], funs := [⟨"wrong_member", [], (padF 2 [] Z55)⟩], cls := [], isi := [((.non, (.ty "tuple")), false), ((.bl, (.ty "tuple")), false), ((.int, (.ty "tuple")), false), ((.str, (.ty "tuple")), false), ((.tup, (.ty "tuple")), true), ((.lst, (.ty "tuple")), false), (((.cls 0), (.ty "tuple")), false), ((.dct, (.ty "tuple")), false)], tgs := [("tuple", (.ty "tuple")), ("InvalidHosts", (.cls 110)), ("InvalidGuests", (.cls 111))], xcs := [(110, "index"), (111, "index")] }
theorem Z92 : Z28.funs = ([⟨"wrong_member", [], (padF 2 [] Z55)⟩] : List Fn) := rfl
theorem Z91 : Z28.cons = ([] : List (Str × T)) := rfl
theorem i0_of_check_sides_k04 {n : Nat} {st : Sto} : isiT n Z28.isi (.ty "tuple") st .non = some false := by rfl
theorem i1_of_check_sides_k04 {n : Nat} {st : Sto} {a : Bool} : isiT n Z28.isi (.ty "tuple") st (.bl a) = some false := by rfl
theorem i2_of_check_sides_k04 {n : Nat} {st : Sto} {a : Int} : isiT n Z28.isi (.ty "tuple") st (.int a) = some false := by rfl
theorem i3_of_check_sides_k04 {n : Nat} {st : Sto} {a : Str} : isiT n Z28.isi (.ty "tuple") st (.str a) = some false := by rfl
theorem i4_of_check_sides_k04 {n : Nat} {st : Sto} {a : List T} : isiT n Z28.isi (.ty "tuple") st (.tup a) = some true := by rfl
theorem i5_of_check_sides_k04 {n : Nat} {st : Sto} {a : List T} : isiT n Z28.isi (.ty "tuple") st (.lst a) = some false := by rfl
theorem i7_of_check_sides_k04 {n : Nat} {st : Sto} : isiT n Z28.isi (.ty "tuple") st .edt = some false := by rfl
noncomputable def Z27 : List T → Sto → R T := den Z28.cls false 2 4 (Z16 Z28 b_check_sides_k04)
def b_Fair_init_k04 : List IS := [(.exp (.call 0 (.cons (.v 1) (.cons (.v 2) .nil)) .nil)),
  (.cond (.not (.call 1 (.cons (.v 3) .nil) .nil)) [(.rse 104 (.v 3))] []),
  (.fld (.v 0) "givers" (.v 1)),
  (.fld (.v 0) "takers" (.v 2)),
  (.fld (.v 0) "places" (.v 3))]
noncomputable def Z88 : Tab := { cons := [], funs := [⟨"check_sides", [], (padF 2 [] Z27)⟩, ⟨"is_tables", [], (padF 1 [] F_is_tables_k04)⟩], cls := sx0.cls [], isi := [], tgs := [("InvalidTables", (.cls 104))], xcs := [(104, "given")] }
theorem tbf_of_Fair_init_k04 : Z88.funs = ([⟨"check_sides", [], (padF 2 [] Z27)⟩, ⟨"is_tables", [], (padF 1 [] F_is_tables_k04)⟩] : List Fn) := rfl
theorem tbc_of_Fair_init_k04 : Z88.cons = ([] : List (Str × T)) := rfl
theorem c0_of_Fair_init_k04 : Z88.cls[0]? = some ⟨["givers", "takers", "places"], [], []⟩ := rfl
theorem a0givers_of_Fair_init_k04 : fldIx (["givers", "takers", "places"] : List Str) "givers" = some 0 := by rfl
theorem a0places_of_Fair_init_k04 : fldIx (["givers", "takers", "places"] : List Str) "places" = some 2 := by rfl
theorem a0takers_of_Fair_init_k04 : fldIx (["givers", "takers", "places"] : List Str) "takers" = some 1 := by rfl
theorem n_of_Fair_init_k04 : Z88.cls.length = 1 := rfl
noncomputable def Z31 : List T → Sto → R T := den Z88.cls false 4 4 (Z16 Z88 b_Fair_init_k04)
def b_Fair_hosts : List IS := [(.ret (.attr "givers" (.v 0)))]
noncomputable def tb_Fair_hosts : Tab := { cons := [], funs := [], cls := sx0.cls [], isi := [], tgs := [] }
theorem tbf_of_Fair_hosts : tb_Fair_hosts.funs = ([] : List Fn) := rfl
theorem tbc_of_Fair_hosts : tb_Fair_hosts.cons = ([] : List (Str × T)) := rfl
theorem c0_of_Fair_hosts : tb_Fair_hosts.cls[0]? = some ⟨["givers", "takers", "places"], [], []⟩ := rfl
theorem a0givers_of_Fair_hosts : fldIx (["givers", "takers", "places"] : List Str) "givers" = some 0 := by rfl
theorem n_of_Fair_hosts : tb_Fair_hosts.cls.length = 1 := rfl
noncomputable def F_Fair_hosts : List T → Sto → R T := den tb_Fair_hosts.cls false 1 1 (Z16 tb_Fair_hosts b_Fair_hosts)
def b_Fair_guests : List IS := [(.ret (.attr "takers" (.v 0)))]
noncomputable def tb_Fair_guests : Tab := { cons := [], funs := [], cls := sx0.cls [], isi := [], tgs := [] }
theorem tbf_of_Fair_guests : tb_Fair_guests.funs = ([] : List Fn) := rfl
theorem tbc_of_Fair_guests : tb_Fair_guests.cons = ([] : List (Str × T)) := rfl
theorem c0_of_Fair_guests : tb_Fair_guests.cls[0]? = some ⟨["givers", "takers", "places"], [], []⟩ := rfl
theorem a0takers_of_Fair_guests : fldIx (["givers", "takers", "places"] : List Str) "takers" = some 1 := by rfl
theorem n_of_Fair_guests : tb_Fair_guests.cls.length = 1 := rfl
noncomputable def F_Fair_guests : List T → Sto → R T := den tb_Fair_guests.cls false 1 1 (Z16 tb_Fair_guests b_Fair_guests)
def b_Fair_tables : List IS := [(.ret (.attr "places" (.v 0)))]
noncomputable def tb_Fair_tables : Tab := { cons := [], funs := [], cls := sx0.cls [], isi := [], tgs := [] }
theorem tbf_of_Fair_tables : tb_Fair_tables.funs = ([] : List Fn) := rfl
theorem tbc_of_Fair_tables : tb_Fair_tables.cons = ([] : List (Str × T)) := rfl
theorem c0_of_Fair_tables : tb_Fair_tables.cls[0]? = some ⟨["givers", "takers", "places"], [], []⟩ := rfl
theorem a0places_of_Fair_tables : fldIx (["givers", "takers", "places"] : List Str) "places" = some 2 := by rfl
theorem n_of_Fair_tables : tb_Fair_tables.cls.length = 1 := rfl
noncomputable def F_Fair_tables : List T → Sto → R T := den tb_Fair_tables.cls false 1 1 (Z16 tb_Fair_tables b_Fair_tables)
def e1_Fair_names : IE := (.ix (.v 1) (.k (.int 0)))
def b_Fair_names : List IS := [(.ret (.bi .tuple (.cons (.fz (.lc [1] e1_Fair_names (.name 1) (.seq (.bin .Add (.attr "givers" (.v 0)) (.attr "takers" (.v 0)))) .none)) .nil)))]
noncomputable def tb_Fair_names : Tab := { cons := [], funs := [], cls := sx0.cls [], isi := [], tgs := [] }
noncomputable def F_Fair_names : List T → Sto → R T := den tb_Fair_names.cls false 1 2 (Z16 tb_Fair_names b_Fair_names)
noncomputable def prs : List (List (Str × (List T → Sto → R T))) := [[("hosts", padF 1 [] F_Fair_hosts), ("guests", padF 1 [] F_Fair_guests), ("tables", padF 1 [] F_Fair_tables), ("names", padF 1 [] F_Fair_names)]]
noncomputable def cl : List Ci := sx0.cls prs
def l1_law_jug : List IS := [(.asg (.pl (.name 3)) (.bin .Add (.bin .Mult (.v 3) (.k (.int 2862933555777941757))) (.bin .Mod (.bi .int (.cons (.v 4) .nil)) (.k (.int 9223372036854775337))))), (.asg (.pl (.name 3)) (.bin .Mod (.bi .int (.cons (.bin .Add (.v 3) (.k (.int 5))) .nil)) (.k (.int 9223372036854775783))))]
def b_law_jug : List IS := [(.asg (.pl (.name 2)) (.ite (.cmp .Lt (.v 1) (.bi .len (.cons (.v 0) .nil))) (.ix (.v 0) (.v 1)) (.bin .Add (.k (.int 40)) (.v 1)))),
  (.asg (.pl (.name 3)) (.bin .Mult (.k (.int 1299709)) (.bin .Add (.v 1) (.k (.int 2))))),
  (.for_ (.name 4) (.seq (.fz (.cat (.fz (.sl (.v 0) .none (.some (.k (.int 3))))) (.fz (.lst (.cons (.v 2) .nil)))))) l1_law_jug),
  (.ret (.new (.lst (.cons (.ite (.cmp .GtE (.bi .abs (.cons (.v 2) .nil)) (.bin .Pow (.k (.int 10)) (.k (.int 18)))) (.bi .abs (.cons (.v 2) .nil)) (.k (.int 0))) (.cons (.v 3) (.cons (.k (.int 0)) .nil))))))]
noncomputable def tb_law_jug : Tab := { cons := [], funs := [], cls := [], isi := [], tgs := [] }
theorem tbf_of_law_jug : tb_law_jug.funs = ([] : List Fn) := rfl
theorem tbc_of_law_jug : tb_law_jug.cons = ([] : List (Str × T)) := rfl
noncomputable def F_law_jug : List T → Sto → R T := den tb_law_jug.cls true 2 5 (Z16 tb_law_jug b_law_jug)
def b_law_pour : List IS := [(.cond (.cmp .Gt (.ix (.v 0) (.k (.int 0))) (.k (.int 0))) [(.asg (.tup [(.sub (.v 0) (.k (.int 0))), (.pl (.name 3))]) (.bi .divmod (.cons (.ix (.v 0) (.k (.int 0))) (.cons (.v 1) .nil)))), (.ret (.v 3))] []),
  (.asg (.sub (.v 0) (.k (.int 2))) (.bin .Add (.ix (.v 0) (.k (.int 2))) (.k (.int 1)))),
  (.asg (.pl (.name 2)) (.bin .Add (.bin .Mult (.ix (.v 0) (.k (.int 1))) (.k (.int 3202034522624059733))) (.bin .Mult (.bin .Mult (.k (.int 104395301)) (.ix (.v 0) (.k (.int 2)))) (.ix (.v 0) (.k (.int 2)))))),
  (.asg (.sub (.v 0) (.k (.int 1))) (.bin .Mod (.bi .int (.cons (.bin .Add (.v 2) (.k (.int 1))) .nil)) (.k (.int 9223372036854775783)))),
  (.ret (.bin .Mod (.bi .int (.cons (.bin .FloorDiv (.ix (.v 0) (.k (.int 1))) (.k (.int 16777216))) .nil)) (.v 1)))]
noncomputable def tb_law_pour : Tab := { cons := [], funs := [], cls := [], isi := [], tgs := [] }
theorem tbf_of_law_pour : tb_law_pour.funs = ([] : List Fn) := rfl
theorem tbc_of_law_pour : tb_law_pour.cons = ([] : List (Str × T)) := rfl
noncomputable def Z19 : List T → Sto → R T := den tb_law_pour.cls false 2 4 (Z16 tb_law_pour b_law_pour)
def l1_law_word : List IS := [(.asg (.pl (.name 1)) (.bin .Add (.v 1) (.ix (.v 3) (.call 0 (.cons (.v 0) (.cons (.k (.int 36)) .nil)) .nil))))]
def b_law_word : List IS := [(.par2 3 4 (.cons (.k (.str "abcdefghijklmnopqrstuvwxyz0123456789")) (.cons (.fz (.lst (.cons (.k (.str "host")) (.cons (.k (.str "guest")) (.cons (.k (.str "tables")) (.cons (.k (.str "tables1")) (.cons (.k (.str "a")) (.cons (.k (.str "ab")) (.cons (.k (.str "z9")) (.cons (.k (.str "x")) .nil)))))))))) .nil))),
  (.cond (.cmp .Eq (.call 0 (.cons (.v 0) (.cons (.k (.int 4)) .nil)) .nil) (.k (.int 0))) [(.ret (.ix (.v 4) (.call 0 (.cons (.v 0) (.cons (.k (.int 8)) .nil)) .nil)))] []),
  (.asg (.pl (.name 1)) (.ix (.v 3) (.call 0 (.cons (.v 0) (.cons (.k (.int 26)) .nil)) .nil))),
  (.for_ (.name 2) (.rng1 (.ix (.fz (.lst (.cons (.k (.int 0)) (.cons (.k (.int 1)) (.cons (.k (.int 2)) (.cons (.k (.int 7)) .nil)))))) (.call 0 (.cons (.v 0) (.cons (.k (.int 4)) .nil)) .nil))) l1_law_word),
  (.ret (.v 1))]
noncomputable def tb_law_word : Tab := { cons := [], funs := [⟨"_law_pour", [], (padF 2 [] Z19)⟩], cls := [], isi := [], tgs := [] }
theorem tbf_of_law_word : tb_law_word.funs = ([⟨"_law_pour", [], (padF 2 [] Z19)⟩] : List Fn) := rfl
theorem tbc_of_law_word : tb_law_word.cons = ([] : List (Str × T)) := rfl
noncomputable def F_law_word : List T → Sto → R T := den tb_law_word.cls false 1 5 (Z16 tb_law_word b_law_word)
def e1_law_words : IE := (.bin .Add (.k (.str "q")) (.str (.v 6)))
def q1_law_words : IE := (.cmp .NotIn (.v 5) (.v 2))
def e2_law_words : IE := (.v 5)
def l1_law_words : List IS := [(.asg (.pl (.name 4)) (.call 0 (.cons (.v 0) .nil) .nil)), (.cond (.cmp .In (.v 4) (.v 2)) [(.asg (.pl (.name 4)) (.ix (.fz (.lc [5] e2_law_words (.name 5) (.seq (.fz (.lc [6] e1_law_words (.name 6) (.rng1 (.v 1)) .none))) (.some q1_law_words))) (.k (.int 0))))] []), (.exp (.mu .append (.v 2) (.cons (.v 4) .nil)))]
def b_law_words : List IS := [(.asg (.pl (.name 2)) (.new (.lst .nil))),
  (.for_ (.name 3) (.rng1 (.v 1)) l1_law_words),
  (.ret (.v 2))]
noncomputable def Z61 : Tab := { cons := [], funs := [⟨"_law_word", [], (padF 1 [] F_law_word)⟩], cls := [], isi := [], tgs := [] }
theorem tbf_of_law_words : Z61.funs = ([⟨"_law_word", [], (padF 1 [] F_law_word)⟩] : List Fn) := rfl
theorem tbc_of_law_words : Z61.cons = ([] : List (Str × T)) := rfl
noncomputable def F_law_words : List T → Sto → R T := den Z61.cls false 2 7 (Z16 Z61 b_law_words)
def b_law_bases_k04 : List IS := [(.asg (.pl (.name 1)) (.fz (.lst (.cons (.isx (.cls 100) (.v 0)) (.cons (.isx (.cls 117) (.v 0)) (.cons (.isx (.cls 119) (.v 0)) .nil)))))),
  (.asg (.pl (.name 2)) (.fz (.lst (.cons (.isx (.ty "ValueError") (.v 0)) (.cons (.isx (.ty "LookupError") (.v 0)) (.cons (.isx (.ty "ArithmeticError") (.v 0)) .nil)))))),
  (.ret (.ite (.cmp .Eq (.v 1) (.v 2)) (.v 1) (.fz (.lst .nil))))]
noncomputable def tb_law_bases_k04 : Tab := { cons := [], funs := [], cls := [], isi := [], tgs := [("NoAnswer", (.cls 119)), ("WrongName", (.cls 117)), ("WrongValue", (.cls 100)), ("ArithmeticError", (.ty "ArithmeticError")), ("LookupError", (.ty "LookupError")), ("ValueError", (.ty "ValueError"))], xis := XIS [104, 110, 111] }
noncomputable def F_law_bases_k04 : List T → Sto → R T := den [] false 1 3 (Z16 tb_law_bases_k04.hot b_law_bases_k04)
def Z87 : List IS := [(.ret (.and (.isi (.ty "int") (.v 0)) (.and (.not (.isi (.ty "bool") (.v 0))) (.chain .LtE .LtE (.v 1) (.v 0) (.v 2)))))]
noncomputable def Z34 : Tab := { cons := [], funs := [], cls := [], isi := [((.non, (.ty "bool")), false), ((.bl, (.ty "bool")), true), ((.int, (.ty "bool")), false), ((.str, (.ty "bool")), false), ((.tup, (.ty "bool")), false), ((.lst, (.ty "bool")), false), (((.cls 0), (.ty "bool")), false), ((.dct, (.ty "bool")), false), ((.non, (.ty "int")), false), ((.bl, (.ty "int")), true), ((.int, (.ty "int")), true), ((.str, (.ty "int")), false), ((.tup, (.ty "int")), false), ((.lst, (.ty "int")), false), (((.cls 0), (.ty "int")), false), ((.dct, (.ty "int")), false)], tgs := [("bool", (.ty "bool")), ("int", (.ty "int"))] }
theorem Z74 : Z34.funs = ([] : List Fn) := rfl
theorem Z70 : Z34.cons = ([] : List (Str × T)) := rfl
theorem Z80 {n : Nat} {st : Sto} : isiT n Z34.isi (.ty "bool") st .non = some false := by rfl
theorem Z81 {n : Nat} {st : Sto} {a : Bool} : isiT n Z34.isi (.ty "bool") st (.bl a) = some true := by rfl
theorem Z83 {n : Nat} {st : Sto} {a : Int} : isiT n Z34.isi (.ty "bool") st (.int a) = some false := by rfl
theorem Z79 {n : Nat} {st : Sto} {a : Str} : isiT n Z34.isi (.ty "bool") st (.str a) = some false := by rfl
theorem Z78 {n : Nat} {st : Sto} {a : List T} : isiT n Z34.isi (.ty "bool") st (.tup a) = some false := by rfl
theorem Z85 {n : Nat} {st : Sto} {a : List T} : isiT n Z34.isi (.ty "bool") st (.lst a) = some false := by rfl
theorem Z82 {n : Nat} {st : Sto} : isiT n Z34.isi (.ty "bool") st .edt = some false := by rfl
theorem Z86 {n : Nat} {st : Sto} : isiT n Z34.isi (.ty "int") st .non = some false := by rfl
theorem Z84 {n : Nat} {st : Sto} {a : Bool} : isiT n Z34.isi (.ty "int") st (.bl a) = some true := by rfl
theorem Z71 {n : Nat} {st : Sto} {a : Int} : isiT n Z34.isi (.ty "int") st (.int a) = some true := by rfl
theorem Z67 {n : Nat} {st : Sto} {a : Str} : isiT n Z34.isi (.ty "int") st (.str a) = some false := by rfl
theorem Z73 {n : Nat} {st : Sto} {a : List T} : isiT n Z34.isi (.ty "int") st (.tup a) = some false := by rfl
theorem Z75 {n : Nat} {st : Sto} {a : List T} : isiT n Z34.isi (.ty "int") st (.lst a) = some false := by rfl
theorem Z72 {n : Nat} {st : Sto} : isiT n Z34.isi (.ty "int") st .edt = some false := by rfl
noncomputable def Z30 : List T → Sto → R T := den Z34.cls false 3 3 (Z16 Z34 Z87)
def q1_law_is_name : IE := (.cmp .NotIn (.v 2) (.bin .Add (.v 1) (.k (.str "0123456789"))))
def e1_law_is_name : IE := (.v 2)
def b_law_is_name : List IS := [(.cond (.or (.not (.isi (.ty "str") (.v 0))) (.not (.chain .LtE .LtE (.k (.int 1)) (.bi .len (.cons (.v 0) .nil)) (.k (.int 8))))) [(.ret (.k (.bl false)))] []),
  (.asg (.pl (.name 1)) (.k (.str "abcdefghijklmnopqrstuvwxyz"))),
  (.ret (.and (.cmp .In (.ix (.v 0) (.k (.int 0))) (.v 1)) (.cmp .Eq (.fz (.lc [2] e1_law_is_name (.name 2) (.seq (.v 0)) (.some q1_law_is_name))) (.fz (.lst .nil)))))]
noncomputable def Z69 : Tab := { cons := [], funs := [], cls := [], isi := [((.non, (.ty "str")), false), ((.bl, (.ty "str")), false), ((.int, (.ty "str")), false), ((.str, (.ty "str")), true), ((.tup, (.ty "str")), false), ((.lst, (.ty "str")), false), (((.cls 0), (.ty "str")), false)], tgs := [("str", (.ty "str"))] }
theorem tbf_of_law_is_name : Z69.funs = ([] : List Fn) := rfl
theorem tbc_of_law_is_name : Z69.cons = ([] : List (Str × T)) := rfl
theorem i0_of_law_is_name {n : Nat} {st : Sto} : isiT n Z69.isi (.ty "str") st .non = some false := by rfl
theorem i1_of_law_is_name {n : Nat} {st : Sto} {a : Bool} : isiT n Z69.isi (.ty "str") st (.bl a) = some false := by rfl
theorem i2_of_law_is_name {n : Nat} {st : Sto} {a : Int} : isiT n Z69.isi (.ty "str") st (.int a) = some false := by rfl
theorem i3_of_law_is_name {n : Nat} {st : Sto} {a : Str} : isiT n Z69.isi (.ty "str") st (.str a) = some true := by rfl
theorem i4_of_law_is_name {n : Nat} {st : Sto} {a : List T} : isiT n Z69.isi (.ty "str") st (.tup a) = some false := by rfl
theorem i5_of_law_is_name {n : Nat} {st : Sto} {a : List T} : isiT n Z69.isi (.ty "str") st (.lst a) = some false := by rfl
noncomputable def Z62 : List T → Sto → R T := den Z69.cls false 1 3 (Z16 Z69 b_law_is_name)
def b_law_odd : List IS := [(.asg (.pl (.name 1)) (.fz (.lst (.cons (.k .non) (.cons (.k (.bl true)) (.cons (.k (.bl false)) (.cons (.k (.str "")) (.cons (.k (.str "a")) (.cons (.k (.str "A")) (.cons (.k (.int 0)) (.cons (.neg (.k (.int 1))) (.cons (.k (.int 5)) (.cons (.bin .Add (.bin .Pow (.k (.int 10)) (.k (.int 30))) (.k (.int 1))) (.cons (.tup .nil) (.cons (.fz (.lst .nil)) (.cons .ed (.cons (.tup (.cons (.k (.int 1)) .nil)) (.cons (.tup (.cons (.k (.str "a")) .nil)) (.cons (.tup (.cons (.k (.str "a")) (.cons (.k (.int 1)) (.cons (.k (.int 1)) .nil)))) (.cons (.fz (.lst (.cons (.k (.str "a")) (.cons (.k (.int 1)) .nil)))) (.cons (.fz (.lst (.cons (.k (.int 1)) .nil))) .nil))))))))))))))))))))),
  (.ret (.ix (.v 1) (.call 0 (.cons (.v 0) (.cons (.k (.int 18)) .nil)) .nil)))]
noncomputable def tb_law_odd : Tab := { cons := [], funs := [⟨"_law_pour", [], (padF 2 [] Z19)⟩], cls := [], isi := [], tgs := [] }
theorem tbf_of_law_odd : tb_law_odd.funs = ([⟨"_law_pour", [], (padF 2 [] Z19)⟩] : List Fn) := rfl
theorem tbc_of_law_odd : tb_law_odd.cons = ([] : List (Str × T)) := rfl
noncomputable def F_law_odd : List T → Sto → R T := den tb_law_odd.cls false 1 2 (Z16 tb_law_odd b_law_odd)
def Z65 : List IS := [(.asg (.pl (.name 1)) (.fz (.lst (.cons (.isx (.cls 101) (.v 0)) (.cons (.isx (.cls 102) (.v 0)) (.cons (.isx (.cls 103) (.v 0)) .nil)))))),
  (.asg (.pl (.name 1)) (.fz (.cat (.v 1) (.fz (.lst (.cons (.isx (.cls 104) (.v 0)) (.cons (.isx (.cls 105) (.v 0)) (.cons (.isx (.cls 106) (.v 0)) .nil)))))))),
  (.asg (.pl (.name 1)) (.fz (.cat (.v 1) (.fz (.lst (.cons (.isx (.cls 107) (.v 0)) (.cons (.isx (.cls 108) (.v 0)) (.cons (.isx (.cls 109) (.v 0)) .nil)))))))),
  (.asg (.pl (.name 1)) (.fz (.cat (.v 1) (.fz (.lst (.cons (.isx (.cls 110) (.v 0)) (.cons (.isx (.cls 111) (.v 0)) (.cons (.isx (.cls 112) (.v 0)) .nil)))))))),
  (.asg (.pl (.name 1)) (.fz (.cat (.v 1) (.fz (.lst (.cons (.isx (.cls 113) (.v 0)) (.cons (.isx (.cls 114) (.v 0)) (.cons (.isx (.cls 115) (.v 0)) .nil)))))))),
  (.asg (.pl (.name 1)) (.fz (.cat (.v 1) (.fz (.lst (.cons (.isx (.cls 116) (.v 0)) (.cons (.isx (.cls 118) (.v 0)) (.cons (.isx (.cls 120) (.v 0)) .nil)))))))),
  (.asg (.pl (.name 1)) (.fz (.cat (.v 1) (.fz (.lst (.cons (.isx (.cls 121) (.v 0)) (.cons (.isx (.cls 122) (.v 0)) (.cons (.isx (.cls 123) (.v 0)) .nil)))))))),
  (.cond (.cmp .NotEq (.lk true (.v 1) (.cons (.k (.bl true)) .nil)) (.k (.int 1))) [(.ret (.neg (.k (.int 1))))] []),
  (.asg (.pl (.name 2)) (.lk false (.v 1) (.cons (.k (.bl true)) .nil))),
  (.ret (.ite (.cmp .Eq (.hcall 0 (.cons (.v 0) .nil)) (.fz (.lst (.cons (.cmp .Lt (.v 2) (.k (.int 16))) (.cons (.cmp .Eq (.v 2) (.k (.int 16))) (.cons (.cmp .Gt (.v 2) (.k (.int 16))) .nil)))))) (.v 2) (.neg (.k (.int 1)))))]
noncomputable def Z25 : Tab := { cons := [], funs := [], cls := [], isi := [], tgs := [("InvalidName", (.cls 103)), ("InvalidNumber", (.cls 102)), ("InvalidText", (.cls 101)), ("InvalidSchedule", (.cls 106)), ("InvalidRound", (.cls 105)), ("InvalidTables", (.cls 104)), ("NotAFair", (.cls 109)), ("InvalidIndex", (.cls 108)), ("InvalidWish", (.cls 107)), ("InvalidMeetings", (.cls 112)), ("InvalidGuests", (.cls 111)), ("InvalidHosts", (.cls 110)), ("InvalidChanges", (.cls 115)), ("InvalidGrowth", (.cls 114)), ("InvalidUrgent", (.cls 113)), ("TooFewRounds", (.cls 120)), ("UnknownName", (.cls 118)), ("InvalidAsked", (.cls 116)), ("Broken", (.cls 123)), ("NothingToUndo", (.cls 122)), ("TooMany", (.cls 121))], hfuns := [⟨"_law_bases", [], (padF 1 [] F_law_bases_k04)⟩], xis := XIS [104, 110, 111] }
noncomputable def F_law_class_k04 : List T → Sto → R T := den [] false 1 3 (Z16 Z25.hot Z65)
def b_law_keeps_k04 : List IS := [(.cond (.cmp .In (.v 1) (.fz (.lst (.cons (.neg (.k (.int 1))) (.cons (.k (.int 19)) .nil))))) [(.ret (.k .non))] []),
  (.ret (.ite (.or (.chain .Lt .Lt (.k (.int 8)) (.v 1) (.k (.int 16))) (.cmp .Eq (.v 1) (.k (.int 20)))) (.xat "index" (.v 0)) (.xat "given" (.v 0))))]
noncomputable def tb_law_keeps_k04 : Tab := { cons := [], funs := [], cls := [], isi := [], tgs := [], xfl := XFL [104, 110, 111] }
noncomputable def F_law_keeps_k04 : List T → Sto → R T := den [] false 2 2 (Z16 tb_law_keeps_k04.hot b_law_keeps_k04)
def Z52 : Td := ⟨[(1, (.fz (.lst (.cons (.k (.str "text")) (.cons (.k (.str "number")) (.cons (.k (.str "name")) (.cons (.k (.str "tables")) (.cons (.k (.str "round")) (.cons (.k (.str "schedule")) (.cons (.k (.str "wish")) (.cons (.k (.str "index")) (.cons (.k (.str "fair")) (.cons (.k (.str "hosts")) (.cons (.k (.str "guests")) .nil)))))))))))))),
  (1, (.fz (.cat (.v 1) (.fz (.lst (.cons (.k (.str "meetings")) (.cons (.k (.str "urgent")) (.cons (.k (.str "growth")) (.cons (.k (.str "changes")) (.cons (.k (.str "asked")) (.cons (.k (.str "unknown")) (.cons (.k (.str "few")) (.cons (.k (.str "many")) (.cons (.k (.str "undo")) (.cons (.k (.str "broken")) .nil)))))))))))))))], 3, 2, [(.asg (.pl (.name 4)) (.hcall 0 (.cons (.v 2) .nil))),
  (.ret (.fz (.lst (.cons (.ix (.fz (.cat (.v 1) (.fz (.lst (.cons (.k (.str "odd")) .nil))))) (.v 4)) (.cons (.repr (.hcall 1 (.cons (.v 2) (.cons (.v 4) .nil)))) .nil)))))], [(.ret (.fz (.lst (.cons (.k (.str "back")) (.cons (.repr (.v 3)) .nil)))))], [104, 110, 111]⟩
noncomputable def Z13 : Tab := { cons := [], funs := [], cls := [], isi := [], tgs := [("WrongValue", (.cls 100)), ("WrongName", (.cls 117)), ("NoAnswer", (.cls 119))], hfuns := [⟨"_law_class", [], (padF 1 [] F_law_class_k04)⟩, ⟨"_law_keeps", [], (padF 2 [] F_law_keeps_k04)⟩] }
noncomputable def F_law_told_k04 : (Sto → R T) → Sto → R T := Z52.ft Z13 5
def e1_law_wrong : IE := (.ix (.v 4) (.k (.int 0)))
def Z63 : List IS := [(.asg (.pl (.name 3)) (.ix (.v 0) (.v 2))), (.cond (.or (.not (.isi (.ty "tuple") (.v 3))) (.or (.cmp .NotEq (.bi .len (.cons (.v 3) .nil)) (.k (.int 2))) (.or (.not (.call 1 (.cons (.ix (.v 3) (.k (.int 0))) .nil) .nil)) (.not (.call 0 (.cons (.ix (.v 3) (.k (.int 1))) (.cons (.k (.int 1)) (.cons (.k (.int 4)) .nil))) .nil))))) [(.ret (.v 2))] []), (.cond (.or (.cmp .Gt (.v 2) (.k (.int 3))) (.cmp .In (.ix (.v 3) (.k (.int 0))) (.fz (.cat (.v 1) (.fz (.lc [4] e1_law_wrong (.name 4) (.seq (.sl (.v 0) .none (.some (.v 2)))) .none)))))) [(.ret (.v 2))] [])]
def b_law_wrong : List IS := [(.for_ (.name 2) (.rng1 (.bi .len (.cons (.v 0) .nil))) Z63),
  (.ret (.neg (.k (.int 1))))]
noncomputable def Z26 : Tab := { cons := [], funs := [⟨"_law_within", [], (padF 3 [] Z30)⟩, ⟨"_law_is_name", [], (padF 1 [] Z62)⟩], cls := [], isi := [((.non, (.ty "tuple")), false), ((.bl, (.ty "tuple")), false), ((.int, (.ty "tuple")), false), ((.str, (.ty "tuple")), false), ((.tup, (.ty "tuple")), true), ((.lst, (.ty "tuple")), false), (((.cls 0), (.ty "tuple")), false), ((.dct, (.ty "tuple")), false)], tgs := [("tuple", (.ty "tuple"))] }
theorem tbf_of_law_wrong : Z26.funs = ([⟨"_law_within", [], (padF 3 [] Z30)⟩, ⟨"_law_is_name", [], (padF 1 [] Z62)⟩] : List Fn) := rfl
theorem tbc_of_law_wrong : Z26.cons = ([] : List (Str × T)) := rfl
theorem i0_of_law_wrong {n : Nat} {st : Sto} : isiT n Z26.isi (.ty "tuple") st .non = some false := by rfl
theorem i1_of_law_wrong {n : Nat} {st : Sto} {a : Bool} : isiT n Z26.isi (.ty "tuple") st (.bl a) = some false := by rfl
theorem i2_of_law_wrong {n : Nat} {st : Sto} {a : Int} : isiT n Z26.isi (.ty "tuple") st (.int a) = some false := by rfl
theorem i3_of_law_wrong {n : Nat} {st : Sto} {a : Str} : isiT n Z26.isi (.ty "tuple") st (.str a) = some false := by rfl
theorem i4_of_law_wrong {n : Nat} {st : Sto} {a : List T} : isiT n Z26.isi (.ty "tuple") st (.tup a) = some true := by rfl
theorem i5_of_law_wrong {n : Nat} {st : Sto} {a : List T} : isiT n Z26.isi (.ty "tuple") st (.lst a) = some false := by rfl
theorem i7_of_law_wrong {n : Nat} {st : Sto} : isiT n Z26.isi (.ty "tuple") st .edt = some false := by rfl
noncomputable def F_law_wrong : List T → Sto → R T := den Z26.cls false 2 5 (Z16 Z26 b_law_wrong)
def b_law_bent_k04 : List IS := [(.asg (.pl (.name 3)) (.call 0 (.cons (.v 0) (.cons (.k (.int 7)) .nil)) .nil)),
  (.cond (.cmp .Eq (.v 3) (.k (.int 0))) [(.ret (.call 1 (.cons (.v 0) .nil) .nil))] []),
  (.cond (.cmp .Eq (.v 3) (.k (.int 1))) [(.ret (.tup (.cons (.ix (.v 1) (.k (.int 0))) (.cons (.ix (.fz (.lst (.cons (.k (.int 0)) (.cons (.k (.int 5)) (.cons (.k (.bl true)) (.cons (.k .non) (.cons (.k (.str "1")) (.cons (.neg (.k (.int 1))) (.cons (.k (.int 4)) (.cons (.k (.int 1)) .nil)))))))))) (.call 0 (.cons (.v 0) (.cons (.k (.int 8)) .nil)) .nil)) .nil))))] []),
  (.cond (.cmp .Eq (.v 3) (.k (.int 2))) [(.ret (.tup (.cons (.ix (.fz (.lst (.cons (.k .non) (.cons (.k (.str "")) (.cons (.k (.str "A")) (.cons (.k (.str "1a")) (.cons (.k (.str "abcdefghi")) (.cons (.k (.str "a b")) (.cons (.tup (.cons (.k (.str "a")) .nil)) (.cons (.k (.str "a_")) .nil)))))))))) (.call 0 (.cons (.v 0) (.cons (.k (.int 8)) .nil)) .nil)) (.cons (.ix (.v 1) (.k (.int 1))) .nil))))] []),
  (.cond (.cmp .Lt (.v 3) (.k (.int 5))) [(.ret (.tup (.cons (.ix (.v 2) (.call 0 (.cons (.v 0) (.cons (.bi .len (.cons (.v 2) .nil)) .nil)) .nil)) (.cons (.ix (.v 1) (.k (.int 1))) .nil))))] []),
  (.ret (.ite (.cmp .Eq (.v 3) (.k (.int 5))) (.ix (.fz (.lst (.cons (.fz (.list (.v 1))) (.cons (.bin .Add (.v 1) (.tup (.cons (.k (.int 1)) .nil))) (.cons (.sl (.v 1) .none (.some (.k (.int 1)))) (.cons (.rvt (.v 1)) .nil)))))) (.call 0 (.cons (.v 0) (.cons (.k (.int 4)) .nil)) .nil)) (.v 1)))]
noncomputable def Z68 : Tab := { cons := [], funs := [⟨"_law_pour", [], (padF 2 [] Z19)⟩, ⟨"_law_odd", [], (padF 1 [] F_law_odd)⟩], cls := [], isi := [], tgs := [] }
theorem tbf_of_law_bent_k04 : Z68.funs = ([⟨"_law_pour", [], (padF 2 [] Z19)⟩, ⟨"_law_odd", [], (padF 1 [] F_law_odd)⟩] : List Fn) := rfl
theorem tbc_of_law_bent_k04 : Z68.cons = ([] : List (Str × T)) := rfl
noncomputable def Z54 : List T → Sto → R T := den Z68.cls false 3 4 (Z16 Z68 b_law_bent_k04)
def e1_law_bent_side : IE := (.tup (.cons (.v 7) (.cons (.bin .Add (.k (.int 1)) (.call 1 (.cons (.v 0) (.cons (.k (.int 4)) .nil)) .nil)) .nil)))
def l1_law_bent_side : List IS := [(.asg (.pl (.name 6)) (.call 1 (.cons (.v 0) (.cons (.bi .len (.cons (.v 3) .nil)) .nil)) .nil)), (.asg (.sub (.v 3) (.v 6)) (.call 2 (.cons (.v 0) (.cons (.tup (.cons (.ix (.fz (.lst (.cons (.k (.str "a")) (.cons (.k (.str "bob")) (.cons (.k (.str "z9")) .nil))))) (.call 1 (.cons (.v 0) (.cons (.k (.int 3)) .nil)) .nil)) (.cons (.k (.int 2)) .nil))) (.cons (.fz (.cat (.v 2) (.fz (.lst (.cons (.k (.str "a")) (.cons (.k (.str "bob")) .nil)))))) .nil))) .nil))]
def Z33 : List IS := [(.asg (.pl (.name 3)) (.new (.lc [7] e1_law_bent_side (.name 7) (.seq (.call 0 (.cons (.v 0) (.cons (.bin .Add (.k (.int 1)) (.call 1 (.cons (.v 0) (.cons (.v 1) .nil)) .nil)) .nil)) .nil)) .none))),
  (.for_ (.name 4) (.rng1 (.call 1 (.cons (.v 0) (.cons (.k (.int 3)) .nil)) .nil)) l1_law_bent_side),
  (.asg (.pl (.name 5)) (.call 1 (.cons (.v 0) (.cons (.k (.int 9)) .nil)) .nil)),
  (.ret (.ite (.and (.cmp .Lt (.v 5) (.k (.int 6))) (.cmp .Eq (.call 1 (.cons (.v 0) (.cons (.k (.int 3)) .nil)) .nil) (.k (.int 0)))) (.ix (.fz (.lst (.cons (.v 3) (.cons (.tup .nil) (.cons (.k .non) (.cons (.k (.str "a")) (.cons .ed (.cons (.ix (.v 3) (.k (.int 0))) .nil)))))))) (.v 5)) (.bi .tuple (.cons (.v 3) .nil))))]
noncomputable def Z21 : Tab := { cons := [], funs := [⟨"_law_words", [], (padF 2 [] F_law_words)⟩, ⟨"_law_pour", [], (padF 2 [] Z19)⟩, ⟨"_law_bent", [], (padF 3 [] Z54)⟩], cls := [], isi := [], tgs := [] }
theorem Z89 : Z21.funs = ([⟨"_law_words", [], (padF 2 [] F_law_words)⟩, ⟨"_law_pour", [], (padF 2 [] Z19)⟩, ⟨"_law_bent", [], (padF 3 [] Z54)⟩] : List Fn) := rfl
theorem Z90 : Z21.cons = ([] : List (Str × T)) := rfl
noncomputable def F_law_bent_side : List T → Sto → R T := den Z21.cls false 3 8 (Z16 Z21 Z33)
def b_law_seen : List IS := [(.ret (.fz (.lst (.cons (.attr "hosts" (.v 0)) (.cons (.attr "guests" (.v 0)) (.cons (.attr "tables" (.v 0)) .nil))))))]
noncomputable def tb_law_seen : Tab := { cons := [], funs := [], cls := cl, isi := [], tgs := [] }
theorem tbf_of_law_seen : tb_law_seen.funs = ([] : List Fn) := rfl
theorem tbc_of_law_seen : tb_law_seen.cons = ([] : List (Str × T)) := rfl
theorem c0_of_law_seen : tb_law_seen.cls[0]? = some ⟨["givers", "takers", "places"], [("hosts", padF 1 [] F_Fair_hosts), ("guests", padF 1 [] F_Fair_guests), ("tables", padF 1 [] F_Fair_tables), ("names", padF 1 [] F_Fair_names)], []⟩ := rfl
theorem a0guests_of_law_seen : fldIx (["givers", "takers", "places"] : List Str) "guests" = none := by rfl
theorem p0guests_of_law_seen : ([("hosts", padF 1 [] F_Fair_hosts), ("guests", padF 1 [] F_Fair_guests), ("tables", padF 1 [] F_Fair_tables), ("names", padF 1 [] F_Fair_names)] : List (Str × (List T → Sto → R T))).lookup ("guests" : Str) = some (padF 1 [] F_Fair_guests) := by rfl
theorem a0hosts_of_law_seen : fldIx (["givers", "takers", "places"] : List Str) "hosts" = none := by rfl
theorem p0hosts_of_law_seen : ([("hosts", padF 1 [] F_Fair_hosts), ("guests", padF 1 [] F_Fair_guests), ("tables", padF 1 [] F_Fair_tables), ("names", padF 1 [] F_Fair_names)] : List (Str × (List T → Sto → R T))).lookup ("hosts" : Str) = some (padF 1 [] F_Fair_hosts) := by rfl
theorem a0tables_of_law_seen : fldIx (["givers", "takers", "places"] : List Str) "tables" = none := by rfl
theorem p0tables_of_law_seen : ([("hosts", padF 1 [] F_Fair_hosts), ("guests", padF 1 [] F_Fair_guests), ("tables", padF 1 [] F_Fair_tables), ("names", padF 1 [] F_Fair_names)] : List (Str × (List T → Sto → R T))).lookup ("tables" : Str) = some (padF 1 [] F_Fair_tables) := by rfl
theorem n_of_law_seen : tb_law_seen.cls.length = 1 := rfl
noncomputable def F_law_seen : List T → Sto → R T := den tb_law_seen.cls false 1 1 (Z16 tb_law_seen b_law_seen)
def e1_law_right_k04 : IE := (.tup (.cons (.v 9) (.cons (.bin .Add (.k (.int 1)) (.call 1 (.cons (.v 0) (.cons (.k (.int 4)) .nil)) .nil)) .nil)))
def e2_law_right_k04 : IE := (.ix (.v 8) (.k (.int 0)))
def Z12 : List IS := [(.asg (.pl (.name 2)) (.bi .tuple (.cons (.fz (.lc [9] e1_law_right_k04 (.name 9) (.seq (.call 0 (.cons (.v 0) (.cons (.bin .Add (.k (.int 1)) (.call 1 (.cons (.v 0) (.cons (.k (.int 4)) .nil)) .nil)) .nil)) .nil)) .none)) .nil))), (.asg (.pl (.name 3)) (.fz (.lc [8] e2_law_right_k04 (.name 8) (.seq (.v 2)) .none))), (.asg (.pl (.name 4)) (.call 2 (.cons (.v 0) (.cons (.k (.int 5)) (.cons (.v 3) .nil))) .nil)), (.asg (.pl (.name 5)) (.ix (.fz (.lst (.cons (.k .non) (.cons (.k (.int 1)) (.cons (.k (.int 12)) (.cons (.k (.int 3)) (.cons (.k (.int 0)) (.cons (.k (.int 13)) (.cons (.k (.bl true)) (.cons (.k (.str "2")) (.cons (.tup (.cons (.k (.int 2)) .nil)) (.cons (.neg (.k (.int 1))) (.cons (.fz (.lst .nil)) (.cons .ed .nil)))))))))))))) (.call 1 (.cons (.v 0) (.cons (.k (.int 12)) .nil)) .nil))), (.asg (.pl (.name 6)) (.fz (.lst (.cons (.k (.str "back")) (.cons (.repr (.fz (.lst (.cons (.v 2) (.cons (.v 4) (.cons (.v 5) .nil)))))) .nil))))), (.cond (.and (.isN true (.v 5)) (.not (.call 3 (.cons (.v 5) (.cons (.k (.int 1)) (.cons (.k (.int 12)) .nil))) .nil))) [(.asg (.pl (.name 6)) (.fz (.lst (.cons (.k (.str "tables")) (.cons (.repr (.v 5)) .nil)))))] []), (.cond (.or (.not (.isi (.ty "tuple") (.v 4))) (.eqz (.v 4) (.tup .nil))) [(.asg (.pl (.name 6)) (.fz (.lst (.cons (.k (.str "guests")) (.cons (.k (.str "None")) .nil)))))] [(.cond (.cmp .GtE (.call 4 (.cons (.v 4) (.cons (.v 3) .nil)) .nil) (.k (.int 0))) [(.asg (.pl (.name 6)) (.fz (.lst (.cons (.k (.str "guests")) (.cons (.repr (.call 4 (.cons (.v 4) (.cons (.v 3) .nil)) .nil)) .nil)))))] [])]), (.cond (.cmp .Eq (.call 1 (.cons (.v 0) (.cons (.k (.int 12)) .nil)) .nil) (.k (.int 0))) [(.asg (.pl (.tup [(.name 2), (.name 6)])) (.tup (.cons (.ix (.fz (.lst (.cons (.tup .nil) (.cons (.fz (.list (.v 2))) (.cons (.k .non) .nil))))) (.call 1 (.cons (.v 0) (.cons (.k (.int 3)) .nil)) .nil)) (.cons (.fz (.lst (.cons (.k (.str "hosts")) (.cons (.k (.str "None")) .nil)))) .nil))))] []), (.asg (.pl (.name 7)) (.new (.lst (.cons (.told 0 (.call 5 (.cons (.call 6 (.cons (.v 2) (.cons (.v 4) (.cons (.v 5) .nil))) .nil) .nil) .nil)) .nil)))), (.exp (.mu .append (.v 7) (.cons (.told 0 (.call 5 (.cons (.call 7 .nil (.cons (.v 4) (.cons (.v 2) (.cons (.v 5) .nil)))) .nil) .nil)) .nil))), (.cond (.cmp .NotEq (.v 7) (.fz (.lst (.cons (.v 6) (.cons (.v 6) .nil))))) [(.ret (.k (.bl false)))] [])]
def b_law_right_k04 : List IS := [(.for_ (.name 1) (.rng1 (.k (.int 4))) Z12),
  (.ret (.k (.bl true)))]
noncomputable def Z10 : Tab := { cons := [], funs := [⟨"_law_words", [], (padF 2 [] F_law_words)⟩, ⟨"_law_pour", [], (padF 2 [] Z19)⟩, ⟨"_law_bent_side", [], (padF 3 [] F_law_bent_side)⟩, ⟨"_law_within", [], (padF 3 [] Z30)⟩, ⟨"_law_wrong", [], (padF 2 [] F_law_wrong)⟩, ⟨"_law_seen", [], (padF 1 [] F_law_seen)⟩, ⟨"Fair", [], mkF (sx0.cls []) 0 (padF 4 [] Z31)⟩, ⟨"Fair", ["guests", "hosts", "tables"], mkF (sx0.cls []) 0 (kwF 1 3 (fun ts => [0, 2, 1, 3].filterMap fun i => (ts ++ [])[i]?) Z31)⟩], cls := cl, isi := [((.non, (.ty "tuple")), false), ((.bl, (.ty "tuple")), false), ((.int, (.ty "tuple")), false), ((.str, (.ty "tuple")), false), ((.tup, (.ty "tuple")), true), ((.lst, (.ty "tuple")), false), (((.cls 0), (.ty "tuple")), false), ((.dct, (.ty "tuple")), false)], tgs := [("tuple", (.ty "tuple"))], hds := [⟨"_law_told", F_law_told_k04⟩] }
theorem Z37 : Z10.hds = ([⟨"_law_told", F_law_told_k04⟩] : List Hd) := rfl
theorem Z36 : Z10.funs = ([⟨"_law_words", [], (padF 2 [] F_law_words)⟩, ⟨"_law_pour", [], (padF 2 [] Z19)⟩, ⟨"_law_bent_side", [], (padF 3 [] F_law_bent_side)⟩, ⟨"_law_within", [], (padF 3 [] Z30)⟩, ⟨"_law_wrong", [], (padF 2 [] F_law_wrong)⟩, ⟨"_law_seen", [], (padF 1 [] F_law_seen)⟩, ⟨"Fair", [], mkF (sx0.cls []) 0 (padF 4 [] Z31)⟩, ⟨"Fair", ["guests", "hosts", "tables"], mkF (sx0.cls []) 0 (kwF 1 3 (fun ts => [0, 2, 1, 3].filterMap fun i => (ts ++ [])[i]?) Z31)⟩] : List Fn) := rfl
theorem Z38 : Z10.cons = ([] : List (Str × T)) := rfl
theorem Z43 {n : Nat} {st : Sto} : isiT n Z10.isi (.ty "tuple") st .non = some false := by rfl
theorem Z44 {n : Nat} {st : Sto} {a : Bool} : isiT n Z10.isi (.ty "tuple") st (.bl a) = some false := by rfl
theorem Z42 {n : Nat} {st : Sto} {a : Int} : isiT n Z10.isi (.ty "tuple") st (.int a) = some false := by rfl
theorem Z41 {n : Nat} {st : Sto} {a : Str} : isiT n Z10.isi (.ty "tuple") st (.str a) = some false := by rfl
theorem Z46 {n : Nat} {st : Sto} {a : List T} : isiT n Z10.isi (.ty "tuple") st (.tup a) = some true := by rfl
theorem Z45 {n : Nat} {st : Sto} {a : List T} : isiT n Z10.isi (.ty "tuple") st (.lst a) = some false := by rfl
theorem Z48 {st : Sto} {a : List T} : isiT 1 Z10.isi (.ty "tuple") st (.obj 0 a) = some false := by rfl
theorem Z47 {n : Nat} {st : Sto} : isiT n Z10.isi (.ty "tuple") st .edt = some false := by rfl
theorem Z40 : Z10.cls[0]? = some ⟨["givers", "takers", "places"], [("hosts", padF 1 [] F_Fair_hosts), ("guests", padF 1 [] F_Fair_guests), ("tables", padF 1 [] F_Fair_tables), ("names", padF 1 [] F_Fair_names)], []⟩ := rfl
theorem Z53 : Z10.cls.length = 1 := rfl
noncomputable def F_law_right_k04 : List T → Sto → R T := den Z10.cls false 1 10 (Z16 Z10 b_law_right_k04)
def l1_law_k04 : List IS := [(.drop (.cond (.not (.call 0 (.cons (.call 1 (.cons (.v 0) (.cons (.v 1) .nil)) .nil) .nil) .nil)) [(.ret (.k (.bl false)))] []))]
def b_law_k04 : List IS := [(.for_ (.name 1) (.rng1 (.bi .max (.cons (.k (.int 2)) (.cons (.bi .min (.cons (.bi .len (.cons (.v 0) .nil)) (.cons (.k (.int 5)) .nil))) .nil)))) l1_law_k04),
  (.ret (.k (.bl true)))]
noncomputable def tb_law_k04 : Tab := { cons := [], funs := [⟨"_law_right", [], (padF 1 [] F_law_right_k04)⟩, ⟨"_law_jug", [], (padF 2 [] F_law_jug)⟩], cls := [], isi := [], tgs := [] }
theorem tbf_of_law_k04 : tb_law_k04.funs = ([⟨"_law_right", [], (padF 1 [] F_law_right_k04)⟩, ⟨"_law_jug", [], (padF 2 [] F_law_jug)⟩] : List Fn) := rfl
theorem tbc_of_law_k04 : tb_law_k04.cons = ([] : List (Str × T)) := rfl
noncomputable def F_law_k04 : List T → Sto → R T := den tb_law_k04.cls false 1 2 (Z16 tb_law_k04 b_law_k04)
end EgLaw
set_option maxHeartbeats 4000000
namespace EgLaw
open Eg
local macro_rules | `(tactic| simp! [$xs,*]) => `(tactic| simp [den, ap_evSs, ap_evSs0, IS.ev, IE.ev, IL.ev, IEs.ev, IO.ev, II.ev, IO.test, IA.ev, IA.ev.evs, ap_fK, ap_fBin, ap_fCmp, ap_fIsN, ap_fTup, ap_fIx, ap_fFz, ap_fFn, ap_fBi, ap_fNil, ap_fCons, ap_fNo0, ap_fSo, ap_fNot, ap_fAnd, ap_fOr, ap_fIte, ap_fBl, ap_fAttr, ap_fDl, ap_fSeq, ap_fPr, ap_fTst, ap_fYes, ap_fNx, ap_fAsg, ap_fPar2, ap_fIf, ap_fRet, ap_fExp, ap_fG, ap_fTu, ap_fNo, ap_fCo, k1_fBin, k2_fBin, k1_fCmp, k2_fCmp, k1_fIsN, k1_fTup, k1_fIx, k2_fIx, k1_fFz, k1_fBi, k1_fCons, k2_fCons, k1_fSo, k1_fNot, k1_fAnd, k1_fOr, k1_fIte, k1_fBl, k1_fAttr, k1_fDl, k1_fSeq, k1_fPr, k2_fPr, k1_fTst, k1_fAsg, k1_fPar2, k1_fIf, k1_fRet, k1_fExp, k1_fFor, IG.set, IG.set.sets, evV, env0, isNn, strT, muT, lstAt, ownL, lstOf, seqOf, L2.atI, L2.ixN, lim, bnd_ok', go_ok', seq_nx', seq_rt', opt_some', nox_ok', finO_rt, finO_nx, padF, kwF, insOf, $xs,*])
def JC (n : Nat) (c : Cell) : Prop := ∃ g m k : Int, c = .lst [.int g, .int m, .int k] ∧ 0 ≤ g ∧ 0 ≤ m ∧ m < 2 ^ 64 ∧ 0 ≤ k ∧ k ≤ n
theorem JC.nl {n : Nat} {c : Cell} (h : JC n c) : ∀ f, frzC f c = some c := by
  obtain ⟨g, m, k, rfl, _⟩ := h
  intro f
  show (frzWs f [.int g, .int m, .int k]).map Cell.lst = _
  rw [show frzWs f [.int g, .int m, .int k] = some [.int g, .int m, .int k] from (by simp : Nls [.int g, .int m, .int k]) f]
  rfl
theorem JC.mono {n m : Nat} {c : Cell} (h : JC n c) (hl : n ≤ m) : JC m c := by
  obtain ⟨g, a, k, rfl, h1, h2, h3, h4, h5⟩ := h
  exact ⟨g, a, k, rfl, h1, h2, h3, h4, by omega⟩
theorem nat_lt {i : Int} {k : Nat} (h0 : 0 ≤ i) (h : i < 2 ^ k) : i.natAbs < 2 ^ k := by
  have : (i.natAbs : Int) < 2 ^ k := by rw [Int.natAbs_of_nonneg h0]; exact h
  exact_mod_cast this
theorem pour_ok {n : Nat} {J : Cell} {rest : Sto} {k : Int} (hJ : JC n J) (hn : n < 10 ^ 9) (hk : 0 < k) (hk2 : k < 2 ^ 64) (hr : NL rest) :
    Ev (Z19 [.loc 0, .int k] (J :: rest)) fun t st => ∃ d J', t = .int d ∧ 0 ≤ d ∧ d < k ∧ st = J' :: rest ∧ JC (n + 1) J' := by
  obtain ⟨g, m, c, rfl, h1, h2, h3, h4, h5⟩ := hJ
  by_cases hg : 0 < g
  · simp! [Z19, tbf_of_law_pour, tbc_of_law_pour, b_law_pour, ap_fSub, k1_fSub, k2_fSub, hg, div_ok hk hk2]
    rw [show List.length rest + 1 = (Cell.lst [T.int (g / k), T.int m, T.int c] :: rest).length from rfl]
    have J' : JC (n + 1) (.lst [T.int (g / k), T.int m, T.int c]) := ⟨_, _, _, rfl, Int.ediv_nonneg h1 (by omega), h2, h3, h4, by omega⟩
    rw [Z20 (NL_cons J'.nl hr) (by simp)]
    exact Ev.ok ⟨_, rfl, Int.emod_nonneg _ (by omega), Int.emod_lt_of_pos _ hk, _, rfl, J'⟩
  · have m1 : MulOk m 3202034522624059733 := mul_ok 64 64 (nat_lt h2 h3) (by decide) (by decide) (by decide) (by decide)
    have m2 : MulOk 104395301 (c + 1) := mul_ok 64 64 (by decide) (nat_lt (by omega) (by omega)) (by decide) (by decide) (by decide)
    have m3 : MulOk (104395301 * (c + 1)) (c + 1) := mul_ok 128 64 (nat_lt (by omega) (by omega)) (nat_lt (by omega) (by omega)) (by decide) (by decide) (by decide)
    have d1 : DivOk 16777216 := div_ok (by decide) (by decide)
    simp! [Z19, tbf_of_law_pour, tbc_of_law_pour, b_law_pour, ap_fSub, k1_fSub, k2_fSub, hg, m1, m2, m3, d1, hk]
    generalize hq : (m * 3202034522624059733 + 104395301 * (c + 1) * (c + 1) + 1) % 9223372036854775783 = q
    have q1 : 0 ≤ q := by rw [← hq]; exact Int.emod_nonneg _ (by decide)
    have q2 : q < 9223372036854775783 := by rw [← hq]; exact Int.emod_lt_of_pos _ (by decide)
    rw [show List.length rest + 1 = (Cell.lst [T.int g, T.int q, T.int (c + 1)] :: rest).length from rfl]
    have J' : JC (n + 1) (.lst [T.int g, T.int q, T.int (c + 1)]) := ⟨_, _, _, rfl, h1, q1, by omega, by omega, by omega⟩
    rw [Z20 (NL_cons J'.nl hr) (by simp)]
    exact Ev.ok ⟨_, rfl, Int.emod_nonneg _ (by omega), Int.emod_lt_of_pos _ hk, _, rfl, J'⟩
theorem jug_loop {a b c : Option T} {st : Sto} : ∀ (xs : List Int) (m : Int) (e : Option T), 0 ≤ m → m < 2 ^ 64 → ∃ m' e', walkO (.name 4) (Z16 tb_law_jug l1_law_jug) (xs.map T.int) [a, b, c, some (.int m), e] st = .nx [a, b, c, some (.int m'), e'] st ∧ 0 ≤ m' ∧ m' < 2 ^ 64
  | [], m, e, h0, h1 => ⟨m, e, rfl, h0, h1⟩
  | x :: xs, m, e, h0, h1 => by
    have m1 : MulOk m 2862933555777941757 := mul_ok 64 64 (nat_lt h0 h1) (by decide) (by decide) (by decide) (by decide)
    obtain ⟨m', e', h2, h3⟩ := jug_loop (a := a) (b := b) (c := c) (st := st) xs ((m * 2862933555777941757 + x % 9223372036854775337 + 5) % 9223372036854775783) (some (.int x)) (Int.emod_nonneg _ (by decide)) (Int.lt_trans (Int.emod_lt_of_pos _ (by decide)) (by decide))
    refine ⟨m', e', ?_, h3⟩
    rw [← h2]
    simp! [walkO, l1_law_jug, tbf_of_law_jug, tbc_of_law_jug, ap_fSl, Z49, ap_fCat, ap_fSlL, k1_fSl, k2_fSl, k3_fSl, Z39, k1_fCat, k2_fCat, Z57, Z56, Z58, m1]
theorem jug_ok {ns : List Int} {i : Nat} {st : Sto} (hl : ns.length ≤ 63) (hi : i < 10) (hr : NL st) :
    Ev (F_law_jug [.scr ns, .int i] st) fun t s => t = .loc st.length ∧ ∃ J, s = st ++ [J] ∧ JC 0 J := by
  have key : ∀ own : Int, ∃ m' e', walkO (.name 4) (Z16 tb_law_jug l1_law_jug) ((ns.take 3 ++ [own]).map T.int) [some (.scr ns), some (.int i), some (.int own), some (.int (1299709 * (i + 2))), none] st = .nx [some (.scr ns), some (.int i), some (.int own), some (.int m'), e'] st ∧ 0 ≤ m' ∧ m' < 2 ^ 64 :=
    fun own => jug_loop _ _ _ (by omega) (by omega)
  have m0 : MulOk 1299709 ((i : Int) + 2) := mul_ok 64 64 (by decide) (nat_lt (by omega) (by omega)) (by decide) (by decide) (by decide)
  have p0 : PowOk 10 18 := by decide
  have l1 : min 3 ns.length + 1 ≤ lim := by unfold lim; omega
  have fin : ∀ (g m' : Int), 0 ≤ g → 0 ≤ m' → m' < 2 ^ 64 → Ev (finR tb_law_jug.cls true st.length (.loc st.length) (st ++ [.lst [.int g, .int m', .int 0]])) fun t s => t = .loc st.length ∧ ∃ J, s = st ++ [J] ∧ JC 0 J := fun g m' h0 h1 h2 => by
    have J : JC 0 (.lst [.int g, .int m', .int 0]) := ⟨_, _, _, rfl, h0, h1, h2, by omega, by omega⟩
    rw [fin_keep hr (by simp) (Nat.le_refl _) J.nl]
    exact Ev.ok ⟨rfl, _, rfl, J⟩
  have ht : ∀ own : Int, (ns.take 3 ++ [own]).map T.int = (ns.map T.int).take 3 ++ [.int own] := fun own => by rw [List.map_append, List.map_take]; rfl
  have l2 : min 3 ns.length + 1 ≤ 16777216 := by omega
  by_cases h : i < ns.length
  · obtain ⟨m', e', h1, h2, h3⟩ := key ns[i]
    rw [ht] at h1
    by_cases hg : 1000000000000000000 ≤ (if ns[i] < 0 then -ns[i] else ns[i])
    · have z := fin (if ns[i] < 0 then -ns[i] else ns[i]) m' (by omega) h2 h3
      simp [F_law_jug, tbf_of_law_jug, tbc_of_law_jug, b_law_jug, den, ap_evSs, ap_evSs0, IS.ev, IE.ev, IL.ev, IEs.ev, IO.ev, II.ev, IO.test, IA.ev, IA.ev.evs, ap_fK, ap_fBin, ap_fCmp, ap_fIx, ap_fSl, ap_fFz, ap_fBi, ap_fNil, ap_fCons, ap_fNo0, ap_fSo, ap_fIte, ap_fBl, Z49, ap_fDl, ap_fCat, ap_fSlL, ap_fSeq, ap_fTst, ap_fYes, ap_fNx, ap_fAsg, ap_fIf, ap_fRet, ap_fExp, ap_fG, ap_fTu, ap_fNo, ap_fCo, k1_fBin, k2_fBin, k1_fCmp, k2_fCmp, k1_fIx, k2_fIx, k1_fSl, k2_fSl, k3_fSl, k1_fFz, k1_fBi, k1_fCons, k2_fCons, k1_fSo, k1_fIte, k1_fBl, Z39, k1_fDl, k1_fCat, k2_fCat, Z57, Z56, Z58, k1_fSeq, k1_fTst, k1_fAsg, k1_fIf, k1_fRet, k1_fExp, k1_fFor, IG.set, IG.set.sets, evV, env0, isNn, strT, muT, lstAt, ownL, lstOf, seqOf, L2.atI, L2.ixN, lim, bnd_ok', go_ok', seq_nx', seq_rt', opt_some', nox_ok', finO_rt, finO_nx, padF, kwF, insOf, h, m0, p0, ap_fFor, l2, h1, hg] at z ⊢
      exact z
    · have z := fin 0 m' (by omega) h2 h3
      simp [F_law_jug, tbf_of_law_jug, tbc_of_law_jug, b_law_jug, den, ap_evSs, ap_evSs0, IS.ev, IE.ev, IL.ev, IEs.ev, IO.ev, II.ev, IO.test, IA.ev, IA.ev.evs, ap_fK, ap_fBin, ap_fCmp, ap_fIx, ap_fSl, ap_fFz, ap_fBi, ap_fNil, ap_fCons, ap_fNo0, ap_fSo, ap_fIte, ap_fBl, Z49, ap_fDl, ap_fCat, ap_fSlL, ap_fSeq, ap_fTst, ap_fYes, ap_fNx, ap_fAsg, ap_fIf, ap_fRet, ap_fExp, ap_fG, ap_fTu, ap_fNo, ap_fCo, k1_fBin, k2_fBin, k1_fCmp, k2_fCmp, k1_fIx, k2_fIx, k1_fSl, k2_fSl, k3_fSl, k1_fFz, k1_fBi, k1_fCons, k2_fCons, k1_fSo, k1_fIte, k1_fBl, Z39, k1_fDl, k1_fCat, k2_fCat, Z57, Z56, Z58, k1_fSeq, k1_fTst, k1_fAsg, k1_fIf, k1_fRet, k1_fExp, k1_fFor, IG.set, IG.set.sets, evV, env0, isNn, strT, muT, lstAt, ownL, lstOf, seqOf, L2.atI, L2.ixN, lim, bnd_ok', go_ok', seq_nx', seq_rt', opt_some', nox_ok', finO_rt, finO_nx, padF, kwF, insOf, h, m0, p0, ap_fFor, l2, h1, hg] at z ⊢
      exact z
  · obtain ⟨m', e', h1, h2, h3⟩ := key (40 + i)
    rw [ht] at h1
    have n1 : ¬ (40 + (i : Int) < 0) := by omega
    have n2 : ¬ (1000000000000000000 ≤ 40 + (i : Int)) := by omega
    have z := fin 0 m' (by omega) h2 h3
    simp [F_law_jug, tbf_of_law_jug, tbc_of_law_jug, b_law_jug, den, ap_evSs, ap_evSs0, IS.ev, IE.ev, IL.ev, IEs.ev, IO.ev, II.ev, IO.test, IA.ev, IA.ev.evs, ap_fK, ap_fBin, ap_fCmp, ap_fIx, ap_fSl, ap_fFz, ap_fBi, ap_fNil, ap_fCons, ap_fNo0, ap_fSo, ap_fIte, ap_fBl, Z49, ap_fDl, ap_fCat, ap_fSlL, ap_fSeq, ap_fTst, ap_fYes, ap_fNx, ap_fAsg, ap_fIf, ap_fRet, ap_fExp, ap_fG, ap_fTu, ap_fNo, ap_fCo, k1_fBin, k2_fBin, k1_fCmp, k2_fCmp, k1_fIx, k2_fIx, k1_fSl, k2_fSl, k3_fSl, k1_fFz, k1_fBi, k1_fCons, k2_fCons, k1_fSo, k1_fIte, k1_fBl, Z39, k1_fDl, k1_fCat, k2_fCat, Z57, Z56, Z58, k1_fSeq, k1_fTst, k1_fAsg, k1_fIf, k1_fRet, k1_fExp, k1_fFor, IG.set, IG.set.sets, evV, env0, isNn, strT, muT, lstAt, ownL, lstOf, seqOf, L2.atI, L2.ixN, lim, bnd_ok', go_ok', seq_nx', seq_rt', opt_some', nox_ok', finO_rt, finO_nx, padF, kwF, insOf, h, m0, p0, ap_fFor, l2, h1, n1, n2] at z ⊢
    exact z
theorem pour_eq {n : Nat} {J : Cell} {rest : Sto} {k : Int} (hJ : JC n J) (hn : n < 10 ^ 9) (hk : 0 < k) (hk2 : k < 2 ^ 64) (hr : NL rest) :
    ∃ d J', Z19 [.loc 0, .int k] (J :: rest) = .ok (.int d) (J' :: rest) ∧ 0 ≤ d ∧ d < k ∧ JC (n + 1) J' := by
  obtain ⟨_, _, e, d, J', rfl, h1, h2, rfl, h3⟩ := pour_ok hJ hn hk hk2 hr
  exact ⟨d, J', e, h1, h2, h3⟩
theorem at_nat {A : Type} {xs : List A} {i : Nat} {x : A} (h : xs[i]? = some x) : L2.atI xs (i : Int) = some x := L2.atI_nat h
def colS (g : List (List Int)) (j : Nat) : Int := (g.map fun r => r.getD j 0).sum
def rowB (r : List Int) (k : Nat) (hi : Int) : Prop := r.length = k ∧ ∀ x, x ∈ r → 0 ≤ x ∧ x ≤ hi
def W (w : List Nat) : PySem.Str := ⟨w.toArray⟩
def mT (m : List Nat × Int) : T := .tup [.str (W m.1), .int m.2]
def sT (s : List (List Nat × Int)) : T := .tup (s.map mT)
def dT : Option Int → T
  | none => .non
  | some d => .int d
structure Pa where
  h : List (List Nat × Int)
  g : List (List Nat × Int)
  d : Option Int
def partsT (p : Pa) : T := .tup [sT p.h, sT p.g, dT p.d]
@[simp] theorem parts0 {p : Pa} {st : Sto} : ixT st (partsT p) (.int 0) = some (sT p.h) := rfl
@[simp] theorem parts1 {p : Pa} {st : Sto} : ixT st (partsT p) (.int 1) = some (sT p.g) := rfl
@[simp] theorem parts2 {p : Pa} {st : Sto} : ixT st (partsT p) (.int 2) = some (dT p.d) := rfl
@[simp] theorem len_sT {s : List (List Nat × Int)} {st : Sto} : biT st .len [sT s] = some (.int s.length) := by
  show some (T.int ((s.map mT).length : Nat)) = _
  rw [List.length_map]
def GOk (p : Pa) (g : List (List Int)) : Prop := g.length = p.h.length ∧ ∀ r, r ∈ g → rowB r p.g.length 1000000000000000000000000000000
def shH (p : Pa) (g : List (List Int)) : List (Int × T) := (g.zip p.h).map fun q => (-(-q.1.sum / q.2.2), .tup [.str "host", .str (W q.2.1)])
def shG (p : Pa) (g : List (List Int)) : List (Int × T) := ((List.range p.g.length).zip p.g).map fun q => (-(-colS g q.1 / q.2.2), .tup [.str "guest", .str (W q.2.1)])
def shD (p : Pa) (g : List (List Int)) : List (Int × T) := match p.d with
  | none => []
  | some d => [(-(-(g.map List.sum).sum / d), .tup [.str "tables"])]
def shares (p : Pa) (g : List (List Int)) : List (Int × T) := shH p g ++ shG p g ++ shD p g
def due (p : Pa) (g : List (List Int)) : Int := maxI ((shares p g).map (·.1))
theorem fm_if {A B : Type} {p : A → Bool} {f : A → B} : ∀ {xs : List A}, (xs.filterMap fun q => if p q = true then some (f q) else none) = (xs.filter p).map f
  | [] => rfl
  | x :: xs => by
    rw [List.filterMap_cons, List.filter_cons]
    cases h : p x with
    | true => rw [if_pos rfl, if_pos rfl]; simp only [List.map_cons]; rw [fm_if]
    | false => rw [if_neg (by decide), if_neg (by decide)]; exact fm_if
def reason (p : Pa) (g : List (List Int)) : T := if due p g = 0 then .non else (((shares p g).filter fun q => q.1 == due p g).map (·.2)).headD .non
theorem len_W {w : List Nat} : (W w).length = w.length := by simp [W, PySem.Str.length]
theorem eqv_str {x y : PySem.Str} : eqv (.str x) (.str y) = (x == y) := by simp [eqv]
theorem pour_eq2 {n : Nat} {J : Cell} {rest : Sto} {k : Int} (hJ : JC n J) (hn : n < 10 ^ 9) (hk : 0 < k) (hk2 : k < 2 ^ 64) (hr : NL rest) :
    ∃ d J', Z19 [.loc 0, .int k] (J :: rest) = .ok (.int d) (J' :: rest) ∧ 0 ≤ d ∧ d < k ∧ JC (n + 1) J' := by
  obtain ⟨_, _, e, d, J1, rfl, h0, h1, rfl, hJ1⟩ := pour_ok hJ hn hk hk2 hr
  exact ⟨d, J1, e, h0, h1, hJ1⟩
theorem fin_jug {cs : List Ci} {md : Bool} {J : Cell} {rest : Sto} {n : Nat} {t : T} (hJ : JC n J) (hr : NL rest) (ht : Nl t) : finR cs md (rest.length + 1) t (J :: rest) = .ok t (J :: rest) := by
  rw [show List.length rest + 1 = (J :: rest).length from rfl]
  exact Z20 (NL_cons hJ.nl hr) ht
def Lt (c : Nat) : Prop := 97 ≤ c ∧ c ≤ 122
def Sg (c : Nat) : Prop := Lt c ∨ 48 ≤ c ∧ c ≤ 57
def WdOk (w : List Nat) : Prop := 1 ≤ w.length ∧ w.length ≤ 8 ∧ (∀ c, c ∈ w → Sg c) ∧ ∀ c, w[0]? = some c → Lt c
def signs : List Nat := [97, 98, 99, 100, 101, 102, 103, 104, 105, 106, 107, 108, 109, 110, 111, 112, 113, 114, 115, 116, 117, 118, 119, 120, 121, 122, 48, 49, 50, 51, 52, 53, 54, 55, 56, 57]
theorem signs_eq : ("abcdefghijklmnopqrstuvwxyz0123456789" : PySem.Str) = W signs := by decide +kernel
theorem sign_at {i : Nat} {st : Sto} (h : i < 36) : ∃ c, ixT st (.str (W signs)) (.int i) = some (.str (W [c])) ∧ Sg c ∧ (i < 26 → Lt c) := by
  have hl : (W signs).length ≤ lim := by decide
  have hi : i < signs.length := h
  refine ⟨signs[i], ?_, ?_, ?_⟩
  · have e : L2.atI (W signs).cps.toList (i : Int) = some signs[i] := by
      have : (W signs).cps.toList = signs := by simp [W]
      rw [this]
      generalize signs = L at hi
      simp [L2.atI, L2.ixN, hi]
    show (if (W signs).length ≤ lim then (L2.atI (W signs).cps.toList (i : Int)).map fun c => T.str ⟨#[c]⟩ else none) = _
    rw [if_pos hl, e]
    rfl
  · have : ∀ i : Fin 36, Sg (signs[i.val]'i.isLt) := by unfold Sg Lt; decide
    exact this ⟨i, h⟩
  · intro h2
    have : ∀ i : Fin 26, Lt (signs[i.val]'(Nat.lt_trans i.isLt (by decide))) := by unfold Lt; decide
    exact this ⟨i, h2⟩
def wds : List (List Nat) := [[104, 111, 115, 116], [103, 117, 101, 115, 116], [116, 97, 98, 108, 101, 115], [116, 97, 98, 108, 101, 115, 49], [97], [97, 98], [122, 57], [120]]
theorem wds_ok : ∀ w, w ∈ wds → WdOk w := by
  intro w hw
  simp only [wds, List.mem_cons, List.not_mem_nil, or_false] at hw
  rcases hw with rfl | rfl | rfl | rfl | rfl | rfl | rfl | rfl <;> (unfold WdOk Sg Lt; decide)
theorem word_a {J J1 J2 : Cell} {rest : Sto} {d : Int} (e1 : Z19 [.loc 0, .int 4] (J :: rest) = .ok (.int 0) (J1 :: rest)) (e2 : Z19 [.loc 0, .int 8] (J1 :: rest) = .ok (.int d) (J2 :: rest)) (h0 : 0 ≤ d) (h1 : d < 8) :
    ∃ w, w ∈ wds ∧ F_law_word [.loc 0] (J :: rest) = finR tb_law_word.cls false (rest.length + 1) (.str (W w)) (J2 :: rest) := by
  have : d = 0 ∨ d = 1 ∨ d = 2 ∨ d = 3 ∨ d = 4 ∨ d = 5 ∨ d = 6 ∨ d = 7 := by omega
  have l0 : ("host" : PySem.Str) = W [104, 111, 115, 116] := by decide +kernel
  have l1 : ("guest" : PySem.Str) = W [103, 117, 101, 115, 116] := by decide +kernel
  have l2 : ("tables" : PySem.Str) = W [116, 97, 98, 108, 101, 115] := by decide +kernel
  have l3 : ("tables1" : PySem.Str) = W [116, 97, 98, 108, 101, 115, 49] := by decide +kernel
  have l4 : ("a" : PySem.Str) = W [97] := by decide +kernel
  have l5 : ("ab" : PySem.Str) = W [97, 98] := by decide +kernel
  have l6 : ("z9" : PySem.Str) = W [122, 57] := by decide +kernel
  have l7 : ("x" : PySem.Str) = W [120] := by decide +kernel
  rcases this with rfl | rfl | rfl | rfl | rfl | rfl | rfl | rfl
  · exact ⟨[104, 111, 115, 116], by decide, by rw [← l0]; simp! [F_law_word, tbf_of_law_word, tbc_of_law_word, b_law_word, Z18, ap_fSub, Z17, k1_fSub, k2_fSub, e1, e2]⟩
  · exact ⟨[103, 117, 101, 115, 116], by decide, by rw [← l1]; simp! [F_law_word, tbf_of_law_word, tbc_of_law_word, b_law_word, Z18, ap_fSub, Z17, k1_fSub, k2_fSub, e1, e2]⟩
  · exact ⟨[116, 97, 98, 108, 101, 115], by decide, by rw [← l2]; simp! [F_law_word, tbf_of_law_word, tbc_of_law_word, b_law_word, Z18, ap_fSub, Z17, k1_fSub, k2_fSub, e1, e2]⟩
  · exact ⟨[116, 97, 98, 108, 101, 115, 49], by decide, by rw [← l3]; simp! [F_law_word, tbf_of_law_word, tbc_of_law_word, b_law_word, Z18, ap_fSub, Z17, k1_fSub, k2_fSub, e1, e2]⟩
  · exact ⟨[97], by decide, by rw [← l4]; simp! [F_law_word, tbf_of_law_word, tbc_of_law_word, b_law_word, Z18, ap_fSub, Z17, k1_fSub, k2_fSub, e1, e2]⟩
  · exact ⟨[97, 98], by decide, by rw [← l5]; simp! [F_law_word, tbf_of_law_word, tbc_of_law_word, b_law_word, Z18, ap_fSub, Z17, k1_fSub, k2_fSub, e1, e2]⟩
  · exact ⟨[122, 57], by decide, by rw [← l6]; simp! [F_law_word, tbf_of_law_word, tbc_of_law_word, b_law_word, Z18, ap_fSub, Z17, k1_fSub, k2_fSub, e1, e2]⟩
  · exact ⟨[120], by decide, by rw [← l7]; simp! [F_law_word, tbf_of_law_word, tbc_of_law_word, b_law_word, Z18, ap_fSub, Z17, k1_fSub, k2_fSub, e1, e2]⟩
theorem word_b {J J1 J2 J3 J4 : Cell} {rest : Sto} {d1 d2 : Int} {x y : PySem.Str} {rng : List T} {f2 : Option T} (e1 : Z19 [.loc 0, .int 4] (J :: rest) = .ok (.int d1) (J1 :: rest)) (h1 : (d1 == 0) = false) (e2 : Z19 [.loc 0, .int 26] (J1 :: rest) = .ok (.int d2) (J2 :: rest))
    (ix : ∀ st, ixT st (.str "abcdefghijklmnopqrstuvwxyz0123456789") (.int d2) = some (.str x))
    (hrg : fRg1 (fIx (fFz (fDl (Z11 (fK (T.int 0)) (Z11 (fK (T.int 1)) (Z11 (fK (T.int 2)) (Z11 (fK (T.int 7)) fNil)))))) (fFn (some ⟨"_law_pour", [], padF 2 [] Z19⟩) (Z11 (evV 0) (Z11 (fK (T.int 4)) fNil)) fNil)) [some (.loc 0), some (.str x), none, some (.str "abcdefghijklmnopqrstuvwxyz0123456789"), some (.lst [.str "host", .str "guest", .str "tables", .str "tables1", .str "a", .str "ab", .str "z9", .str "x"])] (J2 :: rest) = .ok rng (J3 :: rest))
    (hw : walkO (.name 2) (Z16 tb_law_word l1_law_word) rng [some (.loc 0), some (.str x), none, some (.str "abcdefghijklmnopqrstuvwxyz0123456789"), some (.lst [.str "host", .str "guest", .str "tables", .str "tables1", .str "a", .str "ab", .str "z9", .str "x"])] (J3 :: rest) = .nx [some (.loc 0), some (.str y), f2, some (.str "abcdefghijklmnopqrstuvwxyz0123456789"), some (.lst [.str "host", .str "guest", .str "tables", .str "tables1", .str "a", .str "ab", .str "z9", .str "x"])] (J4 :: rest)) :
    F_law_word [.loc 0] (J :: rest) = finR tb_law_word.cls false (rest.length + 1) (.str y) (J4 :: rest) := by
  simp! [F_law_word, tbf_of_law_word, tbc_of_law_word, b_law_word, Z18, ap_fSub, Z17, k1_fSub, k2_fSub, e1, h1, e2, ix, ap_fFor, hrg, hw]
theorem W_app {a b : List Nat} : W a ++ W b = W (a ++ b) := by
  show PySem.Str.mk (a.toArray ++ b.toArray) = PySem.Str.mk (a ++ b).toArray
  simp
theorem word_step {J J1 : Cell} {rest : Sto} {d : Int} {w : List Nat} {c : Nat} {e2 e4 : Option T} (e : Z19 [.loc 0, .int 36] (J :: rest) = .ok (.int d) (J1 :: rest)) (ix : ∀ st, ixT st (.str "abcdefghijklmnopqrstuvwxyz0123456789") (.int d) = some (.str (W [c]))) (hl : w.length ≤ 100) :
    Z16 tb_law_word l1_law_word [some (.loc 0), some (.str (W w)), e2, some (.str "abcdefghijklmnopqrstuvwxyz0123456789"), e4] (J :: rest) = .nx [some (.loc 0), some (.str (W (w ++ [c]))), e2, some (.str "abcdefghijklmnopqrstuvwxyz0123456789"), e4] (J1 :: rest) := by
  have b : binT .Add (.str (W w)) (.str (W [c])) = some (.str (W (w ++ [c]))) := by
    show (if (W w).length + (W [c]).length ≤ lim then some (T.str (W w ++ W [c])) else none) = _
    rw [if_pos (by rw [len_W, len_W]; simp [lim]; omega), W_app]
  simp! [l1_law_word, tbf_of_law_word, tbc_of_law_word, Z18, ap_fSub, Z17, k1_fSub, k2_fSub, e, ix, b]
theorem word_loop {rest : Sto} {e4 : Option T} (hr : NL rest) : ∀ (k i n : Nat) (J : Cell) (w : List Nat) (e2 : Option T), JC n J → n + k < 10 ^ 9 → w.length + k ≤ 8 → WdOk w →
    ∃ (w' : List Nat) (J' : Cell) (f2 : Option T), walkO (.name 2) (Z16 tb_law_word l1_law_word) ((List.range' i k).map fun (j : Nat) => T.int (j : Int)) [some (.loc 0), some (.str (W w)), e2, some (.str "abcdefghijklmnopqrstuvwxyz0123456789"), e4] (J :: rest) = .nx [some (.loc 0), some (.str (W w')), f2, some (.str "abcdefghijklmnopqrstuvwxyz0123456789"), e4] (J' :: rest) ∧ WdOk w' ∧ JC (n + k) J'
  | 0, i, n, J, w, e2, hJ, _, _, hw => ⟨w, J, e2, by simp [walkO], hw, hJ⟩
  | k + 1, i, n, J, w, e2, hJ, hn, hl, hw => by
    obtain ⟨d, J1, e, h0, h1, hJ1⟩ := pour_eq2 (k := 36) hJ (by omega) (by decide) (by decide) hr
    obtain ⟨d, rfl⟩ := Int.eq_ofNat_of_zero_le h0
    have hd : d < 36 := by omega
    have hix := fun st => sign_at (st := st) hd
    obtain ⟨c, hc, sc, _⟩ := hix []
    have ix : ∀ st, ixT st (.str "abcdefghijklmnopqrstuvwxyz0123456789") (.int d) = some (.str (W [c])) := fun st => by rw [signs_eq]; exact hc
    have hw2 : WdOk (w ++ [c]) := by
      obtain ⟨a1, a2, a3, a4⟩ := hw
      refine ⟨by simp, by simp; omega, fun x hx => ?_, fun x hx => a4 x ?_⟩
      · rcases List.mem_append.mp hx with h | h
        · exact a3 x h
        · rw [List.mem_singleton.mp h]; exact sc
      · rw [List.getElem?_append_left (by omega)] at hx; exact hx
    obtain ⟨w', J', f2, h2, h3, h4⟩ := word_loop hr k (i + 1) (n + 1) J1 (w ++ [c]) (some (.int i)) hJ1 (by omega) (by simp; omega) hw2
    refine ⟨w', J', f2, ?_, h3, by rw [show n + (k + 1) = n + 1 + k from by omega]; exact h4⟩
    rw [← h2, List.range'_succ, List.map_cons, walkO]
    simp only [IG.set, List.length_cons, List.length_nil]
    rw [if_pos (by decide)]
    simp only [List.set]
    rw [word_step e ix (by omega)]
theorem word_rg {J2 J3 : Cell} {rest : Sto} {d : Int} {m : Nat} {x : T} {a b c : Option T} (e : Z19 [.loc 0, .int 4] (J2 :: rest) = .ok (.int d) (J3 :: rest)) (h : L2.atI [T.int 0, .int 1, .int 2, .int 7] d = some (.int m)) (hm : m ≤ 10) :
    fRg1 (fIx (fFz (fDl (Z11 (fK (T.int 0)) (Z11 (fK (T.int 1)) (Z11 (fK (T.int 2)) (Z11 (fK (T.int 7)) fNil)))))) (fFn (some ⟨"_law_pour", [], padF 2 [] Z19⟩) (Z11 (evV 0) (Z11 (fK (T.int 4)) fNil)) fNil)) [some (.loc 0), some x, a, b, c] (J2 :: rest) = .ok ((List.range m).map fun (j : Nat) => T.int (j : Int)) (J3 :: rest) := by
  refine rg1_eq ?_ (by omega)
  have : d = 0 ∨ d = 1 ∨ d = 2 ∨ d = 3 ∨ ¬ (0 ≤ d ∧ d < 4) := by omega
  have hx : ∀ st, ixT st (.lst [T.int 0, .int 1, .int 2, .int 7]) (.int d) = some (.int m) := fun st => h
  simp! [ap_fSub, k1_fSub, k2_fSub, -L2.atI, -ix_lst', e, hx]
theorem word_ok {n : Nat} {J : Cell} {rest : Sto} (hJ : JC n J) (hn : n + 20 < 10 ^ 9) (hr : NL rest) :
    ∃ (w : List Nat) (J' : Cell), F_law_word [.loc 0] (J :: rest) = .ok (.str (W w)) (J' :: rest) ∧ WdOk w ∧ JC (n + 10) J' := by
  obtain ⟨d1, J1, e1, h10, h11, hJ1⟩ := pour_eq2 (k := 4) hJ (by omega) (by decide) (by decide) hr
  by_cases h1 : d1 = 0
  · subst h1
    obtain ⟨d2, J2, e2, h20, h21, hJ2⟩ := pour_eq2 (k := 8) hJ1 (by omega) (by decide) (by decide) hr
    obtain ⟨w, hw, h⟩ := word_a e1 e2 h20 h21
    exact ⟨w, J2, h.trans (fin_jug hJ2 hr (by simp)), wds_ok w hw, hJ2.mono (by omega)⟩
  · obtain ⟨d2, J2, e2, h20, h21, hJ2⟩ := pour_eq2 (k := 26) hJ1 (by omega) (by decide) (by decide) hr
    obtain ⟨d3, J3, e3, h30, h31, hJ3⟩ := pour_eq2 (k := 4) hJ2 (by omega) (by decide) (by decide) hr
    obtain ⟨d2, rfl⟩ := Int.eq_ofNat_of_zero_le h20
    have hd2 : d2 < 36 := by omega
    obtain ⟨c, hc, sc, lc⟩ := sign_at (st := []) hd2
    have ix : ∀ st, ixT st (.str "abcdefghijklmnopqrstuvwxyz0123456789") (.int d2) = some (.str (W [c])) := fun st => by rw [signs_eq]; exact hc
    have hm : ∃ m : Nat, m ≤ 7 ∧ L2.atI [T.int 0, .int 1, .int 2, .int 7] d3 = some (.int m) := by
      have : d3 = 0 ∨ d3 = 1 ∨ d3 = 2 ∨ d3 = 3 := by omega
      rcases this with rfl | rfl | rfl | rfl
      · exact ⟨0, by decide, rfl⟩
      · exact ⟨1, by decide, rfl⟩
      · exact ⟨2, by decide, rfl⟩
      · exact ⟨7, by decide, rfl⟩
    obtain ⟨m, hm7, hm⟩ := hm
    have w0 : WdOk [c] := ⟨by simp, by simp, fun x hx => by rw [List.mem_singleton.mp hx]; exact sc, fun x hx => by cases hx; exact lc (by omega)⟩
    obtain ⟨w', J', f2, h2, h3, h4⟩ := word_loop (e4 := some (.lst [.str "host", .str "guest", .str "tables", .str "tables1", .str "a", .str "ab", .str "z9", .str "x"])) hr m 0 (n + 3) J3 [c] none hJ3 (by omega) (by simp; omega) w0
    rw [← List.range_eq_range'] at h2
    refine ⟨w', J', ?_, h3, h4.mono (by omega)⟩
    exact (word_b e1 (beq_false_of_ne h1) e2 ix (word_rg e3 hm (by omega)) h2).trans (fin_jug h4 hr (by simp))
def sW (w : List Nat) : T := .str (W w)
def qw (n : Nat) : List Nat := [113, 48 + n]
theorem qw_ok {n : Nat} (h : n < 8) : WdOk (qw n) := by
  refine ⟨by simp [qw], by simp [qw], fun c hc => ?_, fun c hc => ?_⟩
  · simp [qw] at hc
    rcases hc with rfl | rfl
    · exact .inl (by unfold Lt; omega)
    · exact .inr (by omega)
  · simp [qw] at hc; unfold Lt; omega
theorem qw_shown : ∀ n : Fin 8, PySem.Str.ofString (toString ((n.val : Nat) : Int)) = W [48 + n.val] := by decide +kernel
theorem q_is : ("q" : PySem.Str) = W [113] := by decide +kernel
theorem qw_text {n : Nat} (h : n < 8) : strT (.int n) = some (.str (W [48 + n])) ∧ binT .Add (.str "q") (.str (W [48 + n])) = some (sW (qw n)) := by
  constructor
  · show (if (n : Int).natAbs.log2 < 1920 then some (T.str (toString (n : Int))) else none) = _
    have hl : (n : Int).natAbs.log2 < 1920 := by
      have : n.log2 ≤ n := Nat.log2_le_self n
      rw [Int.natAbs_natCast]
      omega
    rw [if_pos hl, qw_shown ⟨n, h⟩]
  · rw [q_is]
    show (if (W [113]).length + (W [48 + n]).length ≤ lim then some (T.str (W [113] ++ W [48 + n])) else none) = _
    rw [if_pos (by rw [len_W, len_W]; simp [lim]), W_app]
    rfl
theorem W_inj {a b : List Nat} (h : W a = W b) : a = b := by
  have := congrArg (fun s : PySem.Str => s.cps.toList) h
  simpa [W] using this
theorem in_words {ws : List (List Nat)} {w : List Nat} {st : Sto} {l : Nat} (h : st[l]? = some (.lst (ws.map sW))) (hw : WdOk w) (hws : ∀ x, x ∈ ws → WdOk x) : inT st (sW w) (.loc l) = some (decide (w ∈ ws)) := by
  have so : ∀ x, WdOk x → PySem.PyData.strOk (W x) = true := fun x hx => so_iff.mpr fun c hc => by
    have := hx.2.2.1 c (by simpa [W] using hc)
    unfold Sg Lt at this
    omega
  have d1 : datas (ws.map sW) = true := by
    clear h
    induction ws with
    | nil => rfl
    | cons x xs ih =>
      simp only [List.map_cons, datas, sW, data, Bool.and_eq_true]
      exact ⟨so x (hws x (by simp)), ih fun y hy => hws y (List.mem_cons_of_mem _ hy)⟩
  have d2 : deps (ws.map sW) = 0 := by
    clear h d1 hws
    induction ws with
    | nil => rfl
    | cons x xs ih => simp only [List.map_cons, deps, sW, dep] at ih ⊢; rw [ih]; rfl
  have key : (ws.map sW).any (fun y => eqv y (sW w)) = decide (w ∈ ws) := by
    rw [Bool.eq_iff_iff, List.any_eq_true, decide_eq_true_iff]
    constructor
    · rintro ⟨y, hy, e⟩
      obtain ⟨x, hx, rfl⟩ := List.mem_map.mp hy
      unfold sW at e
      rw [eqv_str, beq_iff_eq] at e
      rw [← W_inj e]; exact hx
    · intro hm
      exact ⟨_, List.mem_map.mpr ⟨w, hm, rfl⟩, by unfold sW; rw [eqv_str]; simp⟩
  show (match seqOf st (.loc l) with
    | some ys => if data (sW w) && datas ys && decide (dep (sW w) ≤ 60) && decide (deps ys ≤ 60) then some (ys.any fun y => eqv y (sW w)) else none
    | none => none) = _
  have hs : seqOf st (.loc l) = some (ws.map sW) := by simp [seqOf, lstOf, h]
  rw [hs]
  show (if _ then _ else _) = _
  rw [if_pos (by rw [d1, d2]; simp [sW, data, so w hw, dep]), key]
theorem nodup_qw (m : Nat) (hm : m ≤ 8) : ((List.range m).map qw).Nodup := by
  have : ∀ m : Fin 9, ((List.range m.val).map qw).Nodup := by decide
  exact this ⟨m, by omega⟩
theorem free_qw {ws : List (List Nat)} {m : Nat} (hl : ws.length < m) (hm : m ≤ 8) : ((List.range m).map qw).filter (fun w => decide (w ∉ ws)) ≠ [] := fun z => by
  have hsub : ∀ w, w ∈ (List.range m).map qw → w ∈ ws := fun w hw => by
    cases hd : decide (w ∈ ws) with
    | true => exact of_decide_eq_true hd
    | false =>
      have : w ∈ ((List.range m).map qw).filter (fun w => decide (w ∉ ws)) := List.mem_filter.mpr ⟨hw, decide_eq_true (of_decide_eq_false hd)⟩
      rw [z] at this
      cases this
  have := List.Nodup.length_le_of_subset (nodup_qw m hm) hsub
  simp at this
  omega
theorem words_a {J J1 : Cell} {rest : Sto} {S : List T} {m : T} {w : T} {x3 x4 x5 x6 : Option T} (e : F_law_word [.loc 0] (J :: (rest ++ [.lst S])) = .ok w (J1 :: (rest ++ [.lst S])))
    (hin : inT (J1 :: (rest ++ [.lst S])) w (.loc (rest.length + 1)) = some false) (hl : S.length < 16777216) (hg : (J1 :: (rest ++ [Cell.lst S]))[rest.length + 1]? = some (.lst S)) (hset : (J1 :: (rest ++ [Cell.lst S])).set (rest.length + 1) (.lst (S ++ [w])) = J1 :: (rest ++ [.lst (S ++ [w])])) :
    Z16 Z61 l1_law_words [some (.loc 0), some m, some (.loc (rest.length + 1)), x3, x4, x5, x6] (J :: (rest ++ [.lst S])) = .nx [some (.loc 0), some m, some (.loc (rest.length + 1)), x3, some w, x5, x6] (J1 :: (rest ++ [.lst (S ++ [w])])) := by
  simp! [l1_law_words, tbf_of_law_words, tbc_of_law_words, Z49, ap_fMu, Z18, Z39, k1_fMu, Z17, e, cmpT, hin, hg, hl, hset]
theorem words_c1 {st : Sto} {m : Nat} {a b c d e f : Option T} (hm : m ≤ 8) : fLc [6] (e1_law_words.ev Z61) (.name 6) (fRg1 (evV 1)) fYes [a, some (.int m), b, c, d, e, f] st = .ok ((List.range m).map fun (n : Nat) => sW (qw n)) st := by
  refine lc_mapE (emb := fun (n : Nat) => T.int (n : Int)) (rg1_eq rfl (by omega)) (by simp; omega) fun n hn => ?_
  have hn : n < m := by simpa using hn
  have h := qw_text (n := n) (by omega)
  simp! [fTurn, wipeE, e1_law_words, Z49, ap_fMu, Z18, Z39, k1_fMu, Z17, -strT, h.1, h.2]
theorem words_c2 {st : Sto} {m l : Nat} {ws : List (List Nat)} {a d e f : Option T} (hm : m ≤ 8) (hl : st[l]? = some (.lst (ws.map sW))) (hws : ∀ x, x ∈ ws → WdOk x) : fLc [5] (e2_law_words.ev Z61) (.name 5) (fSeq (fFz (fLc [6] (e1_law_words.ev Z61) (.name 6) (fRg1 (evV 1)) fYes))) (fTst (q1_law_words.ev Z61)) [a, some (.int m), some (.loc l), d, e, none, none] st =
    .ok ((((List.range m).map qw).filter fun w => decide (w ∉ ws)).map sW) st := by
  have fe : (((List.range m).map qw).filterMap fun w => if decide (w ∉ ws) = true then some (sW w) else none) = (((List.range m).map qw).filter fun w => decide (w ∉ ws)).map sW := fm_if (p := fun w => decide (w ∉ ws)) (f := sW)
  rw [← fe]
  refine lc_filterE (emb := sW) ?_ (by simp; omega) fun w hw => ?_
  · have h1 := words_c1 (st := st) (m := m) (a := a) (b := some (.loc l)) (c := d) (d := e) (e := none) (f := none) hm
    have hlen : m ≤ 16777216 := by omega
    simp! [Z49, ap_fMu, Z18, Z39, k1_fMu, Z17, h1, hlen, List.map_map, Function.comp_def]
  · obtain ⟨n, hn, rfl⟩ := List.mem_map.mp hw
    have hn : n < m := by simpa using hn
    have hi := in_words (w := qw n) hl (qw_ok (by omega)) hws
    by_cases h : qw n ∈ ws
    · simp! [fTurn, wipeE, e2_law_words, q1_law_words, Z49, ap_fMu, Z18, Z39, k1_fMu, Z17, cmpT, hi, h, asBl]
    · simp! [fTurn, wipeE, e2_law_words, q1_law_words, Z49, ap_fMu, Z18, Z39, k1_fMu, Z17, cmpT, hi, h, asBl]
theorem words_b {J J1 : Cell} {rest : Sto} {S F : List T} {m : T} {w v : T} {x3 x4 : Option T} (e : F_law_word [.loc 0] (J :: (rest ++ [.lst S])) = .ok w (J1 :: (rest ++ [.lst S])))
    (hin : inT (J1 :: (rest ++ [.lst S])) w (.loc (rest.length + 1)) = some true) (hl : S.length < 16777216) (hg : (J1 :: (rest ++ [Cell.lst S]))[rest.length + 1]? = some (.lst S)) (hset : (J1 :: (rest ++ [Cell.lst S])).set (rest.length + 1) (.lst (S ++ [v])) = J1 :: (rest ++ [.lst (S ++ [v])]))
    (c : fLc [5] (e2_law_words.ev Z61) (.name 5) (fSeq (fFz (fLc [6] (e1_law_words.ev Z61) (.name 6) (fRg1 (evV 1)) fYes))) (fTst (q1_law_words.ev Z61)) [some (.loc 0), some m, some (.loc (rest.length + 1)), x3, some w, none, none] (J1 :: (rest ++ [.lst S])) = .ok (v :: F) (J1 :: (rest ++ [.lst S]))) (hF : F.length ≤ 100) :
    Z16 Z61 l1_law_words [some (.loc 0), some m, some (.loc (rest.length + 1)), x3, x4, none, none] (J :: (rest ++ [.lst S])) = .nx [some (.loc 0), some m, some (.loc (rest.length + 1)), x3, some v, none, none] (J1 :: (rest ++ [.lst (S ++ [v])])) := by
  have hF2 : F.length + 1 ≤ 16777216 := by omega
  simp! [l1_law_words, tbf_of_law_words, tbc_of_law_words, Z49, ap_fMu, Z18, Z39, k1_fMu, Z17, e, cmpT, hin, hg, hl, hset, c, hF2]
theorem nls_words {ws : List (List Nat)} : Nls (ws.map sW) := nls_of fun x hx => by obtain ⟨w, _, rfl⟩ := List.mem_map.mp hx; unfold sW; simp
theorem words_turn {n m : Nat} {J : Cell} {rest : Sto} {ws : List (List Nat)} {x3 x4 : Option T} (hJ : JC n J) (hn : n + 20 < 10 ^ 9) (hr : NL rest) (hl : ws.length < m) (hm : m ≤ 8) (hd : ws.Nodup) (hws : ∀ x, x ∈ ws → WdOk x) :
    ∃ (v : List Nat) (J1 : Cell) (f4 : Option T), Z16 Z61 l1_law_words [some (.loc 0), some (.int m), some (.loc (rest.length + 1)), x3, x4, none, none] (J :: (rest ++ [.lst (ws.map sW)])) = .nx [some (.loc 0), some (.int m), some (.loc (rest.length + 1)), x3, f4, none, none] (J1 :: (rest ++ [.lst ((ws ++ [v]).map sW)])) ∧ WdOk v ∧ v ∉ ws ∧ JC (n + 10) J1 := by
  obtain ⟨w, J1, e, hw, hJ1⟩ := word_ok (rest := rest ++ [.lst (ws.map sW)]) hJ hn (NL_app hr (NL_lst nls_words NL_nil))
  have hg : ∀ (J : Cell) (S : List T), (J :: (rest ++ [Cell.lst S]))[rest.length + 1]? = some (.lst S) := fun J S => by simp
  have hset : ∀ (S S' : List T), (J1 :: (rest ++ [Cell.lst S])).set (rest.length + 1) (.lst S') = J1 :: (rest ++ [.lst S']) := fun S S' => by simp
  have hi := in_words (w := w) (hg J1 (ws.map sW)) hw hws
  have hmap : ∀ v, (ws ++ [v]).map sW = ws.map sW ++ [sW v] := fun v => by simp
  by_cases h : w ∈ ws
  · have hf := free_qw (ws := ws) hl hm
    cases hF : ((List.range m).map qw).filter (fun w => decide (w ∉ ws)) with
    | nil => exact absurd hF hf
    | cons v F =>
      have hv : v ∈ ((List.range m).map qw).filter (fun w => decide (w ∉ ws)) := by rw [hF]; exact List.mem_cons_self
      obtain ⟨hv1, hv2⟩ := List.mem_filter.mp hv
      obtain ⟨k, hk, rfl⟩ := List.mem_map.mp hv1
      have hk : k < m := by simpa using hk
      have hFl : F.length ≤ 100 := by
        have h1 := List.length_filter_le (fun w => decide (w ∉ ws)) ((List.range m).map qw)
        rw [hF] at h1
        simp at h1
        omega
      have c := words_c2 (st := J1 :: (rest ++ [.lst (ws.map sW)])) (a := some (.loc 0)) (d := x3) (e := some (sW w)) (f := none) hm (hg J1 _) hws
      rw [hF, List.map_cons] at c
      refine ⟨qw k, J1, some (sW (qw k)), ?_, qw_ok (by omega), of_decide_eq_true hv2, hJ1⟩
      rw [hmap]
      exact words_b e (by rw [show T.str (W w) = sW w from rfl, hi]; simp [h]) (by simp; omega) (hg J1 _) (hset _ _) c (by simpa using hFl)
  · refine ⟨w, J1, some (sW w), ?_, hw, h, hJ1⟩
    rw [hmap]
    exact words_a e (by rw [hi]; simp [h]) (by simp; omega) (hg J1 _) (hset _ _)
theorem words_loop {m : Nat} {rest : Sto} (hr : NL rest) (hm : m ≤ 8) : ∀ (k i n : Nat) (J : Cell) (ws : List (List Nat)) (x3 x4 : Option T), JC n J → n + 10 * k + 100 < 10 ^ 9 → ws.length + k = m → ws.Nodup → (∀ x, x ∈ ws → WdOk x) →
    ∃ (vs : List (List Nat)) (J' : Cell) (f3 f4 : Option T), walkO (.name 3) (Z16 Z61 l1_law_words) ((List.range' i k).map fun (j : Nat) => T.int (j : Int)) [some (.loc 0), some (.int m), some (.loc (rest.length + 1)), x3, x4, none, none] (J :: (rest ++ [.lst (ws.map sW)])) = .nx [some (.loc 0), some (.int m), some (.loc (rest.length + 1)), f3, f4, none, none] (J' :: (rest ++ [.lst (vs.map sW)])) ∧ vs.length = m ∧ vs.Nodup ∧ (∀ x, x ∈ vs → WdOk x) ∧ JC (n + 10 * k) J'
  | 0, i, n, J, ws, x3, x4, hJ, _, hl, hd, hw => ⟨ws, J, x3, x4, by simp [walkO], by omega, hd, hw, hJ⟩
  | k + 1, i, n, J, ws, x3, x4, hJ, hn, hl, hd, hw => by
    obtain ⟨v, J1, f4, h1, h2, h3, h4⟩ := words_turn (x3 := some (.int i)) (x4 := x4) hJ (by omega) hr (by omega) hm hd hw
    obtain ⟨vs, J', g3, g4, k1, k2, k3, k4, k5⟩ := words_loop hr hm k (i + 1) (n + 10) J1 (ws ++ [v]) (some (.int i)) f4 h4 (by omega) (by simp; omega) (List.nodup_append.mpr ⟨hd, by simp, fun a ha b hb => by rw [List.mem_singleton.mp hb]; exact fun e => h3 (e ▸ ha)⟩) (fun x hx => by
      rcases List.mem_append.mp hx with h | h
      · exact hw x h
      · rw [List.mem_singleton.mp h]; exact h2)
    refine ⟨vs, J', g3, g4, ?_, k2, k3, k4, by rw [show n + 10 * (k + 1) = n + 10 + 10 * k from by omega]; exact k5⟩
    rw [← k1, List.range'_succ, List.map_cons, walkO]
    simp only [IG.set, List.length_cons, List.length_nil]
    rw [if_pos (by decide)]
    simp only [List.set]
    rw [h1]
theorem words_walk {J J' : Cell} {rest : Sto} {m : T} {rng xs : List T} {f3 f4 : Option T} (rg : ∀ st, fRg1 (evV 1) [some (.loc 0), some m, some (.loc (rest.length + 1)), none, none, none, none] st = .ok rng st)
    (hw : walkO (.name 3) (Z16 Z61 l1_law_words) rng [some (.loc 0), some m, some (.loc (rest.length + 1)), none, none, none, none] (J :: (rest ++ [.lst []])) = .nx [some (.loc 0), some m, some (.loc (rest.length + 1)), f3, f4, none, none] (J' :: (rest ++ [.lst xs]))) :
    F_law_words [.loc 0, m] (J :: rest) = finR Z61.cls false (rest.length + 1) (.loc (rest.length + 1)) (J' :: (rest ++ [.lst xs])) := by
  simp! [F_law_words, tbf_of_law_words, tbc_of_law_words, b_law_words, Z49, ap_fMu, Z18, Z39, k1_fMu, Z17, ap_fFor, rg, hw]
theorem words_ok {n m : Nat} {J : Cell} {rest : Sto} (hJ : JC n J) (hn : n + 200 < 10 ^ 9) (hm : m ≤ 8) (hr : NL rest) :
    ∃ (ws : List (List Nat)) (J' : Cell), F_law_words [.loc 0, .int m] (J :: rest) = .ok (.lst (ws.map sW)) (J' :: rest) ∧ ws.length = m ∧ ws.Nodup ∧ (∀ x, x ∈ ws → WdOk x) ∧ JC (n + 10 * m) J' := by
  obtain ⟨ws, J', f3, f4, h1, h2, h3, h4, h5⟩ := words_loop hr hm m 0 n J [] none none hJ (by omega) (by simp) (by simp) (by simp)
  rw [← List.range_eq_range'] at h1
  refine ⟨ws, J', (words_walk (fun st => rg1_eq rfl (by omega)) h1).trans ?_, h2, h3, h4, h5⟩
  exact fin_lst (st := J' :: rest) (loc := [.lst (ws.map sW)]) (NL_cons h5.nl hr) (by simp) (Nat.le_refl _) nls_words
theorem len_str' {x : PySem.Str} {st : Sto} (h : x.length ≤ 16777216) : biT st .len [.str x] = some (.int x.length) := if_pos h
theorem letter_in : ∀ c : Fin 26, strIn (W [97 + c.val]) "abcdefghijklmnopqrstuvwxyz" = true := by decide +kernel
theorem figure_in : ∀ c : Fin 10, strIn (W [48 + c.val]) "0123456789" = true := by decide +kernel
theorem lt_in {c : Nat} {st : Sto} (h : Lt c) : inT st (.str (W [c])) (.str "abcdefghijklmnopqrstuvwxyz") = some true := by
  have := letter_in ⟨c - 97, by unfold Lt at h; omega⟩
  have e : 97 + (c - 97) = c := by unfold Lt at h; omega
  simp only [e] at this
  show some (strIn _ _) = _
  rw [this]
theorem sg_in {c : Nat} {st : Sto} (h : Sg c) : ∃ k, inT st (.str (W [c])) (.str "abcdefghijklmnopqrstuvwxyz") = some k ∧ (k = false → inT st (.str (W [c])) (.str "0123456789") = some true) := by
  rcases h with h | h
  · exact ⟨true, lt_in h, by simp⟩
  · refine ⟨strIn (W [c]) "abcdefghijklmnopqrstuvwxyz", rfl, fun _ => ?_⟩
    have := figure_in ⟨c - 48, by omega⟩
    have e : 48 + (c - 48) = c := by omega
    simp only [e] at this
    show some (strIn _ _) = _
    rw [this]
theorem chars_W {w : List Nat} : chars (W w) = w.map fun c => T.str (W [c]) := by
  simp [chars, W]
theorem all_true {B : Type} {xs : List B} {st : Sto} : biT st .all [.lst (xs.map fun _ => T.bl true)] = some (.bl true) := by
  have : ∀ xs : List B, blsOf (xs.map fun _ => T.bl true) = some (xs.map fun _ => true) := fun xs => by
    induction xs with
    | nil => rfl
    | cons x xs ih => show (blsOf (xs.map fun _ => T.bl true)).map (true :: ·) = _; rw [ih]; rfl
  show ((some (xs.map fun _ => T.bl true)).bind blsOf).map (fun bs => T.bl (bs.all id)) = _
  rw [Option.bind_some, this]
  simp
theorem W_ix0 {c : Nat} {w : List Nat} {st : Sto} (h : w.length ≤ 100) (h0 : w[0]? = some c) : ixT st (.str (W w)) (.int 0) = some (.str (W [c])) := by
  show (if (W w).length ≤ lim then (L2.atI (W w).cps.toList 0).map fun c => T.str ⟨#[c]⟩ else none) = _
  rw [if_pos (by rw [len_W]; simp [lim]; omega)]
  have : (W w).cps.toList = w := by simp [W]
  rw [this, show (0 : Int) = ((0 : Nat) : Int) from rfl, L2.atI_nat h0]
  rfl
theorem name_walk {w : List Nat} {c : Nat} {st : Sto} (h1 : 1 ≤ w.length) (h2 : w.length ≤ 8) (ix : ixT st (.str (W w)) (.int 0) = some (.str (W [c]))) (i1 : inT st (.str (W [c])) (.str "abcdefghijklmnopqrstuvwxyz") = some true)
    (l : biT st .len [.str (W w)] = some (.int w.length))
    (h : fLc [1] (e1_is_name.ev tb_is_name) (.name 1) (fSeq (evV 0)) fYes [some (.str (W w)), none] st = .ok (w.map fun _ => T.bl true) st) (al : biT st .all [.lst (w.map fun _ => T.bl true)] = some (.bl true)) :
    F_is_name [.str (W w)] st = finR tb_is_name.cls false st.length (.bl true) st := by
  have h1' : (1 : Int) ≤ w.length := by omega
  have h2' : (w.length : Int) ≤ 8 := by omega
  simp! [F_is_name, tbf_of_is_name, tbc_of_is_name, i0_of_is_name, i1_of_is_name, i2_of_is_name, i3_of_is_name, i4_of_is_name, i5_of_is_name, b_is_name, ap_fGl, Z24, Z15, Z23, Z22, Z14, l, h1', h2', cmpT, ix, i1, h, al, asBl]
theorem is_name_ok {w : List Nat} {st : Sto} (hs : NL st) (hw : WdOk w) : F_is_name [.str (W w)] st = .ok (.bl true) st := by
  obtain ⟨h1, h2, h3, h4⟩ := hw
  have hc : ∃ c, w[0]? = some c := ⟨w[0], List.getElem?_eq_getElem (by omega)⟩
  obtain ⟨c, hc⟩ := hc
  refine (name_walk h1 h2 (W_ix0 (by omega) hc) (lt_in (h4 c hc)) (by rw [len_str' (by rw [len_W]; omega), len_W]) ?_ all_true).trans (Z20 hs (by simp))
  refine lc_mapE (emb := fun c => T.str (W [c])) (by simp! [ap_fGl, Z24, Z15, Z23, Z22, Z14, chars_W]) (by omega) fun x hx => ?_
  obtain ⟨k, k1, k2⟩ := sg_in (st := st) (h3 x hx)
  cases k with
  | true => simp! [fTurn, wipeE, e1_is_name, tbf_of_is_name, tbc_of_is_name, i0_of_is_name, i1_of_is_name, i2_of_is_name, i3_of_is_name, i4_of_is_name, i5_of_is_name, ap_fGl, Z24, Z15, Z23, Z22, Z14, cmpT, k1, asBl]
  | false => simp! [fTurn, wipeE, e1_is_name, tbf_of_is_name, tbc_of_is_name, i0_of_is_name, i1_of_is_name, i2_of_is_name, i3_of_is_name, i4_of_is_name, i5_of_is_name, ap_fGl, Z24, Z15, Z23, Z22, Z14, cmpT, k1, k2 rfl, asBl]
theorem in_wordsT {ws : List (List Nat)} {w : List Nat} {st : Sto} (hw : WdOk w) (hws : ∀ x, x ∈ ws → WdOk x) : inT st (sW w) (.tup (ws.map sW)) = some (decide (w ∈ ws)) := by
  have h : ([Cell.lst (ws.map sW)] : Sto)[0]? = some (.lst (ws.map sW)) := rfl
  have := in_words (w := w) h hw hws
  exact this
theorem fin_ins {cs : List Ci} {st : Sto} {c : Nat} {vs : List T} (h : NL st) (hv : Nls vs) (hw : whole cs c vs.length = true) : finR cs false st.length (.loc st.length) (st ++ [.ins c vs]) = .ok (.obj c vs) st := by
  unfold finR
  have hk : kept false st.length (.loc st.length) = none := by
    show (if false = true ∧ st.length ≤ st.length then some st.length else none) = none
    rw [if_neg (by simp)]
  rw [hk]
  simp only [more, List.append_nil, List.take_left']
  rw [h _ fun i hi => frz_id hi, frzW]
  have : frz cs (st ++ [.ins c vs]) (ren st.length none) st.length = some (.obj c vs) := by
    unfold frz frzL ren
    rw [if_neg (by omega), if_neg (by simp)]
    simp only [get_last]
    rw [if_pos hw, hv _]
    rfl
  rw [this]
structure Fits (p : Pa) (g : List (List Int)) (r : Int) : Prop where
  row : ∀ (i : Nat) w m, g[i]? = some w → p.h[i]? = some m → w.sum ≤ r * m.2
  col : ∀ (j : Nat) m, p.g[j]? = some m → colS g j ≤ r * m.2
  all : ∀ d, p.d = some d → (g.map List.sum).sum ≤ r * d
def TbB (n k : Nat) (M : Int) (g : List (List Int)) : Prop := g.length = n ∧ ∀ r, r ∈ g → rowB r k M
theorem TbB.mono {n k : Nat} {M N : Int} {g : List (List Int)} (h : TbB n k M g) (l : M ≤ N) : TbB n k N g := ⟨h.1, fun r hr => ⟨(h.2 r hr).1, fun x hx => ⟨((h.2 r hr).2 x hx).1, Int.le_trans ((h.2 r hr).2 x hx).2 l⟩⟩⟩
theorem walk_nx {g : IG} {f : Fs} {Q : Nat → Env → Sto → Prop} {xs : List T} {env : Env} {st : Sto} (h0 : Q 0 env st)
    (h : ∀ i x env st, xs[i]? = some x → Q i env st → ∃ env1 env2 st2, g.set x env = some env1 ∧ f env1 st = .nx env2 st2 ∧ Q (i + 1) env2 st2) :
    ∃ env2 st2, walkO g f xs env st = .nx env2 st2 ∧ Q xs.length env2 st2 := by
  have := walk_inv (g := g) (f := f) (P := Q) (Q := fun o => ∃ env2 st2, o = .nx env2 st2 ∧ Q xs.length env2 st2) (xs := xs) (n := 0) h0 (fun i x env st hx hq => by
    rw [Nat.zero_add] at hq ⊢
    obtain ⟨env1, env2, st2, a, b, c⟩ := h i x env st hx hq
    exact ⟨env1, a, .inl ⟨env2, st2, .inl b, c⟩⟩) (fun env st hq => ⟨env, st, rfl, by rw [Nat.zero_add] at hq; exact hq⟩)
  exact this
theorem rng_get {n i : Nat} {x : T} (h : ((List.range n).map fun (j : Nat) => T.int (j : Int))[i]? = some x) : i < n ∧ x = .int i := by
  rw [List.getElem?_map] at h
  by_cases hi : i < n
  · rw [List.getElem?_range hi] at h
    simp at h
    exact ⟨hi, h.symm⟩
  · rw [List.getElem?_eq_none (by simpa using hi)] at h
    simp at h
abbrev bare (p : Pa) : Pa := ⟨p.h, p.g, none⟩
def tn (p : Pa) (g : List (List Int)) (r : Int) : Option Int := if r < due (bare p) g then none else some (if r = 0 then 0 else -(-(g.map List.sum).sum / r))
theorem evSs_app (tb : Tab) : ∀ (a b : List IS) (env : Env) (st : Sto), Z16 tb (a ++ b) env st = (Z16 tb a env st).seq (Z16 tb b)
  | [], b, env, st => by rw [ap_evSs0, seq_nx']; rfl
  | s :: a, b, env, st => by
    rw [List.cons_append, ap_evSs, ap_evSs]
    cases s.ev tb env st with
    | nx env1 st1 => rw [seq_nx', seq_nx', evSs_app tb a b]
    | _ => rfl
structure Split (p q : Pa) (g g2 : List (List Int)) (m m1 m2 : List Nat × Int) (r u v : List Int) : Prop where
  ex : ∃ A B X Y, p.h = A ++ m :: B ∧ q.h = A ++ m1 :: m2 :: B ∧ g = X ++ r :: Y ∧ g2 = X ++ u :: v :: Y ∧ X.length = A.length
  hg : q.g = p.g
  hd : q.d = p.d
  sum : r.sum = u.sum + v.sum
  col : ∀ j, r.getD j 0 = u.getD j 0 + v.getD j 0
  bd : m.2 = m1.2 + m2.2
theorem Split.all {p q : Pa} {g g2 : List (List Int)} {m m1 m2 : List Nat × Int} {r u v : List Int} (s : Split p q g g2 m m1 m2 r u v) : (g2.map List.sum).sum = (g.map List.sum).sum := by
  obtain ⟨A, B, X, Y, h1, h2, h3, h4, h5⟩ := s.ex
  rw [h3, h4, List.map_append, List.map_append, List.sum_append, List.sum_append, List.map_cons, List.map_cons, List.map_cons, List.sum_cons, List.sum_cons, List.sum_cons, s.sum]
  omega
def c0 (l u : Int) (a b : Bool) : Int := if a && !b then u else if b && !a then -l else 0
def sr (n : Nat) (f : Nat → Int) : Int := ((List.range n).map f).sum
theorem sr_congr {f h : Nat → Int} {n : Nat} (k : ∀ i, i < n → f i = h i) : sr n f = sr n h := by
  unfold sr
  congr 1
  exact List.map_congr_left fun i hi => k i (List.mem_range.mp hi)
def fC (g : List (List Int)) (i j : Nat) : Int := (g.getD i []).getD j 0
def w0 (p : Pa) (g : List (List Int)) (r : Int) : Int := match p.d with
  | none => (g.map List.sum).sum
  | some d => d * r
def b2 (b : Bool) : Int := if b then 1 else 0
structure Bij (n : Nat) (o q : Nat → Nat) : Prop where
  ol : ∀ a, a < n → o a < n
  ql : ∀ a, a < n → q a < n
  qo : ∀ a, a < n → q (o a) = a
  oq : ∀ a, a < n → o (q a) = a
  s : ∀ f : Nat → Int, sr n (fun a => f (o a)) = sr n f
theorem Bij.symm {n : Nat} {o q : Nat → Nat} (h : Bij n o q) : Bij n q o := ⟨h.ql, h.ol, h.oq, h.qo, fun f => by
  rw [← h.s fun a => f (q a)]
  exact sr_congr fun a ha => by rw [h.qo a ha]⟩
structure Img (p p' : Pa) (g g' : List (List Int)) (o0 o1 : Nat → Nat) : Prop where
  hl : p'.h.length = p.h.length
  gl : p'.g.length = p.g.length
  hb : ∀ a, a < p.h.length → (p'.h.getD a ([], 0)).2 = (p.h.getD (o0 a) ([], 0)).2
  gb : ∀ a, a < p.g.length → (p'.g.getD a ([], 0)).2 = (p.g.getD (o1 a) ([], 0)).2
  d : p'.d = p.d
  g : ∀ a b, a < p.h.length → b < p.g.length → fC g' a b = fC g (o0 a) (o1 b)
theorem Img.symm {p p' : Pa} {g g' : List (List Int)} {o0 o1 q0 q1 : Nat → Nat} (b0 : Bij p.h.length o0 q0) (b1 : Bij p.g.length o1 q1) (h : Img p p' g g' o0 o1) : Img p' p g' g q0 q1 := by
  refine ⟨h.hl.symm, h.gl.symm, fun a ha => ?_, fun a ha => ?_, h.d.symm, fun a b ha hb => ?_⟩
  · rw [h.hl] at ha
    rw [h.hb _ (b0.ql a ha), b0.oq a ha]
  · rw [h.gl] at ha
    rw [h.gb _ (b1.ql a ha), b1.oq a ha]
  · rw [h.hl] at ha
    rw [h.gl] at hb
    rw [h.g _ _ (b0.ql a ha) (b1.ql b hb), b0.oq a ha, b1.oq b hb]
theorem nls_one {t : T} (h : Nl t) : Nls [t] := fun f => by simp [frzWs, h f]
theorem finO_nlx {cs : List Ci} {md : Bool} {st : Sto} {c : Nat} {t : T} {env : Env} (h : NL st) (ht : Nl t) : finO cs md st.length (.exc (.exc c [t]) env st) = .exc (.exc c [t]) st := by
  rw [finO_exc]
  simp only [more, List.append_nil, List.take_length]
  rw [h _ fun i hi => frz_id hi, (nls_one ht) _]
@[simp] theorem cut_take6 {A : Type} {xs : List A} : cut xs none (some 6) = xs.take 6 := cut_take (k := 6)
mutual
theorem eqv_self : ∀ t : T, data t = true → eqv t t = true
  | .non, _ => by simp [eqv]
  | .bl _, _ => by simp [eqv]
  | .int _, _ => by simp [eqv]
  | .str _, _ => by simp [eqv]
  | .tup xs, h => by rw [eqv]; exact eqvs_self xs (by rw [data] at h; exact h)
  | .lst xs, h => by rw [eqv]; exact eqvs_self xs (by rw [data] at h; exact h)
  | .obj _ _, h => by simp [data] at h
  | .exc _ _, h => by simp [data] at h
  | .loc _, h => by simp [data] at h
  | .scr _, h => by simp [data] at h
theorem eqvs_self : ∀ ts : List T, datas ts = true → eqvs ts ts = true
  | [], _ => by simp [eqvs]
  | t :: ts, h => by
    rw [datas, Bool.and_eq_true] at h
    rw [eqvs, eqv_self t h.1, eqvs_self ts h.2]; rfl
end
theorem eqT_self {t : T} (h : data t = true) (hd : dep t ≤ 60) : eqT t t = some true := by
  rw [eqT_of h h hd hd, eqv_self t h]
structure BInv (p : Pa) (R : List (List Int)) (l : List (List (List Int) × Int)) : Prop where
  g : GOk p R
  ent : ∀ i j, i < p.h.length → j < p.g.length → fC R i j = (l.map fun b => b.2 * fC b.1 i j).sum
  blk : ∀ b, b ∈ l → GOk p b.1 ∧ Fits p b.1 1 ∧ 0 ≤ b.2 ∧ b.2 ≤ 17000000000000000000000000000000
  low : (l.map (·.2)).sum ≤ due p R
theorem BInv.drop {p : Pa} {R t : List (List Int)} {l : List (List (List Int) × Int)} (h : BInv p R ((t, 0) :: l)) : BInv p R l := by
  refine ⟨h.g, fun i j hi hj => ?_, fun b hb => h.blk b (List.mem_cons_of_mem _ hb), ?_⟩
  · rw [h.ent i j hi hj, List.map_cons, List.sum_cons, Int.zero_mul, Int.zero_add]
  · have := h.low
    rw [List.map_cons, List.sum_cons] at this
    omega
def nd (d : Int) : List Nat := if d < 10 then [48 + d.toNat] else [49, 38 + d.toNat]
theorem pa_ext {p q : Pa} (h1 : p.h = q.h) (h2 : p.g = q.g) (h3 : p.d = q.d) : p = q := by cases p; cases q; simp_all
instance decPa (p q : Pa) : Decidable (p = q) := if h : p.h = q.h ∧ p.g = q.g ∧ p.d = q.d then isTrue (pa_ext h.1 h.2.1 h.2.2) else isFalse fun z => h (by rw [z]; exact ⟨rfl, rfl, rfl⟩)
def WC (n : Nat) (c : Cell) : Prop := ∃ m g k : Int, c = .lst [.int m, .int g, .int k] ∧ 0 ≤ g ∧ 0 ≤ m ∧ m < 2 ^ 64 ∧ 0 ≤ k ∧ k ≤ n
theorem WC.nl {n : Nat} {c : Cell} (h : WC n c) : ∀ f, frzC f c = some c := by
  obtain ⟨g, m, k, rfl, _⟩ := h
  intro f
  show (frzWs f [.int g, .int m, .int k]).map Cell.lst = _
  rw [show frzWs f [.int g, .int m, .int k] = some [.int g, .int m, .int k] from (by simp : Nls [.int g, .int m, .int k]) f]
  rfl
theorem WC.mono {n m : Nat} {c : Cell} (h : WC n c) (hl : n ≤ m) : WC m c := by
  obtain ⟨g, a, k, rfl, h1, h2, h3, h4, h5⟩ := h
  exact ⟨g, a, k, rfl, h1, h2, h3, h4, by omega⟩
def ShD (t : T) (k b : Nat) : Prop := data t = true ∧ shI t = true ∧ dep t ≤ k ∧ shB t ≤ b
theorem ShD.mono {t : T} {k b k2 b2 : Nat} (h : ShD t k b) (hk : k ≤ k2) (hb : b ≤ b2) : ShD t k2 b2 := ⟨h.1, h.2.1, Nat.le_trans h.2.2.1 hk, Nat.le_trans h.2.2.2 hb⟩
theorem shD_z {x : Int} (h : x.natAbs < 2 ^ 128) : ShD (.int x) 0 130 := by
  have hl : x.natAbs.log2 < 128 := by
    by_cases c : x.natAbs = 0
    · rw [c]; decide
    · exact (Nat.log2_lt c).mpr h
  refine ⟨rfl, ?_, by simp [dep], ?_⟩
  · simp only [shI]
    exact decide_eq_true (by omega)
  · simp only [shB]
    omega
theorem pow9 : binT .Pow (.int 10) (.int 30) = some (.int 1000000000000000000000000000000) := by
  have h : PowOk 10 30 := by decide
  simp [binT, h]
theorem walkO_nx9 {g : IG} {f : Fs} {x : T} {xs : List T} {env e1 e2 : Env} {st st2 : Sto} (h1 : IG.set g x env = some e1) (h2 : f e1 st = .nx e2 st2) : walkO g f (x :: xs) env st = walkO g f xs e2 st2 := by
  rw [walkO, h1]
  dsimp only
  rw [h2]
theorem allB8 {A : Type} {xs : List A} {f : A → Bool} {st : Sto} : biT st .all [.lst (xs.map fun q => T.bl (f q))] = some (.bl (xs.all f)) := by
  have e : blsOf (xs.map fun q => T.bl (f q)) = some (xs.map f) := by
    induction xs with
    | nil => rfl
    | cons x l ih => simp [blsOf, ih]
  show ((some (xs.map fun q => T.bl (f q))).bind blsOf).map (fun bs => T.bl (bs.all id)) = _
  rw [Option.bind_some, e]
  simp [List.all_map]
def ShE (t : T) (k b : Nat) : Prop := Z29 t = true ∧ shI t = true ∧ dep t ≤ k ∧ shB t ≤ b
theorem ShE.of {t : T} {k b : Nat} (h : ShD t k b) : ShE t k b := ⟨data_E t h.1, h.2.1, h.2.2.1, h.2.2.2⟩
theorem ShE.mono {t : T} {k b k2 b2 : Nat} (h : ShE t k b) (hk : k ≤ k2) (hb : b ≤ b2) : ShE t k2 b2 := ⟨h.1, h.2.1, Nat.le_trans h.2.2.1 hk, Nat.le_trans h.2.2.2 hb⟩
theorem shE_all {k b : Nat} : ∀ {xs : List T}, (∀ x, x ∈ xs → ShE x k b) → datasE xs = true ∧ shIs xs = true ∧ deps xs ≤ k ∧ shBs xs ≤ xs.length * (b + 2)
  | [], _ => ⟨rfl, rfl, by simp [deps], by simp [shBs]⟩
  | x :: xs, h => by
    obtain ⟨a, c, d, e⟩ := shE_all (xs := xs) fun y hy => h y (List.mem_cons_of_mem _ hy)
    obtain ⟨a1, c1, d1, e1⟩ := h x List.mem_cons_self
    refine ⟨by simp [datasE, a, a1], by simp [shIs, c, c1], by simp only [deps]; omega, ?_⟩
    simp only [shBs, List.length_cons, Nat.add_mul, Nat.one_mul]
    omega
theorem shE_tup {xs : List T} {k b n : Nat} (hn : xs.length ≤ n) (h : ∀ x, x ∈ xs → ShE x k b) : ShE (.tup xs) (k + 1) (3 + n * (b + 2)) := by
  obtain ⟨a, c, d, e⟩ := shE_all h
  have m := Nat.mul_le_mul_right (b + 2) hn
  exact ⟨by simpa [Z29] using a, by simpa [shI] using c, by simp only [dep]; omega, by simp only [shB]; omega⟩
theorem shE_lst {xs : List T} {k b n : Nat} (hn : xs.length ≤ n) (h : ∀ x, x ∈ xs → ShE x k b) : ShE (.lst xs) (k + 1) (3 + n * (b + 2)) := by
  obtain ⟨a, c, d, e⟩ := shE_all h
  have m := Nat.mul_le_mul_right (b + 2) hn
  exact ⟨by simpa [Z29] using a, by simpa [shI] using c, by simp only [dep]; omega, by simp only [shB]; omega⟩
theorem rep_shE {t : T} {k b : Nat} (h : ShE t k b) (hk : k ≤ 10) (hb : b ≤ 16777216) (hf : ∀ st, frozen st t = t) : (∀ st, reprT st t = some (.str (sh t))) ∧ eqT (.str (sh t)) (.str (sh t)) = some true := by
  obtain ⟨h1, h2, h3, h4⟩ := h
  refine ⟨fun st => repr_ofE (hf st) h1 h2 (by omega) (by omega), eqT_self ?_ (by simp [dep])⟩
  simp only [data]
  exact so_shownE t h1
theorem cut8_to {A : Type} {xs : List A} {n : Nat} : cut xs none (some (n : Int)) = xs.take n := by
  unfold cut
  rw [HT.sIx_none, HT.sIx_nat]
  simp only [List.drop_zero, Nat.sub_zero]
  by_cases h : n ≤ xs.length
  · rw [Nat.min_eq_left h]
  · rw [Nat.min_eq_right (by omega), List.take_of_length_le (Nat.le_refl _), List.take_of_length_le (by omega)]
def intB : T → Bool
  | .int _ => true
  | _ => false
def wB (lo hi : Int) : T → Bool
  | .int i => decide (lo ≤ i) && decide (i ≤ hi)
  | _ => false
theorem ii4 {t : T} {st : Sto} (hs : NL st) (h : Z29 t = true) : Z66 [t] st = .ok (.bl (intB t)) st := by
  cases t with
  | non =>
    simp! [Z66, tbf_of_is_integer_k04, tbc_of_is_integer_k04, i0_of_is_integer_k04, i1_of_is_integer_k04, i2_of_is_integer_k04, i3_of_is_integer_k04, i4_of_is_integer_k04, i5_of_is_integer_k04, i7_of_is_integer_k04, i8_of_is_integer_k04, i9_of_is_integer_k04, i10_of_is_integer_k04, i11_of_is_integer_k04, i12_of_is_integer_k04, i13_of_is_integer_k04, i15_of_is_integer_k04, b_is_integer_k04, Z15, Z14]
    exact Z20 hs (by simp)
  | bl b =>
    simp! [Z66, tbf_of_is_integer_k04, tbc_of_is_integer_k04, i0_of_is_integer_k04, i1_of_is_integer_k04, i2_of_is_integer_k04, i3_of_is_integer_k04, i4_of_is_integer_k04, i5_of_is_integer_k04, i7_of_is_integer_k04, i8_of_is_integer_k04, i9_of_is_integer_k04, i10_of_is_integer_k04, i11_of_is_integer_k04, i12_of_is_integer_k04, i13_of_is_integer_k04, i15_of_is_integer_k04, b_is_integer_k04, Z15, Z14]
    exact Z20 hs (by simp)
  | int i =>
    simp! [Z66, tbf_of_is_integer_k04, tbc_of_is_integer_k04, i0_of_is_integer_k04, i1_of_is_integer_k04, i2_of_is_integer_k04, i3_of_is_integer_k04, i4_of_is_integer_k04, i5_of_is_integer_k04, i7_of_is_integer_k04, i8_of_is_integer_k04, i9_of_is_integer_k04, i10_of_is_integer_k04, i11_of_is_integer_k04, i12_of_is_integer_k04, i13_of_is_integer_k04, i15_of_is_integer_k04, b_is_integer_k04, Z15, Z14]
    exact Z20 hs (by simp)
  | str x =>
    simp! [Z66, tbf_of_is_integer_k04, tbc_of_is_integer_k04, i0_of_is_integer_k04, i1_of_is_integer_k04, i2_of_is_integer_k04, i3_of_is_integer_k04, i4_of_is_integer_k04, i5_of_is_integer_k04, i7_of_is_integer_k04, i8_of_is_integer_k04, i9_of_is_integer_k04, i10_of_is_integer_k04, i11_of_is_integer_k04, i12_of_is_integer_k04, i13_of_is_integer_k04, i15_of_is_integer_k04, b_is_integer_k04, Z15, Z14]
    exact Z20 hs (by simp)
  | tup xs =>
    simp! [Z66, tbf_of_is_integer_k04, tbc_of_is_integer_k04, i0_of_is_integer_k04, i1_of_is_integer_k04, i2_of_is_integer_k04, i3_of_is_integer_k04, i4_of_is_integer_k04, i5_of_is_integer_k04, i7_of_is_integer_k04, i8_of_is_integer_k04, i9_of_is_integer_k04, i10_of_is_integer_k04, i11_of_is_integer_k04, i12_of_is_integer_k04, i13_of_is_integer_k04, i15_of_is_integer_k04, b_is_integer_k04, Z15, Z14]
    exact Z20 hs (by simp)
  | lst xs =>
    simp! [Z66, tbf_of_is_integer_k04, tbc_of_is_integer_k04, i0_of_is_integer_k04, i1_of_is_integer_k04, i2_of_is_integer_k04, i3_of_is_integer_k04, i4_of_is_integer_k04, i5_of_is_integer_k04, i7_of_is_integer_k04, i8_of_is_integer_k04, i9_of_is_integer_k04, i10_of_is_integer_k04, i11_of_is_integer_k04, i12_of_is_integer_k04, i13_of_is_integer_k04, i15_of_is_integer_k04, b_is_integer_k04, Z15, Z14]
    exact Z20 hs (by simp)
  | edt =>
    simp! [Z66, tbf_of_is_integer_k04, tbc_of_is_integer_k04, i0_of_is_integer_k04, i1_of_is_integer_k04, i2_of_is_integer_k04, i3_of_is_integer_k04, i4_of_is_integer_k04, i5_of_is_integer_k04, i7_of_is_integer_k04, i8_of_is_integer_k04, i9_of_is_integer_k04, i10_of_is_integer_k04, i11_of_is_integer_k04, i12_of_is_integer_k04, i13_of_is_integer_k04, i15_of_is_integer_k04, b_is_integer_k04, Z15, Z14]
    exact Z20 hs (by simp)
  | _ => simp [Z29] at h
theorem iw4 {t : T} {lo hi : Int} {st : Sto} (hs : NL st) (h : Z29 t = true) : Z76 [t, .int lo, .int hi] st = .ok (.bl (wB lo hi t)) st := by
  have e := ii4 hs h
  have no : intB t = false → wB lo hi t = false → Z76 [t, .int lo, .int hi] st = .ok (.bl (wB lo hi t)) st := fun h1 h2 => by
    rw [h1] at e
    rw [h2]
    simp! [Z76, tbf_of_is_within_k04, tbc_of_is_within_k04, b_is_within_k04, Z24, Z15, Z23, Z22, Z14, asBl, e]
    exact Z20 hs (by simp)
  cases t with
  | int i =>
    have e : Z66 [.int i] st = .ok (.bl true) st := e
    by_cases h1 : lo ≤ i
    · by_cases h2 : i ≤ hi
      · simp! [Z76, tbf_of_is_within_k04, tbc_of_is_within_k04, b_is_within_k04, Z24, Z15, Z23, Z22, Z14, asBl, e, h1, h2, wB]
        exact Z20 hs (by simp)
      · simp! [Z76, tbf_of_is_within_k04, tbc_of_is_within_k04, b_is_within_k04, Z24, Z15, Z23, Z22, Z14, asBl, e, h1, h2, wB]
        exact Z20 hs (by simp)
    · simp! [Z76, tbf_of_is_within_k04, tbc_of_is_within_k04, b_is_within_k04, Z24, Z15, Z23, Z22, Z14, asBl, e, h1, wB]
      exact Z20 hs (by simp)
  | _ => exact no rfl rfl
theorem lw4 {t : T} {lo hi : Int} {st : Sto} (hs : NL st) (h : Z29 t = true) : Z30 [t, .int lo, .int hi] st = .ok (.bl (wB lo hi t)) st := by
  cases t with
  | int i =>
    by_cases h1 : lo ≤ i
    · by_cases h2 : i ≤ hi
      · simp! [Z30, Z74, Z70, Z80, Z81, Z83, Z79, Z78, Z85, Z82, Z86, Z84, Z71, Z67, Z73, Z75, Z72, Z87, Z24, Z15, Z23, Z22, Z14, asBl, h1, h2, wB]
        exact Z20 hs (by simp)
      · simp! [Z30, Z74, Z70, Z80, Z81, Z83, Z79, Z78, Z85, Z82, Z86, Z84, Z71, Z67, Z73, Z75, Z72, Z87, Z24, Z15, Z23, Z22, Z14, asBl, h1, h2, wB]
        exact Z20 hs (by simp)
    · simp! [Z30, Z74, Z70, Z80, Z81, Z83, Z79, Z78, Z85, Z82, Z86, Z84, Z71, Z67, Z73, Z75, Z72, Z87, Z24, Z15, Z23, Z22, Z14, asBl, h1, wB]
      exact Z20 hs (by simp)
  | non =>
    simp! [Z30, Z74, Z70, Z80, Z81, Z83, Z79, Z78, Z85, Z82, Z86, Z84, Z71, Z67, Z73, Z75, Z72, Z87, Z24, Z15, Z23, Z22, Z14, asBl, wB]
    exact Z20 hs (by simp)
  | bl b =>
    simp! [Z30, Z74, Z70, Z80, Z81, Z83, Z79, Z78, Z85, Z82, Z86, Z84, Z71, Z67, Z73, Z75, Z72, Z87, Z24, Z15, Z23, Z22, Z14, asBl, wB]
    exact Z20 hs (by simp)
  | str x =>
    simp! [Z30, Z74, Z70, Z80, Z81, Z83, Z79, Z78, Z85, Z82, Z86, Z84, Z71, Z67, Z73, Z75, Z72, Z87, Z24, Z15, Z23, Z22, Z14, asBl, wB]
    exact Z20 hs (by simp)
  | tup xs =>
    simp! [Z30, Z74, Z70, Z80, Z81, Z83, Z79, Z78, Z85, Z82, Z86, Z84, Z71, Z67, Z73, Z75, Z72, Z87, Z24, Z15, Z23, Z22, Z14, asBl, wB]
    exact Z20 hs (by simp)
  | lst xs =>
    simp! [Z30, Z74, Z70, Z80, Z81, Z83, Z79, Z78, Z85, Z82, Z86, Z84, Z71, Z67, Z73, Z75, Z72, Z87, Z24, Z15, Z23, Z22, Z14, asBl, wB]
    exact Z20 hs (by simp)
  | edt =>
    simp! [Z30, Z74, Z70, Z80, Z81, Z83, Z79, Z78, Z85, Z82, Z86, Z84, Z71, Z67, Z73, Z75, Z72, Z87, Z24, Z15, Z23, Z22, Z14, asBl, wB]
    exact Z20 hs (by simp)
  | _ => simp [Z29] at h
def ltB (c : Nat) : Bool := decide (97 ≤ c) && decide (c ≤ 122)
def dgB (c : Nat) : Bool := decide (48 ≤ c) && decide (c ≤ 57)
theorem in_lt4 : ∀ i : Fin 128, strIn (W [i.val]) "abcdefghijklmnopqrstuvwxyz" = ltB i.val := by decide +kernel
theorem in_dg4 : ∀ i : Fin 128, strIn (W [i.val]) "0123456789" = dgB i.val := by decide +kernel
def sgB (c : Nat) : Bool := ltB c || dgB c
theorem in_sg4 : ∀ i : Fin 128, strIn (W [i.val]) "abcdefghijklmnopqrstuvwxyz0123456789" = sgB i.val := by decide +kernel
theorem add4 : binT .Add (.str "abcdefghijklmnopqrstuvwxyz") (.str "0123456789") = some (.str "abcdefghijklmnopqrstuvwxyz0123456789") := by
  have e : ("abcdefghijklmnopqrstuvwxyz" : PySem.Str) ++ ("0123456789" : PySem.Str) = "abcdefghijklmnopqrstuvwxyz0123456789" := by decide +kernel
  rw [bin_str (by decide +kernel), e]
def nmB (w : List Nat) : Bool := decide (1 ≤ w.length) && decide (w.length ≤ 8) && ltB (w.headD 0) && w.all sgB
theorem nmB_wd {w : List Nat} (h : WdOk w) : nmB w = true := by
  obtain ⟨h1, h2, h3, h4⟩ := h
  unfold nmB
  cases w with
  | nil => simp at h1
  | cons c l =>
    have a := h4 c rfl
    unfold Lt at a
    have b : (c :: l).all sgB = true := List.all_eq_true.mpr fun x hx => by
      have := h3 x hx
      unfold Sg Lt at this
      unfold sgB ltB dgB
      simp
      omega
    rw [b]
    unfold ltB
    simp
    simp at h2
    omega
theorem name4 {w : List Nat} {st : Sto} (hs : NL st) (hw : ∀ c, c ∈ w → c < 128) (hl : w.length ≤ 1000) : F_is_name [.str (W w)] st = .ok (.bl (nmB w)) st ∧ Z62 [.str (W w)] st = .ok (.bl (nmB w)) st := by
  have l : biT st .len [.str (W w)] = some (.int w.length) := by rw [len_str' (by rw [len_W]; omega), len_W]
  by_cases h1 : (1 : Int) ≤ w.length
  · by_cases h2 : (w.length : Int) ≤ 8
    · cases w with
      | nil => simp at h1
      | cons c r =>
        have hc := hw c List.mem_cons_self
        have ix : ixT st (.str (W (c :: r))) (.int 0) = some (.str (W [c])) := W_ix0 (by omega) rfl
        have i1 : inT st (.str (W [c])) (.str "abcdefghijklmnopqrstuvwxyz") = some (ltB c) := congrArg some (in_lt4 ⟨c, hc⟩)
        have i0 : ∀ x, x ∈ c :: r → inT st (.str (W [x])) (.str "abcdefghijklmnopqrstuvwxyz") = some (ltB x) ∧ inT st (.str (W [x])) (.str "0123456789") = some (dgB x) ∧ inT st (.str (W [x])) (.str "abcdefghijklmnopqrstuvwxyz0123456789") = some (sgB x) := fun x hx => ⟨congrArg some (in_lt4 ⟨x, hw x hx⟩), congrArg some (in_dg4 ⟨x, hw x hx⟩), congrArg some (in_sg4 ⟨x, hw x hx⟩)⟩
        have c1 : fLc [1] (e1_is_name.ev tb_is_name) (.name 1) (fSeq (evV 0)) fYes [some (.str (W (c :: r))), none] st = .ok ((c :: r).map fun x => T.bl (sgB x)) st := by
          refine lc_mapE (emb := fun c => T.str (W [c])) (by simp! [ap_fGl, Z24, Z18, Z15, Z23, Z22, Z17, Z14, chars_W]) (by omega) fun x hx => ?_
          obtain ⟨k1, k2, _⟩ := i0 x hx
          cases hk : ltB x with
          | true =>
            rw [hk] at k1
            have sg : sgB x = true := by unfold sgB; rw [hk]; rfl
            simp! [fTurn, wipeE, e1_is_name, tbf_of_is_name, tbc_of_is_name, i0_of_is_name, i1_of_is_name, i2_of_is_name, i3_of_is_name, i4_of_is_name, i5_of_is_name, ap_fGl, Z24, Z18, Z15, Z23, Z22, Z17, Z14, cmpT, k1, asBl, sg]
          | false =>
            rw [hk] at k1
            have sg : sgB x = dgB x := by unfold sgB; rw [hk]; rfl
            simp! [fTurn, wipeE, e1_is_name, tbf_of_is_name, tbc_of_is_name, i0_of_is_name, i1_of_is_name, i2_of_is_name, i3_of_is_name, i4_of_is_name, i5_of_is_name, ap_fGl, Z24, Z18, Z15, Z23, Z22, Z17, Z14, cmpT, k1, k2, asBl, sg]
        have c2 : fLc [2] (e1_law_is_name.ev Z69) (.name 2) (fSeq (evV 0)) (fTst (q1_law_is_name.ev Z69)) [some (.str (W (c :: r))), some (.str "abcdefghijklmnopqrstuvwxyz"), none] st = .ok ((c :: r).filterMap fun x => if sgB x = true then none else some (T.str (W [x]))) st := by
          refine lc_filterE (ys := c :: r) (emb := fun c => T.str (W [c])) (by simp! [ap_fGl, Z24, Z18, Z15, Z23, Z22, Z17, Z14, chars_W]) (by omega) fun x hx => ?_
          obtain ⟨_, _, k3⟩ := i0 x hx
          have bt := add4
          cases hk : sgB x with
          | true =>
            rw [hk] at k3
            simp! [fTurn, wipeE, e1_law_is_name, q1_law_is_name, tbf_of_law_is_name, tbc_of_law_is_name, i0_of_law_is_name, i1_of_law_is_name, i2_of_law_is_name, i3_of_law_is_name, i4_of_law_is_name, i5_of_law_is_name, ap_fGl, Z24, Z18, Z15, Z23, Z22, Z17, Z14, cmpT, bt, k3, hk, asBl]
          | false =>
            rw [hk] at k3
            simp! [fTurn, wipeE, e1_law_is_name, q1_law_is_name, tbf_of_law_is_name, tbc_of_law_is_name, i0_of_law_is_name, i1_of_law_is_name, i2_of_law_is_name, i3_of_law_is_name, i4_of_law_is_name, i5_of_law_is_name, ap_fGl, Z24, Z18, Z15, Z23, Z22, Z17, Z14, cmpT, bt, k3, hk, asBl]
        have nm : nmB (c :: r) = (ltB c && (c :: r).all sgB) := by
          unfold nmB
          rw [decide_eq_true (show 1 ≤ (c :: r).length by simp), decide_eq_true (show (c :: r).length ≤ 8 by exact_mod_cast h2)]
          rfl
        have a1 := allB8 (xs := c :: r) (f := sgB) (st := st)
        have e1 : eqT (.lst ((c :: r).filterMap fun x => if sgB x = true then none else some (T.str (W [x])))) (.lst []) = some ((c :: r).all sgB) := by
          have d : ∀ l : List Nat, (∀ x, x ∈ l → x < 128) → datas (l.filterMap fun x => if sgB x = true then none else some (T.str (W [x]))) = true ∧ deps (l.filterMap fun x => if sgB x = true then none else some (T.str (W [x]))) = 0 ∧ (l.filterMap fun x => if sgB x = true then none else some (T.str (W [x]))).isEmpty = l.all sgB := fun l => by
            induction l with
            | nil => intro _; exact ⟨rfl, rfl, rfl⟩
            | cons x l ih =>
              intro hx
              obtain ⟨p, q, s⟩ := ih fun y hy => hx y (List.mem_cons_of_mem _ hy)
              have so : PySem.PyData.strOk (W [x]) = true := so_iff.mpr fun z hz => by
                have := hx x List.mem_cons_self
                have : z = x := by simpa [W] using hz
                omega
              rw [List.filterMap_cons, List.all_cons]
              cases hk : sgB x with
              | true =>
                rw [if_pos rfl]
                exact ⟨p, q, by rw [s]; rfl⟩
              | false =>
                rw [if_neg (by decide)]
                exact ⟨by simp only [datas, data, so, p, Bool.and_self], by simp only [deps, dep, q]; rfl, rfl⟩
          obtain ⟨p, q, s⟩ := d (c :: r) hw
          rw [eqT_of (by simpa only [data] using p) rfl (by simp only [dep]; omega) (by decide), ← s]
          cases hh : (c :: r).filterMap fun x => if sgB x = true then none else some (T.str (W [x])) with
          | nil => rfl
          | cons y l => rfl
        generalize hX : ((c :: r).filterMap fun x => if sgB x = true then none else some (T.str (W [x]))) = X at c2 e1
        generalize hY : ((c :: r).map fun x => T.bl (sgB x)) = Y at c1 a1
        generalize hA : ((c :: r).all sgB) = q at a1 e1 nm
        rw [nm]
        generalize hN : (((c :: r).length : Nat) : Int) = n at h1 h2 l
        generalize hW : W (c :: r) = w at l ix c1 c2 ⊢
        refine ⟨?_, ?_⟩
        · cases hk : ltB c with
          | true =>
            rw [hk] at i1
            simp! [F_is_name, tbf_of_is_name, tbc_of_is_name, i0_of_is_name, i1_of_is_name, i2_of_is_name, i3_of_is_name, i4_of_is_name, i5_of_is_name, b_is_name, ap_fGl, Z24, Z18, Z15, Z23, Z22, Z17, Z14, l, h1, h2, cmpT, ix, i1, c1, a1, asBl]
            exact Z20 hs (by simp)
          | false =>
            rw [hk] at i1
            simp! [F_is_name, tbf_of_is_name, tbc_of_is_name, i0_of_is_name, i1_of_is_name, i2_of_is_name, i3_of_is_name, i4_of_is_name, i5_of_is_name, b_is_name, ap_fGl, Z24, Z18, Z15, Z23, Z22, Z17, Z14, l, h1, h2, cmpT, ix, i1, asBl]
            exact Z20 hs (by simp)
        · cases hk : ltB c with
          | true =>
            rw [hk] at i1
            simp! [Z62, tbf_of_law_is_name, tbc_of_law_is_name, i0_of_law_is_name, i1_of_law_is_name, i2_of_law_is_name, i3_of_law_is_name, i4_of_law_is_name, i5_of_law_is_name, b_law_is_name, ap_fGl, Z24, Z18, Z15, Z23, Z22, Z17, Z14, l, h1, h2, cmpT, ix, i1, c2, e1, asBl]
            exact Z20 hs (by simp)
          | false =>
            rw [hk] at i1
            simp! [Z62, tbf_of_law_is_name, tbc_of_law_is_name, i0_of_law_is_name, i1_of_law_is_name, i2_of_law_is_name, i3_of_law_is_name, i4_of_law_is_name, i5_of_law_is_name, b_law_is_name, ap_fGl, Z24, Z18, Z15, Z23, Z22, Z17, Z14, l, h1, h2, cmpT, ix, i1, asBl]
            exact Z20 hs (by simp)
    · have nm : nmB w = false := by
        unfold nmB
        rw [decide_eq_false (show ¬ (w.length ≤ 8) from fun z => h2 (by exact_mod_cast z)), Bool.and_false]
        rfl
      rw [nm]
      generalize W w = x at l ⊢
      refine ⟨?_, ?_⟩
      · simp! [F_is_name, tbf_of_is_name, tbc_of_is_name, i0_of_is_name, i1_of_is_name, i2_of_is_name, i3_of_is_name, i4_of_is_name, i5_of_is_name, b_is_name, ap_fGl, Z24, Z18, Z15, Z23, Z22, Z17, Z14, l, h1, h2, asBl]
        exact Z20 hs (by simp)
      · simp! [Z62, tbf_of_law_is_name, tbc_of_law_is_name, i0_of_law_is_name, i1_of_law_is_name, i2_of_law_is_name, i3_of_law_is_name, i4_of_law_is_name, i5_of_law_is_name, b_law_is_name, ap_fGl, Z24, Z18, Z15, Z23, Z22, Z17, Z14, l, h1, h2, asBl]
        exact Z20 hs (by simp)
  · have nm : nmB w = false := by
      unfold nmB
      rw [decide_eq_false (show ¬ (1 ≤ w.length) from fun z => h1 (by exact_mod_cast z)), Bool.false_and]
      rfl
    rw [nm]
    generalize W w = x at l ⊢
    refine ⟨?_, ?_⟩
    · simp! [F_is_name, tbf_of_is_name, tbc_of_is_name, i0_of_is_name, i1_of_is_name, i2_of_is_name, i3_of_is_name, i4_of_is_name, i5_of_is_name, b_is_name, ap_fGl, Z24, Z18, Z15, Z23, Z22, Z17, Z14, l, h1, asBl]
      exact Z20 hs (by simp)
    · simp! [Z62, tbf_of_law_is_name, tbc_of_law_is_name, i0_of_law_is_name, i1_of_law_is_name, i2_of_law_is_name, i3_of_law_is_name, i4_of_law_is_name, i5_of_law_is_name, b_law_is_name, ap_fGl, Z24, Z18, Z15, Z23, Z22, Z17, Z14, l, h1, asBl]
      exact Z20 hs (by simp)
inductive Nm4 : T → Bool → Prop
  | str (w : List Nat) (h : ∀ c, c ∈ w → c < 128) (hl : w.length ≤ 100) : Nm4 (.str (W w)) (nmB w)
  | non : Nm4 .non false
  | int (i : Int) : Nm4 (.int i) false
  | tup : Nm4 (.tup [.str "a"]) false
theorem Nm4.nm4ok {x : T} {b : Bool} {st : Sto} (h : Nm4 x b) (hs : NL st) : F_is_name [x] st = .ok (.bl b) st ∧ Z62 [x] st = .ok (.bl b) st := by
  cases h with
  | str w h hl => exact name4 hs h (by omega)
  | non =>
    refine ⟨?_, ?_⟩
    · simp! [F_is_name, tbf_of_is_name, tbc_of_is_name, i0_of_is_name, i1_of_is_name, i2_of_is_name, i3_of_is_name, i4_of_is_name, i5_of_is_name, b_is_name, ap_fGl, Z24, Z18, Z15, Z23, Z22, Z17, Z14, asBl]
      exact Z20 hs (by simp)
    · simp! [Z62, tbf_of_law_is_name, tbc_of_law_is_name, i0_of_law_is_name, i1_of_law_is_name, i2_of_law_is_name, i3_of_law_is_name, i4_of_law_is_name, i5_of_law_is_name, b_law_is_name, ap_fGl, Z24, Z18, Z15, Z23, Z22, Z17, Z14, asBl]
      exact Z20 hs (by simp)
  | int i =>
    refine ⟨?_, ?_⟩
    · simp! [F_is_name, tbf_of_is_name, tbc_of_is_name, i0_of_is_name, i1_of_is_name, i2_of_is_name, i3_of_is_name, i4_of_is_name, i5_of_is_name, b_is_name, ap_fGl, Z24, Z18, Z15, Z23, Z22, Z17, Z14, asBl]
      exact Z20 hs (by simp)
    · simp! [Z62, tbf_of_law_is_name, tbc_of_law_is_name, i0_of_law_is_name, i1_of_law_is_name, i2_of_law_is_name, i3_of_law_is_name, i4_of_law_is_name, i5_of_law_is_name, b_law_is_name, ap_fGl, Z24, Z18, Z15, Z23, Z22, Z17, Z14, asBl]
      exact Z20 hs (by simp)
  | tup =>
    refine ⟨?_, ?_⟩
    · simp! [F_is_name, tbf_of_is_name, tbc_of_is_name, i0_of_is_name, i1_of_is_name, i2_of_is_name, i3_of_is_name, i4_of_is_name, i5_of_is_name, b_is_name, ap_fGl, Z24, Z18, Z15, Z23, Z22, Z17, Z14, asBl]
      exact Z20 hs (by simp)
    · simp! [Z62, tbf_of_law_is_name, tbc_of_law_is_name, i0_of_law_is_name, i1_of_law_is_name, i2_of_law_is_name, i3_of_law_is_name, i4_of_law_is_name, i5_of_law_is_name, b_law_is_name, ap_fGl, Z24, Z18, Z15, Z23, Z22, Z17, Z14, asBl]
      exact Z20 hs (by simp)
inductive El4 : T → Option (List Nat) → Prop
  | good (w : List Nat) (i : Int) (hw : WdOk w) (h1 : 1 ≤ i) (h2 : i ≤ 4) : El4 (mT (w, i)) (some w)
  | pair (x y : T) (b : Bool) (hx : Nm4 x b) (hy : Z29 y = true) (h : (b && wB 1 4 y) = false) : El4 (.tup [x, y]) none
  | other (t : T) (ht : Z29 t = true) (hn : ∀ x y, t ≠ .tup [x, y]) : El4 t none
theorem mem4_p {x y : T} {b c : Bool} {st : Sto} (hs : NL st) (h1 : F_is_name [x] st = .ok (.bl b) st) (h2 : Z76 [y, .int 1, .int 4] st = .ok (.bl c) st) : Z64 [.tup [x, y]] st = .ok (.bl (b && c)) st := by
  cases b with
  | true =>
    simp! [Z64, tbf_of_is_member_k04, tbc_of_is_member_k04, i0_of_is_member_k04, i1_of_is_member_k04, i2_of_is_member_k04, i3_of_is_member_k04, i4_of_is_member_k04, i5_of_is_member_k04, i7_of_is_member_k04, b_is_member_k04, ap_fGl, Z24, Z15, Z23, Z22, Z14, h1, h2]
    exact Z20 hs (by simp)
  | false =>
    simp! [Z64, tbf_of_is_member_k04, tbc_of_is_member_k04, i0_of_is_member_k04, i1_of_is_member_k04, i2_of_is_member_k04, i3_of_is_member_k04, i4_of_is_member_k04, i5_of_is_member_k04, i7_of_is_member_k04, b_is_member_k04, ap_fGl, Z24, Z15, Z23, Z22, Z14, h1]
    exact Z20 hs (by simp)
theorem mem4_n {t : T} {st : Sto} (hs : NL st) (h : (∀ n, isiT n Z60.isi (.ty "tuple") st t = some false) ∨ ∃ xs k, t = .tup xs ∧ biT st .len [.tup xs] = some (.int k) ∧ (k == 2) = false) : Z64 [t] st = .ok (.bl false) st := by
  rcases h with h | ⟨xs, k, rfl, ln, h⟩
  · simp! [Z64, tbf_of_is_member_k04, tbc_of_is_member_k04, i0_of_is_member_k04, i1_of_is_member_k04, i2_of_is_member_k04, i3_of_is_member_k04, i4_of_is_member_k04, i5_of_is_member_k04, i7_of_is_member_k04, b_is_member_k04, ap_fGl, Z15, Z14, h]
    exact Z20 hs (by simp)
  · have ne : ¬ (k = 2) := by simpa using h
    simp! [Z64, tbf_of_is_member_k04, tbc_of_is_member_k04, i0_of_is_member_k04, i1_of_is_member_k04, i2_of_is_member_k04, i3_of_is_member_k04, i4_of_is_member_k04, i5_of_is_member_k04, i7_of_is_member_k04, b_is_member_k04, ap_fGl, Z15, Z14, -len_tup, ln, h, ne]
    exact Z20 hs (by simp)
theorem len2 {xs : List T} (h : ∀ x y, T.tup xs ≠ .tup [x, y]) : xs.length ≠ 2 := fun z => by
  match xs, z, h with
  | [a, b], _, h => exact h a b rfl
theorem El4.el4mem {t : T} {o : Option (List Nat)} {st : Sto} (h : El4 t o) (hs : NL st) : Z64 [t] st = .ok (.bl o.isSome) st := by
  cases h with
  | good w i hw h1 h2 =>
    have a := is_name_ok (st := st) hs hw
    have b := iw4 (t := .int i) (lo := 1) (hi := 4) (st := st) hs rfl
    have c : wB 1 4 (.int i) = true := by show (decide (1 ≤ i) && decide (i ≤ 4)) = true; rw [decide_eq_true h1, decide_eq_true h2]; rfl
    rw [c] at b
    exact mem4_p hs a b
  | pair x y b hx hy h =>
    have e := mem4_p hs (hx.nm4ok hs).1 (iw4 (lo := 1) (hi := 4) hs hy)
    rw [h] at e
    exact e
  | other _ ht hn =>
    refine mem4_n hs ?_
    cases t with
    | tup xs =>
      have := len2 hn
      exact .inr ⟨xs, xs.length, rfl, by simp [biT, seqOf], beq_eq_false_iff_ne.mpr fun z => this (by exact_mod_cast z)⟩
    | non => exact .inl fun n => rfl
    | bl b => exact .inl fun n => rfl
    | int i => exact .inl fun n => rfl
    | str x => exact .inl fun n => rfl
    | lst xs => exact .inl fun n => rfl
    | edt => exact .inl fun n => rfl
    | _ => simp [Z29] at ht
def wr4 (ns : List (List Nat)) : Nat → List (Option (List Nat)) → Option Nat
  | _, [] => none
  | n, none :: _ => some n
  | n, some w :: L => if 4 ≤ n ∨ w ∈ ns then some n else wr4 (ns ++ [w]) (n + 1) L
theorem wm4_a {S N m : T} {n : Int} {x4 : Option T} {st : Sto} (e1 : Z64 [m] st = .ok (.bl false) st) :
    Z16 Z59 Z77 [some S, some N, some (.int n), some m, x4] st = .rt (.int n) st := by
  simp! [Z77, tbf_of_wrong_member_k04, tbc_of_wrong_member_k04, ap_fGl, ap_fSl, ap_fSlL, ap_fEn, Z15, k1_fSl, k2_fSl, k3_fSl, Z57, Z56, Z58, k1_fEn, Z14, e1]
theorem wm4_b {S N m : T} {n : Int} {x4 : Option T} {st : Sto} (e1 : Z64 [m] st = .ok (.bl true) st) (hn : 4 ≤ n) :
    Z16 Z59 Z77 [some S, some N, some (.int n), some m, x4] st = .rt (.int n) st := by
  simp! [Z77, tbf_of_wrong_member_k04, tbc_of_wrong_member_k04, ap_fGl, ap_fSl, ap_fSlL, ap_fEn, Z15, k1_fSl, k2_fSl, k3_fSl, Z57, Z56, Z58, k1_fEn, Z14, e1, hn]
theorem wm4_c {N : List T} {S m : T} {nm : PySem.Str} {n : Int} {st : Sto} {xs : List T} {k : Bool} (e1 : Z64 [m] st = .ok (.bl true) st) (hn : ¬ (4 ≤ n)) (ix : ∀ st, ixT st m (.int 0) = some (.str nm))
    (c : fLc [4] (e1_wrong_member_k04.ev Z59) (.name 4) (fSeq (fSl (evV 0) fNo' (fSo (evV 2)))) fYes [some S, some (.tup N), some (.int n), some m, none] st = .ok xs st) (hl : N.length + xs.length ≤ 16777216) (i : inT st (.str nm) (.tup (N ++ xs)) = some k) :
    Z16 Z59 Z77 [some S, some (.tup N), some (.int n), some m, none] st = if k = true then .rt (.int n) st else .nx [some S, some (.tup N), some (.int n), some m, none] st := by
  have bt : binT .Add (.tup N) (.tup xs) = some (.tup (N ++ xs)) := if_pos hl
  cases k with
  | true => simp! [Z77, tbf_of_wrong_member_k04, tbc_of_wrong_member_k04, ap_fGl, ap_fSl, ap_fSlL, ap_fEn, Z15, k1_fSl, k2_fSl, k3_fSl, Z57, Z56, Z58, k1_fEn, Z14, e1, hn, ix, c, bt, cmpT, i, asBl]
  | false => simp! [Z77, tbf_of_wrong_member_k04, tbc_of_wrong_member_k04, ap_fGl, ap_fSl, ap_fSlL, ap_fEn, Z15, k1_fSl, k2_fSl, k3_fSl, Z57, Z56, Z58, k1_fEn, Z14, e1, hn, ix, c, bt, cmpT, i, asBl]
theorem El4.el4wd {t : T} {w : List Nat} (h : El4 t (some w)) : ∃ i, t = mT (w, i) ∧ WdOk w ∧ 1 ≤ i ∧ i ≤ 4 := by
  cases h with
  | good w i hw h1 h2 => exact ⟨i, rfl, hw, h1, h2⟩
theorem walkO_rt4 {g : IG} {f : Fs} {x : T} {xs : List T} {env e1 : Env} {st st2 : Sto} {v : T} (h1 : IG.set g x env = some e1) (h2 : f e1 st = .rt v st2) : walkO g f (x :: xs) env st = .rt v st2 := by
  rw [walkO, h1]
  dsimp only
  rw [h2]
theorem wm4_w {ns : List (List Nat)} {S : T} {st : Sto} (hs : NL st) (hns : ∀ x, x ∈ ns → WdOk x) (hnl : ns.length ≤ 4) : ∀ (L : List (T × Option (List Nat))) (P : List (List Nat × Int)) (e2 e3 : Option T), S = .tup (P.map mT ++ L.map (·.1)) → (∀ q, q ∈ L → El4 q.1 q.2) → (∀ m, m ∈ P → WdOk m.1) → P.length + L.length ≤ 20 →
    (wr4 (ns ++ P.map (·.1)) P.length (L.map (·.2)) = none ∧ ∃ f2 f3, walkO (.tup [.name 2, .name 3]) (Z16 Z59 Z77) (numbered P.length (L.map (·.1))) [some S, some (.tup (ns.map sW)), e2, e3, none] st = .nx [some S, some (.tup (ns.map sW)), f2, f3, none] st) ∨
    ∃ k, wr4 (ns ++ P.map (·.1)) P.length (L.map (·.2)) = some k ∧ walkO (.tup [.name 2, .name 3]) (Z16 Z59 Z77) (numbered P.length (L.map (·.1))) [some S, some (.tup (ns.map sW)), e2, e3, none] st = .rt (.int k) st
  | [], P, e2, e3, _, _, _, _ => .inl ⟨rfl, e2, e3, rfl⟩
  | (t, o) :: L, P, e2, e3, hS, hL, hP, hl => by
    have ht := hL (t, o) List.mem_cons_self
    have sg : IG.set (.tup [.name 2, .name 3]) (.tup [.int P.length, t]) [some S, some (.tup (ns.map sW)), e2, e3, none] = some [some S, some (.tup (ns.map sW)), some (.int P.length), some t, none] := rfl
    have nb : numbered P.length (((t, o) :: L).map (·.1)) = .tup [.int P.length, t] :: numbered (P.length + 1) (L.map (·.1)) := rfl
    have e1 := ht.el4mem hs
    rw [nb]
    cases o with
    | none => exact .inr ⟨P.length, rfl, walkO_rt4 sg (wm4_a e1)⟩
    | some w =>
      obtain ⟨i, rfl, hw, i1, i2⟩ := ht.el4wd
      have wr : wr4 (ns ++ P.map (·.1)) P.length (((mT (w, i), some w) :: L).map (·.2)) = if 4 ≤ P.length ∨ w ∈ ns ++ P.map (·.1) then some P.length else wr4 (ns ++ P.map (·.1) ++ [w]) (P.length + 1) (L.map (·.2)) := rfl
      rw [wr]
      by_cases h4 : 4 ≤ P.length
      · rw [if_pos (.inl h4)]
        exact .inr ⟨P.length, rfl, walkO_rt4 sg (wm4_b e1 (by exact_mod_cast h4))⟩
      · have h4' : ¬ ((4 : Int) ≤ P.length) := fun z => h4 (by exact_mod_cast z)
        have c : fLc [4] (e1_wrong_member_k04.ev Z59) (.name 4) (fSeq (fSl (evV 0) fNo' (fSo (evV 2)))) fYes [some S, some (.tup (ns.map sW)), some (.int P.length), some (mT (w, i)), none] st = .ok (P.map fun m => sW m.1) st := by
          refine lc_mapE (emb := mT) ?_ (by omega) fun m hm => ?_
          · have ct : cut (P.map mT ++ ((mT (w, i), Option.some w) :: L).map (·.1)) none (Option.some (P.length : Int)) = P.map mT := by
              rw [cut8_to, List.take_left' (by rw [List.length_map])]
            rw [hS]
            generalize P.map mT ++ ((mT (w, i), Option.some w) :: L).map (·.1) = X at ct
            simp! [ap_fGl, ap_fSl, ap_fSlL, ap_fEn, k1_fSl, k2_fSl, k3_fSl, Z57, Z56, Z58, k1_fEn, ct]
          · simp! [fTurn, wipeE, e1_wrong_member_k04, ap_fGl, ap_fSl, ap_fSlL, ap_fEn, k1_fSl, k2_fSl, k3_fSl, Z57, Z56, Z58, k1_fEn, mT, sW]
        have i3 : inT st (.str (W w)) (.tup (ns.map sW ++ P.map fun m => sW m.1)) = Option.some (decide (w ∈ ns ++ P.map (·.1))) := by
          have := in_wordsT (st := st) (w := w) (ws := ns ++ P.map (·.1)) hw fun x hx => by
            rcases List.mem_append.mp hx with hx | hx
            · exact hns x hx
            · obtain ⟨m, hm2, rfl⟩ := List.mem_map.mp hx
              exact hP m hm2
          rw [List.map_append, List.map_map] at this
          exact this
        have tn := wm4_c (S := S) (N := ns.map sW) (nm := W w) (n := P.length) e1 h4' (fun st => rfl) c (by simp; omega) i3
        by_cases hm : w ∈ ns ++ P.map (·.1)
        · rw [decide_eq_true hm, if_pos rfl] at tn
          rw [if_pos (.inr hm)]
          exact .inr ⟨P.length, rfl, walkO_rt4 sg tn⟩
        · rw [decide_eq_false hm, if_neg (by decide)] at tn
          rw [if_neg (by rintro (z | z); exact h4 z; exact hm z), walkO_nx9 sg tn]
          have ih := wm4_w (S := S) hs hns hnl L (P ++ [(w, i)]) (Option.some (.int P.length)) (Option.some (mT (w, i))) (by rw [hS]; simp) (fun q hq => hL q (List.mem_cons_of_mem _ hq)) (fun m hm => by
            rcases List.mem_append.mp hm with h | h
            · exact hP m h
            · rw [List.mem_singleton.mp h]; exact hw) (by rw [List.length_append, List.length_singleton]; rw [List.length_cons] at hl; omega)
          rw [List.length_append, List.length_singleton, List.map_append, ← List.append_assoc] at ih
          exact ih
theorem wm4_ok {ns : List (List Nat)} {L : List (T × Option (List Nat))} {st : Sto} (hs : NL st) (hns : ∀ x, x ∈ ns → WdOk x) (hnl : ns.length ≤ 4) (hL : ∀ q, q ∈ L → El4 q.1 q.2) (hl : L.length ≤ 20) :
    Z55 [.tup (L.map (·.1)), .tup (ns.map sW)] st = .ok (match wr4 ns 0 (L.map (·.2)) with
      | none => .non
      | some k => .int k) st := by
  have w := wm4_w (S := .tup (L.map (·.1))) hs hns hnl L [] none none (by simp) hL (fun m hm => nomatch hm) (by simpa using hl)
  simp only [List.map_nil, List.append_nil, List.length_nil] at w
  generalize hX : L.map (·.1) = X at w ⊢
  generalize ns.map sW = N at w ⊢
  have lx : X.length ≤ 16777216 := by rw [← hX, List.length_map]; omega
  rcases w with ⟨h, f2, f3, w⟩ | ⟨k, h, w⟩
  · rw [h]
    simp! [Z55, tbf_of_wrong_member_k04, tbc_of_wrong_member_k04, b_wrong_member_k04, ap_fGl, ap_fSl, ap_fSlL, ap_fEn, k1_fSl, k2_fSl, k3_fSl, Z57, Z56, Z58, k1_fEn, ap_fFor, w, lx]
    exact Z20 hs (by simp)
  · rw [h]
    simp! [Z55, tbf_of_wrong_member_k04, tbc_of_wrong_member_k04, b_wrong_member_k04, ap_fGl, ap_fSl, ap_fSlL, ap_fEn, k1_fSl, k2_fSl, k3_fSl, Z57, Z56, Z58, k1_fEn, ap_fFor, w, lx]
    exact Z20 hs (by simp)
theorem lx4_t {S TK t : T} {n : Int} {e3 : Option T} {st : Sto} (ix : ixT st S (.int n) = some t) (h : ∀ k, isiT k Z26.isi (.ty "tuple") st t = some false) :
    Z16 Z26 Z63 [some S, some TK, some (.int n), e3, none] st = .rt (.int n) st := by
  simp! [Z63, tbf_of_law_wrong, tbc_of_law_wrong, i0_of_law_wrong, i1_of_law_wrong, i2_of_law_wrong, i3_of_law_wrong, i4_of_law_wrong, i5_of_law_wrong, i7_of_law_wrong, Z51, ap_fSl, ap_fCat, ap_fSlL, Z15, Z50, k1_fSl, k2_fSl, k3_fSl, k1_fCat, k2_fCat, Z57, Z56, Z58, Z14, -ix_tup', ix, h]
theorem lx4_l {S TK : T} {xs : List T} {n k : Int} {e3 : Option T} {st : Sto} (ix : ixT st S (.int n) = some (.tup xs)) (ln : biT st .len [.tup xs] = some (.int k)) (h : (k == 2) = false) :
    Z16 Z26 Z63 [some S, some TK, some (.int n), e3, none] st = .rt (.int n) st := by
  have ne : ¬ (k = 2) := by simpa using h
  simp! [Z63, tbf_of_law_wrong, tbc_of_law_wrong, i0_of_law_wrong, i1_of_law_wrong, i2_of_law_wrong, i3_of_law_wrong, i4_of_law_wrong, i5_of_law_wrong, i7_of_law_wrong, Z51, ap_fSl, ap_fCat, ap_fSlL, Z15, Z50, k1_fSl, k2_fSl, k3_fSl, k1_fCat, k2_fCat, Z57, Z56, Z58, Z14, -ix_tup', -len_tup, ix, ln, h, ne]
theorem lx4_p {S TK x y : T} {n : Int} {b c : Bool} {e3 : Option T} {st : Sto} (ix : ixT st S (.int n) = some (.tup [x, y])) (i0 : ixT st (.tup [x, y]) (.int 0) = some x) (i1 : ixT st (.tup [x, y]) (.int 1) = some y) (h1 : Z62 [x] st = .ok (.bl b) st) (h2 : Z30 [y, .int 1, .int 4] st = .ok (.bl c) st) (h : (b && c) = false) :
    Z16 Z26 Z63 [some S, some TK, some (.int n), e3, none] st = .rt (.int n) st := by
  cases b with
  | false => simp! [Z63, tbf_of_law_wrong, tbc_of_law_wrong, i0_of_law_wrong, i1_of_law_wrong, i2_of_law_wrong, i3_of_law_wrong, i4_of_law_wrong, i5_of_law_wrong, i7_of_law_wrong, Z51, ap_fSl, Z24, Z18, ap_fCat, ap_fSlL, Z15, Z50, k1_fSl, k2_fSl, k3_fSl, Z23, Z22, Z17, k1_fCat, k2_fCat, Z57, Z56, Z58, Z14, -ix_tup', ix, i0, i1, h1]
  | true =>
    cases c with
    | true => cases h
    | false => simp! [Z63, tbf_of_law_wrong, tbc_of_law_wrong, i0_of_law_wrong, i1_of_law_wrong, i2_of_law_wrong, i3_of_law_wrong, i4_of_law_wrong, i5_of_law_wrong, i7_of_law_wrong, Z51, ap_fSl, Z24, Z18, ap_fCat, ap_fSlL, Z15, Z50, k1_fSl, k2_fSl, k3_fSl, Z23, Z22, Z17, k1_fCat, k2_fCat, Z57, Z56, Z58, Z14, -ix_tup', ix, i0, i1, h1, h2]
theorem lx4_b {S TK x y : T} {n : Int} {e3 : Option T} {st : Sto} (ix : ixT st S (.int n) = some (.tup [x, y])) (i0 : ixT st (.tup [x, y]) (.int 0) = some x) (i1 : ixT st (.tup [x, y]) (.int 1) = some y) (h1 : Z62 [x] st = .ok (.bl true) st) (h2 : Z30 [y, .int 1, .int 4] st = .ok (.bl true) st) (hn : 3 < n) :
    Z16 Z26 Z63 [some S, some TK, some (.int n), e3, none] st = .rt (.int n) st := by
  simp! [Z63, tbf_of_law_wrong, tbc_of_law_wrong, i0_of_law_wrong, i1_of_law_wrong, i2_of_law_wrong, i3_of_law_wrong, i4_of_law_wrong, i5_of_law_wrong, i7_of_law_wrong, Z51, ap_fSl, Z24, Z18, ap_fCat, ap_fSlL, Z15, Z50, k1_fSl, k2_fSl, k3_fSl, Z23, Z22, Z17, k1_fCat, k2_fCat, Z57, Z56, Z58, Z14, -ix_tup', ix, i0, i1, h1, h2, hn]
theorem lx4_c {S x y : T} {TK xs : List T} {n : Int} {k : Bool} {e3 : Option T} {st : Sto} (ix : ixT st S (.int n) = some (.tup [x, y])) (i0 : ixT st (.tup [x, y]) (.int 0) = some x) (i1 : ixT st (.tup [x, y]) (.int 1) = some y) (h1 : Z62 [x] st = .ok (.bl true) st) (h2 : Z30 [y, .int 1, .int 4] st = .ok (.bl true) st) (hn : ¬ (3 < n))
    (c : fLc [4] (e1_law_wrong.ev Z26) (.name 4) (fSeq (fSl (evV 0) fNo' (fSo (evV 2)))) fYes [some S, some (.lst TK), some (.int n), some (.tup [x, y]), none] st = .ok xs st) (hl : TK.length + xs.length ≤ 16777216) (i : inT st x (.lst (TK ++ xs)) = some k) :
    Z16 Z26 Z63 [some S, some (.lst TK), some (.int n), e3, none] st = if k = true then .rt (.int n) st else .nx [some S, some (.lst TK), some (.int n), some (.tup [x, y]), none] st := by
  cases k with
  | true => simp! [Z63, tbf_of_law_wrong, tbc_of_law_wrong, i0_of_law_wrong, i1_of_law_wrong, i2_of_law_wrong, i3_of_law_wrong, i4_of_law_wrong, i5_of_law_wrong, i7_of_law_wrong, Z51, ap_fSl, Z24, Z18, ap_fCat, ap_fSlL, Z15, Z50, k1_fSl, k2_fSl, k3_fSl, Z23, Z22, Z17, k1_fCat, k2_fCat, Z57, Z56, Z58, Z14, -ix_tup', ix, i0, i1, h1, h2, hn, c, hl, cmpT, i, asBl]
  | false => simp! [Z63, tbf_of_law_wrong, tbc_of_law_wrong, i0_of_law_wrong, i1_of_law_wrong, i2_of_law_wrong, i3_of_law_wrong, i4_of_law_wrong, i5_of_law_wrong, i7_of_law_wrong, Z51, ap_fSl, Z24, Z18, ap_fCat, ap_fSlL, Z15, Z50, k1_fSl, k2_fSl, k3_fSl, Z23, Z22, Z17, k1_fCat, k2_fCat, Z57, Z56, Z58, Z14, -ix_tup', ix, i0, i1, h1, h2, hn, c, hl, cmpT, i, asBl]
theorem El4.el4bad {S TK t : T} {n : Int} {e3 : Option T} {st : Sto} (h : El4 t none) (hs : NL st) (ix : ixT st S (.int n) = some t) : Z16 Z26 Z63 [some S, some TK, some (.int n), e3, none] st = .rt (.int n) st := by
  cases h with
  | pair x y b hx hy h => exact lx4_p ix rfl rfl (hx.nm4ok hs).2 (lw4 (lo := 1) (hi := 4) hs hy) h
  | other _ ht hn =>
    cases t with
    | tup xs =>
      have := len2 hn
      exact lx4_l (k := xs.length) ix (by simp [biT, seqOf]) (beq_eq_false_iff_ne.mpr fun z => this (by exact_mod_cast z))
    | non => exact lx4_t ix fun n => rfl
    | bl b => exact lx4_t ix fun n => rfl
    | int i => exact lx4_t ix fun n => rfl
    | str x => exact lx4_t ix fun n => rfl
    | lst xs => exact lx4_t ix fun n => rfl
    | edt => exact lx4_t ix fun n => rfl
    | _ => simp [Z29] at ht
theorem lx4_w {ns : List (List Nat)} {S : T} {st : Sto} (hs : NL st) (hns : ∀ x, x ∈ ns → WdOk x) (hnl : ns.length ≤ 4) : ∀ (L : List (T × Option (List Nat))) (P : List (List Nat × Int)) (e2 e3 : Option T), S = .tup (P.map mT ++ L.map (·.1)) → (∀ q, q ∈ L → El4 q.1 q.2) → (∀ m, m ∈ P → WdOk m.1) → P.length + L.length ≤ 20 →
    (wr4 (ns ++ P.map (·.1)) P.length (L.map (·.2)) = none ∧ ∃ f2 f3, walkO (.name 2) (Z16 Z26 Z63) ((List.range' P.length L.length).map fun (j : Nat) => T.int (j : Int)) [some S, some (.lst (ns.map sW)), e2, e3, none] st = .nx [some S, some (.lst (ns.map sW)), f2, f3, none] st) ∨
    ∃ k, wr4 (ns ++ P.map (·.1)) P.length (L.map (·.2)) = some k ∧ walkO (.name 2) (Z16 Z26 Z63) ((List.range' P.length L.length).map fun (j : Nat) => T.int (j : Int)) [some S, some (.lst (ns.map sW)), e2, e3, none] st = .rt (.int k) st
  | [], P, e2, e3, _, _, _, _ => .inl ⟨rfl, e2, e3, rfl⟩
  | (t, o) :: L, P, e2, e3, hS, hL, hP, hl => by
    have ht := hL (t, o) List.mem_cons_self
    have sg : IG.set (.name 2) (.int P.length) [some S, some (.lst (ns.map sW)), e2, e3, none] = some [some S, some (.lst (ns.map sW)), some (.int P.length), e3, none] := rfl
    have nb : (List.range' P.length ((t, o) :: L).length).map (fun (j : Nat) => T.int (j : Int)) = .int P.length :: (List.range' (P.length + 1) L.length).map fun (j : Nat) => T.int (j : Int) := by rw [List.length_cons, List.range'_succ, List.map_cons]
    have ix : ixT st S (.int P.length) = some t := by
      rw [hS]
      exact at_nat (by rw [List.getElem?_append_right (by simp)]; simp)
    rw [nb]
    cases o with
    | none => exact .inr ⟨P.length, rfl, walkO_rt4 sg (ht.el4bad hs ix)⟩
    | some w =>
      obtain ⟨i, rfl, hw, i1, i2⟩ := ht.el4wd
      have wr : wr4 (ns ++ P.map (·.1)) P.length (((mT (w, i), some w) :: L).map (·.2)) = if 4 ≤ P.length ∨ w ∈ ns ++ P.map (·.1) then some P.length else wr4 (ns ++ P.map (·.1) ++ [w]) (P.length + 1) (L.map (·.2)) := rfl
      have h1 : Z62 [.str (W w)] st = .ok (.bl true) st := by
        have := (name4 (w := w) hs (fun c hc => by have := hw.2.2.1 c hc; unfold Sg Lt at this; omega) (by have := hw.2.1; omega)).2
        rwa [nmB_wd hw] at this
      have h2 : Z30 [.int i, .int 1, .int 4] st = .ok (.bl true) st := by
        have b := lw4 (t := .int i) (lo := 1) (hi := 4) (st := st) hs rfl
        have c : wB 1 4 (.int i) = true := by show (decide (1 ≤ i) && decide (i ≤ 4)) = true; rw [decide_eq_true i1, decide_eq_true i2]; rfl
        rwa [c] at b
      have ix : ixT st S (.int P.length) = Option.some (.tup [.str (W w), .int i]) := ix
      rw [wr]
      by_cases h4 : 4 ≤ P.length
      · rw [if_pos (.inl h4)]
        exact .inr ⟨P.length, rfl, walkO_rt4 sg (lx4_b ix rfl rfl h1 h2 (by omega))⟩
      · have c : fLc [4] (e1_law_wrong.ev Z26) (.name 4) (fSeq (fSl (evV 0) fNo' (fSo (evV 2)))) fYes [some S, some (.lst (ns.map sW)), some (.int P.length), some (.tup [.str (W w), .int i]), none] st = .ok (P.map fun m => sW m.1) st := by
          refine lc_mapE (emb := mT) ?_ (by omega) fun m hm => ?_
          · have ct : cut (P.map mT ++ ((mT (w, i), Option.some w) :: L).map (·.1)) none (Option.some (P.length : Int)) = P.map mT := by
              rw [cut8_to, List.take_left' (by rw [List.length_map])]
            rw [hS]
            generalize P.map mT ++ ((mT (w, i), Option.some w) :: L).map (·.1) = X at ct
            simp! [Z51, ap_fSl, Z24, Z18, ap_fCat, ap_fSlL, Z15, Z50, k1_fSl, k2_fSl, k3_fSl, Z23, Z22, Z17, k1_fCat, k2_fCat, Z57, Z56, Z58, Z14, ct]
          · simp! [fTurn, wipeE, e1_law_wrong, Z51, ap_fSl, Z24, Z18, ap_fCat, ap_fSlL, Z15, Z50, k1_fSl, k2_fSl, k3_fSl, Z23, Z22, Z17, k1_fCat, k2_fCat, Z57, Z56, Z58, Z14, mT, sW]
        have i3 : inT st (.str (W w)) (.lst (ns.map sW ++ P.map fun m => sW m.1)) = Option.some (decide (w ∈ ns ++ P.map (·.1))) := by
          have := in_wordsT (st := st) (w := w) (ws := ns ++ P.map (·.1)) hw fun x hx => by
            rcases List.mem_append.mp hx with hx | hx
            · exact hns x hx
            · obtain ⟨m, hm2, rfl⟩ := List.mem_map.mp hx
              exact hP m hm2
          rw [List.map_append, List.map_map] at this
          exact this
        have tn := lx4_c (S := S) (TK := ns.map sW) (e3 := e3) ix rfl rfl h1 h2 (by omega) c (by simp; omega) i3
        by_cases hm : w ∈ ns ++ P.map (·.1)
        · rw [decide_eq_true hm, if_pos rfl] at tn
          rw [if_pos (.inr hm)]
          exact .inr ⟨P.length, rfl, walkO_rt4 sg tn⟩
        · rw [decide_eq_false hm, if_neg (by decide)] at tn
          rw [if_neg (by rintro (z | z); exact h4 z; exact hm z), walkO_nx9 sg tn]
          have ih := lx4_w (S := S) hs hns hnl L (P ++ [(w, i)]) (Option.some (.int P.length)) (Option.some (.tup [.str (W w), .int i])) (by rw [hS]; simp) (fun q hq => hL q (List.mem_cons_of_mem _ hq)) (fun m hm => by
            rcases List.mem_append.mp hm with h | h
            · exact hP m h
            · rw [List.mem_singleton.mp h]; exact hw) (by rw [List.length_append, List.length_singleton]; rw [List.length_cons] at hl; omega)
          rw [List.length_append, List.length_singleton, List.map_append, ← List.append_assoc] at ih
          exact ih
theorem lx4_n {e0 e2 : Env} {st : Sto} {n : Nat} (rg : II.ev Z26 (.rng1 (.bi .len (.cons (.v 0) .nil))) e0 st = .ok ((List.range n).map fun (j : Nat) => T.int (j : Int)) st) (w : walkO (.name 2) (Z16 Z26 Z63) ((List.range n).map fun (j : Nat) => T.int (j : Int)) e0 st = .nx e2 st) :
    Z16 Z26 b_law_wrong e0 st = .rt (.int (-1)) st := by
  rw [b_law_wrong, ap_evSs, IS.ev, ap_fFor, rg, go_ok', k1_fFor, w, seq_nx']
  simp! [Z51, ap_fSl, ap_fCat, ap_fSlL, Z15, Z50, k1_fSl, k2_fSl, k3_fSl, k1_fCat, k2_fCat, Z57, Z56, Z58, Z14]
theorem lx4_r {e0 : Env} {st : Sto} {n : Nat} {v : T} (rg : II.ev Z26 (.rng1 (.bi .len (.cons (.v 0) .nil))) e0 st = .ok ((List.range n).map fun (j : Nat) => T.int (j : Int)) st) (w : walkO (.name 2) (Z16 Z26 Z63) ((List.range n).map fun (j : Nat) => T.int (j : Int)) e0 st = .rt v st) :
    Z16 Z26 b_law_wrong e0 st = .rt v st := by
  rw [b_law_wrong, ap_evSs, IS.ev, ap_fFor, rg, go_ok', k1_fFor, w]
  rfl
theorem lx4_ok {ns : List (List Nat)} {L : List (T × Option (List Nat))} {st : Sto} (hs : NL st) (hns : ∀ x, x ∈ ns → WdOk x) (hnl : ns.length ≤ 4) (hL : ∀ q, q ∈ L → El4 q.1 q.2) (hl : L.length ≤ 20) :
    F_law_wrong [.tup (L.map (·.1)), .lst (ns.map sW)] st = .ok (match wr4 ns 0 (L.map (·.2)) with
      | none => .int (-1)
      | some k => .int k) st := by
  have w := lx4_w (S := .tup (L.map (·.1))) hs hns hnl L [] none none (by simp) hL (fun m hm => nomatch hm) (by simpa using hl)
  simp only [List.map_nil, List.append_nil, List.length_nil] at w
  rw [← List.range_eq_range'] at w
  have rg : II.ev Z26 (.rng1 (.bi .len (.cons (.v 0) .nil))) [some (.tup (L.map (·.1))), some (.lst (ns.map sW)), none, none, none] st = .ok ((List.range L.length).map fun (j : Nat) => T.int (j : Int)) st := rg1_eq (k := L.length) (by simp! [Z51, ap_fSl, ap_fCat, ap_fSlL, Z15, Z50, k1_fSl, k2_fSl, k3_fSl, k1_fCat, k2_fCat, Z57, Z56, Z58, Z14]) (by omega)
  show (if ([T.tup (L.map (·.1)), .lst (ns.map sW)]).length = 2 then finO Z26.cls false st.length (Z16 Z26 b_law_wrong (env0 5 [T.tup (L.map (·.1)), .lst (ns.map sW)]) st) else .bad) = _
  rw [if_pos (by simp)]
  rcases w with ⟨h, f2, f3, w⟩ | ⟨k, h, w⟩
  · rw [h]
    refine (congrArg (finO Z26.cls false st.length) (lx4_n rg w)).trans ?_
    exact Z20 hs (by simp)
  · rw [h]
    refine (congrArg (finO Z26.cls false st.length) (lx4_r rg w)).trans ?_
    exact Z20 hs (by simp)
def ycp (a b : Nat) : Nat := if a = 121 ∧ dgB b = true then 1 else 0
def yc : List Nat → Nat
  | [] => 0
  | [_] => 0
  | a :: b :: l => ycp a b + yc (b :: l)
theorem yc_half : ∀ (n : Nat) (l : List Nat), l.length ≤ n → 2 * yc l ≤ l.length
  | 0, l, h => by rw [List.length_eq_zero_iff.mp (Nat.le_zero.mp h)]; simp [yc]
  | n + 1, [], _ => by simp [yc]
  | n + 1, [_], _ => by simp [yc]
  | n + 1, [a, b], _ => by
    have : ycp a b ≤ 1 := by unfold ycp; split <;> omega
    simp only [yc, List.length_cons, List.length_nil]; omega
  | n + 1, a :: b :: c :: l, h => by
    have h1 := yc_half n (b :: c :: l) (by simp at h ⊢; omega)
    have h2 := yc_half n (c :: l) (by simp at h ⊢; omega)
    simp only [yc, List.length_cons] at h1 h2 ⊢
    unfold ycp at h1 ⊢
    split
    · rename_i k
      have : ¬ (b = 121 ∧ dgB c = true) := by
        rintro ⟨rfl, _⟩
        have := k.2
        unfold dgB at this
        simp at this
      rw [if_neg this] at h1 ⊢
      omega
    · omega
def pcB (c : Nat) : Bool := decide (32 ≤ c) && decide (c ≤ 126) && decide (c ≠ 39) && decide (c ≠ 92)
mutual
def pT : T → Bool
  | .non => true
  | .bl _ => true
  | .int i => decide (-1 ≤ i)
  | .str x => x.cps.toList.all pcB
  | .tup xs => pTs xs
  | .lst xs => pTs xs
  | .edt => true
  | _ => false
def pTs : List T → Bool
  | [] => true
  | x :: xs => pT x && pTs xs
end
mutual
def yT : T → Nat
  | .str x => yc x.cps.toList
  | .tup xs => yTs xs
  | .lst xs => yTs xs
  | _ => 0
def yTs : List T → Nat
  | [] => 0
  | x :: xs => yT x + yTs xs
end
def Q5 (y : T) : Prop := Z29 y = true ∧ (∀ a b, y ≠ .tup [a, b]) ∧ Nl y ∧ noX y = true ∧ ShE y 2 2000
theorem q5_int {i : Int} (h : i.natAbs < 2 ^ 128) : Q5 (.int i) := ⟨rfl, (fun a b z => by cases z), by simp, rfl, (ShE.of (shD_z h)).mono (by decide) (by decide)⟩
theorem q5_bl {b : Bool} : Q5 (.bl b) := ⟨rfl, (fun a b z => by cases z), by simp, rfl, rfl, rfl, by simp [dep], by simp [shB]⟩
theorem q5_non : Q5 .non := ⟨rfl, (fun a b z => by cases z), by simp, rfl, rfl, rfl, by simp [dep], by simp [shB]⟩
theorem q5_str {x : PySem.Str} (h : PySem.PyData.strOk x = true) (hl : x.length ≤ 20) : Q5 (.str x) := ⟨h, (fun a b z => by cases z), by simp, rfl, h, rfl, by simp [dep], by simp only [shB]; omega⟩
theorem q5_ta : Q5 (.tup [.str "a"]) := ⟨by decide +kernel, (fun a b z => by simp at z), by simp, rfl, by decide +kernel, rfl, by decide, by decide +kernel⟩
structure G4 (x : T) : Prop where
  el : ∃ o, El4 x o
  nl : Nl x
  nx : noX x = true
  sh : ShE x 2 2000
  pt : ∀ Y, x = .tup Y → Y.length ≤ 3 ∧ ∀ y, y ∈ Y → Q5 y
  yt : pT x = true ∧ yT x ≤ 4
theorem so4_wd {w : List Nat} (hw : WdOk w) : PySem.PyData.strOk (W w) = true := so_iff.mpr fun c hc => by
  have := hw.2.2.1 c (by simpa [W] using hc)
  unfold Sg Lt at this
  omega
theorem wd_pc {w : List Nat} (hw : WdOk w) : pT (.str (W w)) = true ∧ yT (.str (W w)) ≤ 4 := by
  have e : (W w).cps.toList = w := by simp [W]
  constructor
  · show (W w).cps.toList.all pcB = true
    rw [e]
    exact List.all_eq_true.mpr fun c hc => by
      have := hw.2.2.1 c hc
      unfold Sg Lt at this
      unfold pcB
      simp
      omega
  · show yc (W w).cps.toList ≤ 4
    rw [e]
    have := yc_half _ w (Nat.le_refl _)
    have := hw.2.1
    omega
theorem q5_wd {w : List Nat} (hw : WdOk w) : Q5 (.str (W w)) := q5_str (so4_wd hw) (by rw [len_W]; have := hw.2.1; omega)
theorem pt2 {a b : T} (ha : Q5 a) (hb : Q5 b) : ∀ Y, T.tup [a, b] = .tup Y → Y.length ≤ 3 ∧ ∀ y, y ∈ Y → Q5 y := fun Y e => by
  injection e with e
  subst e
  refine ⟨by simp, fun y hy => ?_⟩
  simp only [List.mem_cons, List.not_mem_nil, or_false] at hy
  rcases hy with rfl | rfl
  · exact ha
  · exact hb
theorem pt3 {a b c : T} (ha : Q5 a) (hb : Q5 b) (hc : Q5 c) : ∀ Y, T.tup [a, b, c] = .tup Y → Y.length ≤ 3 ∧ ∀ y, y ∈ Y → Q5 y := fun Y e => by
  injection e with e
  subst e
  refine ⟨by simp, fun y hy => ?_⟩
  simp only [List.mem_cons, List.not_mem_nil, or_false] at hy
  rcases hy with rfl | rfl | rfl
  · exact ha
  · exact hb
  · exact hc
theorem pt1 {a : T} (ha : Q5 a) : ∀ Y, T.tup [a] = .tup Y → Y.length ≤ 3 ∧ ∀ y, y ∈ Y → Q5 y := fun Y e => by
  injection e with e
  subst e
  exact ⟨by simp, fun y hy => by rw [List.mem_singleton.mp hy]; exact ha⟩
theorem pt0 : ∀ Y, T.tup [] = .tup Y → Y.length ≤ 3 ∧ ∀ y, y ∈ Y → Q5 y := fun Y e => by
  injection e with e
  subst e
  exact ⟨by simp, fun y hy => nomatch hy⟩
theorem pick4 {L : List T} {d : Int} (h0 : 0 ≤ d) (h1 : d < L.length) : ∃ x, x ∈ L ∧ ∀ st, ixT st (.lst L) (.int d) = some x := by
  obtain ⟨i, rfl⟩ := Int.eq_ofNat_of_zero_le h0
  have hi : i < L.length := by omega
  exact ⟨L[i], List.getElem_mem hi, fun st => at_nat (List.getElem?_eq_getElem hi)⟩
theorem wd_a : WdOk [97] := ⟨by decide, by decide, by simp [Sg, Lt], by simp [Lt]⟩
theorem wd_bob : WdOk [98, 111, 98] := ⟨by decide, by decide, by simp [Sg, Lt], by simp [Lt]⟩
theorem wd_z9 : WdOk [122, 57] := ⟨by decide, by decide, by simp [Sg, Lt], by simp [Lt]⟩
theorem G4.g4m {w : List Nat} {i : Int} (hw : WdOk w) (h1 : 1 ≤ i) (h2 : i ≤ 4) : G4 (mT (w, i)) where
  el := ⟨_, .good w i hw h1 h2⟩
  nl := by show Nl (.tup [.str (W w), .int i]); simp
  nx := rfl
  sh := by
    have so : ShE (.str (W w)) 0 90 := by
      have := hw.2.1
      refine ⟨?_, rfl, by simp [dep], by simp only [shB, len_W]; omega⟩
      show PySem.PyData.strOk (W w) = true
      refine so_iff.mpr fun c hc => ?_
      have := hw.2.2.1 c (by simpa [W] using hc)
      unfold Sg Lt at this
      omega
    refine (shE_tup (xs := [.str (W w), .int i]) (n := 2) (k := 0) (b := 130) (by simp) fun x hx => ?_).mono (by decide) (by decide)
    simp only [List.mem_cons, List.not_mem_nil, or_false] at hx
    rcases hx with rfl | rfl
    · exact so.mono (by decide) (by decide)
    · exact ShE.of (shD_z (by omega))
  pt := pt2 (q5_wd hw) (q5_int (by omega))
  yt := by
    obtain ⟨a, b⟩ := wd_pc hw
    exact ⟨by show (pT (.str (W w)) && (pT (.int i) && true)) = true; rw [a]; simp [pT]; omega, by show yT (.str (W w)) + (yT (.int i) + 0) ≤ 4; simp only [yT] at b ⊢; omega⟩
theorem G4.g4o {x : T} (h : Z29 x = true) (hn : ∀ a b, x ≠ .tup [a, b]) (nl : Nl x) (nx : noX x = true) (sh : ShE x 2 2000) (pt : ∀ Y, x = .tup Y → Y.length ≤ 3 ∧ ∀ y, y ∈ Y → Q5 y) (yt : pT x = true ∧ yT x ≤ 4) : G4 x := ⟨⟨_, .other x h hn⟩, nl, nx, sh, pt, yt⟩
theorem G4.g4p {x y : T} {b : Bool} (hx : Nm4 x b) (hy : Z29 y = true) (h : (b && wB 1 4 y) = false) (nl : Nl (.tup [x, y])) (nx : noX (.tup [x, y]) = true) (sh : ShE (.tup [x, y]) 2 2000) (qx : Q5 x) (qy : Q5 y) (yx : pT x = true ∧ yT x ≤ 4) (yy : pT y = true ∧ yT y = 0) : G4 (.tup [x, y]) := ⟨⟨_, .pair x y b hx hy h⟩, nl, nx, sh, pt2 qx qy, by simp [pT, pTs, yx.1, yy.1], by simp only [yT, yTs]; have := yx.2; have := yy.2; omega⟩
abbrev oddL : List T := [.non, .bl true, .bl false, .str "", .str "a", .str "A", .int 0, .int (-1), .int 5, .int 1000000000000000000000000000001, .tup [], .lst [], .edt, .tup [.int 1], .tup [.str "a"], .tup [.str "a", .int 1, .int 1], .lst [.str "a", .int 1], .lst [.int 1]]
theorem odd4_g {x : T} (h : x ∈ oddL) : G4 x := by
  simp only [List.mem_cons, List.not_mem_nil, or_false] at h
  rcases h with rfl | rfl | rfl | rfl | rfl | rfl | rfl | rfl | rfl | rfl | rfl | rfl | rfl | rfl | rfl | rfl | rfl | rfl
  all_goals
    refine G4.g4o (by decide +kernel) (fun a b z => ?_) (by first | exact nl_edt | simp) (by rfl) ⟨by decide +kernel, by decide +kernel, by decide +kernel, by decide +kernel⟩ (by first
      | (intro Y e; cases e; done)
      | exact pt0
      | exact pt1 (q5_int (by decide))
      | exact pt1 (q5_str (by decide +kernel) (by decide))
      | exact pt3 (q5_str (by decide +kernel) (by decide)) (q5_int (by decide)) (q5_int (by decide))) ⟨by decide +kernel, by decide +kernel⟩
    first
      | (cases z; done)
      | (injection z with z; cases z; done)
      | (simp at z; done)
theorem pow9b4 : binT .Add (.int 1000000000000000000000000000000) (.int 1) = some (.int 1000000000000000000000000000001) := rfl
theorem odd4_ok {n : Nat} {J : Cell} {R : Sto} (hJ : JC n J) (hn : n + 10 < 10 ^ 9) (hr : NL R) : ∃ t J', F_law_odd [.loc 0] (J :: R) = .ok t (J' :: R) ∧ G4 t ∧ JC (n + 1) J' := by
  obtain ⟨d, J1, e, d0, d1, hJ1⟩ := pour_eq (k := 18) (rest := R) hJ (by omega) (by decide) (by decide) hr
  obtain ⟨x, hx, ix⟩ := pick4 (L := oddL) d0 d1
  have g := odd4_g hx
  refine ⟨x, J1, ?_, g, hJ1⟩
  have w : F_law_odd [.loc 0] (J :: R) = finR tb_law_odd.cls false (J :: R).length x (J1 :: R) := by
    simp! [F_law_odd, tbf_of_law_odd, tbc_of_law_odd, b_law_odd, Z51, Z18, Z50, Z17, -ix_lst', ap_fEd, pow9, pow9b4, e, ix]
  rw [w, show (J :: R).length = (J1 :: R).length from rfl]
  exact Z20 (NL_cons hJ1.nl hr) g.nl
theorem bn_0 {J J1 J2 : Cell} {R : Sto} {P WH x : T} (e : Z19 [.loc 0, .int 7] (J :: R) = .ok (.int 0) (J1 :: R)) (o : F_law_odd [.loc 0] (J1 :: R) = .ok x (J2 :: R)) :
    Z54 [.loc 0, P, WH] (J :: R) = finR Z68.cls false (J :: R).length x (J2 :: R) := by
  simp! [Z54, tbf_of_law_bent_k04, tbc_of_law_bent_k04, b_law_bent_k04, Z51, ap_fSl, Z18, ap_fLi, ap_fSlL, ap_fSub, Z50, k1_fSl, k2_fSl, k3_fSl, Z17, k1_fLi, Z57, Z56, Z58, k1_fSub, k2_fSub, e, o]
theorem bn_1 {J J1 J2 : Cell} {R : Sto} {a b WH y : T} {d : Int} (e : Z19 [.loc 0, .int 7] (J :: R) = .ok (.int 1) (J1 :: R)) (e2 : Z19 [.loc 0, .int 8] (J1 :: R) = .ok (.int d) (J2 :: R)) (ix : ∀ st, ixT st (.lst [.int 0, .int 5, .bl true, .non, .str "1", .int (-1), .int 4, .int 1]) (.int d) = some y) (i0 : ∀ st, ixT st (.tup [a, b]) (.int 0) = some a) :
    Z54 [.loc 0, .tup [a, b], WH] (J :: R) = finR Z68.cls false (J :: R).length (.tup [a, y]) (J2 :: R) := by
  simp! [Z54, tbf_of_law_bent_k04, tbc_of_law_bent_k04, b_law_bent_k04, Z51, ap_fSl, Z18, ap_fLi, ap_fSlL, ap_fSub, Z50, k1_fSl, k2_fSl, k3_fSl, Z17, k1_fLi, Z57, Z56, Z58, k1_fSub, k2_fSub, -ix_lst', -ix_tup', e, e2, ix, i0]
theorem bn_2 {J J1 J2 : Cell} {R : Sto} {a b WH x : T} {d : Int} (e : Z19 [.loc 0, .int 7] (J :: R) = .ok (.int 2) (J1 :: R)) (e2 : Z19 [.loc 0, .int 8] (J1 :: R) = .ok (.int d) (J2 :: R)) (ix : ∀ st, ixT st (.lst [.non, .str "", .str "A", .str "1a", .str "abcdefghi", .str "a b", .tup [.str "a"], .str "a_"]) (.int d) = some x) (i1 : ∀ st, ixT st (.tup [a, b]) (.int 1) = some b) :
    Z54 [.loc 0, .tup [a, b], WH] (J :: R) = finR Z68.cls false (J :: R).length (.tup [x, b]) (J2 :: R) := by
  simp! [Z54, tbf_of_law_bent_k04, tbc_of_law_bent_k04, b_law_bent_k04, Z51, ap_fSl, Z18, ap_fLi, ap_fSlL, ap_fSub, Z50, k1_fSl, k2_fSl, k3_fSl, Z17, k1_fLi, Z57, Z56, Z58, k1_fSub, k2_fSub, -ix_lst', -ix_tup', e, e2, ix, i1]
theorem bn_3 {J J1 J2 : Cell} {R : Sto} {a b x : T} {WH : List T} {c d n : Int} (c0 : (c == 0) = false) (c1 : (c == 1) = false) (c2 : (c == 2) = false) (c5 : c < 5) (e : Z19 [.loc 0, .int 7] (J :: R) = .ok (.int c) (J1 :: R)) (ln : ∀ st, biT st .len [.lst WH] = some (.int n)) (e2 : Z19 [.loc 0, .int n] (J1 :: R) = .ok (.int d) (J2 :: R)) (ix : ∀ st, ixT st (.lst WH) (.int d) = some x) (i1 : ∀ st, ixT st (.tup [a, b]) (.int 1) = some b) :
    Z54 [.loc 0, .tup [a, b], .lst WH] (J :: R) = finR Z68.cls false (J :: R).length (.tup [x, b]) (J2 :: R) := by
  have n0 : ¬ (c = 0) := by simpa using c0
  have n1 : ¬ (c = 1) := by simpa using c1
  have n2 : ¬ (c = 2) := by simpa using c2
  simp! [Z54, tbf_of_law_bent_k04, tbc_of_law_bent_k04, b_law_bent_k04, Z51, ap_fSl, Z18, ap_fLi, ap_fSlL, ap_fSub, Z50, k1_fSl, k2_fSl, k3_fSl, Z17, k1_fLi, Z57, Z56, Z58, k1_fSub, k2_fSub, -ix_lst', -ix_tup', -len_lst, e, c0, c1, c2, n0, n1, n2, c5, ln, e2, ix, i1]
theorem bn_5 {J J1 J2 : Cell} {R : Sto} {a b WH x : T} {d : Int} (e : Z19 [.loc 0, .int 7] (J :: R) = .ok (.int 5) (J1 :: R)) (ct : cut [a, b] none (some 1) = [a]) (e2 : Z19 [.loc 0, .int 4] (J1 :: R) = .ok (.int d) (J2 :: R)) (ix : ∀ st, ixT st (.lst [.lst [a, b], .tup [a, b, .int 1], .tup [a], .tup [b, a]]) (.int d) = some x) :
    Z54 [.loc 0, .tup [a, b], WH] (J :: R) = finR Z68.cls false (J :: R).length x (J2 :: R) := by
  have bt : binT .Add (.tup [a, b]) (.tup [.int 1]) = some (.tup [a, b, .int 1]) := bin_tup (by simp [lim])
  simp! [Z54, tbf_of_law_bent_k04, tbc_of_law_bent_k04, b_law_bent_k04, Z51, ap_fSl, Z18, ap_fLi, ap_fSlL, ap_fSub, Z50, k1_fSl, k2_fSl, k3_fSl, Z17, k1_fLi, Z57, Z56, Z58, k1_fSub, k2_fSub, -ix_lst', -bin_tup, bt, ap_fRvT, k1_fRvT, e, ct, e2, ix]
theorem bn_6 {J J1 : Cell} {R : Sto} {a b WH : T} (e : Z19 [.loc 0, .int 7] (J :: R) = .ok (.int 6) (J1 :: R)) :
    Z54 [.loc 0, .tup [a, b], WH] (J :: R) = finR Z68.cls false (J :: R).length (.tup [a, b]) (J1 :: R) := by
  simp! [Z54, tbf_of_law_bent_k04, tbc_of_law_bent_k04, b_law_bent_k04, Z51, ap_fSl, Z18, ap_fLi, ap_fSlL, ap_fSub, Z50, k1_fSl, k2_fSl, k3_fSl, Z17, k1_fLi, Z57, Z56, Z58, k1_fSub, k2_fSub, e]
theorem sh4_str {x : PySem.Str} (h : PySem.PyData.strOk x = true) (hl : x.length ≤ 20) : ShE (.str x) 0 202 := ⟨h, rfl, by simp [dep], by simp only [shB]; omega⟩
theorem wd_sh {w : List Nat} (hw : WdOk w) : ShE (.str (W w)) 0 202 := sh4_str (so4_wd hw) (by rw [len_W]; have := hw.2.1; omega)
theorem sh4_pair {x y : T} (hx : ShE x 1 400) (hy : ShE y 1 400) : ShE (.tup [x, y]) 2 2000 := (shE_tup (n := 2) (k := 1) (b := 400) (by simp) fun z hz => by
  simp only [List.mem_cons, List.not_mem_nil, or_false] at hz
  rcases hz with rfl | rfl
  · exact hx
  · exact hy).mono (by decide) (by decide)
theorem Nm4.nm4wd {w : List Nat} (hw : WdOk w) : Nm4 (.str (W w)) true := by
  have := Nm4.str w (fun c hc => by have := hw.2.2.1 c hc; unfold Sg Lt at this; omega) (by have := hw.2.1; omega)
  rwa [nmB_wd hw] at this
theorem nm4_odd {x : T} (h : x ∈ ([.non, .str "", .str "A", .str "1a", .str "abcdefghi", .str "a b", .tup [.str "a"], .str "a_"] : List T)) : Nm4 x false ∧ Nl x ∧ noX x = true ∧ ShE x 1 400 ∧ Q5 x ∧ pT x = true ∧ yT x ≤ 4 := by
  have s : ∀ (x : PySem.Str) (w : List Nat), x = W w → (∀ c, c ∈ w → c < 128) → w.length ≤ 20 → nmB w = false → w.all pcB = true → yc w ≤ 4 → Nm4 (.str x) false ∧ Nl (.str x) ∧ noX (.str x) = true ∧ ShE (.str x) 1 400 ∧ Q5 (.str x) ∧ pT (.str x) = true ∧ yT (.str x) ≤ 4 := fun x w e h hl hb hp hy => by
    subst e
    have a := Nm4.str w h (by omega)
    rw [hb] at a
    have so : PySem.PyData.strOk (W w) = true := so_iff.mpr fun c hc => by
      have := h c (by simpa [W] using hc)
      omega
    exact ⟨a, by simp, rfl, (sh4_str so (by rw [len_W]; exact hl)).mono (by decide) (by decide), q5_str so (by rw [len_W]; exact hl), by simpa [pT, W] using hp, by simpa [yT, W] using hy⟩
  simp only [List.mem_cons, List.not_mem_nil, or_false] at h
  rcases h with rfl | rfl | rfl | rfl | rfl | rfl | rfl | rfl
  · exact ⟨.non, by simp, rfl, ⟨rfl, rfl, by decide, by decide +kernel⟩, q5_non, rfl, by decide⟩
  · exact s "" [] (by decide +kernel) (by simp) (by decide) (by decide) (by decide) (by decide)
  · exact s "A" [65] (by decide +kernel) (by simp) (by decide) (by decide) (by decide) (by decide)
  · exact s "1a" [49, 97] (by decide +kernel) (by simp) (by decide) (by decide) (by decide) (by decide)
  · exact s "abcdefghi" [97, 98, 99, 100, 101, 102, 103, 104, 105] (by decide +kernel) (by simp) (by decide) (by decide) (by decide) (by decide)
  · exact s "a b" [97, 32, 98] (by decide +kernel) (by simp) (by decide) (by decide) (by decide) (by decide)
  · exact ⟨.tup, by simp, rfl, ⟨by decide +kernel, rfl, by decide, by decide +kernel⟩, q5_ta, by decide +kernel, by decide +kernel⟩
  · exact s "a_" [97, 95] (by decide +kernel) (by simp) (by decide) (by decide) (by decide) (by decide)
theorem bent4_ok {n : Nat} {J : Cell} {R : Sto} {w0 : List Nat} {ws : List (List Nat)} (hJ : JC n J) (hn : n + 20 < 10 ^ 9) (hr : NL R) (h0 : WdOk w0) (hws : ∀ x, x ∈ ws → WdOk x) (hne : ws ≠ []) (hl : ws.length ≤ 10) :
    ∃ t J', Z54 [.loc 0, .tup [.str (W w0), .int 2], .lst (ws.map sW)] (J :: R) = .ok t (J' :: R) ∧ G4 t ∧ JC (n + 5) J' := by
  have fin : ∀ {t : T} {J5 : Cell} {m : Nat}, JC m J5 → m ≤ n + 5 → G4 t → Z54 [.loc 0, .tup [.str (W w0), .int 2], .lst (ws.map sW)] (J :: R) = finR Z68.cls false (J :: R).length t (J5 :: R) → ∃ t J', Z54 [.loc 0, .tup [.str (W w0), .int 2], .lst (ws.map sW)] (J :: R) = .ok t (J' :: R) ∧ G4 t ∧ JC (n + 5) J' := fun {t J5 m} h hm g e => by
    refine ⟨t, J5, ?_, g, h.mono hm⟩
    rw [e, show (J :: R).length = (J5 :: R).length from rfl]
    exact Z20 (NL_cons h.nl hr) g.nl
  have int2 : ShE (.int 2) 1 400 := (ShE.of (shD_z (x := 2) (by decide))).mono (by decide) (by decide)
  have s0 := (wd_sh h0).mono (k2 := 1) (b2 := 400) (by decide) (by decide)
  obtain ⟨c, J1, e, c0, c7, hJ1⟩ := pour_eq (k := 7) (rest := R) hJ (by omega) (by decide) (by decide) hr
  by_cases h0c : c = 0
  · subst h0c
    obtain ⟨t, J2, o, g, hJ2⟩ := odd4_ok hJ1 (by omega) hr
    exact fin hJ2 (by omega) g (bn_0 e o)
  by_cases h1c : c = 1
  · subst h1c
    obtain ⟨d, J2, e2, d0, d1, hJ2⟩ := pour_eq (k := 8) (rest := R) hJ1 (by omega) (by decide) (by decide) hr
    obtain ⟨y, hy, ix⟩ := pick4 (L := [.int 0, .int 5, .bl true, .non, .str "1", .int (-1), .int 4, .int 1]) d0 d1
    refine fin hJ2 (by omega) ?_ (bn_1 e e2 ix fun st => rfl)
    simp only [List.mem_cons, List.not_mem_nil, or_false] at hy
    rcases hy with rfl | rfl | rfl | rfl | rfl | rfl | rfl | rfl
    · exact G4.g4p (Nm4.nm4wd h0) rfl (by decide) (by simp) rfl (sh4_pair s0 ⟨rfl, by decide +kernel, by decide, by decide +kernel⟩) (q5_wd h0) (by first | exact q5_bl | exact q5_non | exact q5_int (by decide)) (wd_pc h0) ⟨by decide +kernel, by decide +kernel⟩
    · exact G4.g4p (Nm4.nm4wd h0) rfl (by decide) (by simp) rfl (sh4_pair s0 ⟨rfl, by decide +kernel, by decide, by decide +kernel⟩) (q5_wd h0) (by first | exact q5_bl | exact q5_non | exact q5_int (by decide)) (wd_pc h0) ⟨by decide +kernel, by decide +kernel⟩
    · exact G4.g4p (Nm4.nm4wd h0) rfl (by decide) (by simp) rfl (sh4_pair s0 ⟨rfl, by decide +kernel, by decide, by decide +kernel⟩) (q5_wd h0) (by first | exact q5_bl | exact q5_non | exact q5_int (by decide)) (wd_pc h0) ⟨by decide +kernel, by decide +kernel⟩
    · exact G4.g4p (Nm4.nm4wd h0) rfl (by decide) (by simp) rfl (sh4_pair s0 ⟨rfl, by decide +kernel, by decide, by decide +kernel⟩) (q5_wd h0) (by first | exact q5_bl | exact q5_non | exact q5_int (by decide)) (wd_pc h0) ⟨by decide +kernel, by decide +kernel⟩
    · exact G4.g4p (Nm4.nm4wd h0) (by decide +kernel) (by decide) (by simp) rfl (sh4_pair s0 ⟨by decide +kernel, by decide +kernel, by decide, by decide +kernel⟩) (q5_wd h0) (q5_str (by decide +kernel) (by decide)) (wd_pc h0) ⟨by decide +kernel, by decide +kernel⟩
    · exact G4.g4p (Nm4.nm4wd h0) rfl (by decide) (by simp) rfl (sh4_pair s0 ⟨rfl, by decide +kernel, by decide, by decide +kernel⟩) (q5_wd h0) (by first | exact q5_bl | exact q5_non | exact q5_int (by decide)) (wd_pc h0) ⟨by decide +kernel, by decide +kernel⟩
    · exact G4.g4m h0 (by decide) (by decide)
    · exact G4.g4m h0 (by decide) (by decide)
  by_cases h2c : c = 2
  · subst h2c
    obtain ⟨d, J2, e2, d0, d1, hJ2⟩ := pour_eq (k := 8) (rest := R) hJ1 (by omega) (by decide) (by decide) hr
    obtain ⟨x, hx, ix⟩ := pick4 (L := [.non, .str "", .str "A", .str "1a", .str "abcdefghi", .str "a b", .tup [.str "a"], .str "a_"]) d0 d1
    obtain ⟨a, b, cc, dd, q5, y5⟩ := nm4_odd hx
    exact fin hJ2 (by omega) (G4.g4p a rfl rfl (by simp [b]) (by simp [noX, noXs, cc]) (sh4_pair dd int2) q5 (q5_int (by decide)) y5 ⟨by decide, by decide⟩) (bn_2 e e2 ix fun st => rfl)
  have b0 : (c == 0) = false := beq_eq_false_iff_ne.mpr h0c
  have b1 : (c == 1) = false := beq_eq_false_iff_ne.mpr h1c
  have b2 : (c == 2) = false := beq_eq_false_iff_ne.mpr h2c
  by_cases h5 : c < 5
  · have lw : 0 < ws.length := List.length_pos_iff.mpr hne
    obtain ⟨d, J2, e2, d0, d1, hJ2⟩ := pour_eq (k := (ws.length : Int)) (rest := R) hJ1 (by omega) (by omega) (by omega) hr
    obtain ⟨x, hx, ix⟩ := pick4 (L := ws.map sW) d0 (by rw [List.length_map]; exact d1)
    obtain ⟨w, hw, rfl⟩ := List.mem_map.mp hx
    exact fin hJ2 (by omega) (G4.g4m (hws w hw) (by decide) (by decide)) (bn_3 b0 b1 b2 h5 e (fun st => by simp [biT, seqOf, lstOf]) e2 ix fun st => rfl)
  by_cases h5c : c = 5
  · subst h5c
    obtain ⟨d, J2, e2, d0, d1, hJ2⟩ := pour_eq (k := 4) (rest := R) hJ1 (by omega) (by decide) (by decide) hr
    obtain ⟨x, hx, ix⟩ := pick4 (L := [.lst [.str (W w0), .int 2], .tup [.str (W w0), .int 2, .int 1], .tup [.str (W w0)], .tup [.int 2, .str (W w0)]]) d0 d1
    refine fin hJ2 (by omega) ?_ (bn_5 e (cut8_to (n := 1)) e2 ix)
    have so := so4_wd h0
    have y0 := wd_pc h0
    have int1 : ShE (.int 1) 1 400 := (ShE.of (shD_z (x := 1) (by decide))).mono (by decide) (by decide)
    simp only [List.mem_cons, List.not_mem_nil, or_false] at hx
    rcases hx with rfl | rfl | rfl | rfl
    · refine G4.g4o (by simp [Z29, datasE, so]) (fun a b z => by cases z) (by simp) rfl ((shE_lst (n := 2) (k := 1) (b := 400) (by simp) fun z hz => ?_).mono (by decide) (by decide)) (fun Y e => by cases e) ⟨by simpa [pT, pTs] using y0.1, by simpa [yT, yTs] using y0.2⟩
      simp only [List.mem_cons, List.not_mem_nil, or_false] at hz
      rcases hz with rfl | rfl
      · exact s0
      · exact int2
    · refine G4.g4o (by simp [Z29, datasE, so]) (fun a b z => by simp at z) (by simp) rfl ((shE_tup (n := 3) (k := 1) (b := 400) (by simp) fun z hz => ?_).mono (by decide) (by decide)) (pt3 (q5_wd h0) (q5_int (by decide)) (q5_int (by decide))) ⟨by simpa [pT, pTs] using y0.1, by simpa [yT, yTs] using y0.2⟩
      simp only [List.mem_cons, List.not_mem_nil, or_false] at hz
      rcases hz with rfl | rfl | rfl
      · exact s0
      · exact int2
      · exact int1
    · refine G4.g4o (by simp [Z29, datasE, so]) (fun a b z => by simp at z) (by simp) rfl ((shE_tup (n := 1) (k := 1) (b := 400) (by simp) fun z hz => ?_).mono (by decide) (by decide)) (pt1 (q5_wd h0)) ⟨by simpa [pT, pTs] using y0.1, by simpa [yT, yTs] using y0.2⟩
      rw [List.mem_singleton.mp hz]
      exact s0
    · refine ⟨⟨_, .pair _ _ _ (.int 2) (by simpa [Z29] using so) rfl⟩, by simp, rfl, sh4_pair int2 s0, pt2 (q5_int (by decide)) (q5_wd h0), ?_, ?_⟩
      · simpa [pT, pTs] using y0.1
      · simpa [yT, yTs] using y0.2
  have h6 : c = 6 := by omega
  subst h6
  exact fin hJ1 (by omega) (G4.g4m h0 (by decide) (by decide)) (bn_6 e)
abbrev E8b (a0 a1 a2 a3 a4 a5 a6 a7 : Option T) : Env := [a0, a1, a2, a3, a4, a5, a6, a7]
theorem bs_e {J J1 : Cell} {R : Sto} {x : T} {d v : Int} {a1 a2 a3 a4 a5 a6 : Option T} (e : Z19 [.loc 0, .int 4] (J :: R) = .ok (.int d) (J1 :: R)) (hv : 1 + d = v) :
    fTurn [7] (e1_law_bent_side.ev Z21) (.name 7) fYes (E8b (some (.loc 0)) a1 a2 a3 a4 a5 a6 none) x (J :: R) = .ok (some (.tup [x, .int v])) (J1 :: R) := by
  simp! [fTurn, wipeE, e1_law_bent_side, Z89, Z90, Z49, Z18, ap_fCat, ap_fSub, Z39, Z17, k1_fCat, k2_fCat, k1_fSub, k2_fSub, e, hv]
theorem bs_h {J J1 J2 : Cell} {R : Sto} {WS : List T} {m d v : Int} {a2 a3 a4 a5 a6 : Option T} (e : Z19 [.loc 0, .int m] (J :: R) = .ok (.int d) (J1 :: R)) (hv : 1 + d = v) (e2 : F_law_words [.loc 0, .int v] (J1 :: R) = .ok (.lst WS) (J2 :: R)) (hl : WS.length ≤ 100) :
    fSeq (fFn (some ⟨"_law_words", [], padF 2 [] F_law_words⟩) (Z11 (evV 0) (Z11 (fBin .Add (fK (.int 1)) (fFn (some ⟨"_law_pour", [], padF 2 [] Z19⟩) (Z11 (evV 0) (Z11 (evV 1) fNil)) fNil)) fNil)) fNil) (E8b (some (.loc 0)) (some (.int m)) a2 a3 a4 a5 a6 none) (J :: R) = .ok WS (J2 :: R) := by
  simp! [Z49, ap_fMu, Z18, ap_fSub, Z39, k1_fMu, Z17, k1_fSub, k2_fSub, e, hv, e2]
theorem bs_a {S0 S1 : Sto} {YS : List T} {a1 a2 a4 a5 a6 : Option T} {l : Nat} (hl : S1.length = l)
    (c : fLc [7] (e1_law_bent_side.ev Z21) (.name 7) (fSeq (fFn (some ⟨"_law_words", [], padF 2 [] F_law_words⟩) (Z11 (evV 0) (Z11 (fBin .Add (fK (.int 1)) (fFn (some ⟨"_law_pour", [], padF 2 [] Z19⟩) (Z11 (evV 0) (Z11 (evV 1) fNil)) fNil)) fNil)) fNil)) fYes (E8b (some (.loc 0)) a1 a2 none a4 a5 a6 none) S0 = .ok YS S1) :
    Z16 Z21 (Z33.take 1) (E8b (some (.loc 0)) a1 a2 none a4 a5 a6 none) S0 = .nx (E8b (some (.loc 0)) a1 a2 (some (.loc l)) a4 a5 a6 none) (S1 ++ [.lst YS]) := by
  simp only [E8b] at c
  simp! [Z89, Z90, Z33, Z49, ap_fMu, Z18, ap_fCat, ap_fSub, Z39, k1_fMu, Z17, k1_fCat, k2_fCat, k1_fSub, k2_fSub, c, hl]
theorem bs_t {J J1 J2 J3 : Cell} {R : Sto} {x t : T} {X WH : List T} {n d q : Int} {i l : Nat} {a1 a4 a5 a6 : Option T} (hl : l = R.length + 1) (ln : biT (J :: (R ++ [.lst X])) .len [.loc l] = some (.int n)) (e : Z19 [.loc 0, .int n] (J :: (R ++ [.lst X])) = .ok (.int i) (J1 :: (R ++ [.lst X]))) (hi : i < X.length)
    (e2 : Z19 [.loc 0, .int 3] (J1 :: (R ++ [.lst X])) = .ok (.int d) (J2 :: (R ++ [.lst X]))) (ix : ∀ st, ixT st (.lst [.str "a", .str "bob", .str "z9"]) (.int d) = some x) (hw : WH.length ≤ 100)
    (e3 : Z54 [.loc 0, .tup [x, .int 2], .lst (WH ++ [.str "a", .str "bob"])] (J2 :: (R ++ [.lst X])) = .ok t (J3 :: (R ++ [.lst X]))) :
    Z16 Z21 l1_law_bent_side (E8b (some (.loc 0)) a1 (some (.lst WH)) (some (.loc l)) a4 a5 a6 none) (J :: (R ++ [.lst X])) = .nx (E8b (some (.loc 0)) a1 (some (.lst WH)) (some (.loc l)) a4 a5 (some (.int i)) none) (J3 :: (R ++ [.lst (X.set i t)])) := by
  subst hl
  have g : ∀ (J : Cell) (A : List T), (J :: (R ++ [Cell.lst A]))[R.length + 1]? = some (.lst A) := fun J A => by simp
  have st : ∀ (J : Cell) (A B : List T), (J :: (R ++ [Cell.lst A])).set (R.length + 1) (.lst B) = J :: (R ++ [.lst B]) := fun J A B => by simp
  have hw2 : WH.length + 2 ≤ 16777216 := by omega
  simp! [Z89, Z90, l1_law_bent_side, Z51, ap_fSl, Z49, Z18, ap_fCat, ap_fLi, ap_fSlL, ap_fSub, Z50, k1_fSl, k2_fSl, k3_fSl, Z39, Z17, k1_fCat, k2_fCat, k1_fLi, Z57, Z56, Z58, k1_fSub, k2_fSub, -ix_lst', ln, e, e2, ix, hw2, e3, g, hi, st]
theorem bs_c {J J1 : Cell} {R : Sto} {d : Int} {a1 a2 a3 a4 a5 a6 : Option T} (e : Z19 [.loc 0, .int 9] (J :: R) = .ok (.int d) (J1 :: R)) :
    Z16 Z21 ((Z33.drop 2).take 1) (E8b (some (.loc 0)) a1 a2 a3 a4 a5 a6 none) (J :: R) = .nx (E8b (some (.loc 0)) a1 a2 a3 a4 (some (.int d)) a6 none) (J1 :: R) := by
  simp! [Z89, Z90, Z33, Z49, Z18, ap_fCat, ap_fSub, Z39, Z17, k1_fCat, k2_fCat, k1_fSub, k2_fSub, e]
theorem bs_n {S0 : Sto} {X : List T} {l : Nat} {d : Int} {a0 a1 a2 a4 a6 : Option T} (hd : ¬ (d < 6)) (b : biT S0 .tuple [.loc l] = some (.tup X)) :
    Z16 Z21 (Z33.drop 3) (E8b a0 a1 a2 (some (.loc l)) a4 (some (.int d)) a6 none) S0 = .rt (.tup X) S0 := by
  simp! [Z89, Z90, Z33, Z49, Z18, ap_fCat, ap_fSub, Z39, Z17, k1_fCat, k2_fCat, k1_fSub, k2_fSub, hd, b, asBl]
theorem bs_m {J J1 : Cell} {R : Sto} {X : List T} {l : Nat} {d k : Int} {a1 a2 a4 a6 : Option T} (hd : d < 6) (e : Z19 [.loc 0, .int 3] (J :: R) = .ok (.int k) (J1 :: R)) (hk : (k == 0) = false) (b : biT (J1 :: R) .tuple [.loc l] = some (.tup X)) :
    Z16 Z21 (Z33.drop 3) (E8b (some (.loc 0)) a1 a2 (some (.loc l)) a4 (some (.int d)) a6 none) (J :: R) = .rt (.tup X) (J1 :: R) := by
  have ne : ¬ (k = 0) := by simpa using hk
  simp! [Z89, Z90, Z33, Z49, Z18, ap_fCat, ap_fSub, Z39, Z17, k1_fCat, k2_fCat, k1_fSub, k2_fSub, hd, e, hk, ne, b, asBl]
theorem bs_y {J J1 : Cell} {R : Sto} {x y : T} {l : Nat} {d : Int} {a1 a2 a4 a6 : Option T} (hd : d < 6) (e : Z19 [.loc 0, .int 3] (J :: R) = .ok (.int 0) (J1 :: R)) (i0 : ixT (J1 :: R) (.loc l) (.int 0) = some x) (ix : ixT (J1 :: R) (.lst [.loc l, .tup [], .non, .str "a", .edt, x]) (.int d) = some y) :
    Z16 Z21 (Z33.drop 3) (E8b (some (.loc 0)) a1 a2 (some (.loc l)) a4 (some (.int d)) a6 none) (J :: R) = .rt y (J1 :: R) := by
  simp! [Z89, Z90, Z33, Z49, Z18, ap_fCat, ap_fSub, Z39, Z17, k1_fCat, k2_fCat, k1_fSub, k2_fSub, -ix_lst', ap_fEd, hd, e, i0, ix, asBl]
theorem ms4 : ∀ {ws : List (List Nat)} {ys : List T}, ys.length = ws.length → (∀ (i : Nat) (y : T), ys[i]? = some y → ∃ w v, ws[i]? = some w ∧ y = mT (w, v) ∧ 1 ≤ v ∧ v ≤ 4) → ∃ ms : List (List Nat × Int), ys = ms.map mT ∧ ms.map (·.1) = ws ∧ ∀ m, m ∈ ms → 1 ≤ m.2 ∧ m.2 ≤ 4
  | [], [], _, _ => ⟨[], rfl, rfl, fun m hm => nomatch hm⟩
  | [], _ :: _, h, _ => by simp at h
  | _ :: _, [], h, _ => by simp at h
  | w :: ws, y :: ys, h, k => by
    obtain ⟨ms, e1, e2, e3⟩ := ms4 (ws := ws) (ys := ys) (by simpa using h) fun i y hy => by simpa using k (i + 1) y (by simpa using hy)
    obtain ⟨w', v, h1, h2, h3, h4⟩ := k 0 y rfl
    have : w = w' := by simpa using h1
    subst this
    refine ⟨(w, v) :: ms, by rw [e1, h2]; rfl, by rw [← e2]; rfl, fun m hm => ?_⟩
    rcases List.mem_cons.mp hm with rfl | hm
    · exact ⟨h3, h4⟩
    · exact e3 m hm
theorem draw4 {own : List Nat} {fe : Env → Sto → R T} {g : IG} {fit : Env → Sto → R (List T)} {ft : Env → Sto → R Bool} {env : Env} {S : Sto} {J1 : Cell} {R : Sto} {ws : List (List Nat)} {n : Nat} (hit : fit env S = .ok (ws.map sW) (J1 :: R)) (hl : ws.length ≤ 100) (hJ : JC n J1) (hn : n + 200 < 10 ^ 9)
    (step : ∀ (w : List Nat) (J : Cell) (m : Nat), JC m J → m + 50 < 10 ^ 9 → ∃ J' v, fTurn own fe g ft env (sW w) (J :: R) = .ok (some (mT (w, v))) (J' :: R) ∧ 1 ≤ v ∧ v ≤ 4 ∧ JC (m + 1) J') :
    ∃ (ms : List (List Nat × Int)) (J' : Cell), fLc own fe g fit ft env S = .ok (ms.map mT) (J' :: R) ∧ ms.map (·.1) = ws ∧ (∀ m, m ∈ ms → 1 ≤ m.2 ∧ m.2 ≤ 4) ∧ JC (n + ws.length) J' := by
  obtain ⟨ys, st, e, h1, h2, J', rfl, h4⟩ := lc_inv (own := own) (fe := fe) (g := g) (ft := ft) (P := fun i st => ∃ J, st = J :: R ∧ JC (n + i) J) (Q := fun i y => ∃ w v, ws[i]? = some w ∧ y = mT (w, v) ∧ 1 ≤ v ∧ v ≤ 4) hit (by rw [List.length_map]; omega) ⟨J1, rfl, hJ⟩ fun i x st hx ⟨J, hs, hj⟩ => by
    subst hs
    rw [List.getElem?_map] at hx
    cases hw : ws[i]? with
    | none => rw [hw] at hx; simp at hx
    | some w =>
      rw [hw] at hx
      have : x = sW w := by simpa using hx.symm
      subst this
      have hi : i < ws.length := by
        rcases Nat.lt_or_ge i ws.length with h | h
        · exact h
        · rw [List.getElem?_eq_none h] at hw; cases hw
      obtain ⟨J', v, e, v1, v4, hj'⟩ := step w J (n + i) hj (by omega)
      exact ⟨some (mT (w, v)), J' :: R, e, ⟨mT (w, v), rfl, w, v, rfl, rfl, v1, v4⟩, J', rfl, by rw [show n + (i + 1) = n + i + 1 from by omega]; exact hj'⟩
  rw [List.length_map] at h1 h4
  obtain ⟨ms, k1, k2, k3⟩ := ms4 h1 h2
  exact ⟨ms, J', by rw [e, k1], k2, k3, h4⟩
structure S4 (t : T) : Prop where
  kd : (∃ X : List T, t = .tup X ∧ X.length ≤ 6 ∧ ∀ x, x ∈ X → ∃ o, El4 x o) ∨ ∀ X, t ≠ .tup X
  nl : Nl t
  nx : noX t = true
  sh : ShE t 3 20000
  yt : pT t = true ∧ yT t ≤ 24
theorem nxs4 {X : List T} (h : ∀ x, x ∈ X → noX x = true) : noXs X = true := by
  induction X with
  | nil => rfl
  | cons x r ih => simp [noXs, h x List.mem_cons_self, ih fun y hy => h y (List.mem_cons_of_mem _ hy)]
theorem yt4 : ∀ {X : List T}, (∀ x, x ∈ X → G4 x) → pTs X = true ∧ yTs X ≤ 4 * X.length
  | [], _ => ⟨rfl, by simp [yTs]⟩
  | x :: X, h => by
    obtain ⟨a, b⟩ := yt4 (X := X) fun y hy => h y (List.mem_cons_of_mem _ hy)
    obtain ⟨c, d⟩ := (h x List.mem_cons_self).yt
    exact ⟨by simp [pTs, a, c], by simp only [yTs, List.length_cons]; omega⟩
theorem S4.s4lst {X : List T} (hl : X.length ≤ 6) (h : ∀ x, x ∈ X → G4 x) : S4 (.lst X) where
  kd := .inr fun Y z => by cases z
  nl := by simp [nls_of fun x hx => (h x hx).nl]
  nx := by simpa [noX] using nxs4 fun x hx => (h x hx).nx
  sh := (shE_lst (n := 6) hl fun x hx => (h x hx).sh).mono (by decide) (by decide)
  yt := ⟨by simpa [pT] using (yt4 h).1, by have := (yt4 h).2; simp only [yT]; omega⟩
theorem S4.s4tup {X : List T} (hl : X.length ≤ 6) (h : ∀ x, x ∈ X → G4 x) : S4 (.tup X) where
  kd := .inl ⟨X, rfl, hl, fun x hx => (h x hx).el⟩
  nl := by simp [nls_of fun x hx => (h x hx).nl]
  nx := by simpa [noX] using nxs4 fun x hx => (h x hx).nx
  sh := (shE_tup (n := 6) hl fun x hx => (h x hx).sh).mono (by decide) (by decide)
  yt := ⟨by simpa [pT] using (yt4 h).1, by have := (yt4 h).2; simp only [yT]; omega⟩
theorem S4.s4one {x : T} (h : G4 x) : S4 x where
  kd := by
    by_cases k : ∃ X, x = .tup X
    · obtain ⟨X, rfl⟩ := k
      obtain ⟨h1, h2⟩ := h.pt X rfl
      refine .inl ⟨X, rfl, by omega, fun y hy => ?_⟩
      obtain ⟨a, b, _⟩ := h2 y hy
      exact ⟨none, .other y a b⟩
    · exact .inr fun X z => k ⟨X, z⟩
  nl := h.nl
  nx := h.nx
  sh := h.sh.mono (by decide) (by decide)
  yt := ⟨h.yt.1, by have := h.yt.2; omega⟩
theorem bs_split : Z33 = Z33.take 1 ++ ((Z33.drop 1).take 1 ++ ((Z33.drop 2).take 1 ++ Z33.drop 3)) := rfl
theorem bs_for {S S1 S2 : Sto} {xs : List T} {a1 a2 a3 a5 a6 a4 b4 b6 : Option T} (rg : II.ev Z21 (.rng1 (.call 1 (.cons (.v 0) (.cons (.k (.int 3)) .nil)) .nil)) (E8b (some (.loc 0)) a1 a2 a3 a4 a5 a6 none) S = .ok xs S1)
    (w : walkO (.name 4) (Z16 Z21 l1_law_bent_side) xs (E8b (some (.loc 0)) a1 a2 a3 a4 a5 a6 none) S1 = .nx (E8b (some (.loc 0)) a1 a2 a3 b4 a5 b6 none) S2) :
    Z16 Z21 ((Z33.drop 1).take 1) (E8b (some (.loc 0)) a1 a2 a3 a4 a5 a6 none) S = .nx (E8b (some (.loc 0)) a1 a2 a3 b4 a5 b6 none) S2 := by
  have e : (Z33.drop 1).take 1 = [.for_ (.name 4) (.rng1 (.call 1 (.cons (.v 0) (.cons (.k (.int 3)) .nil)) .nil)) l1_law_bent_side] := rfl
  rw [e, ap_evSs, IS.ev, ap_fFor, rg, go_ok', k1_fFor, w, seq_nx']
  rfl
theorem bs_rg {J J1 : Cell} {R : Sto} {d : Nat} {a1 a2 a3 a4 a5 a6 : Option T} (e : Z19 [.loc 0, .int 3] (J :: R) = .ok (.int d) (J1 :: R)) (hd : d ≤ 3) :
    II.ev Z21 (.rng1 (.call 1 (.cons (.v 0) (.cons (.k (.int 3)) .nil)) .nil)) (E8b (some (.loc 0)) a1 a2 a3 a4 a5 a6 none) (J :: R) = .ok ((List.range d).map fun (j : Nat) => T.int (j : Int)) (J1 :: R) := by
  refine rg1_eq (fa := IE.ev Z21 (.call 1 (.cons (.v 0) (.cons (.k (.int 3)) .nil)) .nil)) ?_ (by omega)
  simp! [Z89, Z90, Z49, Z18, ap_fCat, ap_fSub, Z39, Z17, k1_fCat, k2_fCat, k1_fSub, k2_fSub, e]
theorem bent_side4 {n : Nat} {J : Cell} {R : Sto} {m : Nat} {WH : List (List Nat)} (hJ : JC n J) (hn : n + 300 < 10 ^ 9) (hr : NL R) (hm1 : 1 ≤ m) (hm : m ≤ 6) (hws : ∀ x, x ∈ WH → WdOk x) (hwl : WH.length ≤ 8) :
    ∃ t J', F_law_bent_side [.loc 0, .int m, .lst (WH.map sW)] (J :: R) = .ok t (J' :: R) ∧ S4 t ∧ JC (n + 200) J' := by
  obtain ⟨d, J1, e1, d0, d1, hJ1⟩ := pour_eq (k := (m : Int)) (rest := R) hJ (by omega) (by omega) (by omega) hr
  obtain ⟨k, rfl⟩ := Int.eq_ofNat_of_zero_le d0
  obtain ⟨ws, J2, e2, hl, -, hw, hJ2⟩ := words_ok (m := 1 + k) (rest := R) hJ1 (by omega) (by omega) hr
  have hh := bs_h (a2 := some (.lst (WH.map sW))) (a3 := none) (a4 := none) (a5 := none) (a6 := none) e1 (v := ((1 + k : Nat) : Int)) (by omega) e2 (by rw [List.length_map]; omega)
  obtain ⟨ms, J3, e3, hn3, hb3, hJ3⟩ := draw4 (own := [7]) (fe := e1_law_bent_side.ev Z21) (g := .name 7) (ft := fYes) hh (by omega) hJ2 (by omega) fun w J m hj hm => by
    obtain ⟨d, J', e, d0, d1, hj'⟩ := pour_eq (k := 4) (rest := R) hj (by omega) (by decide) (by decide) hr
    exact ⟨J', 1 + d, bs_e e rfl, by omega, by omega, hj'⟩
  have W1 := bs_a (l := R.length + 1) (by simp) e3
  have hms : ∀ x, x ∈ ms.map mT → G4 x := fun x hx => by
    obtain ⟨q, hq, rfl⟩ := List.mem_map.mp hx
    have : q.1 ∈ ws := by rw [← hn3]; exact List.mem_map_of_mem hq
    exact G4.g4m (hw _ this) (hb3 q hq).1 (hb3 q hq).2
  have lms : (ms.map mT).length = 1 + k := by rw [List.length_map, ← List.length_map (f := (·.1)) (as := ms), hn3]; exact hl
  generalize hX0 : ms.map mT = X0 at W1 hms lms
  rw [List.cons_append] at W1
  have gl : ∀ (J : Cell) (A : List T), (J :: (R ++ [Cell.lst A]))[R.length + 1]? = some (.lst A) := fun J A => by simp
  have ln : ∀ (J : Cell) (A : List T), A.length ≤ 100 → biT (J :: (R ++ [.lst A])) .len [.loc (R.length + 1)] = some (.int A.length) := fun J A hA => by
    simp [biT, seqOf, lstOf, gl]
  have nR : ∀ (A : List T), (∀ x, x ∈ A → Nl x) → NL (R ++ [.lst A]) := fun A hA => NL_app hr (NL_lst (nls_of hA) NL_nil)
  obtain ⟨q, J4, e4, q0, q1, hJ4⟩ := pour_eq (k := 3) (rest := R ++ [.lst X0]) hJ3 (by omega) (by decide) (by decide) (nR _ fun x hx => (hms x hx).nl)
  obtain ⟨q, rfl⟩ := Int.eq_ofNat_of_zero_le q0
  have n3 : n + 1 + 10 * (1 + k) + ws.length + 1 ≤ n + 80 := by omega
  have hJ5 := hJ4.mono n3
  obtain ⟨env2, st2, W2, J6, X, b4, b6, rfl, rfl, hX, lX, hJ6⟩ := walk_nx (g := .name 4) (f := Z16 Z21 l1_law_bent_side) (xs := (List.range q).map fun (j : Nat) => T.int (j : Int)) (env := E8b (some (.loc 0)) (some (.int m)) (some (.lst (WH.map sW))) (some (.loc (R.length + 1))) none none none none) (st := J4 :: (R ++ [.lst X0]))
    (Q := fun i env st => ∃ J' X b4 b6, env = E8b (some (.loc 0)) (some (.int m)) (some (.lst (WH.map sW))) (some (.loc (R.length + 1))) b4 none b6 none ∧ st = J' :: (R ++ [.lst X]) ∧ (∀ x, x ∈ X → G4 x) ∧ X.length = 1 + k ∧ JC (n + 80 + 10 * i) J')
    ⟨J4, X0, _, _, rfl, rfl, hms, lms, hJ5⟩ fun i x env st hx ⟨J', X, b4, b6, he, hst, hX, lX, hJ'⟩ => by
      subst he; subst hst
      obtain ⟨hi, rfl⟩ := rng_get hx
      have nx := nR X fun x hx => (hX x hx).nl
      have l1 := ln J' X (by omega)
      obtain ⟨a, J1, f1, a0, hal, h1⟩ := pour_eq (k := (X.length : Int)) (rest := R ++ [.lst X]) hJ' (by omega) (by omega) (by omega) nx
      obtain ⟨a, rfl⟩ := Int.eq_ofNat_of_zero_le a0
      obtain ⟨b, J2, f2, b0, b1, h2⟩ := pour_eq (k := 3) (rest := R ++ [.lst X]) h1 (by omega) (by decide) (by decide) nx
      obtain ⟨y, hy, iy⟩ := pick4 (L := [.str "a", .str "bob", .str "z9"]) b0 b1
      obtain ⟨w, hw, rfl⟩ : ∃ w, WdOk w ∧ y = .str (W w) := by
        simp only [List.mem_cons, List.not_mem_nil, or_false] at hy
        rcases hy with rfl | rfl | rfl
        · exact ⟨[97], wd_a, congrArg T.str (by decide +kernel)⟩
        · exact ⟨[98, 111, 98], wd_bob, congrArg T.str (by decide +kernel)⟩
        · exact ⟨[122, 57], wd_z9, congrArg T.str (by decide +kernel)⟩
      obtain ⟨t, J3, f3, g, h3⟩ := bent4_ok (ws := WH ++ [[97], [98, 111, 98]]) (R := R ++ [.lst X]) h2 (by omega) nx hw (fun x hx => by
        rcases List.mem_append.mp hx with h | h
        · exact hws x h
        · simp only [List.mem_cons, List.not_mem_nil, or_false] at h
          rcases h with rfl | rfl
          · exact wd_a
          · exact wd_bob) (by simp) (by simp; omega)
      have ew : (WH ++ [[97], [98, 111, 98]]).map sW = WH.map sW ++ [.str "a", .str "bob"] := by
        rw [List.map_append]
        congr 1
      rw [ew] at f3
      exact ⟨_, _, _, rfl, bs_t (q := 0) rfl l1 f1 (by omega) f2 iy (by rw [List.length_map]; omega) f3, J3, X.set a t, _, _, rfl, rfl, fun z hz => by
        rcases List.mem_or_eq_of_mem_set hz with h | h
        · exact hX z h
        · rw [h]; exact g, by rw [List.length_set]; exact lX, h3.mono (by omega)⟩
  obtain ⟨c, J7, e7, c0, c9, hJ7⟩ := pour_eq (k := 9) (rest := R ++ [.lst X]) hJ6 (by simp; omega) (by decide) (by decide) (nR _ fun x hx => (hX x hx).nl)
  have W3 := bs_c (a1 := some (.int m)) (a2 := some (.lst (WH.map sW))) (a3 := some (.loc (R.length + 1))) (a4 := b4) (a5 := none) (a6 := b6) e7
  have W12 := bs_for (bs_rg e4 (by omega)) W2
  have body : ∀ {v : T} {S : Sto}, Z16 Z21 (Z33.drop 3) (E8b (some (.loc 0)) (some (.int m)) (some (.lst (WH.map sW))) (some (.loc (R.length + 1))) b4 (some (.int c)) b6 none) (J7 :: (R ++ [.lst X])) = .rt v S → F_law_bent_side [.loc 0, .int m, .lst (WH.map sW)] (J :: R) = finR Z21.cls false (J :: R).length v S := fun {v S} h => by
    show (if ([T.loc 0, .int m, .lst (WH.map sW)]).length = 3 then finO Z21.cls false (J :: R).length (Z16 Z21 Z33 (env0 8 [T.loc 0, .int m, .lst (WH.map sW)]) (J :: R)) else .bad) = _
    rw [if_pos (by simp)]
    have : Z16 Z21 Z33 (env0 8 [T.loc 0, .int m, .lst (WH.map sW)]) (J :: R) = .rt v S := by
      rw [bs_split, evSs_app]
      refine (congrArg (fun o => O.seq o _) W1).trans ?_
      rw [seq_nx', evSs_app, W12, seq_nx', evSs_app, W3, seq_nx', h]
    rw [this]
    rfl
  have done : ∀ {v : T} {J8 : Cell} {i : Nat}, JC i J8 → i ≤ n + 200 → S4 v → Z16 Z21 (Z33.drop 3) (E8b (some (.loc 0)) (some (.int m)) (some (.lst (WH.map sW))) (some (.loc (R.length + 1))) b4 (some (.int c)) b6 none) (J7 :: (R ++ [.lst X])) = .rt v (J8 :: (R ++ [.lst X])) → ∃ t J', F_law_bent_side [.loc 0, .int m, .lst (WH.map sW)] (J :: R) = .ok t (J' :: R) ∧ S4 t ∧ JC (n + 200) J' := fun {v J8 i} hj hi s h => by
    refine ⟨v, J8, (body h).trans ?_, s, hj.mono hi⟩
    exact fin_nl (st := J8 :: R) (loc := [.lst X]) (NL_cons hj.nl hr) s.nl
  have tb : ∀ J : Cell, biT (J :: (R ++ [.lst X])) .tuple [.loc (R.length + 1)] = some (.tup X) := fun J => by
    simp [biT, seqOf, lstOf, gl]
  have l6 : X.length ≤ 6 := by omega
  have bnd : n + 80 + 10 * ((List.range q).map fun (j : Nat) => T.int (j : Int)).length + 1 ≤ n + 120 := by simp; omega
  have hJ8 := hJ7.mono bnd
  by_cases h6 : c < 6
  · obtain ⟨z, J9, e9, z0, z3, hJ9⟩ := pour_eq (k := 3) (rest := R ++ [.lst X]) hJ8 (by omega) (by decide) (by decide) (nR _ fun x hx => (hX x hx).nl)
    by_cases hz : z = 0
    · subst hz
      cases hXX : X with
      | nil => rw [hXX, List.length_nil] at lX; omega
      | cons x0 Xr =>
        have hx0 : G4 x0 := hX x0 (by rw [hXX]; exact List.mem_cons_self)
        have i0 : ixT (J9 :: (R ++ [.lst X])) (.loc (R.length + 1)) (.int 0) = some x0 := by
          simp [ixT, seqOf, lstOf, gl, hXX]
          exact at_nat (i := 0) rfl
        have ym : ∀ {y : T}, ixT (J9 :: (R ++ [.lst X])) (.lst [.loc (R.length + 1), .tup [], .non, .str "a", .edt, x0]) (.int c) = some y → F_law_bent_side [.loc 0, .int m, .lst (WH.map sW)] (J :: R) = finR Z21.cls false (J :: R).length y (J9 :: (R ++ [.lst X])) := fun h => body (bs_y h6 e9 i0 h)
        obtain ⟨c, rfl⟩ := Int.eq_ofNat_of_zero_le c0
        have cc : c = 0 ∨ c = 1 ∨ c = 2 ∨ c = 3 ∨ c = 4 ∨ c = 5 := by omega
        have dn : ∀ {y : T}, S4 y → ixT (J9 :: (R ++ [.lst X])) (.lst [.loc (R.length + 1), .tup [], .non, .str "a", .edt, x0]) (.int (c : Nat)) = some y → ∃ t J', F_law_bent_side [.loc 0, .int m, .lst (WH.map sW)] (J :: R) = .ok t (J' :: R) ∧ S4 t ∧ JC (n + 200) J' := fun {y} s h => ⟨y, J9, (ym h).trans (fin_nl (st := J9 :: R) (loc := [.lst X]) (NL_cons hJ9.nl hr) s.nl), s, hJ9.mono (by omega)⟩
        rcases cc with rfl | rfl | rfl | rfl | rfl | rfl
        · exact ⟨.lst X, J9, (ym rfl).trans (fin_lst (st := J9 :: R) (loc := [.lst X]) (NL_cons hJ9.nl hr) (by simp) (by simp) (nls_of fun x hx => (hX x hx).nl)), S4.s4lst l6 hX, hJ9.mono (by omega)⟩
        · exact dn (S4.s4tup (X := []) (by simp) fun x hx => nomatch hx) rfl
        · exact dn (y := .non) (S4.s4one (odd4_g (by simp))) rfl
        · exact dn (y := .str "a") (S4.s4one (odd4_g (by simp))) rfl
        · exact dn (y := .edt) (S4.s4one (odd4_g (by simp))) rfl
        · exact dn (S4.s4one hx0) rfl
    · exact done hJ9 (by omega) (S4.s4tup l6 hX) (bs_m h6 e9 (beq_eq_false_iff_ne.mpr hz) (tb J9))
  · exact done hJ8 (by omega) (S4.s4tup l6 hX) (bs_n h6 (tb J7))
inductive Gs4 (ns : List (List Nat)) : T → Option T → Prop
  | no (t : T) (h : ∀ X, t ≠ .tup X) (hd : Z29 t = true) : Gs4 ns t (some .non)
  | nil : Gs4 ns (.tup []) (some .non)
  | bad (L : List (T × Option (List Nat))) (k : Nat) (hL : ∀ q, q ∈ L → El4 q.1 q.2) (hl : L.length ≤ 6) (h0 : L ≠ []) (hw : wr4 ns 0 (L.map (·.2)) = some k) : Gs4 ns (.tup (L.map (·.1))) (some (.int k))
  | ok (L : List (T × Option (List Nat))) (hL : ∀ q, q ∈ L → El4 q.1 q.2) (hl : L.length ≤ 6) (h0 : L ≠ []) (hw : wr4 ns 0 (L.map (·.2)) = none) : Gs4 ns (.tup (L.map (·.1))) none
theorem el4s : ∀ {X : List T}, (∀ x, x ∈ X → ∃ o, El4 x o) → ∃ L : List (T × Option (List Nat)), X = L.map (·.1) ∧ ∀ q, q ∈ L → El4 q.1 q.2
  | [], _ => ⟨[], rfl, fun q hq => nomatch hq⟩
  | x :: X, h => by
    obtain ⟨L, e, hL⟩ := el4s (X := X) fun y hy => h y (List.mem_cons_of_mem _ hy)
    obtain ⟨o, ho⟩ := h x List.mem_cons_self
    refine ⟨(x, o) :: L, by rw [e]; rfl, fun q hq => ?_⟩
    rcases List.mem_cons.mp hq with rfl | hq
    · exact ho
    · exact hL q hq
theorem S4.s4gs {t : T} (h : S4 t) (ns : List (List Nat)) : ∃ o, Gs4 ns t o := by
  rcases h.kd with ⟨X, rfl, hl, hX⟩ | hn
  · obtain ⟨L, rfl, hL⟩ := el4s hX
    rw [List.length_map] at hl
    by_cases h0 : L = []
    · subst h0
      exact ⟨_, .nil⟩
    · cases hw : wr4 ns 0 (L.map (·.2)) with
      | none => exact ⟨_, .ok L hL hl h0 hw⟩
      | some k => exact ⟨_, .bad L k hL hl h0 hw⟩
  · exact ⟨_, .no t hn h.sh.1⟩
def Hs4 (P : T) : Prop := P = .non ∨ P = .tup [] ∨ ∃ X, P = .lst X
theorem ck4_h {P g : T} {st : Sto} (h : Hs4 P) : Z27 [P, g] st = finO Z28.cls false st.length (.exc (.exc 110 [.non]) [some P, some g, none, none] st) := by
  rcases h with rfl | rfl | ⟨X, rfl⟩
  · simp! [Z27, Z92, Z91, i0_of_check_sides_k04, i1_of_check_sides_k04, i2_of_check_sides_k04, i3_of_check_sides_k04, i4_of_check_sides_k04, i5_of_check_sides_k04, i7_of_check_sides_k04, b_check_sides_k04, Z15, Z14, ap_fRse, k1_fRse]
  · simp! [Z27, Z92, Z91, i0_of_check_sides_k04, i1_of_check_sides_k04, i2_of_check_sides_k04, i3_of_check_sides_k04, i4_of_check_sides_k04, i5_of_check_sides_k04, i7_of_check_sides_k04, b_check_sides_k04, Z15, Z14, ap_fRse, k1_fRse]
  · simp! [Z27, Z92, Z91, i0_of_check_sides_k04, i1_of_check_sides_k04, i2_of_check_sides_k04, i3_of_check_sides_k04, i4_of_check_sides_k04, i5_of_check_sides_k04, i7_of_check_sides_k04, b_check_sides_k04, Z15, Z14, ap_fRse, k1_fRse]
theorem ck4_n {xs : List T} {g : T} {st : Sto} (hx : xs.length ≠ 0) (w1 : Z55 [.tup xs, .tup []] st = .ok .non st) (no : ∀ n, isiT n Z28.isi (.ty "tuple") st g = some false) :
    Z27 [.tup xs, g] st = finO Z28.cls false st.length (.exc (.exc 111 [.non]) [some (.tup xs), some g, some .non, none] st) := by
  have hx' : ((xs.length : Int) == 0) = false := beq_false_of_ne (by omega)
  simp! [Z27, Z92, Z91, i0_of_check_sides_k04, i1_of_check_sides_k04, i2_of_check_sides_k04, i3_of_check_sides_k04, i4_of_check_sides_k04, i5_of_check_sides_k04, i7_of_check_sides_k04, b_check_sides_k04, ap_fGl, ap_fSl, ap_fSlL, ap_fEn, Z15, k1_fSl, k2_fSl, k3_fSl, Z57, Z56, Z58, k1_fEn, Z14, hx', w1, no, ap_fRse, k1_fRse]
theorem ck4_e {xs : List T} {st : Sto} (hx : xs.length ≠ 0) (w1 : Z55 [.tup xs, .tup []] st = .ok .non st) :
    Z27 [.tup xs, .tup []] st = finO Z28.cls false st.length (.exc (.exc 111 [.non]) [some (.tup xs), some (.tup []), some .non, none] st) := by
  have hx' : ((xs.length : Int) == 0) = false := beq_false_of_ne (by omega)
  simp! [Z27, Z92, Z91, i0_of_check_sides_k04, i1_of_check_sides_k04, i2_of_check_sides_k04, i3_of_check_sides_k04, i4_of_check_sides_k04, i5_of_check_sides_k04, i7_of_check_sides_k04, b_check_sides_k04, ap_fGl, ap_fSl, ap_fSlL, ap_fEn, Z15, k1_fSl, k2_fSl, k3_fSl, Z57, Z56, Z58, k1_fEn, Z14, hx', w1, ap_fRse, k1_fRse]
theorem ck4_b {xs ys zs : List T} {k : Int} {st : Sto} (hx : xs.length ≠ 0) (hy : ys.length ≠ 0) (w1 : Z55 [.tup xs, .tup []] st = .ok .non st) (w2 : Z55 [.tup ys, .tup zs] st = .ok (.int k) st)
    (c : fLc [3] (e1_check_sides_k04.ev Z28) (.name 3) (fSeq (evV 0)) fYes [some (.tup xs), some (.tup ys), some .non, none] st = .ok zs st) :
    Z27 [.tup xs, .tup ys] st = finO Z28.cls false st.length (.exc (.exc 111 [.int k]) [some (.tup xs), some (.tup ys), some (.int k), none] st) := by
  have hx' : ((xs.length : Int) == 0) = false := beq_false_of_ne (by omega)
  have hy' : ((ys.length : Int) == 0) = false := beq_false_of_ne (by omega)
  simp! [Z27, Z92, Z91, i0_of_check_sides_k04, i1_of_check_sides_k04, i2_of_check_sides_k04, i3_of_check_sides_k04, i4_of_check_sides_k04, i5_of_check_sides_k04, i7_of_check_sides_k04, b_check_sides_k04, ap_fGl, ap_fSl, ap_fSlL, ap_fEn, Z15, k1_fSl, k2_fSl, k3_fSl, Z57, Z56, Z58, k1_fEn, Z14, hx', hy', w1, w2, c, ap_fRse, k1_fRse]
theorem ck4_g {xs ys zs : List T} {st : Sto} (hx : xs.length ≠ 0) (hy : ys.length ≠ 0) (w1 : Z55 [.tup xs, .tup []] st = .ok .non st) (w2 : Z55 [.tup ys, .tup zs] st = .ok .non st)
    (c : fLc [3] (e1_check_sides_k04.ev Z28) (.name 3) (fSeq (evV 0)) fYes [some (.tup xs), some (.tup ys), some .non, none] st = .ok zs st) :
    Z27 [.tup xs, .tup ys] st = finR Z28.cls false st.length .non st := by
  have hx' : ((xs.length : Int) == 0) = false := beq_false_of_ne (by omega)
  have hy' : ((ys.length : Int) == 0) = false := beq_false_of_ne (by omega)
  simp! [Z27, Z92, Z91, i0_of_check_sides_k04, i1_of_check_sides_k04, i2_of_check_sides_k04, i3_of_check_sides_k04, i4_of_check_sides_k04, i5_of_check_sides_k04, i7_of_check_sides_k04, b_check_sides_k04, ap_fGl, ap_fSl, ap_fSlL, ap_fEn, Z15, k1_fSl, k2_fSl, k3_fSl, Z57, Z56, Z58, k1_fEn, Z14, hx', hy', w1, w2, c]
theorem wr4_no : ∀ (ws ns : List (List Nat)) (n : Nat), (ns ++ ws).Nodup → n + ws.length ≤ 4 → wr4 ns n (ws.map some) = none
  | [], _, _, _, _ => rfl
  | w :: ws, ns, n, hd, hl => by
    rw [List.length_cons] at hl
    have h1 : w ∉ ns := fun z => (List.nodup_append.mp hd).2.2 w z w List.mem_cons_self rfl
    rw [List.map_cons, wr4, if_neg (by rintro (z | z); omega; exact h1 z)]
    exact wr4_no ws (ns ++ [w]) (n + 1) (by simpa using hd) (by omega)
structure Ps4 (ps : List (List Nat × Int)) : Prop where
  ne : ps ≠ []
  le : ps.length ≤ 4
  wd : ∀ m, m ∈ ps → WdOk m.1
  bd : ∀ m, m ∈ ps → 1 ≤ m.2 ∧ m.2 ≤ 4
  nd : (ps.map (·.1)).Nodup
theorem Ps4.ps4wm {ps : List (List Nat × Int)} {st : Sto} (h : Ps4 ps) (hs : NL st) : Z55 [.tup (ps.map mT), .tup []] st = .ok .non st := by
  have w := wm4_ok (ns := []) (L := ps.map fun m => (mT m, some m.1)) hs (by simp) (by simp) (fun q hq => by
    obtain ⟨m, hm, rfl⟩ := List.mem_map.mp hq
    exact .good m.1 m.2 (h.wd m hm) (h.bd m hm).1 (h.bd m hm).2) (by rw [List.length_map]; have := h.le; omega)
  rw [List.map_map, List.map_map] at w
  have k := wr4_no (ps.map (·.1)) [] 0 (by simpa using h.nd) (by rw [List.length_map]; have := h.le; omega)
  rw [List.map_map] at k
  have e : ((fun x => x.2) ∘ fun m : List Nat × Int => (mT m, some m.1)) = some ∘ fun m : List Nat × Int => m.1 := rfl
  rw [e, k] at w
  exact w
theorem check4 {ps : List (List Nat × Int)} {t : T} {o : Option T} {st : Sto} (hs : NL st) (h : Ps4 ps) (g : Gs4 (ps.map (·.1)) t o) :
    Z27 [.tup (ps.map mT), t] st = match o with
      | some i => .exc (.exc 111 [i]) st
      | none => .ok .non st := by
  have h0 : (ps.map mT).length ≠ 0 := by rw [List.length_map]; exact fun z => h.ne (List.length_eq_zero_iff.mp z)
  have w1 := h.ps4wm hs
  have c : ∀ {y : Option T}, fLc [3] (e1_check_sides_k04.ev Z28) (.name 3) (fSeq (evV 0)) fYes [some (.tup (ps.map mT)), y, some .non, none] st = .ok ((ps.map (·.1)).map sW) st := fun {y} => by
    rw [List.map_map]
    refine lc_mapE (emb := mT) (by simp! [Z15, Z14]) (by have := h.le; omega) fun m hm => ?_
    simp! [fTurn, wipeE, e1_check_sides_k04, Z15, Z14, mT, sW]
  have w2 := fun (L : List (T × Option (List Nat))) (hL : ∀ q, q ∈ L → El4 q.1 q.2) (hl : L.length ≤ 6) => wm4_ok (ns := ps.map (·.1)) (L := L) (st := st) hs (fun x hx => by obtain ⟨m, hm, rfl⟩ := List.mem_map.mp hx; exact h.wd m hm) (by rw [List.length_map]; exact h.le) hL (by omega)
  cases g with
  | no _ hn hd =>
    refine (ck4_n h0 w1 ?_).trans (finO_nlx hs (by simp))
    intro n
    cases t with
    | tup X => exact absurd rfl (hn X)
    | non => rfl
    | bl b => rfl
    | int i => rfl
    | str x => rfl
    | lst xs => rfl
    | edt => rfl
    | _ => simp [Z29] at hd
  | nil => exact (ck4_e h0 w1).trans (finO_nlx hs (by simp))
  | bad L k hL hl hL0 hw =>
    have w := w2 L hL hl
    rw [hw] at w
    exact (ck4_b h0 (by rw [List.length_map]; exact fun z => hL0 (List.length_eq_zero_iff.mp z)) w1 w c).trans (finO_nlx hs (by simp))
  | ok L hL hl hL0 hw =>
    have w := w2 L hL hl
    rw [hw] at w
    exact (ck4_g h0 (by rw [List.length_map]; exact fun z => hL0 (List.length_eq_zero_iff.mp z)) w1 w c).trans (Z20 hs (by simp))
def tbB : T → Bool
  | .non => true
  | t => wB 1 12 t
theorem it4 {t : T} {st : Sto} (hs : NL st) (h : Z29 t = true) : F_is_tables_k04 [t] st = .ok (.bl (tbB t)) st := by
  have w := iw4 (lo := 1) (hi := 12) hs h
  cases t with
  | non =>
    simp! [F_is_tables_k04, tbf_of_is_tables_k04, tbc_of_is_tables_k04, b_is_tables_k04, ap_fGl]
    exact Z20 hs (by simp)
  | _ =>
    simp! [F_is_tables_k04, tbf_of_is_tables_k04, tbc_of_is_tables_k04, b_is_tables_k04, ap_fGl, w]
    exact Z20 hs (by simp)
theorem fi4_x {h g d i : T} {c : Nat} {st : Sto} (e1 : Z27 [h, g] (st ++ [.ins 0 []]) = .exc (.exc c [i]) (st ++ [.ins 0 []])) :
    Z31 [.loc st.length, h, g, d] (st ++ [.ins 0 []]) = finO Z88.cls false (st.length + 1) (.exc (.exc c [i]) [some (.loc st.length), some h, some g, some d] (st ++ [.ins 0 []])) := by
  simp! [Z31, tbf_of_Fair_init_k04, tbc_of_Fair_init_k04, c0_of_Fair_init_k04, a0givers_of_Fair_init_k04, a0places_of_Fair_init_k04, a0takers_of_Fair_init_k04, n_of_Fair_init_k04, b_Fair_init_k04, ap_fFld, Z15, k1_fFld, k2_fFld, Z14, e1]
theorem fi4_d {h g d : T} {st : Sto} (e1 : Z27 [h, g] (st ++ [.ins 0 []]) = .ok .non (st ++ [.ins 0 []])) (e2 : F_is_tables_k04 [d] (st ++ [.ins 0 []]) = .ok (.bl false) (st ++ [.ins 0 []])) :
    Z31 [.loc st.length, h, g, d] (st ++ [.ins 0 []]) = finO Z88.cls false (st.length + 1) (.exc (.exc 104 [d]) [some (.loc st.length), some h, some g, some d] (st ++ [.ins 0 []])) := by
  simp! [Z31, tbf_of_Fair_init_k04, tbc_of_Fair_init_k04, c0_of_Fair_init_k04, a0givers_of_Fair_init_k04, a0places_of_Fair_init_k04, a0takers_of_Fair_init_k04, n_of_Fair_init_k04, b_Fair_init_k04, ap_fGl, ap_fFld, Z15, k1_fFld, k2_fFld, Z14, e1, e2, ap_fRse, k1_fRse]
theorem fi4_g {h g d : T} {st : Sto} (e1 : Z27 [h, g] (st ++ [.ins 0 []]) = .ok .non (st ++ [.ins 0 []])) (e2 : F_is_tables_k04 [d] (st ++ [.ins 0 []]) = .ok (.bl true) (st ++ [.ins 0 []])) :
    Z31 [.loc st.length, h, g, d] (st ++ [.ins 0 []]) = finR Z88.cls false (st.length + 1) .non (st ++ [.ins 0 [h, g, d]]) := by
  simp! [Z31, tbf_of_Fair_init_k04, tbc_of_Fair_init_k04, c0_of_Fair_init_k04, a0givers_of_Fair_init_k04, a0places_of_Fair_init_k04, a0takers_of_Fair_init_k04, n_of_Fair_init_k04, b_Fair_init_k04, ap_fGl, ap_fFld, Z15, k1_fFld, k2_fFld, Z14, ap_fFld, k1_fFld, k2_fFld, putC, e1, e2]
inductive Mk4 (h g d : T) : Option (Nat × T) → Prop
  | host (e : ∀ st, NL st → Z27 [h, g] st = .exc (.exc 110 [.non]) st) : Mk4 h g d (some (110, .non))
  | guest (i : T) (hi : Nl i) (hr : ShE i 1 400) (e : ∀ st, NL st → Z27 [h, g] st = .exc (.exc 111 [i]) st) : Mk4 h g d (some (111, i))
  | tabs (e : ∀ st, NL st → Z27 [h, g] st = .ok .non st) (e2 : ∀ st, NL st → F_is_tables_k04 [d] st = .ok (.bl false) st) : Mk4 h g d (some (104, d))
  | ok (e : ∀ st, NL st → Z27 [h, g] st = .ok .non st) (e2 : ∀ st, NL st → F_is_tables_k04 [d] st = .ok (.bl true) st) : Mk4 h g d none
theorem fair4 {h g d : T} {o : Option (Nat × T)} {st : Sto} (hs : NL st) (nv : Nls [h, g, d]) (nd : Nl d) (m : Mk4 h g d o) : Z31 [.loc st.length, h, g, d] (st ++ [.ins 0 []]) = match o with
      | some (c, i) => .exc (.exc c [i]) (st ++ [.ins 0 []])
      | none => .ok .non (st ++ [.ins 0 [h, g, d]]) := by
  have n1 : NL (st ++ [.ins 0 []]) := NL_app hs (NL_cons (fun f => by show (frzWs f []).map _ = _; rw [frzWs]; rfl) NL_nil)
  have n2 : NL (st ++ [.ins 0 [h, g, d]]) := NL_app hs (NL_cons (fun f => by show (frzWs f _).map _ = _; rw [nv f]; rfl) NL_nil)
  have l1 : st.length + 1 = (st ++ [Cell.ins 0 []]).length := by simp
  cases m with
  | host e =>
    refine (fi4_x (e _ n1)).trans ?_
    rw [l1]
    exact finO_nlx n1 (by simp)
  | guest i hi hr e =>
    refine (fi4_x (e _ n1)).trans ?_
    rw [l1]
    exact finO_nlx n1 hi
  | tabs e e2 =>
    refine (fi4_d (e _ n1) (e2 _ n1)).trans ?_
    rw [l1]
    exact finO_nlx n1 nd
  | ok e e2 =>
    refine (fi4_g (e _ n1) (e2 _ n1)).trans ?_
    rw [show st.length + 1 = (st ++ [Cell.ins 0 [h, g, d]]).length from by simp]
    exact Z20 n2 (by simp)
theorem mk4_p {h g d : T} {o : Option (Nat × T)} {st : Sto} (hs : NL st) (nv : Nls [h, g, d]) (nd : Nl d) (m : Mk4 h g d o) : mkF (sx0.cls []) 0 (padF 4 [] Z31) [h, g, d] st = match o with
      | some (c, i) => .exc (.exc c [i]) (st ++ [.ins 0 []])
      | none => .ok (.obj 0 [h, g, d]) st := by
  have e := fair4 hs nv nd m
  unfold mkF
  rw [padF, if_pos (by rfl), List.append_nil, e]
  cases o with
  | some x => rfl
  | none => exact fin_ins hs nv rfl
theorem mk4_k {h g d : T} {o : Option (Nat × T)} {st : Sto} (hs : NL st) (nv : Nls [h, g, d]) (nd : Nl d) (m : Mk4 h g d o) : mkF (sx0.cls []) 0 (kwF 1 3 (fun ts => [0, 2, 1, 3].filterMap fun i => (ts ++ [])[i]?) Z31) [g, h, d] st = match o with
      | some (c, i) => .exc (.exc c [i]) (st ++ [.ins 0 []])
      | none => .ok (.obj 0 [h, g, d]) st := by
  have e := fair4 hs nv nd m
  have k : kwF 1 3 (fun ts => [0, 2, 1, 3].filterMap fun i => (ts ++ [])[i]?) Z31 [.loc st.length, g, h, d] (st ++ [.ins 0 []]) = Z31 [.loc st.length, h, g, d] (st ++ [.ins 0 []]) := by
    generalize Z31 = F
    rfl
  unfold mkF
  rw [k, e]
  cases o with
  | some x => rfl
  | none => exact fin_ins hs nv rfl
def Z32 : T := .lst [.str "text", .str "number", .str "name", .str "tables", .str "round", .str "schedule", .str "wish", .str "index", .str "fair", .str "hosts", .str "guests", .str "meetings", .str "urgent", .str "growth", .str "changes", .str "asked", .str "unknown", .str "few", .str "many", .str "undo", .str "broken"]
theorem told4_pre {k : Fs} {st : Sto} : evPre Z13 k Z52.pre [none, none, none, none, none] st = k [none, some Z32, none, none, none] st := by rfl
theorem told4_back {t : T} {act : Sto → R T} {st : Sto} {x : PySem.Str} (h : act st = .ok t st) (hs : NL st) (hr : reprT st t = some (.str x)) : F_law_told_k04 act st = .ok (.lst [.str "back", .str x]) st := by
  show finO [] false st.length (evPre Z13 (Z52.tryO Z13 act) Z52.pre [none, none, none, none, none] st) = _
  rw [told4_pre]
  have e : Z52.tryO Z13 act [none, some Z32, none, none, none] st = .rt (.lst [.str "back", .str x]) st := by
    have h3 : fRepr (evV 3) [none, some Z32, none, some t, none] st = .ok (.str x) st := by
      unfold fRepr
      show R.opt (reprT st t) st = _
      rw [hr]
      rfl
    have h4 : Z11 (fK (.str "back")) (Z11 (fRepr (evV 3)) fNil) [none, some Z32, none, some t, none] st = .ok [.str "back", .str x] st := by
      rw [ap_fCons]
      show (Z11 (fRepr (evV 3)) fNil [none, some Z32, none, some t, none] st).bnd _ = _
      rw [ap_fCons, h3]
      rfl
    unfold Td.tryO
    rw [h]
    show (fRet (fFz (fDl (Z11 (fK (.str "back")) (Z11 (fRepr (evV 3)) fNil)))) [none, some Z32, none, some t, none] st).seq fNx = _
    rw [ap_fRet, ap_fFz, ap_fDl, h4]
    rfl
  rw [e, finO_rt]
  exact Z20 hs (by unfold Nl; intro f; rfl)
theorem bases104_ev {t : T} {st : Sto} : Z16 tb_law_bases_k04.hot b_law_bases_k04 [some (.exc 104 [t]), none, none] st = .rt (.lst [.bl true, .bl false, .bl false]) st := by rfl
theorem bases104_ok {t : T} {st : Sto} (hs : NL st) : F_law_bases_k04 [.exc 104 [t]] st = .ok (.lst [.bl true, .bl false, .bl false]) st := by
  show finO [] false st.length (Z16 tb_law_bases_k04.hot b_law_bases_k04 [some (.exc 104 [t]), none, none] st) = _
  rw [bases104_ev, finO_rt]
  exact Z20 hs (by unfold Nl; intro f; rfl)
theorem class104_pre {t : T} {st : Sto} : Z16 Z25.hot Z65 [some (.exc 104 [t]), none, none] st = Z16 Z25.hot (Z65.drop 9) [some (.exc 104 [t]), some (.lst [.bl false, .bl false, .bl false, .bl true, .bl false, .bl false, .bl false, .bl false, .bl false, .bl false, .bl false, .bl false, .bl false, .bl false, .bl false, .bl false, .bl false, .bl false, .bl false, .bl false, .bl false]), some (.int 3)] st := by rfl
theorem class104_end {t m : T} {st : Sto} (hs : NL st) : Z16 Z25.hot (Z65.drop 9) [some (.exc 104 [t]), some m, some (.int 3)] st = .rt (.int 3) st := by
  have h : fHc Z25.hot.hfuns[0]? (Z11 (evV 0) fNil) [some (.exc 104 [t]), some m, some (.int 3)] st = .ok (.lst [.bl true, .bl false, .bl false]) st := by
    show F_law_bases_k04 [.exc 104 [t]] st = _
    exact bases104_ok hs
  show (fRet (fIte (fCmp .Eq (fHc Z25.hot.hfuns[0]? (Z11 (evV 0) fNil)) (fFz (fDl (Z11 (fCmp .Lt (evV 2) (fK (.int 16))) (Z11 (fCmp .Eq (evV 2) (fK (.int 16))) (Z11 (fCmp .Gt (evV 2) (fK (.int 16))) fNil)))))) (evV 2) (fNeg (fK (.int 1)))) [some (.exc 104 [t]), some m, some (.int 3)] st).seq _ = _
  have h2 : fCmp .Eq (fHc Z25.hot.hfuns[0]? (Z11 (evV 0) fNil)) (fFz (fDl (Z11 (fCmp .Lt (evV 2) (fK (.int 16))) (Z11 (fCmp .Eq (evV 2) (fK (.int 16))) (Z11 (fCmp .Gt (evV 2) (fK (.int 16))) fNil))))) [some (.exc 104 [t]), some m, some (.int 3)] st = .ok (.bl true) st := by
    unfold fCmp
    rw [h]
    rfl
  have h3 : fRet (fIte (fCmp .Eq (fHc Z25.hot.hfuns[0]? (Z11 (evV 0) fNil)) (fFz (fDl (Z11 (fCmp .Lt (evV 2) (fK (.int 16))) (Z11 (fCmp .Eq (evV 2) (fK (.int 16))) (Z11 (fCmp .Gt (evV 2) (fK (.int 16))) fNil)))))) (evV 2) (fNeg (fK (.int 1)))) [some (.exc 104 [t]), some m, some (.int 3)] st = .rt (.int 3) st := by
    unfold fRet fIte
    rw [h2]
    rfl
  rw [h3]
  rfl
theorem class104_ok {t : T} {st : Sto} (hs : NL st) : F_law_class_k04 [.exc 104 [t]] st = .ok (.int 3) st := by
  show finO [] false st.length (Z16 Z25.hot Z65 [some (.exc 104 [t]), none, none] st) = _
  rw [class104_pre, class104_end hs, finO_rt]
  exact Z20 hs (by unfold Nl; intro f; rfl)
theorem keeps104_ok {t : T} {st : Sto} (hs : NL st) (ht : Nl t) : F_law_keeps_k04 [.exc 104 [t], .int 3] st = .ok t st := by
  show finO [] false st.length (Z16 tb_law_keeps_k04.hot b_law_keeps_k04 [some (.exc 104 [t]), some (.int 3)] st) = _
  have e : Z16 tb_law_keeps_k04.hot b_law_keeps_k04 [some (.exc 104 [t]), some (.int 3)] st = .rt t st := by rfl
  rw [e, finO_rt]
  exact Z20 hs ht
theorem told104 {t : T} {act : Sto → R T} {st loc : Sto} {x : PySem.Str} (h : act st = .exc (.exc 104 [t]) (st ++ loc)) (h0 : NL st) (hs : NL (st ++ loc)) (hx : (st ++ loc).all noXc = true) (ht : Nl t) (hr : reprT (st ++ loc) t = some (.str x)) : F_law_told_k04 act st = .ok (.lst [.str "tables", .str x]) st := by
  show finO [] false st.length (evPre Z13 (Z52.tryO Z13 act) Z52.pre [none, none, none, none, none] st) = _
  rw [told4_pre]
  generalize hst2 : st ++ loc = st2 at h hs hx hr
  have e : Z16 Z13.hot Z52.hd [none, some Z32, some (.exc 104 [t]), none, none] st2 = .rt (.lst [.str "tables", .str x]) st2 := by
    have h1 : fHc Z13.hot.hfuns[0]? (Z11 (evV 2) fNil) [none, some Z32, some (.exc 104 [t]), none, none] st2 = .ok (.int 3) st2 := by
      show F_law_class_k04 [.exc 104 [t]] st2 = _
      exact class104_ok hs
    have h2 : fHc Z13.hot.hfuns[1]? (Z11 (evV 2) (Z11 (evV 4) fNil)) [none, some Z32, some (.exc 104 [t]), none, some (.int 3)] st2 = .ok t st2 := by
      show F_law_keeps_k04 [.exc 104 [t], .int 3] st2 = _
      exact keeps104_ok hs ht
    have h3 : fRepr (fHc Z13.hot.hfuns[1]? (Z11 (evV 2) (Z11 (evV 4) fNil))) [none, some Z32, some (.exc 104 [t]), none, some (.int 3)] st2 = .ok (.str x) st2 := by
      unfold fRepr
      rw [h2]
      show R.opt (reprT st2 t) st2 = _
      rw [hr]
      rfl
    have a1 : fAsg (fHc Z13.hot.hfuns[0]? (Z11 (evV 2) fNil)) (fG (.name 4)) [none, some Z32, some (.exc 104 [t]), none, none] st2 = .nx [none, some Z32, some (.exc 104 [t]), none, some (.int 3)] st2 := by
      unfold fAsg
      rw [h1]
      rfl
    have a2 : fRet (fFz (fDl (Z11 (fIx (fFz (fCat (evV 1) (fFz (fDl (Z11 (fK (.str "odd")) fNil))))) (evV 4)) (Z11 (fRepr (fHc Z13.hot.hfuns[1]? (Z11 (evV 2) (Z11 (evV 4) fNil)))) fNil)))) [none, some Z32, some (.exc 104 [t]), none, some (.int 3)] st2 = .rt (.lst [.str "tables", .str x]) st2 := by
      have c1 : Z11 (fRepr (fHc Z13.hot.hfuns[1]? (Z11 (evV 2) (Z11 (evV 4) fNil)))) fNil [none, some Z32, some (.exc 104 [t]), none, some (.int 3)] st2 = .ok [.str x] st2 := by
        rw [ap_fCons, h3]
        rfl
      have c2 : fIx (fFz (fCat (evV 1) (fFz (fDl (Z11 (fK (.str "odd")) fNil))))) (evV 4) [none, some Z32, some (.exc 104 [t]), none, some (.int 3)] st2 = .ok (.str "tables") st2 := by rfl
      have c3 : Z11 (fIx (fFz (fCat (evV 1) (fFz (fDl (Z11 (fK (.str "odd")) fNil))))) (evV 4)) (Z11 (fRepr (fHc Z13.hot.hfuns[1]? (Z11 (evV 2) (Z11 (evV 4) fNil)))) fNil) [none, some Z32, some (.exc 104 [t]), none, some (.int 3)] st2 = .ok [.str "tables", .str x] st2 := by
        rw [ap_fCons, c2]
        show (Z11 (fRepr (fHc Z13.hot.hfuns[1]? (Z11 (evV 2) (Z11 (evV 4) fNil)))) fNil [none, some Z32, some (.exc 104 [t]), none, some (.int 3)] st2).bnd _ = _
        rw [c1]
        rfl
      rw [ap_fRet, ap_fFz, ap_fDl, c3]
      rfl
    show ((fAsg (fHc Z13.hot.hfuns[0]? (Z11 (evV 2) fNil)) (fG (.name 4)) [none, some Z32, some (.exc 104 [t]), none, none] st2).seq fun env st => (fRet (fFz (fDl (Z11 (fIx (fFz (fCat (evV 1) (fFz (fDl (Z11 (fK (.str "odd")) fNil))))) (evV 4)) (Z11 (fRepr (fHc Z13.hot.hfuns[1]? (Z11 (evV 2) (Z11 (evV 4) fNil)))) fNil)))) env st).seq fNx) = _
    rw [a1]
    show (fRet _ [none, some Z32, some (.exc 104 [t]), none, some (.int 3)] st2).seq fNx = _
    rw [a2]
    rfl
  have e2 : Z52.tryO Z13 act [none, some Z32, none, none, none] st = coolO (Z16 Z13.hot Z52.hd [none, some Z32, some (.exc 104 [t]), none, none] st2) := by
    unfold Td.tryO
    rw [h]
    rfl
  rw [e2, e]
  show finO [] false st.length (if (noX (.lst [.str "tables", .str x]) && st2.all noXc) = true then .rt (.lst [.str "tables", .str x]) st2 else .bad) = _
  rw [if_pos (by rw [hx]; rfl), finO_rt, ← hst2]
  exact fin_nl h0 (by unfold Nl; intro f; rfl)
theorem bases110_ev {t : T} {st : Sto} : Z16 tb_law_bases_k04.hot b_law_bases_k04 [some (.exc 110 [t]), none, none] st = .rt (.lst [.bl true, .bl false, .bl false]) st := by rfl
theorem bases110_ok {t : T} {st : Sto} (hs : NL st) : F_law_bases_k04 [.exc 110 [t]] st = .ok (.lst [.bl true, .bl false, .bl false]) st := by
  show finO [] false st.length (Z16 tb_law_bases_k04.hot b_law_bases_k04 [some (.exc 110 [t]), none, none] st) = _
  rw [bases110_ev, finO_rt]
  exact Z20 hs (by unfold Nl; intro f; rfl)
theorem class110_pre {t : T} {st : Sto} : Z16 Z25.hot Z65 [some (.exc 110 [t]), none, none] st = Z16 Z25.hot (Z65.drop 9) [some (.exc 110 [t]), some (.lst [.bl false, .bl false, .bl false, .bl false, .bl false, .bl false, .bl false, .bl false, .bl false, .bl true, .bl false, .bl false, .bl false, .bl false, .bl false, .bl false, .bl false, .bl false, .bl false, .bl false, .bl false]), some (.int 9)] st := by rfl
theorem class110_end {t m : T} {st : Sto} (hs : NL st) : Z16 Z25.hot (Z65.drop 9) [some (.exc 110 [t]), some m, some (.int 9)] st = .rt (.int 9) st := by
  have h : fHc Z25.hot.hfuns[0]? (Z11 (evV 0) fNil) [some (.exc 110 [t]), some m, some (.int 9)] st = .ok (.lst [.bl true, .bl false, .bl false]) st := by
    show F_law_bases_k04 [.exc 110 [t]] st = _
    exact bases110_ok hs
  show (fRet (fIte (fCmp .Eq (fHc Z25.hot.hfuns[0]? (Z11 (evV 0) fNil)) (fFz (fDl (Z11 (fCmp .Lt (evV 2) (fK (.int 16))) (Z11 (fCmp .Eq (evV 2) (fK (.int 16))) (Z11 (fCmp .Gt (evV 2) (fK (.int 16))) fNil)))))) (evV 2) (fNeg (fK (.int 1)))) [some (.exc 110 [t]), some m, some (.int 9)] st).seq _ = _
  have h2 : fCmp .Eq (fHc Z25.hot.hfuns[0]? (Z11 (evV 0) fNil)) (fFz (fDl (Z11 (fCmp .Lt (evV 2) (fK (.int 16))) (Z11 (fCmp .Eq (evV 2) (fK (.int 16))) (Z11 (fCmp .Gt (evV 2) (fK (.int 16))) fNil))))) [some (.exc 110 [t]), some m, some (.int 9)] st = .ok (.bl true) st := by
    unfold fCmp
    rw [h]
    rfl
  have h3 : fRet (fIte (fCmp .Eq (fHc Z25.hot.hfuns[0]? (Z11 (evV 0) fNil)) (fFz (fDl (Z11 (fCmp .Lt (evV 2) (fK (.int 16))) (Z11 (fCmp .Eq (evV 2) (fK (.int 16))) (Z11 (fCmp .Gt (evV 2) (fK (.int 16))) fNil)))))) (evV 2) (fNeg (fK (.int 1)))) [some (.exc 110 [t]), some m, some (.int 9)] st = .rt (.int 9) st := by
    unfold fRet fIte
    rw [h2]
    rfl
  rw [h3]
  rfl
theorem class110_ok {t : T} {st : Sto} (hs : NL st) : F_law_class_k04 [.exc 110 [t]] st = .ok (.int 9) st := by
  show finO [] false st.length (Z16 Z25.hot Z65 [some (.exc 110 [t]), none, none] st) = _
  rw [class110_pre, class110_end hs, finO_rt]
  exact Z20 hs (by unfold Nl; intro f; rfl)
theorem keeps110_ok {t : T} {st : Sto} (hs : NL st) (ht : Nl t) : F_law_keeps_k04 [.exc 110 [t], .int 9] st = .ok t st := by
  show finO [] false st.length (Z16 tb_law_keeps_k04.hot b_law_keeps_k04 [some (.exc 110 [t]), some (.int 9)] st) = _
  have e : Z16 tb_law_keeps_k04.hot b_law_keeps_k04 [some (.exc 110 [t]), some (.int 9)] st = .rt t st := by rfl
  rw [e, finO_rt]
  exact Z20 hs ht
theorem told110 {t : T} {act : Sto → R T} {st loc : Sto} {x : PySem.Str} (h : act st = .exc (.exc 110 [t]) (st ++ loc)) (h0 : NL st) (hs : NL (st ++ loc)) (hx : (st ++ loc).all noXc = true) (ht : Nl t) (hr : reprT (st ++ loc) t = some (.str x)) : F_law_told_k04 act st = .ok (.lst [.str "hosts", .str x]) st := by
  show finO [] false st.length (evPre Z13 (Z52.tryO Z13 act) Z52.pre [none, none, none, none, none] st) = _
  rw [told4_pre]
  generalize hst2 : st ++ loc = st2 at h hs hx hr
  have e : Z16 Z13.hot Z52.hd [none, some Z32, some (.exc 110 [t]), none, none] st2 = .rt (.lst [.str "hosts", .str x]) st2 := by
    have h1 : fHc Z13.hot.hfuns[0]? (Z11 (evV 2) fNil) [none, some Z32, some (.exc 110 [t]), none, none] st2 = .ok (.int 9) st2 := by
      show F_law_class_k04 [.exc 110 [t]] st2 = _
      exact class110_ok hs
    have h2 : fHc Z13.hot.hfuns[1]? (Z11 (evV 2) (Z11 (evV 4) fNil)) [none, some Z32, some (.exc 110 [t]), none, some (.int 9)] st2 = .ok t st2 := by
      show F_law_keeps_k04 [.exc 110 [t], .int 9] st2 = _
      exact keeps110_ok hs ht
    have h3 : fRepr (fHc Z13.hot.hfuns[1]? (Z11 (evV 2) (Z11 (evV 4) fNil))) [none, some Z32, some (.exc 110 [t]), none, some (.int 9)] st2 = .ok (.str x) st2 := by
      unfold fRepr
      rw [h2]
      show R.opt (reprT st2 t) st2 = _
      rw [hr]
      rfl
    have a1 : fAsg (fHc Z13.hot.hfuns[0]? (Z11 (evV 2) fNil)) (fG (.name 4)) [none, some Z32, some (.exc 110 [t]), none, none] st2 = .nx [none, some Z32, some (.exc 110 [t]), none, some (.int 9)] st2 := by
      unfold fAsg
      rw [h1]
      rfl
    have a2 : fRet (fFz (fDl (Z11 (fIx (fFz (fCat (evV 1) (fFz (fDl (Z11 (fK (.str "odd")) fNil))))) (evV 4)) (Z11 (fRepr (fHc Z13.hot.hfuns[1]? (Z11 (evV 2) (Z11 (evV 4) fNil)))) fNil)))) [none, some Z32, some (.exc 110 [t]), none, some (.int 9)] st2 = .rt (.lst [.str "hosts", .str x]) st2 := by
      have c1 : Z11 (fRepr (fHc Z13.hot.hfuns[1]? (Z11 (evV 2) (Z11 (evV 4) fNil)))) fNil [none, some Z32, some (.exc 110 [t]), none, some (.int 9)] st2 = .ok [.str x] st2 := by
        rw [ap_fCons, h3]
        rfl
      have c2 : fIx (fFz (fCat (evV 1) (fFz (fDl (Z11 (fK (.str "odd")) fNil))))) (evV 4) [none, some Z32, some (.exc 110 [t]), none, some (.int 9)] st2 = .ok (.str "hosts") st2 := by rfl
      have c3 : Z11 (fIx (fFz (fCat (evV 1) (fFz (fDl (Z11 (fK (.str "odd")) fNil))))) (evV 4)) (Z11 (fRepr (fHc Z13.hot.hfuns[1]? (Z11 (evV 2) (Z11 (evV 4) fNil)))) fNil) [none, some Z32, some (.exc 110 [t]), none, some (.int 9)] st2 = .ok [.str "hosts", .str x] st2 := by
        rw [ap_fCons, c2]
        show (Z11 (fRepr (fHc Z13.hot.hfuns[1]? (Z11 (evV 2) (Z11 (evV 4) fNil)))) fNil [none, some Z32, some (.exc 110 [t]), none, some (.int 9)] st2).bnd _ = _
        rw [c1]
        rfl
      rw [ap_fRet, ap_fFz, ap_fDl, c3]
      rfl
    show ((fAsg (fHc Z13.hot.hfuns[0]? (Z11 (evV 2) fNil)) (fG (.name 4)) [none, some Z32, some (.exc 110 [t]), none, none] st2).seq fun env st => (fRet (fFz (fDl (Z11 (fIx (fFz (fCat (evV 1) (fFz (fDl (Z11 (fK (.str "odd")) fNil))))) (evV 4)) (Z11 (fRepr (fHc Z13.hot.hfuns[1]? (Z11 (evV 2) (Z11 (evV 4) fNil)))) fNil)))) env st).seq fNx) = _
    rw [a1]
    show (fRet _ [none, some Z32, some (.exc 110 [t]), none, some (.int 9)] st2).seq fNx = _
    rw [a2]
    rfl
  have e2 : Z52.tryO Z13 act [none, some Z32, none, none, none] st = coolO (Z16 Z13.hot Z52.hd [none, some Z32, some (.exc 110 [t]), none, none] st2) := by
    unfold Td.tryO
    rw [h]
    rfl
  rw [e2, e]
  show finO [] false st.length (if (noX (.lst [.str "hosts", .str x]) && st2.all noXc) = true then .rt (.lst [.str "hosts", .str x]) st2 else .bad) = _
  rw [if_pos (by rw [hx]; rfl), finO_rt, ← hst2]
  exact fin_nl h0 (by unfold Nl; intro f; rfl)
theorem bases111_ev {t : T} {st : Sto} : Z16 tb_law_bases_k04.hot b_law_bases_k04 [some (.exc 111 [t]), none, none] st = .rt (.lst [.bl true, .bl false, .bl false]) st := by rfl
theorem bases111_ok {t : T} {st : Sto} (hs : NL st) : F_law_bases_k04 [.exc 111 [t]] st = .ok (.lst [.bl true, .bl false, .bl false]) st := by
  show finO [] false st.length (Z16 tb_law_bases_k04.hot b_law_bases_k04 [some (.exc 111 [t]), none, none] st) = _
  rw [bases111_ev, finO_rt]
  exact Z20 hs (by unfold Nl; intro f; rfl)
theorem class111_pre {t : T} {st : Sto} : Z16 Z25.hot Z65 [some (.exc 111 [t]), none, none] st = Z16 Z25.hot (Z65.drop 9) [some (.exc 111 [t]), some (.lst [.bl false, .bl false, .bl false, .bl false, .bl false, .bl false, .bl false, .bl false, .bl false, .bl false, .bl true, .bl false, .bl false, .bl false, .bl false, .bl false, .bl false, .bl false, .bl false, .bl false, .bl false]), some (.int 10)] st := by rfl
theorem class111_end {t m : T} {st : Sto} (hs : NL st) : Z16 Z25.hot (Z65.drop 9) [some (.exc 111 [t]), some m, some (.int 10)] st = .rt (.int 10) st := by
  have h : fHc Z25.hot.hfuns[0]? (Z11 (evV 0) fNil) [some (.exc 111 [t]), some m, some (.int 10)] st = .ok (.lst [.bl true, .bl false, .bl false]) st := by
    show F_law_bases_k04 [.exc 111 [t]] st = _
    exact bases111_ok hs
  show (fRet (fIte (fCmp .Eq (fHc Z25.hot.hfuns[0]? (Z11 (evV 0) fNil)) (fFz (fDl (Z11 (fCmp .Lt (evV 2) (fK (.int 16))) (Z11 (fCmp .Eq (evV 2) (fK (.int 16))) (Z11 (fCmp .Gt (evV 2) (fK (.int 16))) fNil)))))) (evV 2) (fNeg (fK (.int 1)))) [some (.exc 111 [t]), some m, some (.int 10)] st).seq _ = _
  have h2 : fCmp .Eq (fHc Z25.hot.hfuns[0]? (Z11 (evV 0) fNil)) (fFz (fDl (Z11 (fCmp .Lt (evV 2) (fK (.int 16))) (Z11 (fCmp .Eq (evV 2) (fK (.int 16))) (Z11 (fCmp .Gt (evV 2) (fK (.int 16))) fNil))))) [some (.exc 111 [t]), some m, some (.int 10)] st = .ok (.bl true) st := by
    unfold fCmp
    rw [h]
    rfl
  have h3 : fRet (fIte (fCmp .Eq (fHc Z25.hot.hfuns[0]? (Z11 (evV 0) fNil)) (fFz (fDl (Z11 (fCmp .Lt (evV 2) (fK (.int 16))) (Z11 (fCmp .Eq (evV 2) (fK (.int 16))) (Z11 (fCmp .Gt (evV 2) (fK (.int 16))) fNil)))))) (evV 2) (fNeg (fK (.int 1)))) [some (.exc 111 [t]), some m, some (.int 10)] st = .rt (.int 10) st := by
    unfold fRet fIte
    rw [h2]
    rfl
  rw [h3]
  rfl
theorem class111_ok {t : T} {st : Sto} (hs : NL st) : F_law_class_k04 [.exc 111 [t]] st = .ok (.int 10) st := by
  show finO [] false st.length (Z16 Z25.hot Z65 [some (.exc 111 [t]), none, none] st) = _
  rw [class111_pre, class111_end hs, finO_rt]
  exact Z20 hs (by unfold Nl; intro f; rfl)
theorem keeps111_ok {t : T} {st : Sto} (hs : NL st) (ht : Nl t) : F_law_keeps_k04 [.exc 111 [t], .int 10] st = .ok t st := by
  show finO [] false st.length (Z16 tb_law_keeps_k04.hot b_law_keeps_k04 [some (.exc 111 [t]), some (.int 10)] st) = _
  have e : Z16 tb_law_keeps_k04.hot b_law_keeps_k04 [some (.exc 111 [t]), some (.int 10)] st = .rt t st := by rfl
  rw [e, finO_rt]
  exact Z20 hs ht
theorem told111 {t : T} {act : Sto → R T} {st loc : Sto} {x : PySem.Str} (h : act st = .exc (.exc 111 [t]) (st ++ loc)) (h0 : NL st) (hs : NL (st ++ loc)) (hx : (st ++ loc).all noXc = true) (ht : Nl t) (hr : reprT (st ++ loc) t = some (.str x)) : F_law_told_k04 act st = .ok (.lst [.str "guests", .str x]) st := by
  show finO [] false st.length (evPre Z13 (Z52.tryO Z13 act) Z52.pre [none, none, none, none, none] st) = _
  rw [told4_pre]
  generalize hst2 : st ++ loc = st2 at h hs hx hr
  have e : Z16 Z13.hot Z52.hd [none, some Z32, some (.exc 111 [t]), none, none] st2 = .rt (.lst [.str "guests", .str x]) st2 := by
    have h1 : fHc Z13.hot.hfuns[0]? (Z11 (evV 2) fNil) [none, some Z32, some (.exc 111 [t]), none, none] st2 = .ok (.int 10) st2 := by
      show F_law_class_k04 [.exc 111 [t]] st2 = _
      exact class111_ok hs
    have h2 : fHc Z13.hot.hfuns[1]? (Z11 (evV 2) (Z11 (evV 4) fNil)) [none, some Z32, some (.exc 111 [t]), none, some (.int 10)] st2 = .ok t st2 := by
      show F_law_keeps_k04 [.exc 111 [t], .int 10] st2 = _
      exact keeps111_ok hs ht
    have h3 : fRepr (fHc Z13.hot.hfuns[1]? (Z11 (evV 2) (Z11 (evV 4) fNil))) [none, some Z32, some (.exc 111 [t]), none, some (.int 10)] st2 = .ok (.str x) st2 := by
      unfold fRepr
      rw [h2]
      show R.opt (reprT st2 t) st2 = _
      rw [hr]
      rfl
    have a1 : fAsg (fHc Z13.hot.hfuns[0]? (Z11 (evV 2) fNil)) (fG (.name 4)) [none, some Z32, some (.exc 111 [t]), none, none] st2 = .nx [none, some Z32, some (.exc 111 [t]), none, some (.int 10)] st2 := by
      unfold fAsg
      rw [h1]
      rfl
    have a2 : fRet (fFz (fDl (Z11 (fIx (fFz (fCat (evV 1) (fFz (fDl (Z11 (fK (.str "odd")) fNil))))) (evV 4)) (Z11 (fRepr (fHc Z13.hot.hfuns[1]? (Z11 (evV 2) (Z11 (evV 4) fNil)))) fNil)))) [none, some Z32, some (.exc 111 [t]), none, some (.int 10)] st2 = .rt (.lst [.str "guests", .str x]) st2 := by
      have c1 : Z11 (fRepr (fHc Z13.hot.hfuns[1]? (Z11 (evV 2) (Z11 (evV 4) fNil)))) fNil [none, some Z32, some (.exc 111 [t]), none, some (.int 10)] st2 = .ok [.str x] st2 := by
        rw [ap_fCons, h3]
        rfl
      have c2 : fIx (fFz (fCat (evV 1) (fFz (fDl (Z11 (fK (.str "odd")) fNil))))) (evV 4) [none, some Z32, some (.exc 111 [t]), none, some (.int 10)] st2 = .ok (.str "guests") st2 := by rfl
      have c3 : Z11 (fIx (fFz (fCat (evV 1) (fFz (fDl (Z11 (fK (.str "odd")) fNil))))) (evV 4)) (Z11 (fRepr (fHc Z13.hot.hfuns[1]? (Z11 (evV 2) (Z11 (evV 4) fNil)))) fNil) [none, some Z32, some (.exc 111 [t]), none, some (.int 10)] st2 = .ok [.str "guests", .str x] st2 := by
        rw [ap_fCons, c2]
        show (Z11 (fRepr (fHc Z13.hot.hfuns[1]? (Z11 (evV 2) (Z11 (evV 4) fNil)))) fNil [none, some Z32, some (.exc 111 [t]), none, some (.int 10)] st2).bnd _ = _
        rw [c1]
        rfl
      rw [ap_fRet, ap_fFz, ap_fDl, c3]
      rfl
    show ((fAsg (fHc Z13.hot.hfuns[0]? (Z11 (evV 2) fNil)) (fG (.name 4)) [none, some Z32, some (.exc 111 [t]), none, none] st2).seq fun env st => (fRet (fFz (fDl (Z11 (fIx (fFz (fCat (evV 1) (fFz (fDl (Z11 (fK (.str "odd")) fNil))))) (evV 4)) (Z11 (fRepr (fHc Z13.hot.hfuns[1]? (Z11 (evV 2) (Z11 (evV 4) fNil)))) fNil)))) env st).seq fNx) = _
    rw [a1]
    show (fRet _ [none, some Z32, some (.exc 111 [t]), none, some (.int 10)] st2).seq fNx = _
    rw [a2]
    rfl
  have e2 : Z52.tryO Z13 act [none, some Z32, none, none, none] st = coolO (Z16 Z13.hot Z52.hd [none, some Z32, some (.exc 111 [t]), none, none] st2) := by
    unfold Td.tryO
    rw [h]
    rfl
  rw [e2, e]
  show finO [] false st.length (if (noX (.lst [.str "guests", .str x]) && st2.all noXc) = true then .rt (.lst [.str "guests", .str x]) st2 else .bad) = _
  rw [if_pos (by rw [hx]; rfl), finO_rt, ← hst2]
  exact fin_nl h0 (by unfold Nl; intro f; rfl)
abbrev E10q (a0 a1 a2 a3 a4 a5 a6 a7 a8 a9 : Option T) : Env := [a0, a1, a2, a3, a4, a5, a6, a7, a8, a9]
noncomputable abbrev w10 : Env → Sto → R (List T) := fSeq (fFn (some ⟨"_law_words", [], padF 2 [] F_law_words⟩) (Z11 (evV 0) (Z11 (fBin .Add (fK (.int 1)) (fFn (some ⟨"_law_pour", [], padF 2 [] Z19⟩) (Z11 (evV 0) (Z11 (fK (.int 4)) fNil)) fNil)) fNil)) fNil)
theorem r4_e {J J1 : Cell} {R : Sto} {x : T} {d v : Int} {a1 a2 a3 a4 a5 a6 a7 : Option T} (e : Z19 [.loc 0, .int 4] (J :: R) = .ok (.int d) (J1 :: R)) (hv : 1 + d = v) :
    fTurn [9] (e1_law_right_k04.ev Z10) (.name 9) fYes (E10q (some (.loc 0)) a1 a2 a3 a4 a5 a6 a7 none none) x (J :: R) = .ok (some (.tup [x, .int v])) (J1 :: R) := by
  simp! [fTurn, wipeE, e1_law_right_k04, Z37, Z36, Z38, Z43, Z44, Z42, Z41, Z46, Z45, Z48, Z47, Z40, Z53, ap_fNever, Z51, Z49, ap_fMu, Z18, ap_fRepr, ap_fLi, ap_fSub, Z15, Z50, Z39, k1_fMu, Z17, k1_fRepr, k1_fLi, k1_fSub, k2_fSub, Z14, e, hv]
theorem r4_w {J J1 J2 : Cell} {R : Sto} {WS : List T} {d v : Int} {a1 a2 a3 a4 a5 a6 a7 : Option T} (e : Z19 [.loc 0, .int 4] (J :: R) = .ok (.int d) (J1 :: R)) (hv : 1 + d = v) (e2 : F_law_words [.loc 0, .int v] (J1 :: R) = .ok (.lst WS) (J2 :: R)) (hl : WS.length ≤ 100) :
    w10 (E10q (some (.loc 0)) a1 a2 a3 a4 a5 a6 a7 none none) (J :: R) = .ok WS (J2 :: R) := by
  simp! [Z49, ap_fMu, Z18, ap_fSub, Z39, k1_fMu, Z17, k1_fSub, k2_fSub, e, hv, e2]
theorem r4_a {S S1 : Sto} {MS WS : List T} {a1 a2 a3 a4 a5 a6 a7 : Option T} (c : fLc [9] (e1_law_right_k04.ev Z10) (.name 9) w10 fYes (E10q (some (.loc 0)) a1 a2 a3 a4 a5 a6 a7 none none) S = .ok MS S1)
    (c2 : fLc [8] (e2_law_right_k04.ev Z10) (.name 8) (fSeq (evV 2)) fYes (E10q (some (.loc 0)) a1 (some (.tup MS)) a3 a4 a5 a6 a7 none none) S1 = .ok WS S1) :
    Z16 Z10 (Z12.take 2) (E10q (some (.loc 0)) a1 a2 a3 a4 a5 a6 a7 none none) S = .nx (E10q (some (.loc 0)) a1 (some (.tup MS)) (some (.lst WS)) a4 a5 a6 a7 none none) S1 := by
  simp only [E10q, w10] at c c2
  simp! [Z37, Z36, Z38, Z43, Z44, Z42, Z41, Z46, Z45, Z48, Z47, Z40, Z53, Z12, ap_fNever, Z51, Z49, ap_fMu, Z18, ap_fRepr, ap_fLi, Z15, Z50, Z39, k1_fMu, Z17, k1_fRepr, k1_fLi, Z14, c, c2]
theorem r4_b {S S1 : Sto} {t : T} {WS : List T} {a1 a2 a4 a5 a6 a7 : Option T} (e : F_law_bent_side [.loc 0, .int 5, .lst WS] S = .ok t S1) :
    Z16 Z10 ((Z12.drop 2).take 1) (E10q (some (.loc 0)) a1 a2 (some (.lst WS)) a4 a5 a6 a7 none none) S = .nx (E10q (some (.loc 0)) a1 a2 (some (.lst WS)) (some t) a5 a6 a7 none none) S1 := by
  simp! [Z37, Z36, Z38, Z43, Z44, Z42, Z41, Z46, Z45, Z48, Z47, Z40, Z53, Z12, ap_fNever, Z51, Z49, ap_fMu, Z18, ap_fRepr, ap_fCat, ap_fLi, ap_fSub, Z15, Z50, Z39, k1_fMu, Z17, k1_fRepr, k1_fCat, k2_fCat, k1_fLi, k1_fSub, k2_fSub, Z14, e]
abbrev desks4 : List T := [.non, .int 1, .int 12, .int 3, .int 0, .int 13, .bl true, .str "2", .tup [.int 2], .int (-1), .lst [], .edt]
theorem r4_c {S S1 : Sto} {k : Int} {d : T} {a1 a2 a3 a4 a5 a6 a7 : Option T} (e : Z19 [.loc 0, .int 12] S = .ok (.int k) S1) (ix : ∀ st, ixT st (.lst desks4) (.int k) = some d) :
    Z16 Z10 ((Z12.drop 3).take 1) (E10q (some (.loc 0)) a1 a2 a3 a4 a5 a6 a7 none none) S = .nx (E10q (some (.loc 0)) a1 a2 a3 a4 (some d) a6 a7 none none) S1 := by
  simp! [Z37, Z36, Z38, Z43, Z44, Z42, Z41, Z46, Z45, Z48, Z47, Z40, Z53, Z12, ap_fNever, Z51, Z49, ap_fMu, Z18, ap_fRepr, ap_fLi, ap_fSub, Z15, Z50, Z39, k1_fMu, Z17, k1_fRepr, k1_fLi, k1_fSub, k2_fSub, Z14, -ix_lst', ap_fEd, e, ix]
theorem r4_d {S : Sto} {P t d : T} {x : PySem.Str} {a0 a1 a3 a6 a7 : Option T} (h : reprT S (.lst [P, t, d]) = some (.str x)) :
    Z16 Z10 ((Z12.drop 4).take 1) (E10q a0 a1 (some P) a3 (some t) (some d) a6 a7 none none) S = .nx (E10q a0 a1 (some P) a3 (some t) (some d) (some (.lst [.str "back", .str x])) a7 none none) S := by
  simp! [Z37, Z36, Z38, Z43, Z44, Z42, Z41, Z46, Z45, Z48, Z47, Z40, Z53, Z12, ap_fNever, Z51, Z49, ap_fMu, Z18, ap_fRepr, ap_fLi, Z15, Z50, Z39, k1_fMu, Z17, k1_fRepr, k1_fLi, Z14, fRepr, h]
theorem r4_5n {S : Sto} {a0 a1 a2 a3 a4 a6 a7 : Option T} :
    Z16 Z10 ((Z12.drop 5).take 1) (E10q a0 a1 a2 a3 a4 (some .non) a6 a7 none none) S = .nx (E10q a0 a1 a2 a3 a4 (some .non) a6 a7 none none) S := by
  simp! [Z37, Z36, Z38, Z43, Z44, Z42, Z41, Z46, Z45, Z48, Z47, Z40, Z53, Z12, ap_fNever, Z51, Z49, ap_fMu, Z18, ap_fRepr, ap_fLi, Z15, Z50, Z39, k1_fMu, Z17, k1_fRepr, k1_fLi, Z14, asBl]
theorem cond4_t {tb : Tab} {A : IE} {B C : List IS} {env env2 : Env} {S S1 S2 : Sto} (hA : A.ev tb env S = .ok (.bl true) S1) (hB : Z16 tb B env S1 = .nx env2 S2) : Z16 tb [.cond A B C] env S = .nx env2 S2 := by
  rw [ap_evSs, IS.ev, ap_fIf, hA, go_ok', k1_fIf]
  rw [hB, seq_nx']
  rfl
theorem cond4_f {tb : Tab} {A : IE} {B C : List IS} {env env2 : Env} {S S1 S2 : Sto} (hA : A.ev tb env S = .ok (.bl false) S1) (hB : Z16 tb C env S1 = .nx env2 S2) : Z16 tb [.cond A B C] env S = .nx env2 S2 := by
  rw [ap_evSs, IS.ev, ap_fIf, hA, go_ok', k1_fIf]
  rw [hB, seq_nx']
  rfl
def x5c : IE := .and (.isN true (.v 5)) (.not (.call 3 (.cons (.v 5) (.cons (.k (.int 1)) (.cons (.k (.int 12)) .nil))) .nil))
def x5b : List IS := [.asg (.pl (.name 6)) (.fz (.lst (.cons (.k (.str "tables")) (.cons (.repr (.v 5)) .nil))))]
theorem x5_eq : (Z12.drop 5).take 1 = [.cond x5c x5b []] := rfl
theorem x5_c {S : Sto} {d : T} {b : Bool} {a0 a1 a2 a3 a4 a6 a7 : Option T} (n : isNn true d = true) (w : Z30 [d, .int 1, .int 12] S = .ok (.bl b) S) : x5c.ev Z10 (E10q a0 a1 a2 a3 a4 (some d) a6 a7 none none) S = .ok (.bl (!b)) S := by
  simp only [isNn, Bool.not_true] at n
  cases b with
  | true => simp! [x5c, Z37, Z36, Z38, Z43, Z44, Z42, Z41, Z46, Z45, Z48, Z47, Z40, Z53, ap_fNever, Z51, Z24, Z49, ap_fMu, Z18, ap_fRepr, ap_fLi, Z15, Z50, Z23, Z22, Z39, k1_fMu, Z17, k1_fRepr, k1_fLi, Z14, n, w, asBl]
  | false => simp! [x5c, Z37, Z36, Z38, Z43, Z44, Z42, Z41, Z46, Z45, Z48, Z47, Z40, Z53, ap_fNever, Z51, Z24, Z49, ap_fMu, Z18, ap_fRepr, ap_fLi, Z15, Z50, Z23, Z22, Z39, k1_fMu, Z17, k1_fRepr, k1_fLi, Z14, n, w, asBl]
theorem r4_5g {S : Sto} {d : T} {a0 a1 a2 a3 a4 a6 a7 : Option T} (n : isNn true d = true) (w : Z30 [d, .int 1, .int 12] S = .ok (.bl true) S) :
    Z16 Z10 ((Z12.drop 5).take 1) (E10q a0 a1 a2 a3 a4 (some d) a6 a7 none none) S = .nx (E10q a0 a1 a2 a3 a4 (some d) a6 a7 none none) S := by
  rw [x5_eq]
  exact cond4_f (x5_c n w) rfl
theorem r4_5b {S : Sto} {d : T} {x : PySem.Str} {a0 a1 a2 a3 a4 a6 a7 : Option T} (n : isNn true d = true) (w : Z30 [d, .int 1, .int 12] S = .ok (.bl false) S) (h : reprT S d = some (.str x)) :
    Z16 Z10 ((Z12.drop 5).take 1) (E10q a0 a1 a2 a3 a4 (some d) a6 a7 none none) S = .nx (E10q a0 a1 a2 a3 a4 (some d) (some (.lst [.str "tables", .str x])) a7 none none) S := by
  rw [x5_eq]
  refine cond4_t (x5_c n w) ?_
  simp! [x5b, ap_fNever, Z51, Z24, Z49, ap_fMu, Z18, ap_fRepr, ap_fLi, Z15, Z50, Z23, Z22, Z39, k1_fMu, Z17, k1_fRepr, k1_fLi, Z14, fRepr, h]
def x6c : IE := .or (.not (.isi (.ty "tuple") (.v 4))) (.eqz (.v 4) (.tup .nil))
def x6b : List IS := [.asg (.pl (.name 6)) (.fz (.lst (.cons (.k (.str "guests")) (.cons (.k (.str "None")) .nil))))]
def x6d : IE := .cmp .GtE (.call 4 (.cons (.v 4) (.cons (.v 3) .nil)) .nil) (.k (.int 0))
def x6e : List IS := [.asg (.pl (.name 6)) (.fz (.lst (.cons (.k (.str "guests")) (.cons (.repr (.call 4 (.cons (.v 4) (.cons (.v 3) .nil)) .nil)) .nil))))]
theorem x6_eq : (Z12.drop 6).take 1 = [.cond x6c x6b [.cond x6d x6e []]] := rfl
theorem x6_b {S : Sto} {a0 a1 a2 a3 a4 a5 a6 a7 : Option T} : Z16 Z10 x6b (E10q a0 a1 a2 a3 a4 a5 a6 a7 none none) S = .nx (E10q a0 a1 a2 a3 a4 a5 (some (.lst [.str "guests", .str "None"])) a7 none none) S := by
  simp! [x6b, ap_fNever, Z51, Z49, ap_fMu, Z18, ap_fRepr, ap_fLi, Z15, Z50, Z39, k1_fMu, Z17, k1_fRepr, k1_fLi, Z14]
theorem x6_t {S : Sto} {X : List T} {a0 a1 a2 a3 a5 a6 a7 : Option T} : x6c.ev Z10 (E10q a0 a1 a2 a3 (some (.tup X)) a5 a6 a7 none none) S = .ok (.bl X.isEmpty) S := by
  simp! [x6c, Z37, Z36, Z38, Z43, Z44, Z42, Z41, Z46, Z45, Z48, Z47, Z40, Z53, ap_fNever, Z51, Z49, ap_fMu, Z18, ap_fRepr, ap_fLi, Z15, Z50, Z39, k1_fMu, Z17, k1_fRepr, k1_fLi, Z14, ap_fEqz, eqzR, asBl]
theorem x6_n {S : Sto} {t : T} {a0 a1 a2 a3 a5 a6 a7 : Option T} (no : ∀ n, isiT n Z10.isi (.ty "tuple") S t = some false) : x6c.ev Z10 (E10q a0 a1 a2 a3 (some t) a5 a6 a7 none none) S = .ok (.bl true) S := by
  simp! [x6c, Z37, Z36, Z38, Z43, Z44, Z42, Z41, Z46, Z45, Z48, Z47, Z40, Z53, ap_fNever, Z51, Z49, ap_fMu, Z18, ap_fRepr, ap_fLi, Z15, Z50, Z39, k1_fMu, Z17, k1_fRepr, k1_fLi, Z14, no, asBl]
theorem x6_d {S : Sto} {t : T} {WS : List T} {k : Int} {a0 a1 a2 a5 a6 a7 : Option T} (w : F_law_wrong [t, .lst WS] S = .ok (.int k) S) : x6d.ev Z10 (E10q a0 a1 a2 (some (.lst WS)) (some t) a5 a6 a7 none none) S = .ok (.bl (decide (0 ≤ k))) S := by
  simp! [x6d, Z37, Z36, Z38, Z43, Z44, Z42, Z41, Z46, Z45, Z48, Z47, Z40, Z53, ap_fNever, Z51, ap_fSl, Z49, ap_fMu, Z18, ap_fRepr, ap_fCat, ap_fLi, ap_fSlL, Z15, Z50, k1_fSl, k2_fSl, k3_fSl, Z39, k1_fMu, Z17, k1_fRepr, k1_fCat, k2_fCat, k1_fLi, Z57, Z56, Z58, Z14, w]
theorem x6_e {S : Sto} {t : T} {WS : List T} {k : Int} {x : PySem.Str} {a0 a1 a2 a5 a6 a7 : Option T} (w : F_law_wrong [t, .lst WS] S = .ok (.int k) S) (h : reprT S (.int k) = some (.str x)) : Z16 Z10 x6e (E10q a0 a1 a2 (some (.lst WS)) (some t) a5 a6 a7 none none) S = .nx (E10q a0 a1 a2 (some (.lst WS)) (some t) a5 (some (.lst [.str "guests", .str x])) a7 none none) S := by
  simp! [x6e, Z37, Z36, Z38, Z43, Z44, Z42, Z41, Z46, Z45, Z48, Z47, Z40, Z53, ap_fNever, Z51, ap_fSl, Z49, ap_fMu, Z18, ap_fRepr, ap_fCat, ap_fLi, ap_fSlL, Z15, Z50, k1_fSl, k2_fSl, k3_fSl, Z39, k1_fMu, Z17, k1_fRepr, k1_fCat, k2_fCat, k1_fLi, Z57, Z56, Z58, Z14, w, fRepr, h]
theorem r4_6n {S : Sto} {t : T} {a0 a1 a2 a3 a5 a6 a7 : Option T} (no : ∀ n, isiT n Z10.isi (.ty "tuple") S t = some false) :
    Z16 Z10 ((Z12.drop 6).take 1) (E10q a0 a1 a2 a3 (some t) a5 a6 a7 none none) S = .nx (E10q a0 a1 a2 a3 (some t) a5 (some (.lst [.str "guests", .str "None"])) a7 none none) S := by
  rw [x6_eq]
  exact cond4_t (x6_n no) x6_b
theorem r4_6e {S : Sto} {a0 a1 a2 a3 a5 a6 a7 : Option T} :
    Z16 Z10 ((Z12.drop 6).take 1) (E10q a0 a1 a2 a3 (some (.tup [])) a5 a6 a7 none none) S = .nx (E10q a0 a1 a2 a3 (some (.tup [])) a5 (some (.lst [.str "guests", .str "None"])) a7 none none) S := by
  rw [x6_eq]
  exact cond4_t x6_t x6_b
theorem r4_6b {S : Sto} {X WS : List T} {k : Int} {x : PySem.Str} {a0 a1 a2 a5 a6 a7 : Option T} (hX : X.isEmpty = false) (w : F_law_wrong [.tup X, .lst WS] S = .ok (.int k) S) (hk : 0 ≤ k) (h : reprT S (.int k) = some (.str x)) :
    Z16 Z10 ((Z12.drop 6).take 1) (E10q a0 a1 a2 (some (.lst WS)) (some (.tup X)) a5 a6 a7 none none) S = .nx (E10q a0 a1 a2 (some (.lst WS)) (some (.tup X)) a5 (some (.lst [.str "guests", .str x])) a7 none none) S := by
  rw [x6_eq]
  have c := x6_d (a0 := a0) (a1 := a1) (a2 := a2) (a5 := a5) (a6 := a6) (a7 := a7) w
  rw [decide_eq_true hk] at c
  refine cond4_f ?_ (cond4_t c (x6_e w h))
  rw [← hX]
  exact x6_t
theorem r4_6g {S : Sto} {X WS : List T} {a0 a1 a2 a5 a6 a7 : Option T} (hX : X.isEmpty = false) (w : F_law_wrong [.tup X, .lst WS] S = .ok (.int (-1)) S) :
    Z16 Z10 ((Z12.drop 6).take 1) (E10q a0 a1 a2 (some (.lst WS)) (some (.tup X)) a5 a6 a7 none none) S = .nx (E10q a0 a1 a2 (some (.lst WS)) (some (.tup X)) a5 a6 a7 none none) S := by
  rw [x6_eq]
  have c := x6_d (a0 := a0) (a1 := a1) (a2 := a2) (a5 := a5) (a6 := a6) (a7 := a7) w
  refine cond4_f ?_ (cond4_f c rfl)
  rw [← hX]
  exact x6_t
theorem r4_7n {S S1 : Sto} {k : Int} {a1 a2 a3 a4 a5 a6 a7 : Option T} (e : Z19 [.loc 0, .int 12] S = .ok (.int k) S1) (hk : (k == 0) = false) :
    Z16 Z10 ((Z12.drop 7).take 1) (E10q (some (.loc 0)) a1 a2 a3 a4 a5 a6 a7 none none) S = .nx (E10q (some (.loc 0)) a1 a2 a3 a4 a5 a6 a7 none none) S1 := by
  have ne : ¬ (k = 0) := by simpa using hk
  simp! [Z37, Z36, Z38, Z43, Z44, Z42, Z41, Z46, Z45, Z48, Z47, Z40, Z53, Z12, ap_fNever, Z51, Z49, ap_fMu, Z18, ap_fRepr, ap_fLi, ap_fSub, Z15, Z50, Z39, k1_fMu, Z17, k1_fRepr, k1_fLi, k1_fSub, k2_fSub, Z14, e, hk, ne, cmpT, asBl]
theorem r4_7y {S S1 S2 : Sto} {MS : List T} {k : Int} {P : T} {a1 a3 a4 a5 a6 a7 : Option T} (e : Z19 [.loc 0, .int 12] S = .ok (.int 0) S1) (e2 : Z19 [.loc 0, .int 3] S1 = .ok (.int k) S2) (ix : ∀ st, ixT st (.lst [.tup [], .lst MS, .non]) (.int k) = some P) (hl : MS.length ≤ 100) :
    Z16 Z10 ((Z12.drop 7).take 1) (E10q (some (.loc 0)) a1 (some (.tup MS)) a3 a4 a5 a6 a7 none none) S = .nx (E10q (some (.loc 0)) a1 (some P) a3 a4 a5 (some (.lst [.str "hosts", .str "None"])) a7 none none) S2 := by
  simp! [Z37, Z36, Z38, Z43, Z44, Z42, Z41, Z46, Z45, Z48, Z47, Z40, Z53, Z12, ap_fNever, Z51, Z49, ap_fMu, Z18, ap_fRepr, ap_fLi, ap_fSub, Z15, Z50, Z39, k1_fMu, Z17, k1_fRepr, k1_fLi, k1_fSub, k2_fSub, Z14, -ix_lst', e, e2, ix, cmpT, asBl]
def bp4 : IE := .call 5 (.cons (.call 6 (.cons (.v 2) (.cons (.v 4) (.cons (.v 5) .nil))) .nil) .nil) .nil
def bk4 : IE := .call 5 (.cons (.call 7 .nil (.cons (.v 4) (.cons (.v 2) (.cons (.v 5) .nil)))) .nil) .nil
theorem x8_eq : Z12.drop 8 = [.asg (.pl (.name 7)) (.new (.lst (.cons (.told 0 bp4) .nil))), .exp (.mu .append (.v 7) (.cons (.told 0 bk4) .nil)), .cond (.cmp .NotEq (.v 7) (.fz (.lst (.cons (.v 6) (.cons (.v 6) .nil))))) [.ret (.k (.bl false))] []] := rfl
theorem seen4 {a b c : T} {st : Sto} (hs : NL st) (ha : Nl a) (hb : Nl b) (hc : Nl c) : F_law_seen [.obj 0 [a, b, c]] st = .ok (.lst [a, b, c]) st := by
  have h1 : F_Fair_hosts [.obj 0 [a, b, c]] st = .ok a st := by
    simp! [F_Fair_hosts, tbf_of_Fair_hosts, tbc_of_Fair_hosts, c0_of_Fair_hosts, a0givers_of_Fair_hosts, n_of_Fair_hosts, b_Fair_hosts]
    exact Z20 hs ha
  have h2 : F_Fair_guests [.obj 0 [a, b, c]] st = .ok b st := by
    simp! [F_Fair_guests, tbf_of_Fair_guests, tbc_of_Fair_guests, c0_of_Fair_guests, a0takers_of_Fair_guests, n_of_Fair_guests, b_Fair_guests]
    exact Z20 hs hb
  have h3 : F_Fair_tables [.obj 0 [a, b, c]] st = .ok c st := by
    simp! [F_Fair_tables, tbf_of_Fair_tables, tbc_of_Fair_tables, c0_of_Fair_tables, a0places_of_Fair_tables, n_of_Fair_tables, b_Fair_tables]
    exact Z20 hs hc
  simp! [F_law_seen, tbf_of_law_seen, tbc_of_law_seen, c0_of_law_seen, a0guests_of_law_seen, p0guests_of_law_seen, a0hosts_of_law_seen, p0hosts_of_law_seen, a0tables_of_law_seen, p0tables_of_law_seen, n_of_law_seen, b_law_seen, h1, h2, h3]
  exact Z20 hs (by simp [ha, hb, hc])
theorem bp4_ok {P t d : T} {st : Sto} {a0 a1 a3 a6 a7 : Option T} (m : mkF (sx0.cls []) 0 (padF 4 [] Z31) [P, t, d] st = .ok (.obj 0 [P, t, d]) st) (s : F_law_seen [.obj 0 [P, t, d]] st = .ok (.lst [P, t, d]) st) :
    bp4.ev Z10 (E10q a0 a1 (some P) a3 (some t) (some d) a6 a7 none none) st = .ok (.lst [P, t, d]) st := by
  simp! [bp4, Z37, Z36, Z38, Z43, Z44, Z42, Z41, Z46, Z45, Z48, Z47, Z40, Z53, ap_fNever, Z51, Z49, ap_fMu, Z18, ap_fRepr, ap_fLi, ap_fFld, Z15, Z50, Z39, k1_fMu, Z17, k1_fRepr, k1_fLi, k1_fFld, k2_fFld, Z14, m, s]
theorem bp4_x {P t d x : T} {st st2 : Sto} {a0 a1 a3 a6 a7 : Option T} (m : mkF (sx0.cls []) 0 (padF 4 [] Z31) [P, t, d] st = .exc x st2) :
    bp4.ev Z10 (E10q a0 a1 (some P) a3 (some t) (some d) a6 a7 none none) st = .exc x st2 := by
  simp! [bp4, Z37, Z36, Z38, Z43, Z44, Z42, Z41, Z46, Z45, Z48, Z47, Z40, Z53, ap_fNever, Z51, Z49, ap_fMu, Z18, ap_fRepr, ap_fLi, ap_fFld, Z15, Z50, Z39, k1_fMu, Z17, k1_fRepr, k1_fLi, k1_fFld, k2_fFld, Z14, m]
noncomputable abbrev kw4 : List T → Sto → R T := kwF 1 3 (fun ts => [0, 2, 1, 3].filterMap fun i => (ts ++ [])[i]?) Z31
theorem bk4_ev {P t d : T} {st : Sto} {a0 a1 a3 a6 a7 : Option T} : bk4.ev Z10 (E10q a0 a1 (some P) a3 (some t) (some d) a6 a7 none none) st = (mkF (sx0.cls []) 0 kw4 [t, P, d] st).bnd fun x st1 => F_law_seen [x] st1 := by
  generalize hF : mkF (sx0.cls []) 0 kw4 = F
  have e : Z10.funs[7]? = some ⟨"Fair", ["guests", "hosts", "tables"], F⟩ := by rw [← hF]; rfl
  have e5 : Z10.funs[5]? = some ⟨"_law_seen", [], padF 1 [] F_law_seen⟩ := rfl
  cases h : F [t, P, d] st with
  | ok a s =>
    simp! [bk4, ap_fNever, Z51, Z49, ap_fMu, Z18, ap_fRepr, ap_fLi, Z15, Z50, Z39, k1_fMu, Z17, k1_fRepr, k1_fLi, Z14, e5, e, h]
  | exc a s =>
    simp! [bk4, ap_fNever, Z51, Z49, ap_fMu, Z18, ap_fRepr, ap_fLi, Z15, Z50, Z39, k1_fMu, Z17, k1_fRepr, k1_fLi, Z14, e5, e, h]
  | bad =>
    simp! [bk4, ap_fNever, Z51, Z49, ap_fMu, Z18, ap_fRepr, ap_fLi, Z15, Z50, Z39, k1_fMu, Z17, k1_fRepr, k1_fLi, Z14, e5, e, h]
    rfl
theorem bk4_ok {P t d : T} {st : Sto} {a0 a1 a3 a6 a7 : Option T} (m : mkF (sx0.cls []) 0 kw4 [t, P, d] st = .ok (.obj 0 [P, t, d]) st) (s : F_law_seen [.obj 0 [P, t, d]] st = .ok (.lst [P, t, d]) st) :
    bk4.ev Z10 (E10q a0 a1 (some P) a3 (some t) (some d) a6 a7 none none) st = .ok (.lst [P, t, d]) st := by
  rw [bk4_ev, m, bnd_ok', s]
theorem bk4_x {P t d x : T} {st st2 : Sto} {a0 a1 a3 a6 a7 : Option T} (m : mkF (sx0.cls []) 0 kw4 [t, P, d] st = .exc x st2) :
    bk4.ev Z10 (E10q a0 a1 (some P) a3 (some t) (some d) a6 a7 none none) st = .exc x st2 := by
  rw [bk4_ev, m]
  rfl
theorem told4_ev {b : IE} {env : Env} {st : Sto} {v : T} (h : F_law_told_k04 (b.ev Z10 env) st = .ok v st) : (IE.told 0 b).ev Z10 env st = .ok v st := by
  show (F_law_told_k04 (b.ev Z10 env) st).nox = _
  rw [h]
  rfl
theorem r4_8 {X Y : IE} {D : T} {S : Sto} {l : Nat} {a0 a1 a2 a3 a4 a5 a7 : Option T} (hl : S.length = l) (hx : X.ev Z10 (E10q a0 a1 a2 a3 a4 a5 (some D) a7 none none) S = .ok D S)
    (hy : Y.ev Z10 (E10q a0 a1 a2 a3 a4 a5 (some D) (some (.loc l)) none none) (S ++ [.lst [D]]) = .ok D (S ++ [.lst [D]])) (q : eqT (.lst [D, D]) (.lst [D, D]) = some true) :
    Z16 Z10 [.asg (.pl (.name 7)) (.new (.lst (.cons X .nil))), .exp (.mu .append (.v 7) (.cons Y .nil)), .cond (.cmp .NotEq (.v 7) (.fz (.lst (.cons (.v 6) (.cons (.v 6) .nil))))) [.ret (.k (.bl false))] []] (E10q a0 a1 a2 a3 a4 a5 (some D) a7 none none) S = .nx (E10q a0 a1 a2 a3 a4 a5 (some D) (some (.loc l)) none none) (S ++ [.lst [D, D]]) := by
  subst hl
  simp! [ap_fNever, Z51, Z49, ap_fMu, Z18, ap_fRepr, ap_fLi, Z15, Z50, Z39, k1_fMu, Z17, k1_fRepr, k1_fLi, Z14, hx, hy, cmpT, frozen, lstOf, q]
def wd4 : Nat → PySem.Str
  | 104 => "tables"
  | 110 => "hosts"
  | _ => "guests"
def D4 (P t d : T) : Option (Nat × T) → T
  | some (c, i) => .lst [.str (wd4 c), .str (sh i)]
  | none => .lst [.str "back", .str (sh (.lst [P, t, d]))]
def Sm4 (t : T) : Prop := Nl t ∧ noX t = true ∧ ShE t 4 100000
theorem S4.s4sm {t : T} (h : S4 t) : Sm4 t := ⟨h.nl, h.nx, h.sh.mono (by decide) (by decide)⟩
theorem rp4 {t : T} {k b : Nat} (h : ShE t k b) (hk : k ≤ 10) (hb : b ≤ 16777216) (st : Sto) : reprT st t = some (.str (sh t)) := by
  refine (rep_shE h hk hb fun st => ?_).1 st
  have := h.1
  cases t with
  | loc l => simp [Z29] at this
  | scr ns => simp [Z29] at this
  | _ => rfl
theorem JC.jcnx {n : Nat} {J : Cell} (h : JC n J) : noXc J = true := by
  obtain ⟨g, m, k, rfl, _⟩ := h
  rfl
theorem tell4 {P t d : T} {o : Option (Nat × T)} {S : Sto} {a0 a1 a3 a6 a7 : Option T} (hs : NL S) (hx : S.all noXc = true) (hP : Sm4 P) (ht : Sm4 t) (hd : Sm4 d) (m : Mk4 P t d o) :
    F_law_told_k04 (bp4.ev Z10 (E10q a0 a1 (some P) a3 (some t) (some d) a6 a7 none none)) S = .ok (D4 P t d o) S ∧ F_law_told_k04 (bk4.ev Z10 (E10q a0 a1 (some P) a3 (some t) (some d) a6 a7 none none)) S = .ok (D4 P t d o) S := by
  have nv : Nls [P, t, d] := by simp [hP.1, ht.1, hd.1]
  have e1 := mk4_p hs nv hd.1 m
  have e2 := mk4_k hs nv hd.1 m
  have n1 : NL (S ++ [.ins 0 []]) := NL_app hs (NL_cons (fun f => by show (frzWs f []).map _ = _; rw [frzWs]; rfl) NL_nil)
  have x1 : (S ++ [Cell.ins 0 []]).all noXc = true := by rw [List.all_append, hx]; rfl
  cases m with
  | host e =>
    exact ⟨told110 (bp4_x e1) hs n1 x1 (by simp) (by rfl), told110 (bk4_x e2) hs n1 x1 (by simp) (by rfl)⟩
  | guest i hi hr e =>
    exact ⟨told111 (bp4_x e1) hs n1 x1 hi (rp4 hr (by decide) (by decide) _), told111 (bk4_x e2) hs n1 x1 hi (rp4 hr (by decide) (by decide) _)⟩
  | tabs e e2' =>
    exact ⟨told104 (bp4_x e1) hs n1 x1 hd.1 (rp4 hd.2.2 (by decide) (by decide) _), told104 (bk4_x e2) hs n1 x1 hd.1 (rp4 hd.2.2 (by decide) (by decide) _)⟩
  | ok e e2' =>
    have sh3 : ShE (.lst [P, t, d]) 5 400000 := (shE_lst (n := 3) (k := 4) (b := 100000) (by simp) fun x hx => by
      simp only [List.mem_cons, List.not_mem_nil, or_false] at hx
      rcases hx with rfl | rfl | rfl
      · exact hP.2.2
      · exact ht.2.2
      · exact hd.2.2).mono (by decide) (by decide)
    have s := seen4 hs hP.1 ht.1 hd.1
    exact ⟨told4_back (bp4_ok e1 s) hs (rp4 sh3 (by decide) (by decide) _), told4_back (bk4_ok e2 s) hs (rp4 sh3 (by decide) (by decide) _)⟩
def o4 (o : Option T) (d : T) : Option (Nat × T) := match o with
  | some i => some (111, i)
  | none => if tbB d = true then none else some (104, d)
theorem wr4_lt : ∀ (os : List (Option (List Nat))) (ns : List (List Nat)) (n k : Nat), wr4 ns n os = some k → k < n + os.length
  | [], _, _, _, h => by simp [wr4] at h
  | none :: os, ns, n, k, h => by
    have : n = k := by simpa [wr4] using h
    simp; omega
  | some w :: os, ns, n, k, h => by
    rw [wr4] at h
    by_cases c : 4 ≤ n ∨ w ∈ ns
    · rw [if_pos c] at h
      have : n = k := by simpa using h
      simp; omega
    · rw [if_neg c] at h
      have := wr4_lt os _ _ _ h
      simp at this ⊢; omega
theorem Gs4.gs4i {ns : List (List Nat)} {t i : T} (h : Gs4 ns t (some i)) : Nl i ∧ ShE i 1 400 := by
  cases h with
  | no h hd => exact ⟨by simp, rfl, by decide, by decide, by decide +kernel⟩
  | nil => exact ⟨by simp, rfl, by decide, by decide, by decide +kernel⟩
  | bad L k hL hl h0 hw => exact ⟨by simp, (ShE.of (shD_z (x := (k : Int)) (by have := wr4_lt _ _ _ _ hw; rw [List.length_map] at this; omega))).mono (by decide) (by decide)⟩
theorem mk4_all {ps : List (List Nat × Int)} {t d : T} {o : Option T} (h : Ps4 ps) (g : Gs4 (ps.map (·.1)) t o) (hd : Z29 d = true) : Mk4 (.tup (ps.map mT)) t d (o4 o d) := by
  cases o with
  | some i => exact .guest i g.gs4i.1 g.gs4i.2 fun st hs => check4 hs h g
  | none =>
    unfold o4
    cases ht : tbB d with
    | true => exact .ok (fun st hs => check4 hs h g) fun st hs => by rw [it4 hs hd, ht]
    | false => exact .tabs (fun st hs => check4 hs h g) fun st hs => by rw [it4 hs hd, ht]
theorem eq_D4 {P t d : T} {o : Option (Nat × T)} (hP : Z29 P = true) (ht : Z29 t = true) (hd : Z29 d = true) (hi : ∀ c i, o = some (c, i) → Z29 i = true) : eqT (.lst [D4 P t d o, D4 P t d o]) (.lst [D4 P t d o, D4 P t d o]) = some true := by
  have w : ∀ c, PySem.PyData.strOk (wd4 c) = true := fun c => by
    unfold wd4
    split <;> decide +kernel
  have b : PySem.PyData.strOk "back" = true := by decide +kernel
  cases o with
  | some x =>
    obtain ⟨c, i⟩ := x
    have s := so_shownE i (hi c i rfl)
    exact eqT_self (by simp only [D4, data, datas, w, Bool.and_true, Bool.true_and]; exact Bool.and_eq_true_iff.mpr ⟨s, s⟩) (by simp [D4, dep, deps])
  | none =>
    have s := so_shownE (.lst [P, t, d]) (by simp [Z29, datasE, hP, ht, hd])
    exact eqT_self (by simp only [D4, data, datas, b, Bool.and_true, Bool.true_and]; exact Bool.and_eq_true_iff.mpr ⟨s, s⟩) (by simp [D4, dep, deps])
theorem r4_all {Sa S1 S2 S3 S4' S5 : Sto} {e0 e1 e2 e3 e4 e5 e6 e7 e8 : Env} (A : Z16 Z10 (Z12.take 2) e0 Sa = .nx e1 S1) (B : Z16 Z10 ((Z12.drop 2).take 1) e1 S1 = .nx e2 S2)
    (C : Z16 Z10 ((Z12.drop 3).take 1) e2 S2 = .nx e3 S3) (D : Z16 Z10 ((Z12.drop 4).take 1) e3 S3 = .nx e4 S3) (E : Z16 Z10 ((Z12.drop 5).take 1) e4 S3 = .nx e5 S3) (F : Z16 Z10 ((Z12.drop 6).take 1) e5 S3 = .nx e6 S3)
    (G : Z16 Z10 ((Z12.drop 7).take 1) e6 S3 = .nx e7 S4') (H : Z16 Z10 (Z12.drop 8) e7 S4' = .nx e8 S5) : Z16 Z10 Z12 e0 Sa = .nx e8 S5 := by
  have es : Z12 = Z12.take 2 ++ ((Z12.drop 2).take 1 ++ ((Z12.drop 3).take 1 ++ ((Z12.drop 4).take 1 ++ ((Z12.drop 5).take 1 ++ ((Z12.drop 6).take 1 ++ ((Z12.drop 7).take 1 ++ Z12.drop 8)))))) := rfl
  rw [es, evSs_app, A, seq_nx', evSs_app, B, seq_nx', evSs_app, C, seq_nx', evSs_app, D, seq_nx', evSs_app, E, seq_nx', evSs_app, F, seq_nx', evSs_app, G, seq_nx', H]
theorem desks_ok {d : T} (h : d ∈ desks4) : Sm4 d := by
  simp only [List.mem_cons, List.not_mem_nil, or_false] at h
  rcases h with rfl | rfl | rfl | rfl | rfl | rfl | rfl | rfl | rfl | rfl | rfl | rfl
  all_goals exact ⟨by first | exact nl_edt | simp, by rfl, ⟨by decide +kernel, by decide +kernel, by decide +kernel, by decide +kernel⟩⟩
theorem due5 {S : Sto} {P t d : T} {a0 a1 a2 a3 a4 a7 : Option T} (hs : NL S) (hd : Sm4 d) : Z16 Z10 ((Z12.drop 5).take 1) (E10q a0 a1 a2 a3 a4 (some d) (some (.lst [.str "back", .str (sh (.lst [P, t, d]))])) a7 none none) S = .nx (E10q a0 a1 a2 a3 a4 (some d) (some (D4 P t d (o4 none d))) a7 none none) S := by
  have w := lw4 (lo := 1) (hi := 12) hs hd.2.2.1
  have key : isNn true d = true → tbB d = wB 1 12 d → Z16 Z10 ((Z12.drop 5).take 1) (E10q a0 a1 a2 a3 a4 (some d) (some (.lst [.str "back", .str (sh (.lst [P, t, d]))])) a7 none none) S = .nx (E10q a0 a1 a2 a3 a4 (some d) (some (D4 P t d (o4 none d))) a7 none none) S := fun h1 h2 => by
    unfold o4
    dsimp only
    rw [h2]
    cases hb : wB 1 12 d with
    | true =>
      rw [hb] at w
      exact r4_5g h1 w
    | false =>
      rw [hb] at w
      exact r4_5b h1 w (rp4 hd.2.2 (by decide) (by decide) _)
  cases d with
  | non => exact r4_5n
  | _ => exact key rfl rfl
theorem due6 {S : Sto} {P t d : T} {ns : List (List Nat)} {o : Option T} {a0 a1 a2 a5 a7 : Option T} (hs : NL S) (hns : ∀ x, x ∈ ns → WdOk x) (hnl : ns.length ≤ 4) (g : Gs4 ns t o) : Z16 Z10 ((Z12.drop 6).take 1) (E10q a0 a1 a2 (some (.lst (ns.map sW))) (some t) a5 (some (D4 P t d (o4 none d))) a7 none none) S = .nx (E10q a0 a1 a2 (some (.lst (ns.map sW))) (some t) a5 (some (D4 P t d (o4 o d))) a7 none none) S := by
  have ne : ∀ {L : List (T × Option (List Nat))}, L ≠ [] → (L.map (·.1)).isEmpty = false := fun {L} h => by
    cases L with
    | nil => exact absurd rfl h
    | cons x r => rfl
  cases g with
  | no _ hn hd =>
    refine r4_6n ?_
    intro n
    cases t with
    | tup X => exact absurd rfl (hn X)
    | non => rfl
    | bl b => rfl
    | int i => rfl
    | str x => rfl
    | lst xs => rfl
    | edt => rfl
    | _ => simp [Z29] at hd
  | nil => exact r4_6e
  | bad L k hL hl h0 hw =>
    have w := lx4_ok (st := S) hs hns hnl hL (by omega)
    rw [hw] at w
    have lt := wr4_lt _ _ _ _ hw
    rw [List.length_map] at lt
    exact r4_6b (ne h0) w (by omega) (rp4 (ShE.of (shD_z (x := (k : Int)) (by omega))) (by decide) (by decide) _)
  | ok L hL hl h0 hw =>
    have w := lx4_ok (st := S) hs hns hnl hL (by omega)
    rw [hw] at w
    exact r4_6g (ne h0) w
theorem due7 {n : Nat} {J : Cell} {R : Sto} {ps : List (List Nat × Int)} {t d : T} {o : Option T} {a1 a3 a7 : Option T} (hJ : JC n J) (hn : n + 20 < 10 ^ 9) (hr : NL R) (h : Ps4 ps) (ht : Sm4 t) (hd : Sm4 d) (g : Gs4 (ps.map (·.1)) t o) :
    ∃ P o2 J', Z16 Z10 ((Z12.drop 7).take 1) (E10q (some (.loc 0)) a1 (some (.tup (ps.map mT))) a3 (some t) (some d) (some (D4 (.tup (ps.map mT)) t d (o4 o d))) a7 none none) (J :: R) = .nx (E10q (some (.loc 0)) a1 (some P) a3 (some t) (some d) (some (D4 P t d o2)) a7 none none) (J' :: R) ∧ Sm4 P ∧ Mk4 P t d o2 ∧ (∀ c i, o2 = some (c, i) → Z29 i = true) ∧ JC (n + 2) J' := by
  have gm : ∀ x, x ∈ ps.map mT → G4 x := fun x hx => by
    obtain ⟨q, hq, rfl⟩ := List.mem_map.mp hx
    exact G4.g4m (h.wd q hq) (h.bd q hq).1 (h.bd q hq).2
  have lm : (ps.map mT).length ≤ 6 := by rw [List.length_map]; have := h.le; omega
  obtain ⟨k, J1, e, k0, k1, hJ1⟩ := pour_eq (k := 12) (rest := R) hJ (by omega) (by decide) (by decide) hr
  by_cases hk : k = 0
  · subst hk
    obtain ⟨j, J2, e2, j0, j1, hJ2⟩ := pour_eq (k := 3) (rest := R) hJ1 (by omega) (by decide) (by decide) hr
    obtain ⟨P, hP, ix⟩ := pick4 (L := [.tup [], .lst (ps.map mT), .non]) j0 j1
    have H : Hs4 P ∧ Sm4 P := by
      simp only [List.mem_cons, List.not_mem_nil, or_false] at hP
      rcases hP with rfl | rfl | rfl
      · exact ⟨.inr (.inl rfl), (S4.s4tup (X := []) (by simp) fun x hx => nomatch hx).s4sm⟩
      · exact ⟨.inr (.inr ⟨_, rfl⟩), (S4.s4lst lm gm).s4sm⟩
      · exact ⟨.inl rfl, desks_ok (by simp)⟩
    refine ⟨P, some (110, .non), J2, r4_7y e e2 ix (by omega), H.2, .host fun st hs => (ck4_h H.1).trans (finO_nlx hs (by simp)), fun c i z => ?_, hJ2⟩
    cases z
    rfl
  · refine ⟨_, o4 o d, J1, r4_7n e (beq_eq_false_iff_ne.mpr hk), (S4.s4tup lm gm).s4sm, mk4_all h g hd.2.2.1, fun c i z => ?_, hJ1.mono (by omega)⟩
    cases o with
    | some j =>
      cases z
      exact g.gs4i.2.1
    | none =>
      unfold o4 at z
      dsimp only at z
      split at z
      · cases z
      · cases z
        exact hd.2.2.1
theorem turn4 {n : Nat} {J : Cell} {R : Sto} {i : T} {a2 a3 a4 a5 a6 a7 : Option T} (hJ : JC n J) (hn : n + 1000 < 10 ^ 9) (hr : NL R) (hx : R.all noXc = true) :
    ∃ b2 b3 b4 b5 b6 b7 J' Z, Z16 Z10 Z12 (E10q (some (.loc 0)) (some i) a2 a3 a4 a5 a6 a7 none none) (J :: R) = .nx (E10q (some (.loc 0)) (some i) b2 b3 b4 b5 b6 b7 none none) (J' :: (R ++ [Cell.lst Z])) ∧ NL (R ++ [Cell.lst Z]) ∧ (R ++ [Cell.lst Z]).all noXc = true ∧ JC (n + 500) J' := by
  obtain ⟨k, J1, e1, d0, d1, hJ1⟩ := pour_eq (k := 4) (rest := R) hJ (by omega) (by decide) (by decide) hr
  obtain ⟨k, rfl⟩ := Int.eq_ofNat_of_zero_le d0
  obtain ⟨ws, J2, e2, hl, nd, hw, hJ2⟩ := words_ok (m := 1 + k) (rest := R) hJ1 (by omega) (by omega) hr
  have hh := r4_w (a1 := some i) (a2 := a2) (a3 := a3) (a4 := a4) (a5 := a5) (a6 := a6) (a7 := a7) e1 (v := ((1 + k : Nat) : Int)) (by omega) e2 (by rw [List.length_map]; omega)
  obtain ⟨ps, J3, e3, hn3, hb3, hJ3⟩ := draw4 (own := [9]) (fe := e1_law_right_k04.ev Z10) (g := .name 9) (ft := fYes) hh (by omega) hJ2 (by omega) fun w J m hj hm => by
    obtain ⟨d, J', e, d0, d1, hj'⟩ := pour_eq (k := 4) (rest := R) hj (by omega) (by decide) (by decide) hr
    exact ⟨J', 1 + d, r4_e e rfl, by omega, by omega, hj'⟩
  have lps : ps.length = 1 + k := by rw [← List.length_map (f := (·.1)) (as := ps), hn3]; exact hl
  have H : Ps4 ps := ⟨fun z => by rw [z] at lps; simp at lps; omega, by omega, fun m hm => hw _ (by rw [← hn3]; exact List.mem_map_of_mem hm), hb3, by rw [hn3]; exact nd⟩
  have c2 : fLc [8] (e2_law_right_k04.ev Z10) (.name 8) (fSeq (evV 2)) fYes (E10q (some (.loc 0)) (some i) (some (.tup (ps.map mT))) a3 a4 a5 a6 a7 none none) (J3 :: R) = .ok ((ps.map (·.1)).map sW) (J3 :: R) := by
    rw [List.map_map]
    refine lc_mapE (emb := mT) (by simp! [ap_fNever, Z51, Z49, ap_fMu, Z18, ap_fRepr, ap_fLi, Z15, Z50, Z39, k1_fMu, Z17, k1_fRepr, k1_fLi, Z14]) (by omega) fun m hm => ?_
    simp! [fTurn, wipeE, e2_law_right_k04, ap_fNever, Z51, Z49, ap_fMu, Z18, ap_fRepr, ap_fLi, Z15, Z50, Z39, k1_fMu, Z17, k1_fRepr, k1_fLi, Z14, mT, sW]
  have A := r4_a e3 c2
  obtain ⟨t, J4, e4, ht, hJ4⟩ := bent_side4 (m := 5) (WH := ps.map (·.1)) (R := R) hJ3 (by omega) hr (by decide) (by decide) (fun x hx => by rw [hn3] at hx; exact hw x hx) (by rw [List.length_map]; omega)
  have B := r4_b (a1 := some i) (a2 := some (.tup (ps.map mT))) (a4 := a4) (a5 := a5) (a6 := a6) (a7 := a7) e4
  obtain ⟨j, J5, e5, j0, j1, hJ5⟩ := pour_eq (k := 12) (rest := R) hJ4 (by omega) (by decide) (by decide) hr
  obtain ⟨d, hd, ix⟩ := pick4 (L := desks4) j0 j1
  have C := r4_c (a1 := some i) (a2 := some (.tup (ps.map mT))) (a3 := some (.lst ((ps.map (·.1)).map sW))) (a4 := some t) (a5 := a5) (a6 := a6) (a7 := a7) e5 ix
  have sd := desks_ok hd
  have n5 : NL (J5 :: R) := NL_cons hJ5.nl hr
  have gm : ∀ x, x ∈ ps.map mT → G4 x := fun x hx => by
    obtain ⟨q, hq, rfl⟩ := List.mem_map.mp hx
    exact G4.g4m (H.wd q hq) (H.bd q hq).1 (H.bd q hq).2
  have sP : Sm4 (.tup (ps.map mT)) := (S4.s4tup (by rw [List.length_map]; omega) gm).s4sm
  have sh3 : ShE (.lst [.tup (ps.map mT), t, d]) 5 400000 := (shE_lst (n := 3) (k := 4) (b := 100000) (by simp) fun x hx => by
    simp only [List.mem_cons, List.not_mem_nil, or_false] at hx
    rcases hx with rfl | rfl | rfl
    · exact sP.2.2
    · exact ht.s4sm.2.2
    · exact sd.2.2).mono (by decide) (by decide)
  have D := r4_d (a0 := some (.loc 0)) (a1 := some i) (a3 := some (.lst ((ps.map (·.1)).map sW))) (a6 := a6) (a7 := a7) (rp4 sh3 (by decide) (by decide) (J5 :: R))
  obtain ⟨o, g⟩ := ht.s4gs (ps.map (·.1))
  have E := due5 (P := .tup (ps.map mT)) (t := t) (a0 := some (.loc 0)) (a1 := some i) (a2 := some (.tup (ps.map mT))) (a3 := some (.lst ((ps.map (·.1)).map sW))) (a4 := some t) (a7 := a7) n5 sd
  have F := due6 (P := .tup (ps.map mT)) (d := d) (a0 := some (.loc 0)) (a1 := some i) (a2 := some (.tup (ps.map mT))) (a5 := some d) (a7 := a7) n5 (fun x hx => by rw [hn3] at hx; exact hw x hx) (by rw [List.length_map]; omega) g
  obtain ⟨P, o2, J6, G, sP2, mk, di, hJ6⟩ := due7 (a1 := some i) (a3 := some (.lst ((ps.map (·.1)).map sW))) (a7 := a7) hJ5 (by omega) hr H ht.s4sm sd g
  have n6 : NL (J6 :: R) := NL_cons hJ6.nl hr
  have x6 : (J6 :: R).all noXc = true := by rw [List.all_cons, hJ6.jcnx, hx]; rfl
  have nD : Nl (D4 P t d o2) := by
    cases o2 with
    | some x => simp [D4]
    | none => simp [D4]
  have xD : noX (D4 P t d o2) = true := by
    cases o2 with
    | some x => simp [D4, noX, noXs]
    | none => simp [D4, noX, noXs]
  have tp := tell4 (a0 := some (.loc 0)) (a1 := some i) (a3 := some (.lst ((ps.map (·.1)).map sW))) (a6 := some (D4 P t d o2)) (a7 := a7) n6 x6 sP2 ht.s4sm sd mk
  have tk := tell4 (S := J6 :: R ++ [.lst [D4 P t d o2]]) (a0 := some (.loc 0)) (a1 := some i) (a3 := some (.lst ((ps.map (·.1)).map sW))) (a6 := some (D4 P t d o2)) (a7 := some (.loc (J6 :: R).length)) (NL_app n6 (NL_lst (by simp [nD]) NL_nil)) (by rw [List.all_append, x6]; simp [noXc, noXs, xD]) sP2 ht.s4sm sd mk
  have Hh := r4_8 (S := J6 :: R) (l := (J6 :: R).length) rfl (told4_ev tp.1) (told4_ev tk.2) (eq_D4 sP2.2.2.1 ht.s4sm.2.2.1 sd.2.2.1 di)
  rw [← x8_eq] at Hh
  refine ⟨_, _, _, _, _, _, J6, [D4 P t d o2, D4 P t d o2], r4_all A B C D E F G Hh, NL_app hr (NL_lst (by simp [nD]) NL_nil), by rw [List.all_append, hx]; simp [noXc, noXs, xD], hJ6.mono ?_⟩
  omega
theorem b4_ev {e0 e2 : Env} {S S2 : Sto} (w : walkO (.name 1) (Z16 Z10 Z12) ((List.range 4).map fun (j : Nat) => T.int (j : Int)) e0 S = .nx e2 S2) : Z16 Z10 b_law_right_k04 e0 S = .rt (.bl true) S2 := by
  have rg : II.ev Z10 (.rng1 (.k (.int 4))) e0 S = .ok ((List.range 4).map fun (j : Nat) => T.int (j : Int)) S := rg1_eq (fa := IE.ev Z10 (.k (.int 4))) (k := 4) rfl (by decide)
  rw [b_law_right_k04, ap_evSs, IS.ev, ap_fFor, rg, go_ok', k1_fFor, w, seq_nx']
  rfl
theorem right_ok_k04 {n : Nat} {J : Cell} {rest : Sto} (hJ : JC n J) (hn : n + 5000 < 10 ^ 9) (hr : NL rest) (hx : rest.all noXc = true) : ∃ J', F_law_right_k04 [.loc 0] (J :: rest) = .ok (.bl true) (J' :: rest) := by
  obtain ⟨env2, st2, W, b2, b3, b4, b5, b6, b7, a1, J', R', rfl, rfl, nR, xR, pre, hJ'⟩ := walk_nx (g := .name 1) (f := Z16 Z10 Z12) (xs := (List.range 4).map fun (j : Nat) => T.int (j : Int)) (env := E10q (some (.loc 0)) none none none none none none none none none) (st := J :: rest)
    (Q := fun i env st => ∃ b2 b3 b4 b5 b6 b7 a1 J' R', env = E10q (some (.loc 0)) a1 b2 b3 b4 b5 b6 b7 none none ∧ st = J' :: (rest ++ R') ∧ NL (rest ++ R') ∧ (rest ++ R').all noXc = true ∧ NL rest ∧ JC (n + 500 * i) J')
    ⟨_, _, _, _, _, _, _, J, [], rfl, by simp, by simpa using hr, by simpa using hx, hr, hJ⟩ fun i x env st hx ⟨b2, b3, b4, b5, b6, b7, a1, J', R', he, hst, nR, xR, pre, hJ'⟩ => by
      subst he; subst hst
      obtain ⟨hi, rfl⟩ := rng_get hx
      obtain ⟨c2, c3, c4, c5, c6, c7, J2, Z, e, nR2, xR2, hJ2⟩ := turn4 (i := .int i) (a2 := b2) (a3 := b3) (a4 := b4) (a5 := b5) (a6 := b6) (a7 := b7) hJ' (by omega) nR xR
      exact ⟨_, _, _, rfl, e, c2, c3, c4, c5, c6, c7, some (.int i), J2, R' ++ [.lst Z], rfl, by rw [List.append_assoc], by rw [← List.append_assoc]; exact nR2, by rw [← List.append_assoc]; exact xR2, pre, hJ2.mono (by omega)⟩
  refine ⟨J', ?_⟩
  show (if ([T.loc 0]).length = 1 then finO Z10.cls false (J :: rest).length (Z16 Z10 b_law_right_k04 (env0 10 [T.loc 0]) (J :: rest)) else .bad) = _
  rw [if_pos (by simp)]
  refine (congrArg (finO Z10.cls false (J :: rest).length) (b4_ev W)).trans ?_
  exact fin_nl (st := J' :: rest) (loc := R') (NL_cons hJ'.nl hr) (by simp)
theorem law_turn_k04 {ns : List Int} {i : Nat} (hl : ns.length ≤ 63) (hi : i < 10) : Z16 tb_law_k04 l1_law_k04 [some (.scr ns), some (.int i)] [] = .nx [some (.scr ns), some (.int i)] [] := by
  obtain ⟨t, s, e, rfl, J, rfl, hJ⟩ := jug_ok (st := []) hl hi NL_nil
  obtain ⟨J', h⟩ := right_ok_k04 (rest := []) hJ (by decide) NL_nil rfl
  simp only [List.length_nil, List.nil_append] at e
  simp! [l1_law_k04, tbf_of_law_k04, tbc_of_law_k04, e, h, fDrop, frzCs, frzEnv, frzW, more]
theorem law_loop_k04 {ns : List Int} (hl : ns.length ≤ 63) : ∀ (k i : Nat) (e : Option T), i + k ≤ 10 → ∃ f, walkO (.name 1) (Z16 tb_law_k04 l1_law_k04) ((List.range' i k).map fun (j : Nat) => T.int (j : Int)) [some (.scr ns), e] [] = .nx [some (.scr ns), f] []
  | 0, i, e, _ => ⟨e, rfl⟩
  | k + 1, i, e, h => by
    obtain ⟨f, w⟩ := law_loop_k04 hl k (i + 1) (some (.int i)) (by omega)
    refine ⟨f, ?_⟩
    rw [List.range'_succ, List.map_cons, walkO]
    simp only [IG.set, List.length_cons, List.length_nil]
    rw [if_pos (by decide)]
    simp only [List.set]
    rw [law_turn_k04 hl (by omega)]
    exact w
theorem law_walk_k04 {ns : List Int} {rng : List T} {f : Option T} (rg : fRg1 (fBi .max (Z11 (fK (.int 2)) (Z11 (fBi .min (Z11 (fBi .len (Z11 (evV 0) fNil)) (Z11 (fK (.int 5)) fNil))) fNil))) [some (.scr ns), none] [] = .ok rng [])
    (w : walkO (.name 1) (Z16 tb_law_k04 l1_law_k04) rng [some (.scr ns), none] [] = .nx [some (.scr ns), f] []) : F_law_k04 [.scr ns] [] = finR tb_law_k04.cls false 0 (.bl true) [] := by
  simp! [F_law_k04, tbf_of_law_k04, tbc_of_law_k04, b_law_k04, ap_fFor, rg, w]
theorem gives_k04 : Gives 63 F_law_k04 := fun ns hl _ => by
  have rg : ∃ k : Nat, k ≤ 10 ∧ fRg1 (fBi .max (Z11 (fK (.int 2)) (Z11 (fBi .min (Z11 (fBi .len (Z11 (evV 0) fNil)) (Z11 (fK (.int 5)) fNil))) fNil))) [some (.scr ns), none] [] = .ok ((List.range k).map fun (j : Nat) => T.int (j : Int)) [] := by
    refine ⟨if 5 < ns.length then 5 else if 2 < ns.length then ns.length else 2, by split; decide; split; omega; decide, rg1_eq ?_ (by split; decide; split; omega; decide)⟩
    by_cases h1 : 5 < ns.length
    · have h1' : (5 : Int) < ns.length := by omega
      simp! [h1, h1']
    · have h1' : ¬ ((5 : Int) < ns.length) := by omega
      by_cases h2 : 2 < ns.length
      · have h2' : (2 : Int) < ns.length := by omega
        simp! [h1, h1', h2, h2']
      · have h2' : ¬ ((2 : Int) < ns.length) := by omega
        simp! [h1, h1', h2, h2']
  obtain ⟨k, hk, rg⟩ := rg
  obtain ⟨f, w⟩ := law_loop_k04 hl k 0 none (by omega)
  rw [← List.range_eq_range'] at w
  exact (law_walk_k04 rg w).trans (Z20 NL_nil (by simp))
end EgLaw
set_option Elab.async false
set_option linter.all false
set_option maxRecDepth 100000
set_option maxHeartbeats 0
namespace EgLaw
open PySem PySem.Spec PyProof.Rows L2 Eg
theorem k_is_integer_k04 : chkSs ⟨["value"], d_is_integer_k04.scope, fun _ => true, false, false⟩ Z35 b_is_integer_k04 d_is_integer_k04.body = true := by decide +kernel
theorem k_is_within_k04 : chkSs ⟨["value", "least", "most"], d_is_within_k04.scope, fun _ => true, false, false⟩ tb_is_within_k04 b_is_within_k04 d_is_within_k04.body = true := by decide +kernel
theorem k_is_name : chkSs ⟨["value", "sign"], d_is_name.scope, fun _ => true, false, false⟩ tb_is_name b_is_name d_is_name.body = true := by decide +kernel
theorem k_is_member_k04 : chkSs ⟨["value"], d_is_member_k04.scope, fun _ => true, false, false⟩ Z60 b_is_member_k04 d_is_member_k04.body = true := by decide +kernel
theorem k_wrong_member_k04 : chkSs ⟨["side", "names", "at", "member", "one"], d_wrong_member_k04.scope, fun _ => true, false, false⟩ Z59 b_wrong_member_k04 d_wrong_member_k04.body = true := by decide +kernel
theorem k_is_tables_k04 : chkSs ⟨["value"], d_is_tables_k04.scope, fun _ => true, false, false⟩ tb_is_tables_k04 b_is_tables_k04 d_is_tables_k04.body = true := by decide +kernel
theorem k_check_sides_k04 : chkSs ⟨["hosts", "guests", "wrong", "host"], d_check_sides_k04.scope, fun _ => true, false, false⟩ Z28 b_check_sides_k04 d_check_sides_k04.body = true := by decide +kernel
theorem k_Fair_init_k04 : chkSs ⟨["self", "hosts", "guests", "tables"], d_Fair_init_k04.scope, fun _ => true, false, false⟩ Z88 b_Fair_init_k04 d_Fair_init_k04.body = true := by decide +kernel
theorem k_Fair_hosts : chkSs ⟨["self"], d_Fair_hosts.scope, fun _ => true, false, false⟩ tb_Fair_hosts b_Fair_hosts d_Fair_hosts.body = true := by decide +kernel
theorem k_Fair_guests : chkSs ⟨["self"], d_Fair_guests.scope, fun _ => true, false, false⟩ tb_Fair_guests b_Fair_guests d_Fair_guests.body = true := by decide +kernel
theorem k_Fair_tables : chkSs ⟨["self"], d_Fair_tables.scope, fun _ => true, false, false⟩ tb_Fair_tables b_Fair_tables d_Fair_tables.body = true := by decide +kernel
theorem k_Fair_names : chkSs ⟨["self", "member"], d_Fair_names.scope, fun _ => true, false, false⟩ tb_Fair_names b_Fair_names d_Fair_names.body = true := by decide +kernel
theorem k_law_jug : chkSs ⟨["_law_script", "_law_at", "_law_own", "_law_mixed", "_law_each"], d_law_jug.scope, fun _ => true, false, false⟩ tb_law_jug b_law_jug d_law_jug.body = true := by decide +kernel
theorem k_law_pour : chkSs ⟨["_law_jug_here", "_law_many", "_law_mixed", "_law_digit"], d_law_pour.scope, fun _ => true, false, false⟩ tb_law_pour b_law_pour d_law_pour.body = true := by decide +kernel
theorem k_law_word : chkSs ⟨["_law_jug_here", "_law_word_here", "_law_more", "_law_signs", "_law_words_here"], d_law_word.scope, fun _ => true, false, false⟩ tb_law_word b_law_word d_law_word.body = true := by decide +kernel
theorem k_law_words : chkSs ⟨["_law_jug_here", "_law_many", "_law_found", "_law_at", "_law_word_here", "_law_each", "_law_number"], d_law_words.scope, fun _ => true, false, false⟩ Z61 b_law_words d_law_words.body = true := by decide +kernel
theorem k_law_bases_k04 : chkSs ⟨["_law_e", "_law_own", "_law_plain"], d_law_bases_k04.scope, fun _ => true, true, false⟩ tb_law_bases_k04.hot b_law_bases_k04 d_law_bases_k04.body = true := by decide +kernel
theorem k_law_within_k04 : chkSs ⟨["_law_thing", "_law_least", "_law_most"], d_law_within_k04.scope, fun _ => true, false, false⟩ Z34 Z87 d_law_within_k04.body = true := by decide +kernel
theorem k_law_is_name : chkSs ⟨["_law_thing", "_law_small", "_law_sign"], d_law_is_name.scope, fun _ => true, false, false⟩ Z69 b_law_is_name d_law_is_name.body = true := by decide +kernel
theorem k_law_odd : chkSs ⟨["_law_jug_here", "_law_menu"], d_law_odd.scope, fun _ => true, false, false⟩ tb_law_odd b_law_odd d_law_odd.body = true := by decide +kernel
theorem k_law_class_k04 : chkSs ⟨["_law_e", "_law_marks", "_law_at"], d_law_class_k04.scope, fun _ => true, true, false⟩ Z25.hot Z65 d_law_class_k04.body = true := by decide +kernel
theorem k_law_keeps_k04 : chkSs ⟨["_law_e", "_law_at"], d_law_keeps_k04.scope, fun _ => true, true, false⟩ tb_law_keeps_k04.hot b_law_keeps_k04 d_law_keeps_k04.body = true := by decide +kernel
theorem k_law_told_k04 : chkTd ⟨["_law_act", "_law_words_here", "_law_e", "_law_back", "_law_at"], d_law_told_k04.scope, fun _ => true, false, false⟩ Z13 Z52 100 117 119 d_law_told_k04.body = true := by decide +kernel
theorem k_law_wrong : chkSs ⟨["_law_side", "_law_taken", "_law_at", "_law_pair", "_law_other"], d_law_wrong.scope, fun _ => true, false, false⟩ Z26 b_law_wrong d_law_wrong.body = true := by decide +kernel
theorem k_law_bent_k04 : chkSs ⟨["_law_jug_here", "_law_pair", "_law_words_here", "_law_way"], d_law_bent_k04.scope, fun _ => true, false, false⟩ Z68 b_law_bent_k04 d_law_bent_k04.body = true := by decide +kernel
theorem k_law_bent_side : chkSs ⟨["_law_jug_here", "_law_many", "_law_words_here", "_law_side", "_law_turn", "_law_way", "_law_at", "_law_word_here"], d_law_bent_side.scope, fun _ => true, false, false⟩ Z21 Z33 d_law_bent_side.body = true := by decide +kernel
theorem k_law_seen : chkSs ⟨["_law_here"], d_law_seen.scope, fun _ => true, false, false⟩ tb_law_seen b_law_seen d_law_seen.body = true := by decide +kernel
theorem k_law_right_k04 : chkSs ⟨["_law_jug_here", "_law_turn", "_law_pairs", "_law_words_here", "_law_some", "_law_desks", "_law_due", "_law_told_here", "_law_pair", "_law_word_here"], d_law_right_k04.scope, fun _ => true, false, true⟩ Z10 b_law_right_k04 d_law_right_k04.body = true := by decide +kernel
theorem k_law_k04 : chkSs ⟨["_law_script", "_law_at"], d_law_k04.scope, fun _ => true, false, false⟩ tb_law_k04 b_law_k04 d_law_k04.body = true := by decide +kernel
end EgLaw
set_option Elab.async false
set_option linter.all false
set_option maxRecDepth 100000
set_option maxHeartbeats 0
namespace EgLaw
open PySem PySem.Spec PyProof.Rows L2 Eg
section
variable {P : Program} {w : World} {K : PySem.W.Frag} {mg : Str → Option Value} {base h : Heap} (X : K.In h) (Gn : h.Ns mainGlobals mg) (c : SaysX fx fn K)
include c
theorem fine : sx.fine K = true := by have z := c.facts; unfold fx at z; rw [Bool.and_eq_true] at z; exact z.1
include X Gn
theorem glo_at (i : Nat) {x : Str} (e : glo[i]? = some x := by rfl) : mg x = some (.ref (He.ga K x)) := by
  have z := c.facts; unfold fx at z; rw [Bool.and_eq_true] at z
  exact He.glo_ok X Gn (List.all_eq_true.mp z.2 x (List.mem_of_getElem? e))
omit X Gn
omit c
theorem nds : ∀ c, c ∈ sx.cs → c.fl.Nodup ∧ c.fl.length < 1000 := by decide
variable (TB : ∀ p ∈ tf, LamX.TabB base mg (He.cT K p).1 (He.cT K p).2)
include X Gn c TB
theorem x_InvalidTables {lv : Nat} (hl : 1 ≤ lv := by decide) : XcAny P w K mg base lv (gh sx K) 104 "given" := by
  obtain ⟨fd, D⟩ := c.def_ 29 (d := d_InvalidTables_init) rfl
  exact xc_of (fine c) (by decide) D rfl (by decide +kernel) rfl hl fun _ _ _ _ _ _ us hl => match us, hl with | [_, _], _ => rfl
theorem x_InvalidHosts {lv : Nat} (hl : 1 ≤ lv := by decide) : XcAny P w K mg base lv (gh sx K) 110 "index" := by
  obtain ⟨fd, D⟩ := c.def_ 30 (d := d_InvalidHosts_init) rfl
  exact xc_of (fine c) (by decide) D rfl (by decide +kernel) rfl hl fun _ _ _ _ _ _ us hl => match us, hl with | [_, _], _ => rfl
theorem x_InvalidGuests {lv : Nat} (hl : 1 ≤ lv := by decide) : XcAny P w K mg base lv (gh sx K) 111 "index" := by
  obtain ⟨fd, D⟩ := c.def_ 31 (d := d_InvalidGuests_init) rfl
  exact xc_of (fine c) (by decide) D rfl (by decide +kernel) rfl hl fun _ _ _ _ _ _ us hl => match us, hl with | [_, _], _ => rfl
theorem o_is_integer_k04 : ∃ fd, d_is_integer_k04.Is K fd ∧ FnG P w K mg base 2 (d_is_integer_k04.ad K) fd ["value"] (Spec (gh sx K) Z66) := by
  obtain ⟨fd, D⟩ := c.def_ 0 (d := d_is_integer_k04) rfl
  have tab : TabOk P w K mg base 0 (gh sx K) Z35 := tab_ok X Gn (fine c) nds (prs := []) (mts := []) fno pno sbn (sbc 0 (sbc 1 (sbc 2 (sbc 3 (sbc 4 (sbc 5 (sbc 6 (sbc 7 (sbc 8 (sbc 9 (sbc 10 (sbc 11 (sbc 12 (sbc 13 (sbc 14 (sbc 15 sbn)))))))))))))))) (sbc 0 (sbc 1 sbn)) mno ⟨0, rfl⟩ hno sbn sbn xno tno
  exact ⟨fd, D, fun_ok D rfl rfl tab (know_tab (prs := []) (mts := []) ⟨0, rfl⟩) (by decide +kernel) k_is_integer_k04⟩
theorem c_is_integer1 : CalOk P w K mg base 2 (gh sx K) ⟨"is_integer", [], (padF 1 [] Z66)⟩ := by
  obtain ⟨fd, D, F⟩ := o_is_integer_k04 (P := P) (w := w) (base := base) X Gn c TB
  exact cal_all (d := d_is_integer_k04) D F (glo_at X Gn c 0 rfl) rfl fun _ _ _ _ _ _ us hl => match us, hl with | [_], _ => rfl
theorem o_is_within_k04 : ∃ fd, d_is_within_k04.Is K fd ∧ FnG P w K mg base 4 (d_is_within_k04.ad K) fd ["value", "least", "most"] (Spec (gh sx K) Z76) := by
  obtain ⟨fd, D⟩ := c.def_ 1 (d := d_is_within_k04) rfl
  have tab : TabOk P w K mg base 2 (gh sx K) tb_is_within_k04 := tab_ok X Gn (fine c) nds (prs := []) (mts := []) (fco (c_is_integer1 X Gn c TB) fno) pno sbn sbn sbn mno ⟨0, rfl⟩ hno sbn sbn xno tno
  exact ⟨fd, D, fun_ok D rfl rfl tab (know_tab (prs := []) (mts := []) ⟨0, rfl⟩) (by decide +kernel) k_is_within_k04⟩
theorem c_is_within3 : CalOk P w K mg base 4 (gh sx K) ⟨"is_within", [], (padF 3 [] Z76)⟩ := by
  obtain ⟨fd, D, F⟩ := o_is_within_k04 (P := P) (w := w) (base := base) X Gn c TB
  exact cal_all (d := d_is_within_k04) D F (glo_at X Gn c 1 rfl) rfl fun _ _ _ _ _ _ us hl => match us, hl with | [_, _, _], _ => rfl
theorem o_is_name : ∃ fd, d_is_name.Is K fd ∧ FnG P w K mg base 2 (d_is_name.ad K) fd ["value"] (Spec (gh sx K) F_is_name) := by
  obtain ⟨fd, D⟩ := c.def_ 2 (d := d_is_name) rfl
  have tab : TabOk P w K mg base 0 (gh sx K) tb_is_name := tab_ok X Gn (fine c) nds (prs := []) (mts := []) fno pno (sbc 0 (sbc 1 (sbc 2 sbn))) (sbc 16 (sbc 17 (sbc 18 (sbc 19 (sbc 20 (sbc 21 (sbc 22 sbn))))))) (sbc 2 sbn) mno ⟨0, rfl⟩ hno sbn sbn xno tno
  exact ⟨fd, D, fun_ok D rfl rfl tab (know_tab (prs := []) (mts := []) ⟨0, rfl⟩) (by decide +kernel) k_is_name⟩
theorem c_is_name1 : CalOk P w K mg base 2 (gh sx K) ⟨"is_name", [], (padF 1 [] F_is_name)⟩ := by
  obtain ⟨fd, D, F⟩ := o_is_name (P := P) (w := w) (base := base) X Gn c TB
  exact cal_all (d := d_is_name) D F (glo_at X Gn c 2 rfl) rfl fun _ _ _ _ _ _ us hl => match us, hl with | [_], _ => rfl
theorem o_is_member_k04 : ∃ fd, d_is_member_k04.Is K fd ∧ FnG P w K mg base 6 (d_is_member_k04.ad K) fd ["value"] (Spec (gh sx K) Z64) := by
  obtain ⟨fd, D⟩ := c.def_ 3 (d := d_is_member_k04) rfl
  have tab : TabOk P w K mg base 4 (gh sx K) Z60 := tab_ok X Gn (fine c) nds (prs := []) (mts := []) (fco (c_is_name1 X Gn c TB) (fco (c_is_within3 X Gn c TB) fno)) pno (sbc 3 sbn) (sbc 24 (sbc 25 (sbc 26 (sbc 27 (sbc 28 (sbc 29 (sbc 30 (sbc 31 sbn)))))))) (sbc 3 sbn) mno ⟨0, rfl⟩ hno sbn sbn xno tno
  exact ⟨fd, D, fun_ok D rfl rfl tab (know_tab (prs := []) (mts := []) ⟨0, rfl⟩) (by decide +kernel) k_is_member_k04⟩
theorem c_is_member1 : CalOk P w K mg base 6 (gh sx K) ⟨"is_member", [], (padF 1 [] Z64)⟩ := by
  obtain ⟨fd, D, F⟩ := o_is_member_k04 (P := P) (w := w) (base := base) X Gn c TB
  exact cal_all (d := d_is_member_k04) D F (glo_at X Gn c 3 rfl) rfl fun _ _ _ _ _ _ us hl => match us, hl with | [_], _ => rfl
theorem o_wrong_member_k04 : ∃ fd, d_wrong_member_k04.Is K fd ∧ FnG P w K mg base 8 (d_wrong_member_k04.ad K) fd ["side", "names"] (Spec (gh sx K) Z55) := by
  obtain ⟨fd, D⟩ := c.def_ 4 (d := d_wrong_member_k04) rfl
  have tab : TabOk P w K mg base 6 (gh sx K) Z59 := tab_ok X Gn (fine c) nds (prs := []) (mts := []) (fco (c_is_member1 X Gn c TB) fno) pno (sbc 4 sbn) sbn sbn mno ⟨0, rfl⟩ hno sbn sbn xno tno
  exact ⟨fd, D, fun_ok D rfl rfl tab (know_tab (prs := []) (mts := []) ⟨0, rfl⟩) (by decide +kernel) k_wrong_member_k04⟩
theorem c_wrong_member2 : CalOk P w K mg base 8 (gh sx K) ⟨"wrong_member", [], (padF 2 [] Z55)⟩ := by
  obtain ⟨fd, D, F⟩ := o_wrong_member_k04 (P := P) (w := w) (base := base) X Gn c TB
  exact cal_all (d := d_wrong_member_k04) D F (glo_at X Gn c 4 rfl) rfl fun _ _ _ _ _ _ us hl => match us, hl with | [_, _], _ => rfl
theorem o_is_tables_k04 : ∃ fd, d_is_tables_k04.Is K fd ∧ FnG P w K mg base 6 (d_is_tables_k04.ad K) fd ["value"] (Spec (gh sx K) F_is_tables_k04) := by
  obtain ⟨fd, D⟩ := c.def_ 5 (d := d_is_tables_k04) rfl
  have tab : TabOk P w K mg base 4 (gh sx K) tb_is_tables_k04 := tab_ok X Gn (fine c) nds (prs := []) (mts := []) (fco (c_is_within3 X Gn c TB) fno) pno (sbc 5 sbn) sbn sbn mno ⟨0, rfl⟩ hno sbn sbn xno tno
  exact ⟨fd, D, fun_ok D rfl rfl tab (know_tab (prs := []) (mts := []) ⟨0, rfl⟩) (by decide +kernel) k_is_tables_k04⟩
theorem c_is_tables1 : CalOk P w K mg base 6 (gh sx K) ⟨"is_tables", [], (padF 1 [] F_is_tables_k04)⟩ := by
  obtain ⟨fd, D, F⟩ := o_is_tables_k04 (P := P) (w := w) (base := base) X Gn c TB
  exact cal_all (d := d_is_tables_k04) D F (glo_at X Gn c 5 rfl) rfl fun _ _ _ _ _ _ us hl => match us, hl with | [_], _ => rfl
theorem o_check_sides_k04 : ∃ fd, d_check_sides_k04.Is K fd ∧ FnG P w K mg base 10 (d_check_sides_k04.ad K) fd ["hosts", "guests"] (Spec (gh sx K) Z27) := by
  obtain ⟨fd, D⟩ := c.def_ 6 (d := d_check_sides_k04) rfl
  have tab : TabOk P w K mg base 8 (gh sx K) Z28 := tab_ok X Gn (fine c) nds (prs := []) (mts := []) (fco (c_wrong_member2 X Gn c TB) fno) pno sbn (sbc 24 (sbc 25 (sbc 26 (sbc 27 (sbc 28 (sbc 29 (sbc 30 (sbc 31 sbn)))))))) (sbc 3 (sbc 4 (sbc 5 sbn))) mno ⟨0, rfl⟩ hno sbn sbn (xco (x_InvalidHosts X Gn c TB) (xco (x_InvalidGuests X Gn c TB) xno)) tno
  exact ⟨fd, D, fun_ok D rfl rfl tab (know_tab (prs := []) (mts := []) ⟨0, rfl⟩) (by decide +kernel) k_check_sides_k04⟩
theorem c_check_sides2 : CalOk P w K mg base 10 (gh sx K) ⟨"check_sides", [], (padF 2 [] Z27)⟩ := by
  obtain ⟨fd, D, F⟩ := o_check_sides_k04 (P := P) (w := w) (base := base) X Gn c TB
  exact cal_all (d := d_check_sides_k04) D F (glo_at X Gn c 6 rfl) rfl fun _ _ _ _ _ _ us hl => match us, hl with | [_, _], _ => rfl
theorem o_Fair_init_k04 : ∃ fd, d_Fair_init_k04.Is K fd ∧ FnG P w K mg base 12 (d_Fair_init_k04.ad K) fd ["self", "hosts", "guests", "tables"] (Spec (gh sx K) Z31) := by
  obtain ⟨fd, D⟩ := c.def_ 7 (d := d_Fair_init_k04) rfl
  have tab : TabOk P w K mg base 10 (gh sx K) Z88 := tab_ok X Gn (fine c) nds (prs := []) (mts := []) (fco (c_check_sides2 X Gn c TB) (fco (c_is_tables1 X Gn c TB) fno)) pno sbn sbn (sbc 6 sbn) mno ⟨1, rfl⟩ hno sbn sbn (xco (x_InvalidTables X Gn c TB) xno) tno
  exact ⟨fd, D, fun_ok D rfl rfl tab (know_tab (prs := []) (mts := []) ⟨1, rfl⟩) (by decide +kernel) k_Fair_init_k04⟩
theorem c_Fair3 : CalOk P w K mg base 13 (gh sx K) ⟨"Fair", [], mkF (sx0.cls []) 0 (padF 4 [] Z31)⟩ := by
  obtain ⟨fd, D, F⟩ := o_Fair_init_k04 (P := P) (w := w) (base := base) X Gn c TB
  have cal : Cal P w K mg base 12 (gh sx K) [] (padF 4 [] Z31) (He.ma K (He.ga K "Fair") "__init__") := by
    obtain ⟨vs, hk, FD⟩ := D
    cases hk
    obtain ⟨ds, hd, hb⟩ := FunD.binds1 (ps := ["self", "hosts", "guests", "tables"]) FD 4 1 (by simp) rfl fun T kV doc pm an cdv ct us its hu hi => match us, its, hu, hi with | [_, _, _, _], [_], _, _ => ⟨_, rfl, rfl⟩
    exact cal_pad F hb hd rfl rfl
  have mk : He.Fa.ok K (.mkr "Fair") = true := mkr_of (C := cs_0) (fine c) 0 rfl rfl
  exact cal_cls (sx := sx) (c := 0) (C := cs_0) rfl mk (glo_at X Gn c 24 rfl) (know_tab (prs := []) (mts := []) ⟨1, rfl⟩) cal
theorem c_Fair1_guests_hosts_tables : CalOk P w K mg base 13 (gh sx K) ⟨"Fair", ["guests", "hosts", "tables"], mkF (sx0.cls []) 0 (kwF 1 3 (fun ts => [0, 2, 1, 3].filterMap fun i => (ts ++ [])[i]?) Z31)⟩ := by
  obtain ⟨fd, D, F⟩ := o_Fair_init_k04 (P := P) (w := w) (base := base) X Gn c TB
  have cal : Cal P w K mg base 12 (gh sx K) ["guests", "hosts", "tables"] (kwF 1 3 (fun ts => [0, 2, 1, 3].filterMap fun i => (ts ++ [])[i]?) Z31) (He.ma K (He.ga K "Fair") "__init__") :=
    cal_kwD (d := d_Fair_init_k04) (ps := ["self", "hosts", "guests", "tables"]) (kn := ["guests", "hosts", "tables"]) (n := 1) [0, 2, 1, 3] 1 D F (fun z => nomatch z) (fun T kV doc pm an cdv ct us ws its hu hw hi => match us, ws, its, hu, hw, hi with | [_], [_, _, _], [_], _, _, _ => ⟨_, rfl, rfl⟩) rfl rfl
  have mk : He.Fa.ok K (.mkr "Fair") = true := mkr_of (C := cs_0) (fine c) 0 rfl rfl
  exact cal_clsK (sx := sx) (c := 0) (C := cs_0) rfl mk (glo_at X Gn c 24 rfl) (know_tab (prs := []) (mts := []) ⟨1, rfl⟩) cal
theorem o_Fair_hosts : ∃ fd, d_Fair_hosts.Is K fd ∧ FnG P w K mg base 2 (d_Fair_hosts.ad K) fd ["self"] (Spec (gh sx K) F_Fair_hosts) := by
  obtain ⟨fd, D⟩ := c.def_ 8 (d := d_Fair_hosts) rfl
  have tab : TabOk P w K mg base 0 (gh sx K) tb_Fair_hosts := tab_ok X Gn (fine c) nds (prs := []) (mts := []) fno pno sbn sbn sbn mno ⟨1, rfl⟩ hno sbn sbn xno tno
  exact ⟨fd, D, fun_ok D rfl rfl tab (know_tab (prs := []) (mts := []) ⟨1, rfl⟩) (by decide +kernel) k_Fair_hosts⟩
theorem o_Fair_guests : ∃ fd, d_Fair_guests.Is K fd ∧ FnG P w K mg base 2 (d_Fair_guests.ad K) fd ["self"] (Spec (gh sx K) F_Fair_guests) := by
  obtain ⟨fd, D⟩ := c.def_ 9 (d := d_Fair_guests) rfl
  have tab : TabOk P w K mg base 0 (gh sx K) tb_Fair_guests := tab_ok X Gn (fine c) nds (prs := []) (mts := []) fno pno sbn sbn sbn mno ⟨1, rfl⟩ hno sbn sbn xno tno
  exact ⟨fd, D, fun_ok D rfl rfl tab (know_tab (prs := []) (mts := []) ⟨1, rfl⟩) (by decide +kernel) k_Fair_guests⟩
theorem o_Fair_tables : ∃ fd, d_Fair_tables.Is K fd ∧ FnG P w K mg base 2 (d_Fair_tables.ad K) fd ["self"] (Spec (gh sx K) F_Fair_tables) := by
  obtain ⟨fd, D⟩ := c.def_ 10 (d := d_Fair_tables) rfl
  have tab : TabOk P w K mg base 0 (gh sx K) tb_Fair_tables := tab_ok X Gn (fine c) nds (prs := []) (mts := []) fno pno sbn sbn sbn mno ⟨1, rfl⟩ hno sbn sbn xno tno
  exact ⟨fd, D, fun_ok D rfl rfl tab (know_tab (prs := []) (mts := []) ⟨1, rfl⟩) (by decide +kernel) k_Fair_tables⟩
theorem o_Fair_names : ∃ fd, d_Fair_names.Is K fd ∧ FnG P w K mg base 2 (d_Fair_names.ad K) fd ["self"] (Spec (gh sx K) F_Fair_names) := by
  obtain ⟨fd, D⟩ := c.def_ 11 (d := d_Fair_names) rfl
  have tab : TabOk P w K mg base 0 (gh sx K) tb_Fair_names := tab_ok X Gn (fine c) nds (prs := []) (mts := []) fno pno sbn sbn sbn mno ⟨1, rfl⟩ hno sbn sbn xno tno
  exact ⟨fd, D, fun_ok D rfl rfl tab (know_tab (prs := []) (mts := []) ⟨1, rfl⟩) (by decide +kernel) k_Fair_names⟩
theorem props {lv : Nat} (hl : 2 ≤ lv := by decide) : PropsOk P w K mg base lv sx prs := by
  intro k C ps f F h1 h2 h3
  have p_Fair_hosts : Cal P w K mg base lv (gh sx K) [] (padF 1 [] F_Fair_hosts) (pgA K (He.ga K "Fair") "hosts") := by
    obtain ⟨fd, D, F⟩ := o_Fair_hosts (P := P) (w := w) (base := base) X Gn c TB
    exact (cal_at (d := d_Fair_hosts) D F rfl fun _ _ _ _ _ _ us hl => match us, hl with | [_], _ => rfl).mono (Nat.le_trans (by decide) hl)
  have p_Fair_guests : Cal P w K mg base lv (gh sx K) [] (padF 1 [] F_Fair_guests) (pgA K (He.ga K "Fair") "guests") := by
    obtain ⟨fd, D, F⟩ := o_Fair_guests (P := P) (w := w) (base := base) X Gn c TB
    exact (cal_at (d := d_Fair_guests) D F rfl fun _ _ _ _ _ _ us hl => match us, hl with | [_], _ => rfl).mono (Nat.le_trans (by decide) hl)
  have p_Fair_tables : Cal P w K mg base lv (gh sx K) [] (padF 1 [] F_Fair_tables) (pgA K (He.ga K "Fair") "tables") := by
    obtain ⟨fd, D, F⟩ := o_Fair_tables (P := P) (w := w) (base := base) X Gn c TB
    exact (cal_at (d := d_Fair_tables) D F rfl fun _ _ _ _ _ _ us hl => match us, hl with | [_], _ => rfl).mono (Nat.le_trans (by decide) hl)
  have p_Fair_names : Cal P w K mg base lv (gh sx K) [] (padF 1 [] F_Fair_names) (pgA K (He.ga K "Fair") "names") := by
    obtain ⟨fd, D, F⟩ := o_Fair_names (P := P) (w := w) (base := base) X Gn c TB
    exact (cal_at (d := d_Fair_names) D F rfl fun _ _ _ _ _ _ us hl => match us, hl with | [_], _ => rfl).mono (Nat.le_trans (by decide) hl)
  match k, h1, h2 with
  | 0, h1, h2 =>
    cases h1; cases h2
    rcases look_cons h3 with ⟨rfl, rfl⟩ | ⟨_, h3⟩
    · exact ⟨by decide, p_Fair_hosts⟩
    rcases look_cons h3 with ⟨rfl, rfl⟩ | ⟨_, h3⟩
    · exact ⟨by decide, p_Fair_guests⟩
    rcases look_cons h3 with ⟨rfl, rfl⟩ | ⟨_, h3⟩
    · exact ⟨by decide, p_Fair_tables⟩
    rcases look_cons h3 with ⟨rfl, rfl⟩ | ⟨_, h3⟩
    · exact ⟨by decide, p_Fair_names⟩
    cases h3
  | k + 1, h1, h2 => cases h2
theorem o_law_jug : ∃ fd, d_law_jug.Is K fd ∧ FnG P w K mg base 2 (d_law_jug.ad K) fd ["_law_script", "_law_at"] (Spec (gh sx K) F_law_jug) := by
  obtain ⟨fd, D⟩ := c.def_ 12 (d := d_law_jug) rfl
  have tab : TabOk P w K mg base 0 (gh sx K) tb_law_jug := tab_ok X Gn (fine c) nds (prs := []) (mts := []) fno pno sbn sbn sbn mno ⟨0, rfl⟩ hno sbn sbn xno tno
  exact ⟨fd, D, fun_ok D rfl rfl tab (know_tab (prs := []) (mts := []) ⟨0, rfl⟩) (by decide +kernel) k_law_jug⟩
theorem c_law_jug2 : CalOk P w K mg base 2 (gh sx K) ⟨"_law_jug", [], (padF 2 [] F_law_jug)⟩ := by
  obtain ⟨fd, D, F⟩ := o_law_jug (P := P) (w := w) (base := base) X Gn c TB
  exact cal_all (d := d_law_jug) D F (glo_at X Gn c 7 rfl) rfl fun _ _ _ _ _ _ us hl => match us, hl with | [_, _], _ => rfl
theorem o_law_pour : ∃ fd, d_law_pour.Is K fd ∧ FnG P w K mg base 2 (d_law_pour.ad K) fd ["_law_jug_here", "_law_many"] (Spec (gh sx K) Z19) := by
  obtain ⟨fd, D⟩ := c.def_ 13 (d := d_law_pour) rfl
  have tab : TabOk P w K mg base 0 (gh sx K) tb_law_pour := tab_ok X Gn (fine c) nds (prs := []) (mts := []) fno pno sbn sbn sbn mno ⟨0, rfl⟩ hno sbn sbn xno tno
  exact ⟨fd, D, fun_ok D rfl rfl tab (know_tab (prs := []) (mts := []) ⟨0, rfl⟩) (by decide +kernel) k_law_pour⟩
theorem c_law_pour2 : CalOk P w K mg base 2 (gh sx K) ⟨"_law_pour", [], (padF 2 [] Z19)⟩ := by
  obtain ⟨fd, D, F⟩ := o_law_pour (P := P) (w := w) (base := base) X Gn c TB
  exact cal_all (d := d_law_pour) D F (glo_at X Gn c 8 rfl) rfl fun _ _ _ _ _ _ us hl => match us, hl with | [_, _], _ => rfl
theorem o_law_word : ∃ fd, d_law_word.Is K fd ∧ FnG P w K mg base 4 (d_law_word.ad K) fd ["_law_jug_here"] (Spec (gh sx K) F_law_word) := by
  obtain ⟨fd, D⟩ := c.def_ 14 (d := d_law_word) rfl
  have tab : TabOk P w K mg base 2 (gh sx K) tb_law_word := tab_ok X Gn (fine c) nds (prs := []) (mts := []) (fco (c_law_pour2 X Gn c TB) fno) pno sbn sbn sbn mno ⟨0, rfl⟩ hno sbn sbn xno tno
  exact ⟨fd, D, fun_ok D rfl rfl tab (know_tab (prs := []) (mts := []) ⟨0, rfl⟩) (by decide +kernel) k_law_word⟩
theorem c_law_word1 : CalOk P w K mg base 4 (gh sx K) ⟨"_law_word", [], (padF 1 [] F_law_word)⟩ := by
  obtain ⟨fd, D, F⟩ := o_law_word (P := P) (w := w) (base := base) X Gn c TB
  exact cal_all (d := d_law_word) D F (glo_at X Gn c 9 rfl) rfl fun _ _ _ _ _ _ us hl => match us, hl with | [_], _ => rfl
theorem o_law_words : ∃ fd, d_law_words.Is K fd ∧ FnG P w K mg base 6 (d_law_words.ad K) fd ["_law_jug_here", "_law_many"] (Spec (gh sx K) F_law_words) := by
  obtain ⟨fd, D⟩ := c.def_ 15 (d := d_law_words) rfl
  have tab : TabOk P w K mg base 4 (gh sx K) Z61 := tab_ok X Gn (fine c) nds (prs := []) (mts := []) (fco (c_law_word1 X Gn c TB) fno) pno sbn sbn sbn mno ⟨0, rfl⟩ hno sbn sbn xno tno
  exact ⟨fd, D, fun_ok D rfl rfl tab (know_tab (prs := []) (mts := []) ⟨0, rfl⟩) (by decide +kernel) k_law_words⟩
theorem c_law_words2 : CalOk P w K mg base 6 (gh sx K) ⟨"_law_words", [], (padF 2 [] F_law_words)⟩ := by
  obtain ⟨fd, D, F⟩ := o_law_words (P := P) (w := w) (base := base) X Gn c TB
  exact cal_all (d := d_law_words) D F (glo_at X Gn c 10 rfl) rfl fun _ _ _ _ _ _ us hl => match us, hl with | [_, _], _ => rfl
theorem o_law_bases_k04 : HCalOk P w K mg base 2 (gh sx K) ⟨"_law_bases", [], (padF 1 [] F_law_bases_k04)⟩ := by
  obtain ⟨fd, D⟩ := c.def_ 16 (d := d_law_bases_k04) rfl
  have tab : TabOk P w K mg base 0 (gh sx K) tb_law_bases_k04 := tab_ok X Gn (fine c) nds (prs := []) (mts := []) fno pno sbn sbn (sbc 7 (sbc 8 (sbc 9 (sbc 10 (sbc 11 (sbc 12 sbn)))))) mno ⟨0, rfl⟩ hno sbr sbn xno tno
  exact hfun_ok (ps := ["_law_e"]) (md := false) D rfl tab (by decide +kernel) k_law_bases_k04 (glo_at X Gn c 11 rfl) rfl fun _ _ _ _ _ _ us hl => match us, hl with | [_], _ => rfl
theorem o_law_within_k04 : ∃ fd, d_law_within_k04.Is K fd ∧ FnG P w K mg base 2 (d_law_within_k04.ad K) fd ["_law_thing", "_law_least", "_law_most"] (Spec (gh sx K) Z30) := by
  obtain ⟨fd, D⟩ := c.def_ 17 (d := d_law_within_k04) rfl
  have tab : TabOk P w K mg base 0 (gh sx K) Z34 := tab_ok X Gn (fine c) nds (prs := []) (mts := []) fno pno sbn (sbc 0 (sbc 1 (sbc 2 (sbc 3 (sbc 4 (sbc 5 (sbc 6 (sbc 7 (sbc 8 (sbc 9 (sbc 10 (sbc 11 (sbc 12 (sbc 13 (sbc 14 (sbc 15 sbn)))))))))))))))) (sbc 0 (sbc 1 sbn)) mno ⟨0, rfl⟩ hno sbn sbn xno tno
  exact ⟨fd, D, fun_ok D rfl rfl tab (know_tab (prs := []) (mts := []) ⟨0, rfl⟩) (by decide +kernel) k_law_within_k04⟩
theorem c_law_within3 : CalOk P w K mg base 2 (gh sx K) ⟨"_law_within", [], (padF 3 [] Z30)⟩ := by
  obtain ⟨fd, D, F⟩ := o_law_within_k04 (P := P) (w := w) (base := base) X Gn c TB
  exact cal_all (d := d_law_within_k04) D F (glo_at X Gn c 12 rfl) rfl fun _ _ _ _ _ _ us hl => match us, hl with | [_, _, _], _ => rfl
theorem o_law_is_name : ∃ fd, d_law_is_name.Is K fd ∧ FnG P w K mg base 2 (d_law_is_name.ad K) fd ["_law_thing"] (Spec (gh sx K) Z62) := by
  obtain ⟨fd, D⟩ := c.def_ 18 (d := d_law_is_name) rfl
  have tab : TabOk P w K mg base 0 (gh sx K) Z69 := tab_ok X Gn (fine c) nds (prs := []) (mts := []) fno pno sbn (sbc 16 (sbc 17 (sbc 18 (sbc 19 (sbc 20 (sbc 21 (sbc 22 sbn))))))) (sbc 2 sbn) mno ⟨0, rfl⟩ hno sbn sbn xno tno
  exact ⟨fd, D, fun_ok D rfl rfl tab (know_tab (prs := []) (mts := []) ⟨0, rfl⟩) (by decide +kernel) k_law_is_name⟩
theorem c_law_is_name1 : CalOk P w K mg base 2 (gh sx K) ⟨"_law_is_name", [], (padF 1 [] Z62)⟩ := by
  obtain ⟨fd, D, F⟩ := o_law_is_name (P := P) (w := w) (base := base) X Gn c TB
  exact cal_all (d := d_law_is_name) D F (glo_at X Gn c 13 rfl) rfl fun _ _ _ _ _ _ us hl => match us, hl with | [_], _ => rfl
theorem o_law_odd : ∃ fd, d_law_odd.Is K fd ∧ FnG P w K mg base 4 (d_law_odd.ad K) fd ["_law_jug_here"] (Spec (gh sx K) F_law_odd) := by
  obtain ⟨fd, D⟩ := c.def_ 19 (d := d_law_odd) rfl
  have tab : TabOk P w K mg base 2 (gh sx K) tb_law_odd := tab_ok X Gn (fine c) nds (prs := []) (mts := []) (fco (c_law_pour2 X Gn c TB) fno) pno sbn sbn sbn mno ⟨0, rfl⟩ hno sbn sbn xno tno
  exact ⟨fd, D, fun_ok D rfl rfl tab (know_tab (prs := []) (mts := []) ⟨0, rfl⟩) (by decide +kernel) k_law_odd⟩
theorem c_law_odd1 : CalOk P w K mg base 4 (gh sx K) ⟨"_law_odd", [], (padF 1 [] F_law_odd)⟩ := by
  obtain ⟨fd, D, F⟩ := o_law_odd (P := P) (w := w) (base := base) X Gn c TB
  exact cal_all (d := d_law_odd) D F (glo_at X Gn c 14 rfl) rfl fun _ _ _ _ _ _ us hl => match us, hl with | [_], _ => rfl
theorem o_law_class_k04 : HCalOk P w K mg base 4 (gh sx K) ⟨"_law_class", [], (padF 1 [] F_law_class_k04)⟩ := by
  obtain ⟨fd, D⟩ := c.def_ 20 (d := d_law_class_k04) rfl
  have tab : TabOk P w K mg base 2 (gh sx K) Z25 := tab_ok X Gn (fine c) nds (prs := []) (mts := []) fno pno sbn sbn (sbc 13 (sbc 14 (sbc 15 (sbc 16 (sbc 17 (sbc 6 (sbc 18 (sbc 19 (sbc 20 (sbc 21 (sbc 5 (sbc 4 (sbc 22 (sbc 23 (sbc 24 (sbc 25 (sbc 26 (sbc 27 (sbc 28 (sbc 29 (sbc 30 sbn))))))))))))))))))))) mno ⟨0, rfl⟩ (hco (o_law_bases_k04 X Gn c TB) hno) sbr sbn xno tno
  exact hfun_ok (ps := ["_law_e"]) (md := false) D rfl tab (by decide +kernel) k_law_class_k04 (glo_at X Gn c 15 rfl) rfl fun _ _ _ _ _ _ us hl => match us, hl with | [_], _ => rfl
theorem o_law_keeps_k04 : HCalOk P w K mg base 2 (gh sx K) ⟨"_law_keeps", [], (padF 2 [] F_law_keeps_k04)⟩ := by
  obtain ⟨fd, D⟩ := c.def_ 21 (d := d_law_keeps_k04) rfl
  have tab : TabOk P w K mg base 0 (gh sx K) tb_law_keeps_k04 := tab_ok X Gn (fine c) nds (prs := []) (mts := []) fno pno sbn sbn sbn mno ⟨0, rfl⟩ hno sbn sbr xno tno
  exact hfun_ok (ps := ["_law_e", "_law_at"]) (md := false) D rfl tab (by decide +kernel) k_law_keeps_k04 (glo_at X Gn c 16 rfl) rfl fun _ _ _ _ _ _ us hl => match us, hl with | [_, _], _ => rfl
theorem o_law_told_k04 : TCalOk P w K mg base 4 (gh sx K) ⟨"_law_told", F_law_told_k04⟩ := by
  obtain ⟨fd, D⟩ := c.def_ 22 (d := d_law_told_k04) rfl
  have tab : TabOk P w K mg base 4 (gh sx K) Z13 := tab_ok X Gn (fine c) nds (prs := []) (mts := []) fno pno sbn sbn (sbc 9 (sbc 8 (sbc 7 sbn))) mno ⟨0, rfl⟩ (hco (o_law_class_k04 X Gn c TB) (hco (o_law_keeps_k04 X Gn c TB) hno)) sbn sbn xno tno
  exact told_okC D rfl rfl tab (by decide +kernel) k_law_told_k04 (xm_of (fine c)) (glo_at X Gn c 17 rfl) rfl fun _ _ _ _ _ _ us hl => match us, hl with | [_], _ => rfl
theorem o_law_wrong : ∃ fd, d_law_wrong.Is K fd ∧ FnG P w K mg base 4 (d_law_wrong.ad K) fd ["_law_side", "_law_taken"] (Spec (gh sx K) F_law_wrong) := by
  obtain ⟨fd, D⟩ := c.def_ 23 (d := d_law_wrong) rfl
  have tab : TabOk P w K mg base 2 (gh sx K) Z26 := tab_ok X Gn (fine c) nds (prs := []) (mts := []) (fco (c_law_within3 X Gn c TB) (fco (c_law_is_name1 X Gn c TB) fno)) pno sbn (sbc 24 (sbc 25 (sbc 26 (sbc 27 (sbc 28 (sbc 29 (sbc 30 (sbc 31 sbn)))))))) (sbc 3 sbn) mno ⟨0, rfl⟩ hno sbn sbn xno tno
  exact ⟨fd, D, fun_ok D rfl rfl tab (know_tab (prs := []) (mts := []) ⟨0, rfl⟩) (by decide +kernel) k_law_wrong⟩
theorem c_law_wrong2 : CalOk P w K mg base 4 (gh sx K) ⟨"_law_wrong", [], (padF 2 [] F_law_wrong)⟩ := by
  obtain ⟨fd, D, F⟩ := o_law_wrong (P := P) (w := w) (base := base) X Gn c TB
  exact cal_all (d := d_law_wrong) D F (glo_at X Gn c 18 rfl) rfl fun _ _ _ _ _ _ us hl => match us, hl with | [_, _], _ => rfl
theorem o_law_bent_k04 : ∃ fd, d_law_bent_k04.Is K fd ∧ FnG P w K mg base 6 (d_law_bent_k04.ad K) fd ["_law_jug_here", "_law_pair", "_law_words_here"] (Spec (gh sx K) Z54) := by
  obtain ⟨fd, D⟩ := c.def_ 24 (d := d_law_bent_k04) rfl
  have tab : TabOk P w K mg base 4 (gh sx K) Z68 := tab_ok X Gn (fine c) nds (prs := []) (mts := []) (fco (c_law_pour2 X Gn c TB) (fco (c_law_odd1 X Gn c TB) fno)) pno sbn sbn sbn mno ⟨0, rfl⟩ hno sbn sbn xno tno
  exact ⟨fd, D, fun_ok D rfl rfl tab (know_tab (prs := []) (mts := []) ⟨0, rfl⟩) (by decide +kernel) k_law_bent_k04⟩
theorem c_law_bent3 : CalOk P w K mg base 6 (gh sx K) ⟨"_law_bent", [], (padF 3 [] Z54)⟩ := by
  obtain ⟨fd, D, F⟩ := o_law_bent_k04 (P := P) (w := w) (base := base) X Gn c TB
  exact cal_all (d := d_law_bent_k04) D F (glo_at X Gn c 19 rfl) rfl fun _ _ _ _ _ _ us hl => match us, hl with | [_, _, _], _ => rfl
theorem o_law_bent_side : ∃ fd, d_law_bent_side.Is K fd ∧ FnG P w K mg base 8 (d_law_bent_side.ad K) fd ["_law_jug_here", "_law_many", "_law_words_here"] (Spec (gh sx K) F_law_bent_side) := by
  obtain ⟨fd, D⟩ := c.def_ 25 (d := d_law_bent_side) rfl
  have tab : TabOk P w K mg base 6 (gh sx K) Z21 := tab_ok X Gn (fine c) nds (prs := []) (mts := []) (fco (c_law_words2 X Gn c TB) (fco (c_law_pour2 X Gn c TB) (fco (c_law_bent3 X Gn c TB) fno))) pno sbn sbn sbn mno ⟨0, rfl⟩ hno sbn sbn xno tno
  exact ⟨fd, D, fun_ok D rfl rfl tab (know_tab (prs := []) (mts := []) ⟨0, rfl⟩) (by decide +kernel) k_law_bent_side⟩
theorem c_law_bent_side3 : CalOk P w K mg base 8 (gh sx K) ⟨"_law_bent_side", [], (padF 3 [] F_law_bent_side)⟩ := by
  obtain ⟨fd, D, F⟩ := o_law_bent_side (P := P) (w := w) (base := base) X Gn c TB
  exact cal_all (d := d_law_bent_side) D F (glo_at X Gn c 20 rfl) rfl fun _ _ _ _ _ _ us hl => match us, hl with | [_, _, _], _ => rfl
theorem o_law_seen : ∃ fd, d_law_seen.Is K fd ∧ FnG P w K mg base 4 (d_law_seen.ad K) fd ["_law_here"] (Spec (gh sx K) F_law_seen) := by
  obtain ⟨fd, D⟩ := c.def_ 26 (d := d_law_seen) rfl
  have tab : TabOk P w K mg base 2 (gh sx K) tb_law_seen := tab_ok X Gn (fine c) nds (prs := prs) (mts := []) fno (props X Gn c TB) sbn sbn sbn mno ⟨1, rfl⟩ hno sbn sbn xno tno
  exact ⟨fd, D, fun_ok D rfl rfl tab (know_tab (prs := prs) (mts := []) ⟨1, rfl⟩) (by decide +kernel) k_law_seen⟩
theorem c_law_seen1 : CalOk P w K mg base 4 (gh sx K) ⟨"_law_seen", [], (padF 1 [] F_law_seen)⟩ := by
  obtain ⟨fd, D, F⟩ := o_law_seen (P := P) (w := w) (base := base) X Gn c TB
  exact cal_all (d := d_law_seen) D F (glo_at X Gn c 21 rfl) rfl fun _ _ _ _ _ _ us hl => match us, hl with | [_], _ => rfl
theorem o_law_right_k04 : ∃ fd, d_law_right_k04.Is K fd ∧ FnG P w K mg base 17 (d_law_right_k04.ad K) fd ["_law_jug_here"] (Spec (gh sx K) F_law_right_k04) := by
  obtain ⟨fd, D⟩ := c.def_ 27 (d := d_law_right_k04) rfl
  have tab : TabOk P w K mg base 13 (gh sx K) Z10 := tab_ok X Gn (fine c) nds (prs := prs) (mts := []) (fco (c_law_words2 X Gn c TB) (fco (c_law_pour2 X Gn c TB) (fco (c_law_bent_side3 X Gn c TB) (fco (c_law_within3 X Gn c TB) (fco (c_law_wrong2 X Gn c TB) (fco (c_law_seen1 X Gn c TB) (fco (c_Fair3 X Gn c TB) (fco (c_Fair1_guests_hosts_tables X Gn c TB) fno)))))))) (props X Gn c TB) sbn (sbc 24 (sbc 25 (sbc 26 (sbc 27 (sbc 28 (sbc 29 (sbc 30 (sbc 31 sbn)))))))) (sbc 3 sbn) mno ⟨1, rfl⟩ hno sbn sbn xno (tco (o_law_told_k04 X Gn c TB) tno)
  exact ⟨fd, D, fun_okL (x := ("_law_right", none)) (lam_of (fine c) (by decide) rfl rfl TB) D rfl rfl tab (know_tab (prs := prs) (mts := []) ⟨1, rfl⟩) (by decide +kernel) k_law_right_k04⟩
theorem c_law_right1 : CalOk P w K mg base 17 (gh sx K) ⟨"_law_right", [], (padF 1 [] F_law_right_k04)⟩ := by
  obtain ⟨fd, D, F⟩ := o_law_right_k04 (P := P) (w := w) (base := base) X Gn c TB
  exact cal_all (d := d_law_right_k04) D F (glo_at X Gn c 22 rfl) rfl fun _ _ _ _ _ _ us hl => match us, hl with | [_], _ => rfl
theorem o_law_k04 : ∃ fd, d_law_k04.Is K fd ∧ FnG P w K mg base 19 (d_law_k04.ad K) fd ["_law_script"] (Spec (gh sx K) F_law_k04) := by
  obtain ⟨fd, D⟩ := c.def_ 28 (d := d_law_k04) rfl
  have tab : TabOk P w K mg base 17 (gh sx K) tb_law_k04 := tab_ok X Gn (fine c) nds (prs := []) (mts := []) (fco (c_law_right1 X Gn c TB) (fco (c_law_jug2 X Gn c TB) fno)) pno sbn sbn sbn mno ⟨0, rfl⟩ hno sbn sbn xno tno
  exact ⟨fd, D, fun_ok D rfl rfl tab (know_tab (prs := []) (mts := []) ⟨0, rfl⟩) (by decide +kernel) k_law_k04⟩
end
theorem facts {P : Program} {w : World} {K : PySem.W.Frag} {h : Heap} {mg : Str → Option Value} {f : Addr} (X : K.In h) (Gn : h.Ns mainGlobals mg) (hfa : mg ("law" : Str) = some (.ref f)) (c : SaysX fx fn K) :
    ∃ (fd : FuncData) (G : Gh), G.K = K ∧ (∀ y ∈ G.tb, y.1 ∈ (tf.map (He.cT K)).map (·.2)) ∧ (∀ (s : Shared) (v : Value), BindsTo s fd ⟨[v], []⟩ [("_law_script", v)]) ∧ ∀ ground : Heap, K.In ground → ground.Ns mainGlobals mg → (∀ p ∈ tf, LamX.TabB ground mg (He.cT K p).1 (He.cT K p).2) → FnG P w K mg ground 19 f fd ["_law_script"] (Spec G F_law_k04) := by
  have e := hfa.symm.trans (glo_at X Gn c 23 (x := "law") rfl)
  cases e
  obtain ⟨fd, D⟩ := c.def_ 28 (d := d_law_k04) rfl
  have D0 := D
  obtain ⟨vs, hk, FD⟩ := D0
  cases hk
  have b := FunD.bindsA (ps := ["_law_script"]) FD fun _ _ _ _ _ _ us hl => match us, hl with | [_], _ => rfl
  refine ⟨fd, gh sx K, rfl, lam_tb, fun s v => b s [v] rfl, fun ground _ _ TB => ?_⟩
  obtain ⟨fd2, D2, F2⟩ := o_law_k04 (P := P) (w := w) (base := ground) X Gn c TB
  have : fd2 = fd := fd_eq D2 D
  subst this
  exact F2
end EgLaw
set_option Elab.async false
set_option linter.all false
set_option maxRecDepth 100000
set_option maxHeartbeats 0
open PySem PySem.W PySem.Calls PyProof.Rows
theorem PySem.Challenge.cw_meetrounds_k04_guests_and_tables_refused_holds : PySem.Challenge.rw_meetrounds_k04_guests_and_tables_refused.Holds := by
  w_on; o_law
  refine HandSHeadRun.head_any (r := OpenLaw.row PySem.Challenge.rw_meetrounds_k04_guests_and_tables_refused) (q := view (OpenLaw.row PySem.Challenge.rw_meetrounds_k04_guests_and_tables_refused).prog [61]) (H := EgLaw.hk) (ob := EgLaw.ob) (M := 20000) (loose := EgLaw.names) (d := HandSHeadRun.topDef (OpenLaw.row PySem.Challenge.rw_meetrounds_k04_guests_and_tables_refused).prog 61) (kwd := []) EgLaw.ob_eq
    (by kernel_rfl) (fun s => by kernel_rfl) EgLaw.run (by kernel_rfl) (by kernel_rfl) (by kernel_rfl) (by rfl) (by first | assumption | decide +kernel) (by decide +kernel) ⟨rfl, rfl, rfl, rfl, rfl, by decide +kernel⟩ ?hw ?hc
  case hw => w_witness2
  case hc =>
    refine Eg.walk_endT (l := PySem.Challenge.rw_meetrounds_k04_guests_and_tables_refused) (n := 63) (k := 19) (x := "_law_script") rfl (by decide) (by kernel_rfl) ⟨rfl, by decide, by decide⟩ EgLaw.gives_k04 ?F
    intro w mg fa h Y Gn found0
    obtain ⟨K, inH, c, ta⟩ := Y
    have found : mg ("law" : PySem.Str) = some (.ref fa) := by
      have e : (HandSHeadRun.topDef (OpenLaw.row PySem.Challenge.rw_meetrounds_k04_guests_and_tables_refused).prog 61).name = ("law" : PySem.Str) := by kernel_rfl
      rw [← e]
      exact found0
    obtain ⟨fd, G, hG, htb, hb, hF⟩ := EgLaw.facts (P := (PySem.Challenge.rw_meetrounds_k04_guests_and_tables_refused).prog) (w := w) inH Gn found c
    exact ⟨K, fd, G, EgLaw.tf, inH, ta, hG, htb, hb, hF⟩
