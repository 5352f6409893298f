import PyProof.Rows.All
import Wide.All
import OpenK.AllK
import Wide.FinOn
import PyProof.EqAt
import PyProof.EqKinds
import PyProof.TupleCall
import HandS.ForMost
import HandS.Exc
import HandS.WordsExc
import HandS.ExcOwn
import HandS.IsInst
import HandS.Zip
import HandS.Walk
import HandS.Conv
import HandS.TupAny
import HandS.Wide
import HandS.WideBits
import HandS.Property
import HandS.FStr
import HandS.Deep
import KE.GoesNew
import HandS.TryOnly
import HandS.TupMul
import KE.KDictZip
import HandS.Defaults
import HandS.MakeKw
import HandS.Style
import HandS.RaiseMore
import HandS.Text
import HandS.SetFor
import KE.KStateDown
import HandS.Ends
import HandS.Head0
import HandS.Head1
import HandS.Head2
import HandS.HeadEnd
import HandS.HeadHook1
import HandS.HeadHook2
import HandS.Codes
import PySem.Challenge.RW_meetrounds_k48_whole_grown_by_own_steps
set_option Elab.async false
set_option linter.all false
/-! The engine, part one: values as trees, a store, a small language of expressions and statements, what it means. -/
namespace Eg
open PySem
/-- a value as a tree: what cannot change by itself; loc: a thing in the store -/
inductive T where
  | non | bl (b : Bool) | int (i : Int) | str (x : Str)
  | tup (xs : List T) | lst (xs : List T)
  | obj (c : Nat) (vs : List T)
  | exc (c : Nat) (vs : List T)
  | loc (l : Nat)
  | scr (ns : List Int)
instance : Inhabited T := ⟨.non⟩
/-- a thing that may change: a list, an instance (its fields in the order of the class) -/
inductive Cell where
  | lst (xs : List T) | ins (c : Nat) (vs : List T)
abbrev Sto := List Cell
inductive R (A : Type) where
  | ok (a : A) (s : Sto) | exc (e : T) (s : Sto) | bad
def R.bnd {A B : Type} (x : R A) (f : A → Sto → R B) : R B := match x with
  | .ok a s => f a s
  | .exc e s => .exc e s
  | .bad => .bad
/-- what may raise nothing -/
def R.nox {A : Type} (x : R A) : R A := match x with
  | .ok a s => .ok a s
  | _ => .bad
def R.opt {A : Type} (o : Option A) (s : Sto) : R A := match o with
  | some a => .ok a s
  | none => .bad
abbrev Env := List (Option T)
def lim : Nat := 16777216
theorem lim_eq : lim = sizeLine := by rw [sizeLine_eq]; rfl
/-! ### data: none, bools, ints, texts, tuples, lists -/
mutual
def data : T → Bool
  | .non => true
  | .bl _ => true
  | .int _ => true
  | .str x => PyData.strOk x
  | .tup xs => datas xs
  | .lst xs => datas xs
  | .obj _ _ => false
  | .exc _ _ => false
  | .loc _ => false
  | .scr _ => false
def datas : List T → Bool
  | [] => true
  | x :: xs => data x && datas xs
end
mutual
def dep : T → Nat
  | .tup xs => deps xs + 1
  | .lst xs => deps xs + 1
  | _ => 0
def deps : List T → Nat
  | [] => 0
  | x :: xs => max (dep x) (deps xs)
end
mutual
def eqv : T → T → Bool
  | .non, .non => true
  | .bl a, .bl b => a == b
  | .bl a, .int j => (if a then 1 else 0) == j
  | .int i, .bl b => i == (if b then 1 else 0)
  | .int i, .int j => i == j
  | .str x, .str y => x == y
  | .lst xs, .lst ys => eqvs xs ys
  | .tup xs, .tup ys => eqvs xs ys
  | _, _ => false
def eqvs : List T → List T → Bool
  | [], [] => true
  | x :: xs, y :: ys => eqv x y && eqvs xs ys
  | _, _ => false
end
/-- == -/
def eqT (a b : T) : Option Bool := if data a && data b && decide (dep a ≤ 60) && decide (dep b ≤ 60) then some (eqv a b) else none
/-! ### operations -/
def MulOk (i j : Int) : Prop := i.natAbs.log2 + j.natAbs.log2 < 1000000
instance (i j : Int) : Decidable (MulOk i j) := by unfold MulOk; infer_instance
def DivOk (j : Int) : Prop := 0 < j ∧ j.natAbs.log2 < 9000
instance (j : Int) : Decidable (DivOk j) := by unfold DivOk; infer_instance
def PowOk (i j : Int) : Prop := 0 ≤ j ∧ j ≤ 1000000 ∧ i.natAbs < 2 ^ 64
instance (i j : Int) : Decidable (PowOk i j) := by unfold PowOk; infer_instance
def addT : T → T → Option T
  | .int a, .int b => some (.int (a + b))
  | .str a, .str b => if a.length + b.length ≤ lim then some (.str (a ++ b)) else none
  | .tup a, .tup b => if a.length + b.length ≤ lim then some (.tup (a ++ b)) else none
  | _, _ => none
def binT : Operator → T → T → Option T
  | .Add, a, b => addT a b
  | .Sub, .int a, .int b => some (.int (a - b))
  | .Mult, .int a, .int b => if MulOk a b then some (.int (a * b)) else none
  | .FloorDiv, .int a, .int b => if DivOk b then some (.int (a / b)) else none
  | .Mod, .int a, .int b => if 0 < b then some (.int (a % b)) else none
  | .Pow, .int a, .int b => if PowOk a b then some (.int (a ^ b.toNat)) else none
  | _, _, _ => none
/-- the items of a list of our own (in the store or not) -/
def ownL (st : Sto) : T → Option (List T)
  | .lst xs => some xs
  | .loc l => match st[l]? with
    | some (.lst xs) => some xs
    | _ => none
  | _ => none
/-- the items of a list; scr: the script -/
def lstOf (st : Sto) : T → Option (List T)
  | .lst xs => some xs
  | .scr ns => some (ns.map .int)
  | .loc l => match st[l]? with
    | some (.lst xs) => some xs
    | _ => none
  | _ => none
/-- the items of a list or tuple -/
def seqOf (st : Sto) : T → Option (List T)
  | .tup xs => some xs
  | t => lstOf st t
def chars (x : Str) : List T := x.cps.toList.map fun c => .str ⟨#[c]⟩
/-- one text within another -/
def strIn (a b : Str) : Bool := !(Builtin.Str.occurrences b a 0 b.length 1).isEmpty
def inT (st : Sto) (a b : T) : Option Bool := match a, b with
  | .str x, .str y => some (strIn x y)
  | a, b => match seqOf st b with
    | some ys => if data a && datas ys && decide (dep a ≤ 60) && decide (deps ys ≤ 60) then some (ys.any fun y => eqv y a) else none
    | none => none
/-- a frozen copy of what a value is now: lists of the store at the top alone -/
def frozen (st : Sto) (t : T) : T := match lstOf st t with
  | some xs => .lst xs
  | none => t
def cmpT (st : Sto) : CmpOp → T → T → Option Bool
  | .Eq, a, b => eqT (frozen st a) (frozen st b)
  | .NotEq, a, b => (eqT (frozen st a) (frozen st b)).map (!·)
  | .Lt, .int a, .int b => some (decide (a < b))
  | .LtE, .int a, .int b => some (decide (a ≤ b))
  | .Gt, .int a, .int b => some (decide (b < a))
  | .GtE, .int a, .int b => some (decide (b ≤ a))
  | .In, a, b => inT st a b
  | .NotIn, a, b => (inT st a b).map (!·)
  | _, _, _ => none
def ixT (st : Sto) : T → T → Option T
  | .str x, .int i => if x.length ≤ lim then (L2.atI x.cps.toList i).map fun c => .str ⟨#[c]⟩ else none
  | a, .int i => match seqOf st a with
    | some xs => L2.atI xs i
    | none => none
  | _, _ => none
def cut {A : Type} (xs : List A) (lo hi : Option Int) : List A := (xs.drop (HT.sIx xs.length 0 lo)).take (HT.sIx xs.length xs.length hi - HT.sIx xs.length 0 lo)
def intsOf : List T → Option (List Int)
  | [] => some []
  | .int i :: r => (intsOf r).map (i :: ·)
  | _ :: _ => none
def blsOf : List T → Option (List Bool)
  | [] => some []
  | .bl b :: r => (blsOf r).map (b :: ·)
  | _ :: _ => none
def strsOf : List T → Option (List Str)
  | [] => some []
  | .str b :: r => (strsOf r).map (b :: ·)
  | _ :: _ => none
def maxI : List Int → Int
  | [] => 0
  | [a] => a
  | a :: b :: r => max a (maxI (b :: r))
def minI : List Int → Int
  | [] => 0
  | [a] => a
  | a :: b :: r => min a (minI (b :: r))
/-- built-in functions that make a scalar or a tuple -/
inductive Bi where
  | len | sum | max | min | abs | int | tuple | all | any | divmod
  deriving DecidableEq
def biT (st : Sto) : Bi → List T → Option T
  | .len, [.str x] => if x.length ≤ lim then some (.int x.length) else none
  | .len, [a] => (seqOf st a).map fun xs => .int xs.length
  | .sum, [a] => ((lstOf st a).bind intsOf).map fun ns => .int ns.sum
  | .max, [a] => ((lstOf st a).bind intsOf).bind fun ns => if ns = [] then none else some (.int (maxI ns))
  | .min, [a] => ((lstOf st a).bind intsOf).bind fun ns => if ns = [] then none else some (.int (minI ns))
  | .max, [.int i, .int j] => some (.int (if j > i then j else i))
  | .min, [.int i, .int j] => some (.int (if j < i then j else i))
  | .abs, [.int i] => some (.int (if i < 0 then -i else i))
  | .int, [.int i] => some (.int i)
  | .int, [.bl k] => some (.int (if k then 1 else 0))
  | .tuple, [a] => (seqOf st a).map .tup
  | .all, [a] => ((lstOf st a).bind blsOf).map fun bs => .bl (bs.all id)
  | .any, [a] => ((lstOf st a).bind blsOf).map fun bs => .bl (bs.any id)
  | .divmod, [.int i, .int j] => if DivOk j then some (.tup [.int (i / j), .int (i % j)]) else none
  | _, _ => none
/-! ### the language -/
/-- targets -/
inductive IG where
  | name (i : Nat) | tup (gs : List IG)
/-- a def that may be called: by place, then the keywords ks -/
structure Fn where
  name : Str
  ks : List Str
  F : List T → Sto → R T
/-- a class: its fields in their order, its properties, its methods -/
structure Ci where
  fl : List Str
  props : List (Str × (List T → Sto → R T))
  meths : List (Str × Fn)
/-- the type of a tree; a class that isinstance asks for -/
inductive Ty where
  | non | bl | int | str | tup | lst | cls (c : Nat)
  deriving DecidableEq
inductive Tg where
  | ty (n : String) | cls (c : Nat)
  deriving DecidableEq
structure Tab where
  cons : List (Str × T)
  funs : List Fn
  cls : List Ci
  isi : List ((Ty × Tg) × Bool)
  tgs : List (Str × Tg)
/-- a store to names -/
def IG.set : IG → T → Env → Option Env
  | .name i, t, env => if i < env.length then some (env.set i (some t)) else none
  | .tup gs, .tup xs, env => sets gs xs env
  | .tup gs, .lst xs, env => sets gs xs env
  | .tup _, _, _ => none
where sets : List IG → List T → Env → Option Env
  | [], [], env => some env
  | g :: gs, x :: xs, env => match g.set x env with
    | some env' => sets gs xs env'
    | none => none
  | _, _, _ => none
/-- the names of a block forgotten -/
def wipeE (env : Env) : List Nat → Env
  | [] => env
  | i :: r => (wipeE env r).set i none
/-- turn by turn, what is told to stay -/
def each (f : T → Sto → R (Option T)) : List T → Sto → R (List T)
  | [], st => .ok [] st
  | x :: xs, st => (f x st).bnd fun o st1 => (each f xs st1).bnd fun r st2 => .ok (match o with
    | some y => y :: r
    | none => r) st2
def pairs : List T → List T → List T
  | x :: xs, y :: ys => .tup [x, y] :: pairs xs ys
  | _, _ => []
def numbered : Nat → List T → List T
  | _, [] => []
  | n, x :: xs => .tup [.int n, x] :: numbered (n + 1) xs
def rangeT (lo hi : Int) : List T := (List.range (hi - lo).toNat).map fun i => .int (lo + (i : Nat))
def RgOk (i : Int) : Prop := -(2 ^ 62) ≤ i ∧ i < 2 ^ 62
instance (i : Int) : Decidable (RgOk i) := by unfold RgOk; infer_instance
/-- is None; n: is not None -/
def isNn (n : Bool) : T → Bool
  | .non => !n
  | _ => n
def asBl : T → Option Bool
  | .bl b => some b
  | _ => none
def evV (i : Nat) (env : Env) (st : Sto) : R T := match env[i]? with
    | some (some t) => .ok t st
    | _ => .bad
end Eg
set_option Elab.async false
set_option linter.all false
set_option maxRecDepth 100000
set_option maxHeartbeats 2000000
/-! The engine, part two: how trees lie in the abstract heap. -/
namespace Eg
open PySem PySem.Spec PyProof.Rows L2
/-- what is fixed while a body runs: the written part, the classes, their fields -/
structure Gh where
  K : PySem.W.Frag
  cl : Nat → Addr
  fl : Nat → List Str
def KL (K : PySem.W.Frag) (a : Addr) (xs : List V) : Prop :=
  ∃ (o : Obj) (its : Array Value) (n : Nat), K.lookup a = some o ∧ o.cls = .type "list" ∧ o.dict = none ∧ o.data = .seq its n ∧ its.size ≤ sizeLine ∧ Vals xs its.toList
/-- the store's addresses; those that no tree of ours goes through -/
structure Mm where
  as : List Addr
  fo : Addr → Prop
/-- what may change, or is kept apart -/
def Mm.w (m : Mm) (a : Addr) : Prop := a ∈ m.as ∨ m.fo a
def LAt (G : Gh) (m : Mm) (H : Hp) (a : Addr) (xs : List V) : Prop := ¬ m.w a ∧ H a = some (.lst xs)
/-- the script: frozen, or an object of the written part -/
def SAt (G : Gh) (m : Mm) (H : Hp) (a : Addr) (xs : List V) : Prop := (¬ m.w a ∧ Rd H a (.lst xs)) ∨ KL G.K a xs
def TAt (G : Gh) (m : Mm) (H : Hp) (a : Addr) (xs : List V) : Prop := ¬ m.w a ∧ H a = some (.tup xs)
mutual
/-- the value v is the tree -/
def Rp (G : Gh) (m : Mm) (H : Hp) : T → V → Prop
  | .non, v => v = .non
  | .bl b, v => v = .bl b
  | .int i, v => v = .int i
  | .str x, v => v = .str x
  | .tup xs, v => ∃ a vs, v = .ref a ∧ TAt G m H a vs ∧ Rps G m H xs vs
  | .lst xs, v => ∃ a vs, v = .ref a ∧ LAt G m H a vs ∧ Rps G m H xs vs
  | .obj c xs, v => ∃ a dx fv, v = .ref a ∧ ¬ m.w a ∧ H a = some (.ins (G.cl c) dx fv) ∧ fv.map (·.1) = G.fl c ∧ Rps G m H xs (fv.map (·.2))
  | .exc _ _, _ => False
  | .loc l, v => ∃ a, v = .ref a ∧ m.as[l]? = some a
  | .scr ns, v => ∃ a, v = .ref a ∧ SAt G m H a (ns.map V.int)
def Rps (G : Gh) (m : Mm) (H : Hp) : List T → List V → Prop
  | [], vs => vs = []
  | x :: xs, vs => ∃ v r, vs = v :: r ∧ Rp G m H x v ∧ Rps G m H xs r
end
def RCell (G : Gh) (m : Mm) (H : Hp) (a : Addr) : Cell → Prop
  | .lst xs => ∃ vs, H a = some (.lst vs) ∧ Rps G m H xs vs
  | .ins c xs => ∃ dx fv, H a = some (.ins (G.cl c) dx fv) ∧ fv.map (·.1) = (G.fl c).take xs.length ∧ xs.length ≤ (G.fl c).length ∧ Rps G m H xs (fv.map (·.2))
structure RSto (G : Gh) (m : Mm) (H : Hp) (st : Sto) : Prop where
  nd : m.as.Nodup
  fd : ∀ a ∈ m.as, ¬ m.fo a
  len : m.as.length = st.length
  cell : ∀ (i : Nat) a c, m.as[i]? = some a → st[i]? = some c → RCell G m H a c
  foS : ∀ a, m.fo a → H a ≠ none
def REnv (G : Gh) (m : Mm) (H : Hp) (env : Env) (σ : L2.St) : Prop := env.length = σ.length ∧ ∀ (i : Nat) t, env[i]? = some (some t) → ∃ v, σ[i]? = some (some v) ∧ Rp G m H t v
structure RS (G : Gh) (m : Mm) (env : Env) (st : Sto) (σ : L2.St) (H : Hp) : Prop where
  env : REnv G m H env σ
  sto : RSto G m H st
/-- from one point to another: what is not in the store stays -/
structure Mov (m : Mm) (H : Hp) (m' : Mm) (H' : Hp) : Prop where
  keep : ∀ a o, H a = some o → a ∉ m.as → H' a = some o
  newA : ∀ a, a ∈ m'.as → a ∈ m.as ∨ H a = none
  newF : ∀ a, m'.fo a → m.w a ∨ H a = none
  pre : ∃ n, m'.as = m.as ++ n
/-- .. what is kept apart is the same -/
structure Stp (m : Mm) (H : Hp) (m' : Mm) (H' : Hp) : Prop extends Mov m H m' H' where
  fo : m'.fo = m.fo
variable {G : Gh} {m m1 m' : Mm} {H H1 H' : Hp} {st st' : Sto} {σ σ' : L2.St} {env env' : Env} {a p D : Addr} {o : HO}
theorem Mov.w (x : Mov m H m' H') (h : m'.w a) : m.w a ∨ H a = none := by
  rcases h with h | h
  · rcases x.newA a h with z | z
    · exact .inl (.inl z)
    · exact .inr z
  · exact x.newF a h
theorem Stp.refl (m : Mm) (H : Hp) : Stp m H m H := ⟨⟨fun _ _ h _ => h, fun _ h => .inl h, fun _ h => .inl (.inr h), ⟨[], by simp⟩⟩, rfl⟩
theorem Stp.trans (x : Stp m H m1 H1) (y : Stp m1 H1 m' H') : Stp m H m' H' := by
  have keep : ∀ a o, H a = some o → a ∉ m.as → H' a = some o := fun a o h hn => by
    refine y.keep a o (x.keep a o h hn) fun q => ?_
    rcases x.newA a q with z | z
    · exact hn z
    · rw [h] at z; cases z
  have back : ∀ a, H1 a = none → a ∈ m.as ∨ H a = none := fun a z => by
    by_cases hm : a ∈ m.as
    · exact .inl hm
    · refine .inr ?_
      cases e : H a with
      | none => rfl
      | some o => rw [x.keep a o e hm] at z; cases z
  refine ⟨⟨keep, fun a h => ?_, fun a h => ?_, ?_⟩, y.fo.trans x.fo⟩
  · rcases y.newA a h with z | z
    · exact x.newA a z
    · exact back a z
  · rw [y.fo, x.fo] at h
    exact .inl (.inr h)
  · obtain ⟨n, e⟩ := x.pre
    obtain ⟨n', e'⟩ := y.pre
    exact ⟨n ++ n', by rw [e', e, List.append_assoc]⟩
theorem Stp.fresh (hp : H p = none) : Stp m H m (upd H p o) :=
  ⟨⟨fun a u h _ => by rw [upd_ne (ne_of_none h hp)]; exact h, fun _ h => .inl h, fun _ h => .inl (.inr h), ⟨[], by simp⟩⟩, rfl⟩
theorem Mov.wt (x : Mov m H m' H') {u : HO} (h : H a = some u) (hn : ¬ m.w a) : ¬ m'.w a := fun q => by
  rcases x.w q with z | z
  · exact hn z
  · rw [h] at z; cases z
theorem Mov.rd (x : Mov m H m' H') {u : HO} (h : Rd H a u) (hn : ¬ m.w a) : ¬ m'.w a ∧ Rd H' a u := by
  have hm : a ∉ m.as := fun z => hn (.inl z)
  rcases h with h | ⟨o, h⟩
  · exact ⟨x.wt h hn, .inl (x.keep a _ h hm)⟩
  · exact ⟨x.wt h hn, .inr ⟨o, x.keep a _ h hm⟩⟩
theorem LAt.mov (x : Mov m H m' H') {vs : List V} (h : LAt G m H a vs) : LAt G m' H' a vs :=
  ⟨x.wt h.2 h.1, x.keep a _ h.2 fun z => h.1 (.inl z)⟩
theorem SAt.mov (x : Mov m H m' H') {vs : List V} (h : SAt G m H a vs) : SAt G m' H' a vs := by
  rcases h with ⟨hn, h⟩ | h
  · exact .inl (x.rd h hn)
  · exact .inr h
theorem TAt.mov (x : Mov m H m' H') {vs : List V} (h : TAt G m H a vs) : TAt G m' H' a vs :=
  ⟨x.wt h.2 h.1, x.keep a _ h.2 fun z => h.1 (.inl z)⟩
theorem pre_get (x : Mov m H m' H') {l : Nat} (h : m.as[l]? = some a) : m'.as[l]? = some a := by
  obtain ⟨n, e⟩ := x.pre
  rw [e, List.getElem?_append_left (List.getElem?_eq_some_iff.mp h).1]
  exact h
mutual
theorem Rp.mov (x : Mov m H m' H') : ∀ (t : T) (v : V), Rp G m H t v → Rp G m' H' t v
  | .non, _, h => h
  | .bl _, _, h => h
  | .int _, _, h => h
  | .str _, _, h => h
  | .tup xs, _, ⟨a, vs, e, h, r⟩ => ⟨a, vs, e, h.mov x, Rps.mov x xs vs r⟩
  | .lst xs, _, ⟨a, vs, e, h, r⟩ => ⟨a, vs, e, h.mov x, Rps.mov x xs vs r⟩
  | .obj c xs, _, ⟨a, dx, fv, e, hn, h, hf, r⟩ => ⟨a, dx, fv, e, x.wt h hn, x.keep a _ h (fun z => hn (.inl z)), hf, Rps.mov x xs _ r⟩
  | .exc _ _, _, h => h
  | .loc l, _, ⟨a, e, h⟩ => ⟨a, e, pre_get x h⟩
  | .scr ns, _, ⟨a, e, h⟩ => ⟨a, e, h.mov x⟩
theorem Rps.mov (x : Mov m H m' H') : ∀ (ts : List T) (vs : List V), Rps G m H ts vs → Rps G m' H' ts vs
  | [], _, h => h
  | t :: ts, _, ⟨v, r, e, h, q⟩ => ⟨v, r, e, Rp.mov x t v h, Rps.mov x ts r q⟩
end
/-! ### .. where only what is not kept apart must stay -/
structure MovF (m : Mm) (H : Hp) (m' : Mm) (H' : Hp) : Prop where
  keep : ∀ a o, H a = some o → ¬ m.w a → H' a = some o
  newA : ∀ a, a ∈ m'.as → a ∈ m.as ∨ H a = none
  newF : ∀ a, m'.fo a → m.w a ∨ H a = none
  pre : ∃ n, m'.as = m.as ++ n
  stay : ∀ a, m.fo a → a ∉ m.as → H a ≠ none → H' a ≠ none
theorem Mov.F (x : Mov m H m' H') : MovF m H m' H' := ⟨fun a o h hn => x.keep a o h fun z => hn (.inl z), x.newA, x.newF, x.pre, fun a _ hm h z => by
  cases e : H a with
  | none => exact h e
  | some o => rw [x.keep a o e hm] at z; cases z⟩
theorem MovF.w (x : MovF m H m' H') (h : m'.w a) : m.w a ∨ H a = none := by
  rcases h with h | h
  · rcases x.newA a h with z | z
    · exact .inl (.inl z)
    · exact .inr z
  · exact x.newF a h
theorem MovF.wt (x : MovF m H m' H') {u : HO} (h : H a = some u) (hn : ¬ m.w a) : ¬ m'.w a := fun q => by
  rcases x.w q with z | z
  · exact hn z
  · rw [h] at z; cases z
theorem MovF.rd (x : MovF m H m' H') {u : HO} (h : Rd H a u) (hn : ¬ m.w a) : ¬ m'.w a ∧ Rd H' a u := by
  rcases h with h | ⟨o, h⟩
  · exact ⟨x.wt h hn, .inl (x.keep a _ h hn)⟩
  · exact ⟨x.wt h hn, .inr ⟨o, x.keep a _ h hn⟩⟩
theorem LAt.movF (x : MovF m H m' H') {vs : List V} (h : LAt G m H a vs) : LAt G m' H' a vs := ⟨x.wt h.2 h.1, x.keep a _ h.2 h.1⟩
theorem SAt.movF (x : MovF m H m' H') {vs : List V} (h : SAt G m H a vs) : SAt G m' H' a vs := by
  rcases h with ⟨hn, h⟩ | h
  · exact .inl (x.rd h hn)
  · exact .inr h
theorem TAt.movF (x : MovF m H m' H') {vs : List V} (h : TAt G m H a vs) : TAt G m' H' a vs := ⟨x.wt h.2 h.1, x.keep a _ h.2 h.1⟩
mutual
theorem Rp.movF (x : MovF m H m' H') : ∀ (t : T) (v : V), Rp G m H t v → Rp G m' H' t v
  | .non, _, h => h
  | .bl _, _, h => h
  | .int _, _, h => h
  | .str _, _, h => h
  | .tup xs, _, ⟨a, vs, e, h, r⟩ => ⟨a, vs, e, h.movF x, Rps.movF x xs vs r⟩
  | .lst xs, _, ⟨a, vs, e, h, r⟩ => ⟨a, vs, e, h.movF x, Rps.movF x xs vs r⟩
  | .obj c xs, _, ⟨a, dx, fv, e, hn, h, hf, r⟩ => ⟨a, dx, fv, e, x.wt h hn, x.keep a _ h hn, hf, Rps.movF x xs _ r⟩
  | .exc _ _, _, h => h
  | .loc l, _, ⟨a, e, h⟩ => ⟨a, e, by
    obtain ⟨n, e2⟩ := x.pre
    rw [e2, List.getElem?_append_left (List.getElem?_eq_some_iff.mp h).1]
    exact h⟩
  | .scr ns, _, ⟨a, e, h⟩ => ⟨a, e, h.movF x⟩
theorem Rps.movF (x : MovF m H m' H') : ∀ (ts : List T) (vs : List V), Rps G m H ts vs → Rps G m' H' ts vs
  | [], _, h => h
  | t :: ts, _, ⟨v, r, e, h, q⟩ => ⟨v, r, e, Rp.movF x t v h, Rps.movF x ts r q⟩
end
theorem REnv.movF (x : MovF m H m' H') (h : REnv G m H env σ) : REnv G m' H' env σ :=
  ⟨h.1, fun i t e => let ⟨v, e1, r⟩ := h.2 i t e; ⟨v, e1, Rp.movF x t v r⟩⟩
theorem MovF.trans (x : MovF m H m1 H1) (y : Mov m1 H1 m' H') : MovF m H m' H' := by
  have back : ∀ a, H1 a = none → m.w a ∨ H a = none := fun a z => by
    by_cases hm : m.w a
    · exact .inl hm
    · refine .inr ?_
      cases e : H a with
      | none => rfl
      | some o => rw [x.keep a o e hm] at z; cases z
  refine ⟨fun a o h hn => y.keep a o (x.keep a o h hn) fun q => x.wt h hn (.inl q), fun a h => ?_, fun a h => ?_, ?_, ?_⟩
  · rcases y.newA a h with z | z
    · exact x.newA a z
    · by_cases hm : a ∈ m.as
      · exact .inl hm
      · rcases back a z with q | q
        · rcases q with q | q
          · exact absurd q hm
          · exact .inr (by
              cases e : H a with
              | none => rfl
              | some o => exact absurd z (x.stay a q hm (by rw [e]; simp)))
        · exact .inr q
  · rcases y.newF a h with z | z
    · rcases x.w z with q | q
      · exact .inl q
      · exact .inr q
    · exact back a z
  · obtain ⟨n, e⟩ := x.pre
    obtain ⟨n', e'⟩ := y.pre
    exact ⟨n ++ n', by rw [e', e, List.append_assoc]⟩
  · intro a hf hm h z
    have h1 := x.stay a hf hm h
    cases e : H1 a with
    | none => exact h1 e
    | some o =>
      refine absurd z ?_
      rw [y.keep a o e fun q => ?_]
      · simp
      · rcases x.newA a q with r | r
        · exact hm r
        · exact h r
theorem REnv.mov (x : Mov m H m' H') (h : REnv G m H env σ) : REnv G m' H' env σ :=
  ⟨h.1, fun i t e => let ⟨v, e1, r⟩ := h.2 i t e; ⟨v, e1, Rp.mov x t v r⟩⟩
theorem RCell.there {c : Cell} (h : RCell G m H a c) : H a ≠ none := by
  cases c with
  | lst xs => obtain ⟨vs, e, _⟩ := h; rw [e]; simp
  | ins c xs => obtain ⟨dx, fv, e, _⟩ := h; rw [e]; simp
theorem RSto.mem (s : RSto G m H st) (h : a ∈ m.as) : H a ≠ none := by
  obtain ⟨i, hi, e⟩ := List.mem_iff_getElem.mp h
  have hi' : i < st.length := by rw [← s.len]; exact hi
  exact (s.cell i a st[i] (by rw [List.getElem?_eq_getElem hi, e]) (List.getElem?_eq_getElem hi')).there
theorem RSto.free (s : RSto G m H st) (hp : H p = none) : ¬ m.w p := fun q => by
  rcases q with q | q
  · exact s.mem q hp
  · exact s.foS p q hp
/-- a cell that stays, later -/
theorem RCell.mov (x : Mov m H m' H') (e : H' a = H a) {c : Cell} (h : RCell G m H a c) : RCell G m' H' a c := by
  cases c with
  | lst xs => obtain ⟨vs, e1, r⟩ := h; exact ⟨vs, by rw [e]; exact e1, Rps.mov x _ _ r⟩
  | ins c xs => obtain ⟨dx, fv, e1, e2, e3, r⟩ := h; exact ⟨dx, fv, by rw [e]; exact e1, e2, e3, Rps.mov x _ _ r⟩
theorem RSto.fresh (s : RSto G m H st) (hp : H p = none) : RSto G m (upd H p o) st where
  nd := s.nd
  fd := s.fd
  len := s.len
  cell := fun i a c h1 h2 => RCell.mov (Stp.fresh hp).toMov (upd_ne fun z => s.mem (z ▸ List.mem_of_getElem? h1) hp) (s.cell i a c h1 h2)
  foS := fun a h => by
    have hne : a ≠ p := fun z => by subst z; exact s.foS _ h hp
    rw [upd_ne hne]
    exact s.foS a h
theorem RS.fresh (s : RS G m env st σ H) (hp : H p = none) : RS G m env st σ (upd H p o) := ⟨s.env.mov (Stp.fresh hp).toMov, s.sto.fresh hp⟩
/-! ### the lists of trees -/
theorem Rps.length : ∀ {ts : List T} {vs : List V}, Rps G m H ts vs → ts.length = vs.length
  | [], _, h => by cases (show _ = _ from h); rfl
  | t :: ts, _, ⟨v, r, e, _, q⟩ => by rw [e]; simp [Rps.length q]
theorem Rps.get : ∀ {ts : List T} {vs : List V} {i : Nat} {t : T}, Rps G m H ts vs → ts[i]? = some t → ∃ v, vs[i]? = some v ∧ Rp G m H t v
  | [], _, i, t, _, e => by simp at e
  | u :: ts, _, 0, t, ⟨v, r, e, h, q⟩, e1 => by
    have : u = t := by simpa using e1
    subst this
    exact ⟨v, by rw [e]; rfl, h⟩
  | u :: ts, _, i + 1, t, ⟨v, r, e, h, q⟩, e1 => by
    obtain ⟨w, e2, h2⟩ := Rps.get (i := i) (t := t) q (by simpa using e1)
    exact ⟨w, by rw [e]; simpa using e2, h2⟩
theorem Rps.getV : ∀ {ts : List T} {vs : List V} {i : Nat} {v : V}, Rps G m H ts vs → vs[i]? = some v → ∃ t, ts[i]? = some t ∧ Rp G m H t v := fun {ts vs i v} h e => by
  have hi : i < ts.length := by rw [h.length]; exact (List.getElem?_eq_some_iff.mp e).1
  obtain ⟨w, e2, r⟩ := h.get (List.getElem?_eq_getElem hi)
  rw [e] at e2
  cases e2
  exact ⟨_, List.getElem?_eq_getElem hi, r⟩
theorem Rps.append : ∀ {ts us : List T} {vs ws : List V}, Rps G m H ts vs → Rps G m H us ws → Rps G m H (ts ++ us) (vs ++ ws)
  | [], _, _, _, h, h2 => by cases (show _ = _ from h); exact h2
  | t :: ts, us, _, ws, ⟨v, r, e, h, q⟩, h2 => ⟨v, r ++ ws, by rw [e]; rfl, h, Rps.append q h2⟩
theorem Rps.drop : ∀ {ts : List T} {vs : List V} (n : Nat), Rps G m H ts vs → Rps G m H (ts.drop n) (vs.drop n)
  | _, _, 0, h => h
  | [], _, _ + 1, h => by cases (show _ = _ from h); exact rfl
  | t :: ts, _, n + 1, ⟨v, r, e, h, q⟩ => by subst e; exact Rps.drop (ts := ts) (vs := r) n q
theorem Rps.take : ∀ {ts : List T} {vs : List V} (n : Nat), Rps G m H ts vs → Rps G m H (ts.take n) (vs.take n)
  | _, _, 0, h => rfl
  | [], _, _ + 1, h => by cases (show _ = _ from h); exact rfl
  | t :: ts, _, n + 1, ⟨v, r, e, h, q⟩ => by subst e; exact ⟨v, r.take n, rfl, h, Rps.take n q⟩
theorem Rps.cut {ts : List T} {vs : List V} (h : Rps G m H ts vs) (lo hi : Option Int) : Rps G m H (cut ts lo hi) (cutV vs lo hi) := by
  unfold Eg.cut cutV
  rw [h.length]
  exact (h.drop _).take _
theorem Rps.rep {ts : List T} {vs : List V} (h : Rps G m H ts vs) : ∀ k : Nat, Rps G m H (List.replicate k ts).flatten (List.replicate k vs).flatten
  | 0 => rfl
  | k + 1 => by
    rw [List.replicate_succ, List.flatten_cons, List.replicate_succ, List.flatten_cons]
    exact h.append (Rps.rep h k)
theorem Rps.nil_iff {ts : List T} {vs : List V} (h : Rps G m H ts vs) : vs = [] ↔ ts = [] := by
  have e := h.length
  constructor
  · intro q; subst q; exact List.length_eq_zero_iff.mp e
  · intro q; subst q; exact List.length_eq_zero_iff.mp e.symm
theorem Rps.ints : ∀ {ts : List T} {vs : List V} {ns : List Int}, Rps G m H ts vs → intsOf ts = some ns → vs = ns.map V.int
  | [], _, ns, h, e => by cases (show _ = _ from h); cases (show some [] = some ns from e); rfl
  | t :: ts, _, ns, ⟨v, r, e, h, q⟩, e1 => by
    cases t with
    | int i =>
      cases e2 : intsOf ts with
      | none => simp [intsOf, e2] at e1
      | some ms =>
        have e3 : i :: ms = ns := by simpa [intsOf, e2] using e1
        subst e3 e
        rw [Rps.ints q e2, show v = .int i from h]
        rfl
    | _ => simp [intsOf] at e1
theorem Rps.bls : ∀ {ts : List T} {vs : List V} {ns : List Bool}, Rps G m H ts vs → blsOf ts = some ns → vs = ns.map V.bl
  | [], _, ns, h, e => by cases (show _ = _ from h); cases (show some [] = some ns from e); rfl
  | t :: ts, _, ns, ⟨v, r, e, h, q⟩, e1 => by
    cases t with
    | bl i =>
      cases e2 : blsOf ts with
      | none => simp [blsOf, e2] at e1
      | some ms =>
        have e3 : i :: ms = ns := by simpa [blsOf, e2] using e1
        subst e3 e
        rw [Rps.bls q e2, show v = .bl i from h]
        rfl
    | _ => simp [blsOf] at e1
/-- a list of our own: tracked -/
theorem Rp.own {t : T} {v : V} {xs : List T} (s : RSto G m H st) (r : Rp G m H t v) (e : ownL st t = some xs) : ∃ a vs, v = .ref a ∧ H a = some (.lst vs) ∧ Rps G m H xs vs := by
  cases t with
  | lst ys =>
    cases (show some ys = some xs from e)
    obtain ⟨a, vs, e1, h, q⟩ := r
    exact ⟨a, vs, e1, h.2, q⟩
  | loc l =>
    obtain ⟨a, e1, h⟩ := r
    cases e2 : st[l]? with
    | none => simp [ownL, e2] at e
    | some c =>
      cases c with
      | ins c ys => simp [ownL, e2] at e
      | lst ys =>
        have e3 : ys = xs := by simpa [ownL, e2] using e
        subst e3
        obtain ⟨vs, h1, q⟩ := s.cell l a _ h e2
        exact ⟨a, vs, e1, h1, q⟩
  | _ => simp [ownL] at e
theorem Rps.of_ints : ∀ ns : List Int, Rps G m H (ns.map T.int) (ns.map V.int)
  | [] => rfl
  | n :: ns => ⟨.int n, ns.map V.int, rfl, rfl, Rps.of_ints ns⟩
/-- any list -/
theorem Rp.lst {t : T} {v : V} {xs : List T} (s : RSto G m H st) (r : Rp G m H t v) (e : lstOf st t = some xs) : ∃ a vs, v = .ref a ∧ SqL G.K H a vs ∧ Rps G m H xs vs := by
  by_cases c : ∃ ns, t = .scr ns
  · obtain ⟨ns, rfl⟩ := c
    cases (show some (ns.map T.int) = some xs from e)
    obtain ⟨a, e1, h⟩ := r
    refine ⟨a, ns.map V.int, e1, ?_, Rps.of_ints ns⟩
    rcases h with h | h
    · exact .inl h.2
    · exact .inr h
  · have e' : ownL st t = some xs := by
      cases t with
      | scr ns => exact (c ⟨ns, rfl⟩).elim
      | _ => exact e
    obtain ⟨a, vs, e1, h, q⟩ := Rp.own s r e'
    exact ⟨a, vs, e1, .inl (.inl h), q⟩
theorem Rp.seq {t : T} {v : V} {xs : List T} (s : RSto G m H st) (r : Rp G m H t v) (e : seqOf st t = some xs) : ∃ a vs, v = .ref a ∧ (SqL G.K H a vs ∨ SqT G.K H a vs) ∧ Rps G m H xs vs := by
  by_cases ht : ∃ ys, t = .tup ys
  · obtain ⟨ys, rfl⟩ := ht
    cases (show some ys = some xs from e)
    obtain ⟨a, vs, e1, h, q⟩ := r
    exact ⟨a, vs, e1, .inr (.inl (.inl h.2)), q⟩
  · have e' : lstOf st t = some xs := by
      cases t with
      | tup ys => exact (ht ⟨ys, rfl⟩).elim
      | _ => exact e
    obtain ⟨a, vs, e1, h, q⟩ := Rp.lst s r e'
    exact ⟨a, vs, e1, .inl h, q⟩
end Eg
set_option Elab.async false
set_option linter.all false
set_option maxRecDepth 100000
set_option maxHeartbeats 2000000
/-! The engine, part three: the judgement of an expression by its meaning. -/
namespace Eg
open PySem PySem.Spec PyProof.Rows L2
/-- an exception by its tree -/
def RExc (G : Gh) (m : Mm) (H : Hp) : T → Value → Option Addr → Prop
  | .exc c [], cls, d => cls = .ref (G.cl c) ∧ d = none
  | .exc c [t], cls, d => cls = .ref (G.cl c) ∧ ∃ a v f, d = some a ∧ ¬ m.w a ∧ H a = some (.xd [(f, v)]) ∧ G.fl c = [f] ∧ Rp G m H t v
  | _, _, _ => False
section
variable {A B A' B' : Type}
/-- a result as it lies behind: K is wanted of it; W of an exception -/
def Rn (G : Gh) (W : WX) (σ : L2.St) (env : Env) (rel : Mm → Hp → A → B → Prop) (m : Mm) (H : Hp) (r : R A) (K : A → Sto → B → Hp → Mm → Prop) : Prop := match r with
  | .ok a st' => ∀ b H' m', RS G m' env st' σ H' → Stp m H m' H' → rel m' H' a b → K a st' b H' m'
  | .exc e st' => ∀ cls d H' m', RS G m' env st' σ H' → Stp m H m' H' → RExc G m' H' e cls d → W cls d σ H'
  | .bad => False
variable {G : Gh} {W : WX} {σ : L2.St} {env : Env} {rel : Mm → Hp → A → B → Prop} {rel' : Mm → Hp → A' → B' → Prop} {m m1 : Mm} {H H1 : Hp} {r : R A} {K K' : A → Sto → B → Hp → Mm → Prop} {st : Sto}
theorem Rn.base (x : Stp m H m1 H1) (h : Rn G W σ env rel m H r K) : Rn G W σ env rel m1 H1 r K := by
  cases r with
  | ok a s => exact fun b H' m' rs y q => h b H' m' rs (x.trans y) q
  | exc e s => exact fun cls d H' m' rs y q => h cls d H' m' rs (x.trans y) q
  | bad => exact h
theorem Rn.imp (h : Rn G W σ env rel m H r K) (k : ∀ a st' b H' m', RS G m' env st' σ H' → Stp m H m' H' → rel m' H' a b → K a st' b H' m' → K' a st' b H' m') : Rn G W σ env rel m H r K' := by
  cases r with
  | ok a s => exact fun b H' m' rs y q => k a s b H' m' rs y q (h b H' m' rs y q)
  | exc e s => exact h
  | bad => exact h
theorem Rn.bnd {x : R A} {f : A → Sto → R A'} {K : A' → Sto → B' → Hp → Mm → Prop} (h : Rn G W σ env rel' m H (x.bnd f) K) :
    Rn G W σ env rel m H x (fun a st1 _ H1 m1 => Rn G W σ env rel' m1 H1 (f a st1) K) := by
  cases x with
  | ok a s => exact fun b H' m' rs y q => Rn.base y h
  | exc e s => exact h
  | bad => exact h
theorem Rn.here {a : A} {b : B} (h : Rn G W σ env rel m H (.ok a st) K) (rs : RS G m env st σ H) (r : rel m H a b) : K a st b H m := h b H m rs (Stp.refl m H) r
theorem Rn.next {a : A} {b : B} (h : Rn G W σ env rel m H (.ok a st) K) (rs : RS G m1 env st σ H1) (x : Stp m H m1 H1) (r : rel m1 H1 a b) : K a st b H1 m1 := h b H1 m1 rs x r
end
/-- an expression's reading by its meaning -/
def tE (G : Gh) (W : WX) (f : Env → Sto → R T) : TE := fun σ H Q => ∃ m env st, RS G m env st σ H ∧ Rn G W σ env (Rp G) m H (f env st) (fun _ _ v H' _ => Q v H')
def tA (G : Gh) (W : WX) (f : Env → Sto → R (List T)) : TA := fun σ H Q => ∃ m env st, RS G m env st σ H ∧ Rn G W σ env (Rps G) m H (f env st) (fun _ _ v H' _ => Q v H')
/-- a slice's part -/
def tP (G : Gh) (W : WX) (f : Env → Sto → R (Option Int)) : TO := fun σ H Q => ∃ m env st, RS G m env st σ H ∧ Rn G W σ env (fun _ _ a b => b = a) m H (f env st) (fun _ _ v H' _ => Q v H')
/-- what makes a new list at an address that nothing else knows -/
def Fr (G : Gh) (m : Mm) (H : Hp) (xs : List T) (v : V) : Prop := ∃ a vs, v = .ref a ∧ ¬ m.w a ∧ H a = some (.lst vs) ∧ Rps G m H xs vs
theorem PE.imp {X : Cx} {e : Expr} {t t' : TE} (h : PE X e t) (k : ∀ σ H Q, t' σ H Q → t σ H Q) : PE X e t' := ⟨fun pins s σ H Q I q => h.run pins s σ H Q I (k σ H Q q)⟩
theorem PT.imp {X : Cx} {e : Expr} {t t' : TT} (h : PT X e t) (k : ∀ σ H Q, t' σ H Q → t σ H Q) : PT X e t' := ⟨fun pins s σ H Q I q => h.run pins s σ H Q I (k σ H Q q)⟩
theorem PW.imp {X : Cx} {e : Expr} {t t' : TT} (h : PW X e t) (k : ∀ σ H Q, t' σ H Q → t σ H Q) : PW X e t' := ⟨fun w pins s σ H Q I q => h.run w pins s σ H Q I (k σ H Q q)⟩
theorem PA.imp {X : Cx} {e : List Expr} {t t' : TA} (h : PA X e t) (k : ∀ σ H Q, t' σ H Q → t σ H Q) : PA X e t' := ⟨fun p pins s σ H Q I q => h.run p pins s σ H Q I (k σ H Q q)⟩
theorem PO.imp {X : Cx} {e : Option Expr} {t t' : TO} (h : PO X e t) (k : ∀ σ H Q, t' σ H Q → t σ H Q) : PO X e t' := ⟨fun pins s σ H Q I q => h.run pins s σ H Q I (k σ H Q q)⟩
section
variable {G : Gh} {W : WX} {σ : L2.St} {H : Hp} {A B : Type} {rel : Mm → Hp → A → B → Prop}
/-- a point: where one stands, what comes, what is wanted -/
def At (G : Gh) (W : WX) (rel : Mm → Hp → A → B → Prop) (g : Env → Sto → R A) (σ : L2.St) (H : Hp) (K : A → Sto → B → Hp → Mm → Prop) : Prop :=
  ∃ m env st, RS G m env st σ H ∧ Rn G W σ env rel m H (g env st) K
theorem at1 {f : Env → Sto → R T} {g : Env → T → Sto → R A} {K : A → Sto → B → Hp → Mm → Prop} {P : V → Hp → Prop}
    (h : At G W rel (fun env st => (f env st).bnd fun x st1 => g env x st1) σ H K)
    (k : ∀ m env st t v H1, RS G m env st σ H1 → Rp G m H1 t v → Rn G W σ env rel m H1 (g env t st) K → P v H1) : tE G W f σ H P := by
  obtain ⟨m, env, st, rs, h⟩ := h
  exact ⟨m, env, st, rs, (Rn.bnd h).imp fun a st' b H' m' rs' _ r q => k m' env st' a b H' rs' r q⟩
theorem at2 {fa fb : Env → Sto → R T} {g : Env → T → T → Sto → R A} {K : A → Sto → B → Hp → Mm → Prop} {P : V → V → Hp → Prop}
    (h : At G W rel (fun env st => (fa env st).bnd fun x st1 => (fb env st1).bnd fun y st2 => g env x y st2) σ H K)
    (k : ∀ m env st t u v w H1, RS G m env st σ H1 → Rp G m H1 t v → Rp G m H1 u w → Rn G W σ env rel m H1 (g env t u st) K → P v w H1) :
    tE G W fa σ H fun v H1 => tE G W fb σ H1 fun w H2 => P v w H2 := by
  obtain ⟨m, env, st, rs, h⟩ := h
  refine ⟨m, env, st, rs, (Rn.bnd h).imp fun a st' b H' m' rs' _ r q => ⟨m', env, st', rs', (Rn.bnd q).imp fun a2 st2 b2 H2 m2 rs2 s2 r2 q2 => k m2 env st2 a a2 b b2 H2 rs2 (Rp.mov s2.toMov _ _ r) r2 q2⟩⟩
theorem atA {f : Env → Sto → R (List T)} {g : Env → List T → Sto → R A} {K : A → Sto → B → Hp → Mm → Prop} {P : List V → Hp → Prop}
    (h : At G W rel (fun env st => (f env st).bnd fun x st1 => g env x st1) σ H K)
    (k : ∀ m env st ts vs H1, RS G m env st σ H1 → Rps G m H1 ts vs → Rn G W σ env rel m H1 (g env ts st) K → P vs H1) : tA G W f σ H P := by
  obtain ⟨m, env, st, rs, h⟩ := h
  exact ⟨m, env, st, rs, (Rn.bnd h).imp fun a st' b H' m' rs' _ r q => k m' env st' a b H' rs' r q⟩
theorem tE.at {f : Env → Sto → R T} {Q : VK} (h : tE G W f σ H Q) : At G W (Rp G) f σ H (fun _ _ v H' _ => Q v H') := h
end
/-! ### ints, truth -/
section
variable {X : Cx} {G : Gh} {W : WX} {σ : L2.St} {H : Hp} {m : Mm} {env : Env} {st : Sto} {Q : VK} {x y : V} {t u : T} {v w : V}
abbrev Kq (Q : VK) : T → Sto → V → Hp → Mm → Prop := fun _ _ v H' _ => Q v H'
/-- a scalar or an old value comes -/
theorem Rn.give {a : T} {b : V} (h : Rn G W σ env (Rp G) m H (.ok a st) (Kq Q)) (rs : RS G m env st σ H) (r : Rp G m H a b) : Q b H := Rn.here h rs r
/-- a new tuple comes -/
theorem Rn.tup {xs : List T} {vs : List V} {p : Addr} (h : Rn G W σ env (Rp G) m H (.ok (.tup xs) st) (Kq Q)) (rs : RS G m env st σ H) (r : Rps G m H xs vs) (hp : H p = none) : Q (.ref p) (upd H p (.tup vs)) :=
  Rn.next (K := Kq Q) h (rs.fresh hp) (Stp.fresh hp) ⟨p, vs, rfl, ⟨rs.sto.free hp, upd_same⟩, Rps.mov (Stp.fresh hp).toMov _ _ r⟩
def rAddE (K : PySem.W.Frag) : R2 := fun x y H Q => rI0 (fun i j => .int (i + j)) x y H Q ∨ (∃ i j, x = .str i ∧ y = .str j ∧ i.length + j.length ≤ sizeLine ∧ Q (.str (i ++ j)) H) ∨ rCatA K x y H Q
theorem op_addE : OpR X (binaryOp .Add) (rAddE X.K) := OpR.or op_add (OpR.or op_add_str op_catA)
theorem add_ok (rs : RS G m env st σ H) (r1 : Rp G m H t v) (r2 : Rp G m H u w) (h : Rn G W σ env (Rp G) m H (R.opt (binT .Add t u) st) (Kq Q)) : rAddE G.K v w H Q := by
  have h : Rn G W σ env (Rp G) m H (R.opt (addT t u) st) (Kq Q) := h
  cases t with
  | int i =>
    cases u with
    | int j =>
      cases (show v = _ from r1); cases (show w = _ from r2)
      exact .inl ⟨i, j, rfl, rfl, Rn.give (b := .int (i + j)) h rs rfl⟩
    | _ => exact h.elim
  | str i =>
    cases u with
    | str j =>
      cases (show v = _ from r1); cases (show w = _ from r2)
      by_cases hl : i.length + j.length ≤ lim
      · have h : Rn G W σ env (Rp G) m H (R.opt (if i.length + j.length ≤ lim then some (T.str (i ++ j)) else none) st) (Kq Q) := h
        rw [if_pos hl] at h
        exact .inr (.inl ⟨i, j, rfl, rfl, lim_eq ▸ hl, Rn.give (b := .str (i ++ j)) h rs rfl⟩)
      · have h : Rn G W σ env (Rp G) m H (R.opt (if i.length + j.length ≤ lim then some (T.str (i ++ j)) else none) st) (Kq Q) := h
        rw [if_neg hl] at h
        exact h.elim
    | _ => exact h.elim
  | tup xs =>
    cases u with
    | tup ys =>
      obtain ⟨a, vs, rfl, ha, ra⟩ := r1
      obtain ⟨b, ws, rfl, hb, rb⟩ := r2
      by_cases hl : xs.length + ys.length ≤ lim
      · have h : Rn G W σ env (Rp G) m H (R.opt (if xs.length + ys.length ≤ lim then some (T.tup (xs ++ ys)) else none) st) (Kq Q) := h
        rw [if_pos hl] at h
        have h : Rn G W σ env (Rp G) m H (.ok (.tup (xs ++ ys)) st) (Kq Q) := h
        refine .inr (.inr ⟨a, b, vs, ws, rfl, rfl, .inl (.inl ha.2), .inl (.inl hb.2), ?_, fun e => ?_, fun e e2 => ?_, fun e e2 p hp => ?_⟩)
        · rw [← ra.length, ← rb.length, ← lim_eq]; exact hl
        · have e' := ra.nil_iff.mp e
          subst e'
          exact Rn.give h rs ⟨b, ws, rfl, hb, rb⟩
        · have e' := rb.nil_iff.mp e2
          subst e'
          rw [List.append_nil] at h
          exact Rn.give h rs ⟨a, vs, rfl, ha, ra⟩
        · exact Rn.tup h rs (ra.append rb) hp
      · have h : Rn G W σ env (Rp G) m H (R.opt (if xs.length + ys.length ≤ lim then some (T.tup (xs ++ ys)) else none) st) (Kq Q) := h
        rw [if_neg hl] at h
        exact h.elim
    | _ => exact h.elim
  | _ => exact h.elim
/-- ints alone -/
theorem ints_of {f : Int → Int → Option T} {g : T → T → Option T} (hg : ∀ i j, g (.int i) (.int j) = f i j) (hn : ∀ t u, (∀ i j, t = .int i → u = .int j → False) → g t u = none)
    (r1 : Rp G m H t v) (r2 : Rp G m H u w) (h : Rn G W σ env (Rp G) m H (R.opt (g t u) st) (Kq Q)) : ∃ i j, v = .int i ∧ w = .int j ∧ t = .int i ∧ u = .int j ∧ Rn G W σ env (Rp G) m H (R.opt (f i j) st) (Kq Q) := by
  by_cases c : ∃ i j, t = .int i ∧ u = .int j
  · obtain ⟨i, j, rfl, rfl⟩ := c
    rw [hg] at h
    exact ⟨i, j, r1, r2, rfl, rfl, h⟩
  · rw [hn t u fun i j e1 e2 => c ⟨i, j, e1, e2⟩] at h
    exact h.elim
theorem if_some {c : Prop} [Decidable c] {a : T} (h : Rn G W σ env (Rp G) m H (R.opt (if c then some a else none) st) (Kq Q)) : c ∧ Rn G W σ env (Rp G) m H (.ok a st) (Kq Q) := by
  by_cases hc : c
  · rw [if_pos hc] at h; exact ⟨hc, h⟩
  · rw [if_neg hc] at h; exact h.elim
def rBin (K : PySem.W.Frag) : Operator → R2
  | .Add => rAddE K
  | .Sub => rI0 fun i j => .int (i - j)
  | .Mult => rI CMulW fun i j => .int (i * j)
  | .FloorDiv => rI CDivW fun i j => .int (i / j)
  | .Mod => rI (fun _ j => 0 < j) fun i j => .int (i % j)
  | .Pow => rI CPow fun i j => .int (i ^ j.toNat)
  | _ => fun _ _ _ _ => False
theorem op_bin : ∀ op, OpR X (binaryOp op) (rBin X.K op)
  | .Add => op_addE
  | .Sub => op_sub
  | .Mult => op_mulW
  | .FloorDiv => op_fdivW
  | .Mod => op_mod
  | .Pow => op_pow
  | .MatMult | .Div | .LShift | .RShift | .BitOr | .BitXor | .BitAnd => fun _ _ _ _ _ _ _ _ _ _ _ _ h => h.elim
theorem bin_ok {op : Operator} (rs : RS G m env st σ H) (r1 : Rp G m H t v) (r2 : Rp G m H u w) (h : Rn G W σ env (Rp G) m H (R.opt (binT op t u) st) (Kq Q)) : rBin G.K op v w H Q := by
  have none_of : ∀ {op}, (∀ i j, t = .int i → u = .int j → False) → op ≠ .Add → binT op t u = none := by
    intro op hh hne
    cases op <;> first | exact absurd rfl hne | (cases t <;> first | rfl | (cases u <;> first | rfl | exact (hh _ _ rfl rfl).elim))
  by_cases hA : op = .Add
  · subst hA; exact add_ok rs r1 r2 h
  · by_cases c : ∃ i j, t = .int i ∧ u = .int j
    · obtain ⟨i, j, rfl, rfl⟩ := c
      cases (show v = _ from r1); cases (show w = _ from r2)
      cases op with
      | Add => exact absurd rfl hA
      | Sub => exact ⟨i, j, rfl, rfl, Rn.give (b := .int (i - j)) h rs rfl⟩
      | Mult => obtain ⟨c, h⟩ := if_some h; exact ⟨i, j, rfl, rfl, c, Rn.give (b := .int (i * j)) h rs rfl⟩
      | FloorDiv => obtain ⟨c, h⟩ := if_some h; exact ⟨i, j, rfl, rfl, c, Rn.give (b := .int (i / j)) h rs rfl⟩
      | Mod => obtain ⟨c, h⟩ := if_some h; exact ⟨i, j, rfl, rfl, c, Rn.give (b := .int (i % j)) h rs rfl⟩
      | Pow => obtain ⟨c, h⟩ := if_some h; exact ⟨i, j, rfl, rfl, c, Rn.give (b := .int (i ^ j.toNat)) h rs rfl⟩
      | _ => exact h.elim
    · rw [none_of (fun i j e1 e2 => c ⟨i, j, e1, e2⟩) hA] at h
      exact h.elim
theorem s_bin {fa fb : Env → Sto → R T} {op : Operator} {a b : Expr} {pos : Pos} (hK : X.K = G.K) (ha : PE X a (tE G W fa)) (hb : PE X b (tE G W fb)) :
    PE X (.BinOp a op b pos) (tE G W fun env st => (fa env st).bnd fun x st1 => (fb env st1).bnd fun y st2 => R.opt (binT op x y) st2) := by
  refine PE.imp (pe_op (op_bin op) ha hb) fun σ H Q h => ?_
  refine at2 h fun m env st t u v w H1 rs r1 r2 q => ?_
  rw [hK]
  exact bin_ok rs r1 r2 q
end
end Eg
set_option Elab.async false
set_option linter.all false
set_option maxRecDepth 100000
set_option maxHeartbeats 2000000
/-! The engine, part four: comparisons, tests. -/
namespace Eg
open PySem PySem.Spec PyProof.Rows L2
mutual
def toD : T → PyData
  | .bl b => .bool b
  | .int i => .int i
  | .str x => .str x
  | .tup xs => .tuple (toDs xs)
  | .lst xs => .list (toDs xs)
  | _ => .none
def toDs : List T → List PyData
  | [] => []
  | x :: xs => toD x :: toDs xs
end
mutual
theorem canLay_toD : ∀ t : T, data t = true → (toD t).canLay0 = true
  | .non, _ => by simp [toD, PyData.canLay0]
  | .bl _, _ => by simp [toD, PyData.canLay0]
  | .int _, _ => by simp [toD, PyData.canLay0]
  | .str x, h => by simpa [toD, PyData.canLay0, data] using h
  | .tup xs, h => by simpa [toD, PyData.canLay0] using canLays_toD xs (by simpa [data] using h)
  | .lst xs, h => by simpa [toD, PyData.canLay0] using canLays_toD xs (by simpa [data] using h)
  | .obj _ _, h => by simp [data] at h
  | .exc _ _, h => by simp [data] at h
  | .loc _, h => by simp [data] at h
  | .scr _, h => by simp [data] at h
theorem canLays_toD : ∀ ts : List T, datas ts = true → PyData.canLayAll0 (toDs ts) = true
  | [], _ => by simp [toDs, PyData.canLayAll0]
  | t :: ts, h => by
    have h' : data t = true ∧ datas ts = true := by simpa [datas] using h
    simp [toDs, PyData.canLayAll0, canLay_toD t h'.1, canLays_toD ts h'.2]
end
mutual
theorem depth_toD : ∀ t : T, (toD t).depth = dep t
  | .non => by simp [toD, PyData.depth, dep]
  | .bl _ => by simp [toD, PyData.depth, dep]
  | .int _ => by simp [toD, PyData.depth, dep]
  | .str x => by simp [toD, PyData.depth, dep]
  | .tup xs => by simp [toD, PyData.depth, dep, depths_toD xs]
  | .lst xs => by simp [toD, PyData.depth, dep, depths_toD xs]
  | .obj _ _ => by simp [toD, PyData.depth, dep]
  | .exc _ _ => by simp [toD, PyData.depth, dep]
  | .loc _ => by simp [toD, PyData.depth, dep]
  | .scr _ => by simp [toD, PyData.depth, dep]
theorem depths_toD : ∀ ts : List T, PyData.depthAll (toDs ts) = deps ts
  | [] => by simp [toDs, PyData.depthAll, deps]
  | t :: ts => by simp [toDs, PyData.depthAll, deps, depth_toD t, depths_toD ts]
end
mutual
theorem eqv_toD : ∀ t u : T, data t = true → data u = true → PyData.eqv (toD t) (toD u) = eqv t u
  | .non, u, _, h => by cases u <;> simp [toD, PyData.eqv, eqv, data] at h ⊢
  | .bl _, u, _, h => by cases u <;> simp [toD, PyData.eqv, eqv, data] at h ⊢
  | .int _, u, _, h => by cases u <;> simp [toD, PyData.eqv, eqv, data] at h ⊢
  | .str _, u, _, h => by cases u <;> simp [toD, PyData.eqv, eqv, data] at h ⊢
  | .tup xs, u, h, h2 => by
    cases u with
    | tup ys => simpa [toD, PyData.eqv, eqv] using eqvs_toD xs ys (by simpa [data] using h) (by simpa [data] using h2)
    | _ => simp [toD, PyData.eqv, eqv, data] at h2 ⊢
  | .lst xs, u, h, h2 => by
    cases u with
    | lst ys => simpa [toD, PyData.eqv, eqv] using eqvs_toD xs ys (by simpa [data] using h) (by simpa [data] using h2)
    | _ => simp [toD, PyData.eqv, eqv, data] at h2 ⊢
  | .obj _ _, _, h, _ => by simp [data] at h
  | .exc _ _, _, h, _ => by simp [data] at h
  | .loc _, _, h, _ => by simp [data] at h
  | .scr _, _, h, _ => by simp [data] at h
theorem eqvs_toD : ∀ ts us : List T, datas ts = true → datas us = true → PyData.eqvAll (toDs ts) (toDs us) = eqvs ts us
  | [], us, _, _ => by cases us <;> simp [toDs, PyData.eqvAll, eqvs]
  | t :: ts, us, h, h2 => by
    have h' : data t = true ∧ datas ts = true := by simpa [datas] using h
    cases us with
    | nil => simp [toDs, PyData.eqvAll, eqvs]
    | cons u us =>
      have h2' : data u = true ∧ datas us = true := by simpa [datas] using h2
      simp [toDs, PyData.eqvAll, eqvs, eqv_toD t u h'.1 h2'.1, eqvs_toD ts us h'.2 h2'.2]
end
theorem shaped_toD {t : T} (h : data t = true) (hd : dep t ≤ 60) : SeqAt.shaped (toD t) = true := by
  show ((toD t).canLay0 && decide ((toD t).depth ≤ 64)) = true
  rw [canLay_toD t h, depth_toD t, Bool.true_and]
  exact decide_eq_true (by omega)
variable {G : Gh} {m : Mm} {H : Hp} {st : Sto} {σ : L2.St} {env : Env}
mutual
theorem dp_of : ∀ (t : T) (v : V), data t = true → Rp G m H t v → Dp G.K H v (toD t)
  | .non, _, _, h => by cases (show _ = _ from h); exact .non
  | .bl b, _, _, h => by cases (show _ = _ from h); exact .bl b
  | .int i, _, _, h => by cases (show _ = _ from h); exact .int i
  | .str x, _, _, h => by cases (show _ = _ from h); exact .str x
  | .tup xs, _, h, ⟨a, vs, e, p, r⟩ => by subst e; exact .tup (.inl (.inl p.2)) (dps_of xs vs (by simpa [data] using h) r)
  | .lst xs, _, h, ⟨a, vs, e, p, r⟩ => by
    subst e
    exact .lst (.inl (.inl p.2)) (dps_of xs vs (by simpa [data] using h) r)
  | .obj _ _, _, h, _ => by simp [data] at h
  | .exc _ _, _, h, _ => by simp [data] at h
  | .loc _, _, h, _ => by simp [data] at h
  | .scr _, _, h, _ => by simp [data] at h
theorem dps_of : ∀ (ts : List T) (vs : List V), datas ts = true → Rps G m H ts vs → DpAll G.K H vs (toDs ts)
  | [], _, _, h => by cases (show _ = _ from h); exact .nil
  | t :: ts, _, h, ⟨v, r, e, p, q⟩ => by
    have h' : data t = true ∧ datas ts = true := by simpa [datas] using h
    subst e
    exact .cons (dp_of t v h'.1 p) (dps_of ts r h'.2 q)
end
theorem froz_dp {t : T} {v : V} (s : RSto G m H st) (h : data (frozen st t) = true) (r : Rp G m H t v) : Dp G.K H v (toD (frozen st t)) := by
  unfold frozen at h ⊢
  cases e : lstOf st t with
  | none => rw [e] at h; exact dp_of t v h r
  | some xs =>
    rw [e] at h
    obtain ⟨a, vs, rfl, hs, q⟩ := Rp.lst s r e
    exact .lst hs (dps_of xs vs (by simpa [data] using h) q)
/-! ### the rules for comparisons -/
section
variable {X : Cx} {W : WX} {Q : VK} {t u : T} {v w : V}
def rInS (K : PySem.W.Frag) (n : Bool) : R2 := fun x y H Q => ∃ d ds, Dp K H x d ∧ (Dp K H y (.list ds) ∨ Dp K H y (.tuple ds)) ∧ SeqAt.shaped d = true ∧ PyData.canLayAll0 ds = true ∧ Q (.bl (if n then !ds.any fun z => PyData.eqv z d else ds.any fun z => PyData.eqv z d)) H
theorem op_inS (hu : X.A.units + 65 < cLine) : OpR X (compareOp .In) (rInS X.K false) := by
  intro pins s σ H x y v u Q I rx ry h
  obtain ⟨d, ds, hd, he, sd, se, q⟩ := h
  obtain ⟨as, r1⟩ := Dp.reads I d x v hd rx
  rcases he with he | he
  · obtain ⟨bs, r2⟩ := Dp.reads I (.list ds) y u he ry
    exact SeqAt.in_list_reads r2 r1 se (SeqAt.canLay_of_shaped sd) (room_in_shaped sd hu) ⟨.bl _, H, I, rfl, q⟩
  · obtain ⟨bs, r2⟩ := Dp.reads I (.tuple ds) y u he ry
    exact SeqAt.in_tuple_reads r2 r1 se (SeqAt.canLay_of_shaped sd) (room_in_shaped sd hu) ⟨.bl _, H, I, rfl, q⟩
theorem op_notInS (hu : X.A.units + 65 < cLine) : OpR X (compareOp .NotIn) (rInS X.K true) := by
  intro pins s σ H x y v u Q I rx ry h
  obtain ⟨d, ds, hd, he, sd, se, q⟩ := h
  obtain ⟨as, r1⟩ := Dp.reads I d x v hd rx
  rcases he with he | he
  · obtain ⟨bs, r2⟩ := Dp.reads I (.list ds) y u he ry
    exact SeqAt.notIn_list_reads r2 r1 se (SeqAt.canLay_of_shaped sd) (room_in_shaped sd hu) ⟨.bl _, H, I, rfl, q⟩
  · obtain ⟨bs, r2⟩ := Dp.reads I (.tuple ds) y u he ry
    exact SeqAt.notIn_tuple_reads r2 r1 se (SeqAt.canLay_of_shaped sd) (room_in_shaped sd hu) ⟨.bl _, H, I, rfl, q⟩
def rCmp (K : PySem.W.Frag) : CmpOp → R2
  | .Eq => rEqD K
  | .NotEq => rNeD K
  | .Lt => rI0 fun i j => .bl (decide (i < j))
  | .LtE => rI0 fun i j => .bl (decide (i ≤ j))
  | .Gt => rI0 fun i j => .bl (decide (j < i))
  | .GtE => rI0 fun i j => .bl (decide (j ≤ i))
  | .In => fun x y H Q => (∃ i j, x = .str i ∧ y = .str j ∧ Q (.bl (strIn i j)) H) ∨ rInS K false x y H Q
  | .NotIn => fun x y H Q => (∃ i j, x = .str i ∧ y = .str j ∧ Q (.bl (!strIn i j)) H) ∨ rInS K true x y H Q
  | _ => fun _ _ _ _ => False
theorem op_cmp (hu : X.A.units + 65 < cLine) : ∀ op, OpR X (compareOp op) (rCmp X.K op)
  | .Eq => op_eqD (by omega)
  | .NotEq => op_neD (by omega)
  | .Lt => op_lt
  | .LtE => op_le
  | .Gt => op_gt
  | .GtE => op_ge
  | .In => OpR.or op_in_str (op_inS hu)
  | .NotIn => OpR.or op_notin_str (op_notInS hu)
  | .Is | .IsNot => fun _ _ _ _ _ _ _ _ _ _ _ _ h => h.elim
theorem any_eqv {t : T} (ht : data t = true) : ∀ {us : List T}, datas us = true → ((toDs us).any fun z => PyData.eqv z (toD t)) = us.any fun z => eqv z t
  | [], _ => rfl
  | u :: us, h => by
    have h' : data u = true ∧ datas us = true := by simpa [datas] using h
    simp only [toDs, List.any_cons]
    rw [eqv_toD u t h'.1 ht, any_eqv ht h'.2]
theorem in_ok {n : Bool} {k : Bool} (s : RSto G m H st) (r1 : Rp G m H t v) (r2 : Rp G m H u w) (e : inT st t u = some k) (q : Q (.bl (if n then !k else k)) H) :
    (∃ i j, v = .str i ∧ w = .str j ∧ Q (.bl (if n then !strIn i j else strIn i j)) H) ∨ rInS G.K n v w H Q := by
  by_cases c : ∃ i j, t = .str i ∧ u = .str j
  · obtain ⟨i, j, rfl, rfl⟩ := c
    cases (show some (strIn i j) = some k from e)
    exact .inl ⟨i, j, r1, r2, q⟩
  · have e' : (match seqOf st u with
      | some ys => if data t && datas ys && decide (dep t ≤ 60) && decide (deps ys ≤ 60) then some (ys.any fun y => eqv y t) else none
      | none => none) = some k := by
      unfold inT at e
      split at e
      · exact (c ⟨_, _, rfl, rfl⟩).elim
      · exact e
    cases e1 : seqOf st u with
    | none => rw [e1] at e'; cases e'
    | some ys =>
      rw [e1] at e'
      have e' : (if (data t && datas ys && decide (dep t ≤ 60) && decide (deps ys ≤ 60)) = true then some (ys.any fun y => eqv y t) else none) = some k := e'
      by_cases hc : (data t && datas ys && decide (dep t ≤ 60) && decide (deps ys ≤ 60)) = true
      · rw [if_pos hc] at e'
        have hk := Option.some.inj e'
        simp only [Bool.and_eq_true, decide_eq_true_eq] at hc
        obtain ⟨⟨⟨h1, h2⟩, h3⟩, h4⟩ := hc
        obtain ⟨a, vs, rfl, hs, rq⟩ := Rp.seq s r2 e1
        refine .inr ⟨toD t, toDs ys, dp_of t v h1 r1, ?_, shaped_toD h1 h3, canLays_toD ys h2, ?_⟩
        · rcases hs with hs | hs
          · exact .inl (.lst hs (dps_of ys vs h2 rq))
          · exact .inr (.tup hs (dps_of ys vs h2 rq))
        · rw [any_eqv h1 h2, hk]
          exact q
      · rw [if_neg hc] at e'; cases e'
theorem cmp_ok {op : CmpOp} {k : Bool} (s : RSto G m H st) (r1 : Rp G m H t v) (r2 : Rp G m H u w) (e : cmpT st op t u = some k) (q : Q (.bl k) H) : rCmp G.K op v w H Q := by
  have eqs : ∀ k, eqT (frozen st t) (frozen st u) = some k → ∃ d e, Dp G.K H v d ∧ Dp G.K H w e ∧ SeqAt.shaped d = true ∧ SeqAt.shaped e = true ∧ PyData.eqv d e = k := by
    intro k e
    unfold eqT at e
    split at e
    · rename_i hc
      simp only [Bool.and_eq_true, decide_eq_true_eq] at hc
      obtain ⟨⟨⟨h1, h2⟩, h3⟩, h4⟩ := hc
      exact ⟨_, _, froz_dp s h1 r1, froz_dp s h2 r2, shaped_toD h1 h3, shaped_toD h2 h4, by rw [eqv_toD _ _ h1 h2]; exact Option.some.inj e⟩
    · cases e
  have intsC : ∀ {f : Int → Int → Bool}, (∀ i j, t = .int i → u = .int j → some (f i j) = some k) → ((∀ i j, t = .int i → u = .int j → False) → False) → rI0 (fun i j => .bl (f i j)) v w H Q := by
    intro f h1 h2
    by_cases c : ∃ i j, t = .int i ∧ u = .int j
    · obtain ⟨i, j, rfl, rfl⟩ := c
      refine ⟨i, j, r1, r2, ?_⟩
      have h3 := Option.some.inj (h1 i j rfl rfl)
      show Q (.bl (f i j)) H
      rw [h3]
      exact q
    · exact (h2 fun i j e1 e2 => c ⟨i, j, e1, e2⟩).elim
  cases op with
  | Eq =>
    obtain ⟨d, d', h1, h2, h3, h4, h5⟩ := eqs k e
    exact ⟨d, d', h1, h2, h3, h4, by rw [h5]; exact q⟩
  | NotEq =>
    have e : (eqT (frozen st t) (frozen st u)).map (!·) = some k := e
    cases e1 : eqT (frozen st t) (frozen st u) with
    | none => rw [e1] at e; cases e
    | some b =>
      rw [e1] at e
      have e : some (!b) = some k := e
      obtain ⟨d, d', h1, h2, h3, h4, h5⟩ := eqs b e1
      exact ⟨d, d', h1, h2, h3, h4, by rw [h5, Option.some.inj e]; exact q⟩
  | Lt => exact intsC (fun i j e1 e2 => by subst e1 e2; exact e) fun hh => by cases t <;> first | (cases e; done) | (cases u <;> first | exact hh _ _ rfl rfl | (cases e; done))
  | LtE => exact intsC (fun i j e1 e2 => by subst e1 e2; exact e) fun hh => by cases t <;> first | (cases e; done) | (cases u <;> first | exact hh _ _ rfl rfl | (cases e; done))
  | Gt => exact intsC (fun i j e1 e2 => by subst e1 e2; exact e) fun hh => by cases t <;> first | (cases e; done) | (cases u <;> first | exact hh _ _ rfl rfl | (cases e; done))
  | GtE => exact intsC (fun i j e1 e2 => by subst e1 e2; exact e) fun hh => by cases t <;> first | (cases e; done) | (cases u <;> first | exact hh _ _ rfl rfl | (cases e; done))
  | In => exact in_ok (n := false) s r1 r2 e q
  | NotIn =>
    have e : (inT st t u).map (!·) = some k := e
    cases e1 : inT st t u with
    | none => rw [e1] at e; cases e
    | some b =>
      rw [e1] at e
      have e : some (!b) = some k := e
      exact in_ok (n := true) s r1 r2 e1 (by rw [if_pos rfl, Option.some.inj e]; exact q)
  | Is => cases t <;> cases u <;> cases e
  | IsNot => cases t <;> cases u <;> cases e
end
/-! ### the judgements -/
section
variable {X : Cx} {W : WX} {fa fb fc : Env → Sto → R T} {a b c : Expr} {pos : Pos}
theorem cmp_imp {op : CmpOp} {σ : L2.St} {H : Hp} {Q : VK} (h : tE G W (fun env st => (fa env st).bnd fun x st1 => (fb env st1).bnd fun y st2 => R.opt ((cmpT st2 op x y).map .bl) st2) σ H Q) :
    tOp (rCmp G.K op) (tE G W fa) (tE G W fb) σ H Q := by
  refine at2 h fun m env st t u v w H1 rs r1 r2 q => ?_
  cases e : cmpT st op t u with
  | none => rw [e] at q; exact q.elim
  | some k =>
    rw [e] at q
    exact cmp_ok rs.sto r1 r2 e (Rn.give (b := .bl k) q rs rfl)
theorem s_cmp {op : CmpOp} (hK : X.K = G.K) (hu : X.A.units + 65 < cLine) (hm : behindInMarks op b = false) (ha : PE X a (tE G W fa)) (hb : PE X b (tE G W fb)) :
    PE X (.Compare a [op] [b] pos) (tE G W fun env st => (fa env st).bnd fun x st1 => (fb env st1).bnd fun y st2 => R.opt ((cmpT st2 op x y).map .bl) st2) :=
  PE.imp (pe_cmpR (op_cmp hu op) ha hb hm) fun σ H Q h => by rw [hK]; exact cmp_imp h
theorem t_cmp {op : CmpOp} (hK : X.K = G.K) (hu : X.A.units + 65 < cLine) (hm : behindInMarks op b = false) (ha : PE X a (tE G W fa)) (hb : PE X b (tE G W fb)) :
    PT X (.Compare a [op] [b] pos) (tTest (tE G W fun env st => (fa env st).bnd fun x st1 => (fb env st1).bnd fun y st2 => R.opt ((cmpT st2 op x y).map .bl) st2)) :=
  PT.imp (pt_cmpR (op_cmp hu op) ha hb hm) fun σ H Q h => by rw [hK]; exact cmp_imp h
theorem isN_imp {n : Bool} {σ : L2.St} {H : Hp} {Q : VK} (h : tE G W (fun env st => (fa env st).bnd fun x st1 => .ok (.bl (isNn n x)) st1) σ H Q) : tE G W fa σ H fun x H1 => Q (.bl (if n then !decide (x = .non) else decide (x = .non))) H1 := by
  refine at1 h fun m env st t v H1 rs r q => ?_
  have e : isNn n t = (if n then !decide (v = .non) else decide (v = .non)) := by
    cases t with
    | non => cases (show v = _ from r); cases n <;> rfl
    | bl _ => cases (show v = _ from r); cases n <;> rfl
    | int _ => cases (show v = _ from r); cases n <;> rfl
    | str _ => cases (show v = _ from r); cases n <;> rfl
    | tup _ => obtain ⟨a, vs, rfl, _⟩ := r; cases n <;> rfl
    | lst _ => obtain ⟨a, vs, rfl, _⟩ := r; cases n <;> rfl
    | obj _ _ => obtain ⟨a, dx, fv, rfl, _⟩ := r; cases n <;> rfl
    | exc _ _ => exact (show False from r).elim
    | loc _ => obtain ⟨a, rfl, _⟩ := r; cases n <;> rfl
    | scr _ => obtain ⟨a, rfl, _⟩ := r; cases n <;> rfl
  rw [← e]
  exact Rn.give q rs rfl
theorem pe_isN {n : Bool} {j pos'} (ha : PE X a (tE G W fa)) : PE X (.Compare a [if n then .IsNot else .Is] [.Constant .none j pos'] pos) (tE G W fun env st => (fa env st).bnd fun x st1 => .ok (.bl (isNn n x)) st1) := by
  cases n with
  | false => exact PE.imp (pe_cmp (pc_isN ha) (by rfl)) fun σ H Q h => isN_imp h
  | true => exact PE.imp (pe_cmp (pc_notN ha) (by rfl)) fun σ H Q h => isN_imp h
theorem pt_isN {n : Bool} {j pos'} (ha : PE X a (tE G W fa)) : PT X (.Compare a [if n then .IsNot else .Is] [.Constant .none j pos'] pos) (tTest (tE G W fun env st => (fa env st).bnd fun x st1 => .ok (.bl (isNn n x)) st1)) := by
  cases n with
  | false => exact PT.imp (pt_cmp (pc_isN ha) (by rfl)) fun σ H Q h => isN_imp (n := false) h
  | true => exact PT.imp (pt_cmp (pc_notN ha) (by rfl)) fun σ H Q h => isN_imp (n := true) h
def fChain (o1 o2 : CmpOp) (fa fb fc : Env → Sto → R T) : Env → Sto → R T := fun env st => (fa env st).bnd fun x st1 => (fb env st1).bnd fun y st2 => (R.opt (cmpT st2 o1 x y) st2).bnd fun k st3 =>
      if k = true then (fc env st3).bnd fun z st4 => R.opt ((cmpT st4 o2 y z).map .bl) st4 else .ok (.bl false) st3
theorem chain_imp {o1 o2 : CmpOp} {σ : L2.St} {H : Hp} {Q : VK} (h : tE G W (fChain o1 o2 fa fb fc) σ H Q) : tChain (rCmp G.K o1) (rCmp G.K o2) (tE G W fa) (tE G W fb) (tE G W fc) σ H Q := by
  refine at2 h fun m env st t u v w H1 rs r1 r2 q => ?_
  cases e : cmpT st o1 t u with
  | none => rw [e] at q; exact q.elim
  | some k =>
    rw [e] at q
    refine cmp_ok rs.sto r1 r2 e ⟨k, rfl, ?_⟩
    have q : Rn G W σ env (Rp G) m H1 (if k = true then (fc env st).bnd fun z st4 => R.opt ((cmpT st4 o2 u z).map .bl) st4 else .ok (.bl false) st) (Kq Q) := q
    cases k with
    | false => exact Rn.give q rs rfl
    | true =>
      refine ⟨m, env, st, rs, (Rn.bnd q).imp fun z st' b H' m' rs' s r q2 => ?_⟩
      cases e2 : cmpT st' o2 u z with
      | none => rw [e2] at q2; exact q2.elim
      | some k2 =>
        rw [e2] at q2
        exact cmp_ok rs'.sto (Rp.mov s.toMov _ _ r2) r e2 (Rn.give (b := .bl k2) q2 rs' rfl)
theorem s_chain {o1 o2 : CmpOp} (hK : X.K = G.K) (hu : X.A.units + 65 < cLine) (hm : lastMarks [o1, o2] [b, c] = false) (ha : PE X a (tE G W fa)) (hb : PE X b (tE G W fb)) (hc : PE X c (tE G W fc)) :
    PE X (.Compare a [o1, o2] [b, c] pos) (tE G W (fChain o1 o2 fa fb fc)) := PE.imp (pe_chain (op_cmp hu o1) (op_cmp hu o2) ha hb hc hm) fun σ H Q h => by rw [hK]; exact chain_imp h
theorem t_chain {o1 o2 : CmpOp} (hK : X.K = G.K) (hu : X.A.units + 65 < cLine) (hm : lastMarks [o1, o2] [b, c] = false) (ha : PE X a (tE G W fa)) (hb : PE X b (tE G W fb)) (hc : PE X c (tE G W fc)) :
    PT X (.Compare a [o1, o2] [b, c] pos) (tTest (tE G W (fChain o1 o2 fa fb fc))) := PT.imp (pt_chain (op_cmp hu o1) (op_cmp hu o2) ha hb hc hm) fun σ H Q h => by rw [hK]; exact chain_imp h
/-! ### and, or, not, if -/
theorem asB {σ : L2.St} {H : Hp} {P : Bool → Hp → Prop} {g : Env → Bool → Sto → R T} {Q : VK}
    (h : At G W (Rp G) (fun env st => (fa env st).bnd fun x st1 => match x with
      | .bl b => g env b st1
      | _ => .bad) σ H (Kq Q))
    (k : ∀ m env st b H1, RS G m env st σ H1 → Rn G W σ env (Rp G) m H1 (g env b st) (Kq Q) → P b H1) : tE G W fa σ H fun x H1 => ∃ c, x = .bl c ∧ P c H1 := by
  refine at1 h fun m env st t v H1 rs r q => ?_
  cases t with
  | bl b => exact ⟨b, r, k m env st b H1 rs q⟩
  | _ => exact q.elim
def fNot (fa : Env → Sto → R T) : Env → Sto → R T := fun env st => (fa env st).bnd fun x st1 => match x with
    | .bl b => .ok (.bl (!b)) st1
    | _ => .bad
theorem s_not (ha : PE X a (tE G W fa)) : PE X (.UnaryOp .Not a pos) (tE G W (fNot fa)) :=
  PE.imp (pe_not ha) fun σ H Q h => asB (P := fun c H1 => Q (.bl (!c)) H1) h fun m env st b H1 rs q => Rn.give (b := .bl (!b)) q rs rfl
theorem t_not (ha : PT X a (tTest (tE G W fa))) : PT X (.UnaryOp .Not a pos) (tTest (tE G W (fNot fa))) :=
  PT.imp (pt_not ha) fun σ H Q h => asB (P := fun c H1 => Q (!c) H1) h fun m env st b H1 rs q => by
    obtain ⟨k, e, q⟩ := Rn.give (b := .bl (!b)) q rs rfl
    cases e
    exact q
/-- the second of two, as a bool -/
def fBl (fb : Env → Sto → R T) : Env → Sto → R T := fun env st => (fb env st).bnd fun y st2 => match y with
      | .bl c => .ok (.bl c) st2
      | _ => .bad
theorem fBl_imp {σ : L2.St} {H : Hp} {Q : VK} {m : Mm} {env : Env} {st : Sto} (rs : RS G m env st σ H) (q : Rn G W σ env (Rp G) m H (fBl fb env st) (Kq Q)) : tE G W fb σ H fun x H1 => ∃ c, x = .bl c ∧ Q x H1 := by
  refine ⟨m, env, st, rs, (Rn.bnd q).imp fun t st' v H' m' rs' _ r q => ?_⟩
  cases t with
  | bl c => exact ⟨c, r, by cases (show v = _ from r); exact Rn.give q rs' rfl⟩
  | _ => exact q.elim
theorem fBl_sub {σ : L2.St} {H : Hp} {Q : VK} {m : Mm} {env : Env} {st : Sto} (rs : RS G m env st σ H) (q : Rn G W σ env (Rp G) m H (fBl fb env st) (Kq Q)) : tE G W fb σ H Q := by
  obtain ⟨m', env', st', rs', q'⟩ := fBl_imp rs q
  exact ⟨m', env', st', rs', q'.imp fun _ _ _ _ _ _ _ _ z => z.choose_spec.2⟩
def fAnd (fa fb : Env → Sto → R T) : Env → Sto → R T := fun env st => (fa env st).bnd fun x st1 => match x with
    | .bl true => fBl fb env st1
    | .bl false => .ok (.bl false) st1
    | _ => .bad
def fOr (fa fb : Env → Sto → R T) : Env → Sto → R T := fun env st => (fa env st).bnd fun x st1 => match x with
    | .bl true => .ok (.bl true) st1
    | .bl false => fBl fb env st1
    | _ => .bad
def gAnd (fb : Env → Sto → R T) (env : Env) (b : Bool) (st : Sto) : R T := if b = true then fBl fb env st else .ok (.bl false) st
def gOr (fb : Env → Sto → R T) (env : Env) (b : Bool) (st : Sto) : R T := if b = true then .ok (.bl true) st else fBl fb env st
theorem fAnd_eq : fAnd fa fb = fun env st => (fa env st).bnd fun x st1 => match x with
      | .bl b => gAnd fb env b st1
      | _ => .bad := by
  funext env st
  unfold fAnd
  congr 1
  funext x st1
  cases x with
  | bl b => cases b <;> rfl
  | _ => rfl
theorem fOr_eq : fOr fa fb = fun env st => (fa env st).bnd fun x st1 => match x with
      | .bl b => gOr fb env b st1
      | _ => .bad := by
  funext env st
  unfold fOr
  congr 1
  funext x st1
  cases x with
  | bl b => cases b <;> rfl
  | _ => rfl
theorem and_imp {σ : L2.St} {H : Hp} {Q : VK} (h : tE G W (fAnd fa fb) σ H Q) : tAndV (tE G W fa) (tE G W fb) σ H Q := by
  rw [fAnd_eq] at h
  refine asB (P := fun c H1 => if c = true then tE G W fb σ H1 Q else Q (.bl false) H1) h fun m env st b H1 rs q => ?_
  cases b with
  | true => exact fBl_sub rs q
  | false => exact Rn.give q rs rfl
theorem and_impT {σ : L2.St} {H : Hp} {Q : Bool → Hp → Prop} (h : tTest (tE G W (fAnd fa fb)) σ H Q) : tAnd (tTest (tE G W fa)) (tTest (tE G W fb)) σ H Q := by
  have h : tE G W (fAnd fa fb) σ H fun x H' => ∃ k, x = .bl k ∧ Q k H' := h
  rw [fAnd_eq] at h
  refine asB (P := fun c H1 => if c = true then tTest (tE G W fb) σ H1 Q else Q false H1) h fun m env st b H1 rs q => ?_
  cases b with
  | true => exact fBl_sub rs q
  | false =>
    obtain ⟨k, e, z⟩ := Rn.give (b := .bl false) q rs rfl
    cases e
    exact z
theorem or_imp {σ : L2.St} {H : Hp} {Q : VK} (h : tE G W (fOr fa fb) σ H Q) : tOrV (tE G W fa) (tE G W fb) σ H Q := by
  rw [fOr_eq] at h
  refine asB (P := fun c H1 => if c = true then Q (.bl true) H1 else tE G W fb σ H1 Q) h fun m env st b H1 rs q => ?_
  cases b with
  | false => exact fBl_sub rs q
  | true => exact Rn.give q rs rfl
theorem or_impT {σ : L2.St} {H : Hp} {Q : Bool → Hp → Prop} (h : tTest (tE G W (fOr fa fb)) σ H Q) : tOr (tTest (tE G W fa)) (tTest (tE G W fb)) σ H Q := by
  have h : tE G W (fOr fa fb) σ H fun x H' => ∃ k, x = .bl k ∧ Q k H' := h
  rw [fOr_eq] at h
  refine asB (P := fun c H1 => if c = true then Q true H1 else tTest (tE G W fb) σ H1 Q) h fun m env st b H1 rs q => ?_
  cases b with
  | false => exact fBl_sub rs q
  | true =>
    obtain ⟨k, e, z⟩ := Rn.give (b := .bl true) q rs rfl
    cases e
    exact z
def fIte (fc fa fb : Env → Sto → R T) : Env → Sto → R T := fun env st => (fc env st).bnd fun x st1 => match x with
    | .bl true => fa env st1
    | .bl false => fb env st1
    | _ => .bad
theorem ite_imp {σ : L2.St} {H : Hp} {Q : VK} (h : tE G W (fIte fc fa fb) σ H Q) : tIf (tTest (tE G W fc)) (tE G W fa) (tE G W fb) σ H Q := by
  show tE G W fc σ H fun x H1 => ∃ c, x = .bl c ∧ if c = true then tE G W fa σ H1 Q else tE G W fb σ H1 Q
  refine at1 (g := fun env x st1 => match x with
    | .bl true => fa env st1
    | .bl false => fb env st1
    | _ => .bad) h fun m env st t v H1 rs r q => ?_
  cases t with
  | bl b =>
    refine ⟨b, r, ?_⟩
    cases b with
    | true => exact ⟨m, env, st, rs, q⟩
    | false => exact ⟨m, env, st, rs, q⟩
  | _ => exact q.elim
theorem s_ite (hc : PT X c (tTest (tE G W fc))) (ha : PE X a (tE G W fa)) (hb : PE X b (tE G W fb)) : PE X (.IfExp c a b pos) (tE G W (fIte fc fa fb)) := PE.imp (pe_ifExp hc ha hb) fun σ H Q h => ite_imp h
end
end Eg
set_option Elab.async false
set_option linter.all false
set_option maxRecDepth 100000
set_option maxHeartbeats 2000000
/-! The engine, part five: names, displays, subscripts, built-in functions, new lists. -/
namespace Eg
open PySem PySem.Spec PyProof.Rows L2
/-- what makes a new list, told by its items ahead of the list's own laying -/
def tL (G : Gh) (W : WX) (f : Env → Sto → R (List T)) : TE := fun σ H Q => ∃ m env st, RS G m env st σ H ∧ Rn G W σ env (Rps G) m H (f env st) (fun _ _ vs H' _ => ∀ p, H' p = none → Q (.ref p) (upd H' p (.lst vs)))
section
variable {X : Cx} {G : Gh} {W : WX} {fa fb fc : Env → Sto → R T} {fs : Env → Sto → R (List T)} {fl fh : Env → Sto → R (Option Int)} {a b c : Expr} {es : List Expr} {pos : Pos} {m : Mm} {H : Hp} {σ : L2.St} {env : Env} {st : Sto} {Q : VK}
/-! ### names, constants -/
theorem s_v {i : Nat} {x : Str} (hN : X.N[i]? = some x) (hv : Vis X.env.scope x) (hd : (x == ("__debug__" : Str)) = false) (hcd : (x == ("__classdict__" : Str)) = false) :
    PE X (.Name x pos) (tE G W (evV i)) := by
  refine PE.imp (pe_var hN hv hd hcd) fun σ H Q h => ?_
  obtain ⟨m, env, st, rs, h⟩ := h
  unfold evV at h
  cases e : env[i]? with
  | none => rw [e] at h; exact h.elim
  | some o =>
    cases o with
    | none => rw [e] at h; exact h.elim
    | some t =>
      rw [e] at h
      obtain ⟨v, e2, r⟩ := rs.env.2 i t e
      exact ⟨v, e2, Rn.give h rs r⟩
def kT : T → Option V
  | .non => some .non
  | .bl b => some (.bl b)
  | .int i => some (.int i)
  | .str x => some (.str x)
  | _ => none
theorem kT_rp {t : T} {v : V} (h : kT t = some v) : Rp G m H t v := by
  cases t <;> first | (cases h; done) | (cases (show some _ = some v from h); rfl)
theorem s_k {t : T} {v : V} {e : Expr} (h : kT t = some v) (he : PE X e (tC v)) : PE X e (tE G W fun _ st => .ok t st) :=
  PE.imp he fun σ H Q ⟨m, env, st, rs, q⟩ => Rn.give q rs (kT_rp h)
/-! ### tuples -/
theorem s_nil : PA X [] (tA G W fun _ st => .ok [] st) := PA.imp pa_nil fun σ H Q ⟨m, env, st, rs, q⟩ => Rn.here (b := []) q rs rfl
theorem s_cons {e : Expr} (ha : PE X e (tE G W fa)) (hr : PA X es (tA G W fs)) (hs : starEach (e :: es) X.env = (false, eval e X.env) :: starEach es X.env) :
    PA X (e :: es) (tA G W fun env st => (fa env st).bnd fun x st1 => (fs env st1).bnd fun xs st2 => .ok (x :: xs) st2) := by
  refine PA.imp (pa_cons ha hr hs) fun σ H Q h => ?_
  show tE G W fa σ H fun x H1 => tA G W fs σ H1 fun xs H2 => Q (x :: xs) H2
  obtain ⟨m, env, st, rs, h⟩ := h
  refine ⟨m, env, st, rs, (Rn.bnd h).imp fun t st' v H' m' rs' _ r q => ⟨m', env, st', rs', (Rn.bnd q).imp fun ts st2 vs H2 m2 rs2 s2 r2 q2 => ?_⟩⟩
  exact Rn.here q2 rs2 ⟨v, vs, rfl, Rp.mov s2.toMov _ _ r, r2⟩
theorem s_tup {k : Nat} (h : PA X es (tA G W fs)) : PE X (.Tuple es k pos) (tE G W fun env st => (fs env st).bnd fun xs st1 => if xs.length ≤ lim then .ok (.tup xs) st1 else .bad) := by
  refine PE.imp (pe_tup h) fun σ H Q h => ?_
  refine atA h fun m env st ts vs H1 rs r q => ?_
  by_cases hl : ts.length ≤ lim
  · rw [if_pos hl] at q
    exact ⟨by rw [← r.length, ← lim_eq]; exact hl, fun p hp => Rn.tup q rs r hp⟩
  · rw [if_neg hl] at q; exact q.elim
/-! ### subscripts -/
def rIxE (K : PySem.W.Frag) : R2 := rIx K
theorem ix_ok {t u : T} {v w : V} {r : T} (s : RSto G m H st) (r1 : Rp G m H t v) (r2 : Rp G m H u w) (e : ixT st t u = some r) (q : ∀ b, Rp G m H r b → Q b H) : rIx G.K v w H Q := by
  cases u with
  | int i =>
    cases (show w = _ from r2)
    by_cases c : ∃ x, t = .str x
    · obtain ⟨x, rfl⟩ := c
      cases (show v = _ from r1)
      have e : (if x.length ≤ lim then (atI x.cps.toList i).map fun c => T.str ⟨#[c]⟩ else none) = some r := e
      by_cases hl : x.length ≤ lim
      · rw [if_pos hl] at e
        cases e2 : atI x.cps.toList i with
        | none => rw [e2] at e; cases e
        | some c =>
          rw [e2] at e
          cases (show some (T.str ⟨#[c]⟩) = some r from e)
          exact .inr (.inr ⟨x, i, c, rfl, rfl, lim_eq ▸ hl, e2, q _ rfl⟩)
      · rw [if_neg hl] at e; cases e
    · have e : (match seqOf st t with
        | some xs => atI xs i
        | none => none) = some r := by
        unfold ixT at e
        split at e
        · exact (c ⟨_, rfl⟩).elim
        · rename_i h1; cases h1; exact e
        · cases e
      cases e1 : seqOf st t with
      | none => rw [e1] at e; cases e
      | some xs =>
        rw [e1] at e
        have e : atI xs i = some r := e
        obtain ⟨a, vs, rfl, hs, rq⟩ := Rp.seq s r1 e1
        have hb : ∃ b, atI vs i = some b ∧ Rp G m H r b := by
          unfold atI at e ⊢
          rw [← rq.length]
          cases e3 : ixN xs.length i with
          | none => rw [e3] at e; cases e
          | some j =>
            rw [e3] at e
            obtain ⟨b, h1, h2⟩ := rq.get (show xs[j]? = some r from e)
            exact ⟨b, h1, h2⟩
        obtain ⟨b, h1, h2⟩ := hb
        rcases hs with hs | hs
        · exact .inl ⟨a, vs, i, b, rfl, rfl, hs, h1, q b h2⟩
        · exact .inr (.inl ⟨a, vs, i, b, rfl, rfl, hs, h1, q b h2⟩)
  | _ => cases t <;> cases e
theorem s_ix (hK : X.K = G.K) (hp : PlainIx b) (ha : PE X a (tE G W fa)) (hb : PE X b (tE G W fb)) :
    PE X (.Subscript a b pos) (tE G W fun env st => (fa env st).bnd fun x st1 => (fb env st1).bnd fun y st2 => R.opt (ixT st2 x y) st2) := by
  refine PE.imp (pe_ix (r := rIx X.K) ix_seq ha hb hp) fun σ H Q h => ?_
  refine at2 h fun m env st t u v w H1 rs r1 r2 q => ?_
  cases e : ixT st t u with
  | none => rw [e] at q; exact q.elim
  | some r =>
    rw [e] at q
    rw [hK]
    exact ix_ok rs.sto r1 r2 e fun b hb => Rn.give q rs hb
/-! ### slices -/
theorem p_none : PO X none (tP G W fun _ st => .ok none st) := PO.imp po_none fun σ H Q ⟨m, env, st, rs, q⟩ => Rn.here (b := none) q rs rfl
theorem p_some {e : Expr} (h : PE X e (tE G W fa)) : PO X (some e) (tP G W fun env st => (fa env st).bnd fun x st1 => match x with
    | .int i => .ok (some i) st1
    | _ => .bad) := by
  refine PO.imp (po_some h) fun σ H Q h => ?_
  show tE G W fa σ H fun x H1 => ∃ i, x = .int i ∧ Q (some i) H1
  refine at1 h fun m env st t v H1 rs r q => ?_
  cases t with
  | int i => exact ⟨i, r, Rn.here (b := some i) q rs rfl⟩
  | _ => exact q.elim
theorem at_sl {A B : Type} {rel : Mm → Hp → A → B → Prop} {g : Env → T → Option Int → Option Int → Sto → R A} {K : A → Sto → B → Hp → Mm → Prop} {P : V → Option Int → Option Int → Hp → Prop}
    (h : At G W rel (fun env st => (fa env st).bnd fun x st1 => (fl env st1).bnd fun l st2 => (fh env st2).bnd fun u st3 => g env x l u st3) σ H K)
    (k : ∀ m env st t v l u H1, RS G m env st σ H1 → Rp G m H1 t v → Rn G W σ env rel m H1 (g env t l u st) K → P v l u H1) :
    tE G W fa σ H fun x H1 => tP G W fl σ H1 fun l H2 => tP G W fh σ H2 fun u H3 => P x l u H3 := by
  obtain ⟨m, env, st, rs, h⟩ := h
  refine ⟨m, env, st, rs, (Rn.bnd h).imp fun t st' v H' m' rs' _ r q => ⟨m', env, st', rs', (Rn.bnd q).imp fun l st2 l' H2 m2 rs2 s2 r2 q2 => ⟨m2, env, st2, rs2, (Rn.bnd q2).imp fun u st3 u' H3 m3 rs3 s3 r3 q3 => ?_⟩⟩⟩
  subst r2 r3
  exact k m3 env st3 t v l' u' H3 rs3 (Rp.mov (s2.trans s3).toMov _ _ r) q3
theorem s_sl {lo hi : Option Expr} {p2 : Pos} (hK : X.K = G.K) (ha : PE X a (tE G W fa)) (hl : PO X lo (tP G W fl)) (hh : PO X hi (tP G W fh)) :
    PE X (.Subscript a (.Slice lo hi none p2) pos) (tE G W fun env st => (fa env st).bnd fun x st1 => (fl env st1).bnd fun l st2 => (fh env st2).bnd fun u st3 => match x with
      | .tup xs => .ok (.tup (cut xs l u)) st3
      | _ => .bad) := by
  refine PE.imp (pe_slice (r := rSlA X.K) sl_tupA ha hl hh) fun σ H Q h => ?_
  refine at_sl h fun m env st t v l u H1 rs r q => ?_
  cases t with
  | tup xs =>
    obtain ⟨p, vs, rfl, hp, rq⟩ := r
    refine ⟨p, vs, rfl, .inl (.inl hp.2), fun hw => ?_, fun hw n hn => ?_⟩
    · refine Rn.give q rs ⟨p, vs, rfl, hp, ?_⟩
      have := rq.cut l u
      have e : cutV vs l u = vs := by
        unfold cutV
        rw [hw.1, hw.2]
        simp
      rw [e] at this
      exact this
    · exact Rn.tup q rs (rq.cut l u) hn
  | _ => exact q.elim
/-! ### built-in functions -/
theorem maxI_spec : ∀ {ns : List Int}, ns ≠ [] → maxI ns ∈ ns ∧ ∀ y, y ∈ ns → y ≤ maxI ns
  | [], h => absurd rfl h
  | [a], _ => ⟨by simp [maxI], fun y hy => by simp at hy; simp [maxI, hy]⟩
  | a :: b :: r, _ => by
    obtain ⟨h1, h2⟩ := maxI_spec (ns := b :: r) (by simp)
    simp only [maxI]
    refine ⟨?_, fun y hy => ?_⟩
    · by_cases c : a ≤ maxI (b :: r)
      · rw [Int.max_eq_right c]; exact List.mem_cons_of_mem _ h1
      · rw [Int.max_eq_left (by omega)]; exact List.mem_cons_self
    · rcases List.mem_cons.mp hy with e | e
      · subst e; exact Int.le_max_left _ _
      · exact Int.le_trans (h2 y e) (Int.le_max_right _ _)
theorem minI_spec : ∀ {ns : List Int}, ns ≠ [] → minI ns ∈ ns ∧ ∀ y, y ∈ ns → minI ns ≤ y
  | [], h => absurd rfl h
  | [a], _ => ⟨by simp [minI], fun y hy => by simp at hy; simp [minI, hy]⟩
  | a :: b :: r, _ => by
    obtain ⟨h1, h2⟩ := minI_spec (ns := b :: r) (by simp)
    simp only [minI]
    refine ⟨?_, fun y hy => ?_⟩
    · by_cases c : a ≤ minI (b :: r)
      · rw [Int.min_eq_left c]; exact List.mem_cons_self
      · rw [Int.min_eq_right (by omega)]; exact List.mem_cons_of_mem _ h1
    · rcases List.mem_cons.mp hy with e | e
      · subst e; exact Int.min_le_left _ _
      · exact Int.le_trans (Int.min_le_right _ _) (h2 y e)
def biName : Bi → Str
  | .len => "len" | .sum => "sum" | .max => "max" | .min => "min" | .abs => "abs" | .int => "int" | .tuple => "tuple" | .all => "all" | .any => "any" | .divmod => "divmod"
def biVal : Bi → Value
  | .int => .type "int" | .tuple => .type "tuple"
  | .len => .builtin "len" | .sum => .builtin "sum" | .max => .builtin "max" | .min => .builtin "min" | .abs => .builtin "abs" | .all => .builtin "all" | .any => .builtin "any" | .divmod => .builtin "divmod"
def rBi (K : PySem.W.Frag) : Bi → List V → Hp → VK → Prop
  | .len => fun xs H Q => (∃ p ys, xs = [.ref p] ∧ (SqL K H p ys ∨ SqT K H p ys) ∧ Q (.int ys.length) H) ∨ (∃ z, xs = [.str z] ∧ z.length ≤ sizeLine ∧ Q (.int z.length) H)
  | .sum => rSum K
  | .max => fun xs H Q => rMax K xs H Q ∨ ∃ i j, xs = [.int i, .int j] ∧ Q (.int (if j > i then j else i)) H
  | .min => fun xs H Q => rMin K xs H Q ∨ ∃ i j, xs = [.int i, .int j] ∧ Q (.int (if j < i then j else i)) H
  | .abs => fun xs H Q => ∃ i, xs = [.int i] ∧ Q (.int (if i < 0 then -i else i)) H
  | .int => fun xs H Q => (∃ i, xs = [.int i] ∧ Q (.int i) H) ∨ ∃ k, xs = [.bl k] ∧ Q (.int (if k then 1 else 0)) H
  | .tuple => fun xs H Q => ∃ p ys, xs = [.ref p] ∧ ((SqL K H p ys ∧ ∀ l, H l = none → Q (.ref l) (upd H l (.tup ys))) ∨ (SqT K H p ys ∧ Q (.ref p) H))
  | .all => rAll K
  | .any => rAny K
  | .divmod => fun xs H Q => ∃ i j, xs = [.int i, .int j] ∧ CDivP i j ∧ ∀ p, H p = none → Q (.ref p) (upd H p (.tup [.int (i / j), .int (i % j)]))
theorem call_bi (hc : X.calm = true) : ∀ b, CallR X (biVal b) (rBi X.K b)
  | .len => CallR.or call_len_seq call_len_str
  | .sum => cr_sum hc
  | .max => CallR.or (cr_max hc) (call_max2 hc)
  | .min => CallR.or (cr_min hc) (call_min2 hc)
  | .abs => call_abs
  | .int => call_int1
  | .tuple => call_tuple_of
  | .all => cr_all hc
  | .any => cr_any hc
  | .divmod => call_divmodW
theorem divp {i j : Int} (h : DivOk j) : CDivP i j := ⟨h.1, PyProof.noPylong_of_log2 h.2⟩
theorem one_of {ts : List T} {vs : List V} {t : T} (r : Rps G m H [t] vs) : ∃ v, vs = [v] ∧ Rp G m H t v := by
  obtain ⟨v, r, e, h, q⟩ := r
  cases (show _ = _ from q)
  exact ⟨v, e, h⟩
theorem two_of {vs : List V} {t u : T} (r : Rps G m H [t, u] vs) : ∃ v w, vs = [v, w] ∧ Rp G m H t v ∧ Rp G m H u w := by
  obtain ⟨v, r, e, h, w, r2, e2, h2, q⟩ := r
  cases (show _ = _ from q)
  subst e2
  exact ⟨v, w, e, h, h2⟩
theorem lstI {t : T} {v : V} {ns : List Int} (s : RSto G m H st) (r : Rp G m H t v) (e : (lstOf st t).bind intsOf = some ns) : ∃ a, v = .ref a ∧ SqL G.K H a (ns.map V.int) := by
  cases e1 : lstOf st t with
  | none => rw [e1] at e; cases e
  | some xs =>
    rw [e1] at e
    obtain ⟨a, vs, rfl, hs, rq⟩ := Rp.lst s r e1
    exact ⟨a, rfl, by rw [← rq.ints (show intsOf xs = some ns from e)]; exact hs⟩
theorem lstB {t : T} {v : V} {ns : List Bool} (s : RSto G m H st) (r : Rp G m H t v) (e : (lstOf st t).bind blsOf = some ns) : ∃ a, v = .ref a ∧ SqL G.K H a (ns.map V.bl) := by
  cases e1 : lstOf st t with
  | none => rw [e1] at e; cases e
  | some xs =>
    rw [e1] at e
    obtain ⟨a, vs, rfl, hs, rq⟩ := Rp.lst s r e1
    exact ⟨a, rfl, by rw [← rq.bls (show blsOf xs = some ns from e)]; exact hs⟩
theorem bi_ok {b : Bi} {ts : List T} {vs : List V} (rs : RS G m env st σ H) (r : Rps G m H ts vs) (q : Rn G W σ env (Rp G) m H (R.opt (biT st b ts) st) (Kq Q)) : rBi G.K b vs H Q := by
  have s := rs.sto
  unfold biT at q
  split at q
  · -- len of a text
    rename_i x
    obtain ⟨v, rfl, h⟩ := one_of (ts := []) r
    cases (show v = _ from h)
    obtain ⟨c, q⟩ := if_some q
    exact .inr ⟨x, rfl, lim_eq ▸ c, Rn.give (b := .int x.length) q rs rfl⟩
  · rename_i a _
    obtain ⟨v, rfl, h⟩ := one_of (ts := []) r
    cases e : seqOf st a with
    | none => rw [e] at q; exact q.elim
    | some xs =>
      rw [e] at q
      obtain ⟨p, ys, rfl, hs, rq⟩ := Rp.seq s h e
      have q := Rn.give (b := .int xs.length) q rs rfl
      rw [rq.length] at q
      exact .inl ⟨p, ys, rfl, hs, q⟩
  · rename_i a
    obtain ⟨v, rfl, h⟩ := one_of (ts := []) r
    cases e : (lstOf st a).bind intsOf with
    | none => rw [e] at q; exact q.elim
    | some ns =>
      rw [e] at q
      obtain ⟨p, rfl, hs⟩ := lstI s h e
      exact ⟨p, ns, rfl, hs, Rn.give (b := .int ns.sum) q rs rfl⟩
  · rename_i a
    obtain ⟨v, rfl, h⟩ := one_of (ts := []) r
    cases e : (lstOf st a).bind intsOf with
    | none => rw [e] at q; exact q.elim
    | some ns =>
      rw [e] at q
      have q : Rn G W σ env (Rp G) m H (R.opt (if ns = [] then none else some (T.int (maxI ns))) st) (Kq Q) := q
      by_cases hn : ns = []
      · rw [if_pos hn] at q; exact q.elim
      · rw [if_neg hn] at q
        obtain ⟨p, rfl, hs⟩ := lstI s h e
        obtain ⟨h1, h2⟩ := maxI_spec hn
        refine .inl ⟨p, ns, rfl, hs, List.length_pos_iff.mpr hn, fun k hk hm => ?_⟩
        have : k = maxI ns := Int.le_antisymm (h2 k hk) (hm _ h1)
        subst this
        exact Rn.give q rs rfl
  · rename_i a
    obtain ⟨v, rfl, h⟩ := one_of (ts := []) r
    cases e : (lstOf st a).bind intsOf with
    | none => rw [e] at q; exact q.elim
    | some ns =>
      rw [e] at q
      have q : Rn G W σ env (Rp G) m H (R.opt (if ns = [] then none else some (T.int (minI ns))) st) (Kq Q) := q
      by_cases hn : ns = []
      · rw [if_pos hn] at q; exact q.elim
      · rw [if_neg hn] at q
        obtain ⟨p, rfl, hs⟩ := lstI s h e
        obtain ⟨h1, h2⟩ := minI_spec hn
        refine .inl ⟨p, ns, rfl, hs, List.length_pos_iff.mpr hn, fun k hk hm => ?_⟩
        have : k = minI ns := Int.le_antisymm (hm _ h1) (h2 k hk)
        subst this
        exact Rn.give q rs rfl
  · rename_i i j
    obtain ⟨v, w, rfl, h1, h2⟩ := two_of r
    cases (show v = _ from h1); cases (show w = _ from h2)
    exact .inr ⟨i, j, rfl, Rn.give (b := .int (if j > i then j else i)) q rs rfl⟩
  · rename_i i j
    obtain ⟨v, w, rfl, h1, h2⟩ := two_of r
    cases (show v = _ from h1); cases (show w = _ from h2)
    exact .inr ⟨i, j, rfl, Rn.give (b := .int (if j < i then j else i)) q rs rfl⟩
  · rename_i i
    obtain ⟨v, rfl, h⟩ := one_of (ts := []) r
    cases (show v = _ from h)
    exact ⟨i, rfl, Rn.give (b := .int (if i < 0 then -i else i)) q rs rfl⟩
  · rename_i i
    obtain ⟨v, rfl, h⟩ := one_of (ts := []) r
    cases (show v = _ from h)
    exact .inl ⟨i, rfl, Rn.give (b := .int i) q rs rfl⟩
  · rename_i k
    obtain ⟨v, rfl, h⟩ := one_of (ts := []) r
    cases (show v = _ from h)
    exact .inr ⟨k, rfl, Rn.give (b := .int (if k then 1 else 0)) q rs rfl⟩
  · rename_i a
    obtain ⟨v, rfl, h⟩ := one_of (ts := []) r
    cases e : seqOf st a with
    | none => rw [e] at q; exact q.elim
    | some xs =>
      rw [e] at q
      have q : Rn G W σ env (Rp G) m H (.ok (.tup xs) st) (Kq Q) := q
      by_cases c : ∃ ys, a = .tup ys
      · obtain ⟨ys, rfl⟩ := c
        cases (show some ys = some xs from e)
        obtain ⟨p, vs, rfl, hp, rq⟩ := h
        exact ⟨p, vs, rfl, .inr ⟨.inl (.inl hp.2), Rn.give q rs ⟨p, vs, rfl, hp, rq⟩⟩⟩
      · have e' : lstOf st a = some xs := by
          cases a with
          | tup ys => exact (c ⟨ys, rfl⟩).elim
          | _ => exact e
        obtain ⟨p, vs, rfl, hs, rq⟩ := Rp.lst s h e'
        exact ⟨p, vs, rfl, .inl ⟨hs, fun l hl => Rn.tup q rs rq hl⟩⟩
  · rename_i a
    obtain ⟨v, rfl, h⟩ := one_of (ts := []) r
    cases e : (lstOf st a).bind blsOf with
    | none => rw [e] at q; exact q.elim
    | some ns =>
      rw [e] at q
      obtain ⟨p, rfl, hs⟩ := lstB s h e
      exact ⟨p, ns, rfl, hs, Rn.give (b := .bl (ns.all id)) q rs rfl⟩
  · rename_i a
    obtain ⟨v, rfl, h⟩ := one_of (ts := []) r
    cases e : (lstOf st a).bind blsOf with
    | none => rw [e] at q; exact q.elim
    | some ns =>
      rw [e] at q
      obtain ⟨p, rfl, hs⟩ := lstB s h e
      exact ⟨p, ns, rfl, hs, Rn.give (b := .bl (ns.any id)) q rs rfl⟩
  · rename_i i j
    obtain ⟨v, w, rfl, h1, h2⟩ := two_of r
    cases (show v = _ from h1); cases (show w = _ from h2)
    obtain ⟨c, q⟩ := if_some q
    exact ⟨i, j, rfl, divp c, fun p hp => Rn.tup q rs ⟨_, _, rfl, rfl, _, _, rfl, rfl, rfl⟩ hp⟩
  · exact q.elim
theorem bi_boot : ∀ b, bootBuiltins (biName b) = some (biVal b)
  | .len => by decide +kernel | .sum => by decide +kernel | .max => by decide +kernel | .min => by decide +kernel | .abs => by decide +kernel | .int => by decide +kernel
  | .tuple => by decide +kernel | .all => by decide +kernel | .any => by decide +kernel | .divmod => by decide +kernel
theorem bi_nm : ∀ b, biName b ≠ "__name__"
  | .len => by decide | .sum => by decide | .max => by decide | .min => by decide | .abs => by decide | .int => by decide | .tuple => by decide | .all => by decide | .any => by decide | .divmod => by decide
theorem bi_db : ∀ b, (biName b == ("__debug__" : Str)) = false
  | .len => by decide | .sum => by decide | .max => by decide | .min => by decide | .abs => by decide | .int => by decide | .tuple => by decide | .all => by decide | .any => by decide | .divmod => by decide
theorem pl_of {e : Expr} {pos : Pos} (hpl : (starEach es X.env).all (fun x => !x.1) = true) : (backTo pos (starEach es X.env)).any (·.1) = false := by
  unfold backTo
  rw [List.any_map]
  rw [List.any_eq_false]
  intro x hx
  have := List.all_eq_true.mp hpl x hx
  simpa using this
theorem s_bi {b : Bi} {e : Expr} {p : Pos} (hK : X.K = G.K) (hc : X.calm = true) (hg : Gl X (biName b)) (hm : X.mg (biName b) = none) (ha : PA X (e :: es) (tA G W fs))
    (he : starEach (e :: es) X.env = (false, eval e X.env) :: starEach es X.env) (hpl : (starEach es X.env).all (fun x => !x.1) = true) :
    PE X (.Call (.Name (biName b) p) (e :: es) [] pos) (tE G W fun env st => (fs env st).bnd fun xs st1 => R.opt (biT st1 b xs) st1) := by
  have go : ∀ σ H Q, tE G W (fun env st => (fs env st).bnd fun xs st1 => R.opt (biT st1 b xs) st1) σ H Q → tCB (rBi X.K b) (tA G W fs) σ H Q := fun σ H Q h => by
    refine atA h fun m env st ts vs H1 rs r q => ?_
    rw [hK]
    exact bi_ok rs r q
  have hn := bi_nm b
  have hd := bi_db b
  have hv := bi_boot b
  have hp := pl_of (e := e) (pos := pos) hpl
  cases b with
  | int => exact PE.imp (pe_callTy (call_bi hc .int) hg hm hv ha hn hd he hp) go
  | tuple => exact PE.imp (pe_callTy (call_bi hc .tuple) hg hm hv ha hn hd he hp) go
  | len => exact PE.imp (pe_callB (call_bi hc .len) hg hm hv ha hn hd he hp) go
  | sum => exact PE.imp (pe_callB (call_bi hc .sum) hg hm hv ha hn hd he hp) go
  | max => exact PE.imp (pe_callB (call_bi hc .max) hg hm hv ha hn hd he hp) go
  | min => exact PE.imp (pe_callB (call_bi hc .min) hg hm hv ha hn hd he hp) go
  | abs => exact PE.imp (pe_callB (call_bi hc .abs) hg hm hv ha hn hd he hp) go
  | all => exact PE.imp (pe_callB (call_bi hc .all) hg hm hv ha hn hd he hp) go
  | any => exact PE.imp (pe_callB (call_bi hc .any) hg hm hv ha hn hd he hp) go
  | divmod => exact PE.imp (pe_callB (call_bi hc .divmod) hg hm hv ha hn hd he hp) go
end
end Eg
set_option Elab.async false
set_option linter.all false
set_option maxRecDepth 100000
set_option maxHeartbeats 2000000
/-! The engine, part six: what is walked: lists and tuples alone, numbered, in pairs. -/
namespace Eg
open PySem PySem.Spec PyProof.Rows L2
/-- a list or a tuple -/
inductive Sk where
  | l | t
def sAt (K : PySem.W.Frag) : Sk → Hp → Addr → List V → Prop
  | .l, H, a, xs => SqL K H a xs
  | .t, H, a, xs => SqT K H a xs
def sIt : Sk → Heap → Addr → Addr → Nat → Prop
  | .l, h, it, a, i => h.IsListIter it a i
  | .t, h, it, a, i => h.IsTupleIter it a i
def sIs : Sk → Heap → Addr → Array Value → Prop
  | .l, h, a, xs => h.IsList a xs
  | .t, h, a, xs => h.IsTuple a xs
def sOb (a : Addr) : Sk → Obj
  | .l => { cls := .type "list_iterator", data := .fields #[.ref a, .int 0 0] }
  | .t => { cls := .type "tuple_iterator", data := .fields #[.ref a, .int 0 0] }
section
variable {X : Cx} {pins : List (Addr × Obj)} {σ : L2.St} {H : Hp} {s : Shared} {a b it : Addr} {xs ys : List V} {h h' : Heap} {i : Nat}
theorem src_vals {k : Sk} (I : Inv X pins σ H s) (hs : sAt X.K k H a xs) : ∃ its : List Value, Vals xs its ∧ sIs k s.heap a its.toArray := by
  cases k with
  | l => obtain ⟨its, r, p, _⟩ := I.list hs; exact ⟨its, r, p.isList⟩
  | t => obtain ⟨its, r, p, _⟩ := I.tuple hs; exact ⟨its, r, p⟩
theorem src_inj {k : Sk} (I : Inv X pins σ H s) (h1 : sAt X.K k H a xs) (h2 : sAt X.K k H a ys) : xs = ys := by
  cases k with
  | l => exact I.list_inj h1 h2
  | t => exact I.tuple_inj h1 h2
theorem sIt_keep {k : Sk} (x : sIt k h it a i) (hk : ∀ o, h.get? it = some o → h'.get? it = some o) : sIt k h' it a i := by
  cases k with
  | l => exact Heap.IsListIter.at x hk
  | t => exact Heap.IsTupleIter.at x hk
theorem sIt_obj {k : Sk} (x : sIt k h it a i) : ∃ o, h.get? it = some o ∧ ∀ v, o.data ≠ .cell v := by
  cases k with
  | l => obtain ⟨o, e, _, d⟩ := x; exact ⟨o, e, fun v q => by rw [d] at q; cases q⟩
  | t => obtain ⟨o, e, _, d⟩ := x; exact ⟨o, e, fun v q => by rw [d] at q; cases q⟩
theorem src_ob {k : Sk} {its : Array Value} {o : Obj} {n : String} (hs : sIs k h a its) (e : h.get? a = some o) (hc : o.cls = .type n) (hl : n ≠ "list") (ht : n ≠ "tuple") : False := by
  cases k with
  | l =>
    obtain ⟨o1, e1, c1, _⟩ := hs
    rw [e] at e1; cases e1
    rw [c1] at hc
    exact hl (Value.type.inj hc).symm
  | t =>
    obtain ⟨o1, e1, c1, _⟩ := hs
    rw [e] at e1; cases e1
    rw [c1] at hc
    exact ht (Value.type.inj hc).symm
theorem src_ne {k k' : Sk} {its : Array Value} (hs : sIs k h a its) (hi : sIt k' h it b i) : a ≠ it := fun z => by
  subst z
  cases k' with
  | l =>
    obtain ⟨o2, e2, c2, _⟩ := hi
    exact src_ob hs e2 c2 (by decide) (by decide)
  | t =>
    obtain ⟨o2, e2, c2, _⟩ := hi
    exact src_ob hs e2 c2 (by decide) (by decide)
theorem src_draws {prog : Program} {w : World} {A : Around} {k : Sk} (hh : A.handled = none) (hne : a ≠ it) (its : Array Value) :
    Draws prog w A it [it, a] its.size (fun i v => its[i]? = some v) (fun i h => sIt k h it a i ∧ sIs k h a its) := by
  cases k with
  | l => exact Draws.list hh it a hne its
  | t => exact Draws.tuple hh it a hne its
theorem src_begins (k : Sk) (a : Addr) (its : Array Value) : Begins (.ref a) (sOb a k) fun h => sIs k h a its := by
  cases k with
  | l => exact begins_list a its
  | t => exact begins_tuple a its
theorem src_begun {k : Sk} (e : h.get? it = some (sOb a k)) : sIt k h it a 0 := by
  cases k with
  | l => exact ⟨_, e, rfl, rfl⟩
  | t => exact ⟨_, e, rfl, rfl⟩
end
/-- numbered -/
def Iten (K : PySem.W.Frag) (k : Sk) (a : Addr) : It :=
  ⟨fun i H => ∃ xs x, sAt K k H a xs ∧ xs[i]? = some x, fun i H v H' => ∃ T x, v = .ref T ∧ H T = none ∧ H' = upd H T (.tup [.int (i : Nat), x]) ∧ ∀ xs, sAt K k H a xs → xs[i]? = some x, fun i H => ∃ xs, sAt K k H a xs ∧ xs.length = i⟩
/-- in pairs -/
def Itpr (K : PySem.W.Frag) (k1 k2 : Sk) (a b : Addr) : It :=
  ⟨fun i H => ∃ xs ys x y, sAt K k1 H a xs ∧ sAt K k2 H b ys ∧ xs[i]? = some x ∧ ys[i]? = some y,
    fun i H v H' => ∃ T x y, v = .ref T ∧ H T = none ∧ H' = upd H T (.tup [x, y]) ∧ (∀ xs, sAt K k1 H a xs → xs[i]? = some x) ∧ ∀ ys, sAt K k2 H b ys → ys[i]? = some y,
    fun i H => ∃ xs ys, sAt K k1 H a xs ∧ sAt K k2 H b ys ∧ min xs.length ys.length = i⟩
section
variable {P : Program} {w : World} {K : PySem.W.Frag} {elts : List Expr} {kk : Nat} {tpos : Pos}
theorem turn_en (k : Sk) (a e it : Addr) : Turn P w K (.Tuple elts kk tpos) (Iten K k a) [e, it] e (fun i h => (∃ old, IsEnum h e it (0 + (i : Int)) old) ∧ sIt k h it a i ∧ e ≠ it) where
  mem := by simp
  obj := fun i h st b hb => by
    obtain ⟨⟨old, he⟩, hit, _⟩ := st
    simp only [List.mem_cons, List.not_mem_nil, or_false] at hb
    rcases hb with z | z
    · subst z; exact ⟨_, he, fun v q => nomatch q⟩
    · subst z; exact sIt_obj hit
  keep := fun i h h' st kp => ⟨⟨st.1.choose, kp e (by simp) _ st.1.choose_spec⟩, sIt_keep st.2.1 fun o q => kp it (by simp) o q, st.2.2⟩
  item := by
    intro X hP hw hK hc i pins s σ H E I hf st hg
    subst hP hw hK
    obtain ⟨hen, hit, hne⟩ := st
    obtain ⟨xs, x, hq, hx⟩ := hg
    obtain ⟨its, rv, hs⟩ := src_vals I hq
    obtain ⟨u, hu, ru⟩ := rv.get hx
    have hai : a ≠ it ∧ a ≠ e := ⟨src_ne hs hit, fun z => by obtain ⟨old, he⟩ := hen; subst z; exact src_ob hs he rfl (by decide) (by decide)⟩
    have D := src_draws (prog := X.prog) (w := X.w) (A := X.A.in1) (k := k) (I.ok.hd hc) hai.1 its.toArray
    have W := GoesN.enumFrom (elts := elts) (x1 := kk) (pos := tpos) 0 D e hne (by simp [hne, Ne.symm hai.2]) (by simp)
    have hlt : i < its.toArray.size := by
      have := (List.getElem?_eq_some_iff.mp hu).1
      simpa using this
    refine W.goes i s _ E hlt ⟨hen, hit, hs⟩ fun v h' tk hy hst hk htk => ?_
    obtain ⟨T, t, y, rfl, hT, hy, hIs⟩ := hy
    have hy' : its[i]? = some y := by simpa using hy
    rw [hu] at hy'
    cases hy'
    have new : ObjOk X.prog X.w (upd H T (.tup [.int (i : Nat), x])) h' T (.tup [.int (i : Nat), x]) := by
      refine ⟨by show 2 ≤ sizeLine; decide, [.int (i : Nat) t, u], .cons ⟨_, rfl⟩ (.cons ru .nil), ?_⟩
      have e0 : (0 : Int) + (i : Int) = ((i : Nat) : Int) := by omega
      rw [e0] at hIs
      exact hIs
    have I1 := I.turnedNew (t' := tk) (ch := [e, it]) hk hf hT new
    refine ⟨.ref T, _, I1, rfl, ⟨T, x, rfl, I.hok.fresh hT, rfl, fun ys hy => by rw [src_inj I hy hq]; exact hx⟩, ?_, fun b hb => ?_⟩
    · obtain ⟨⟨old, h1⟩, h2, _⟩ := hst
      exact ⟨⟨old, h1⟩, h2, hne⟩
    · have hb' : b < s.heap.objs.size := by
        simp only [List.mem_cons, List.not_mem_nil, or_false] at hb
        rcases hb with z | z
        · subst z; obtain ⟨old, he⟩ := hen; exact Heap.lt_size he
        · subst z; obtain ⟨o, q, _⟩ := sIt_obj hit; exact Heap.lt_size q
      rw [upd_ne (Nat.ne_of_lt (Nat.lt_of_lt_of_le hb' hT))]
      exact (hf b hb).1
  done := by
    intro X hP hw hK hc i pins s σ H E I hf st hg
    subst hP hw hK
    obtain ⟨hen, hit, hne⟩ := st
    obtain ⟨xs, hq, hx⟩ := hg
    obtain ⟨its, rv, hs⟩ := src_vals I hq
    have hai : a ≠ it ∧ a ≠ e := ⟨src_ne hs hit, fun z => by obtain ⟨old, he⟩ := hen; subst z; exact src_ob hs he rfl (by decide) (by decide)⟩
    have D := src_draws (prog := X.prog) (w := X.w) (A := X.A.in1) (k := k) (I.ok.hd hc) hai.1 its.toArray
    have W := GoesN.enumFrom (elts := elts) (x1 := kk) (pos := tpos) 0 D e hne (by simp [hne, Ne.symm hai.2]) (by simp)
    have hn : i = its.toArray.size := by
      have := rv.length
      simp only [List.size_toArray]
      omega
    subst hn
    exact W.stops s _ E ⟨hen, hit, hs⟩ fun h' tk hk htk => I.turnedL (t' := tk) (ch := [e, it]) hk hf
  self := fun A i s Q E st h => by
    obtain ⟨⟨old, he⟩, _, _⟩ := st
    exact wpAny_pyIter_enum he h
theorem turn_pr (k1 k2 : Sk) {a b z TI TO i1 i2 : Addr} (S : ZipSep2 z TI TO i1 i2 [i1, a] [i2, b]) :
    Turn P w K (.Tuple elts kk tpos) (Itpr K k1 k2 a b) [z, TI, TO, i1, i2] z (fun i h => IsZip h z TI TO .none ∧ IsTupOf2 h TI (.ref i1) (.ref i2) ∧ (∃ x y, IsTupOf2 h TO x y) ∧ sIt k1 h i1 a i ∧ sIt k2 h i2 b i) where
  mem := by simp
  obj := fun i h st c hb => by
    obtain ⟨h1, h2, ⟨x, y, h3⟩, h4, h5⟩ := st
    simp only [List.mem_cons, List.not_mem_nil, or_false] at hb
    rcases hb with q | q | q | q | q
    · subst q; exact ⟨_, h1, fun v q => nomatch q⟩
    · subst q; exact ⟨_, h2, fun v q => nomatch q⟩
    · subst q; exact ⟨_, h3, fun v q => nomatch q⟩
    · subst q; exact sIt_obj h4
    · subst q; exact sIt_obj h5
  keep := fun i h h' st kp => by
    obtain ⟨h1, h2, ⟨x, y, h3⟩, h4, h5⟩ := st
    exact ⟨kp z (by simp) _ h1, kp TI (by simp) _ h2, ⟨x, y, kp TO (by simp) _ h3⟩, sIt_keep h4 fun o q => kp i1 (by simp) o q, sIt_keep h5 fun o q => kp i2 (by simp) o q⟩
  item := by
    intro X hP hw hK hc i pins s σ H E I hf st hg
    subst hP hw hK
    have st' := st
    obtain ⟨h1, h2, ⟨x0, y0, h3⟩, h4, h5⟩ := st'
    obtain ⟨xs, ys, x, y, hq, hq2, hx, hy⟩ := hg
    obtain ⟨its, rv, hs⟩ := src_vals I hq
    obtain ⟨its2, rv2, hs2⟩ := src_vals I hq2
    obtain ⟨u, hu, ru⟩ := rv.get hx
    obtain ⟨u2, hu2, ru2⟩ := rv2.get hy
    have D := src_draws (prog := X.prog) (w := X.w) (A := X.A.in1) (k := k1) (I.ok.hd hc) (src_ne hs h4) its.toArray
    have D2 := src_draws (prog := X.prog) (w := X.w) (A := X.A.in1) (k := k2) (I.ok.hd hc) (src_ne hs2 h5) its2.toArray
    have W := GoesN.zip2 (elts := elts) (x1 := kk) (pos := tpos) S D D2
    have hlt : i < min its.toArray.size its2.toArray.size := by
      have := (List.getElem?_eq_some_iff.mp hu).1
      have := (List.getElem?_eq_some_iff.mp hu2).1
      simp only [List.size_toArray]
      omega
    refine W.goes i s _ E hlt ⟨h1, h2, ⟨x0, y0, h3⟩, ⟨h4, hs⟩, ⟨h5, hs2⟩⟩ fun v h' tk hyy hst hk htk => ?_
    obtain ⟨T, p, q, rfl, hT, hp1, hp2, hIs⟩ := hyy
    have e1 : its[i]? = some p := by simpa using hp1
    have e2 : its2[i]? = some q := by simpa using hp2
    rw [hu] at e1; cases e1
    rw [hu2] at e2; cases e2
    have new : ObjOk X.prog X.w (upd H T (.tup [x, y])) h' T (.tup [x, y]) := ⟨by show 2 ≤ sizeLine; decide, [u, u2], .cons ru (.cons ru2 .nil), hIs⟩
    have hf' : ∀ c ∈ [z, TO, i1, i2], FpOk X pins H c := fun c hc => hf c (by
      simp only [List.mem_cons, List.not_mem_nil, or_false] at hc ⊢
      rcases hc with q | q | q | q
      · exact .inl q
      · exact .inr (.inr (.inl q))
      · exact .inr (.inr (.inr (.inl q)))
      · exact .inr (.inr (.inr (.inr q))))
    have I1 := I.turnedNew (t' := tk) (ch := [z, TO, i1, i2]) hk hf' hT new
    refine ⟨.ref T, _, I1, rfl, ⟨T, x, y, rfl, I.hok.fresh hT, rfl, fun ys hy => by rw [src_inj I hy hq]; exact hx, fun ys hy' => by rw [src_inj I hy' hq2]; exact hy⟩, ?_, fun c hb => ?_⟩
    · obtain ⟨g1, g2, g3, g4, g5⟩ := hst
      exact ⟨g1, g2, g3, g4.1, g5.1⟩
    · have hb' : c < s.heap.objs.size := by
        simp only [List.mem_cons, List.not_mem_nil, or_false] at hb
        rcases hb with q | q | q | q | q
        · subst q; exact Heap.lt_size h1
        · subst q; exact Heap.lt_size h2
        · subst q; exact Heap.lt_size h3
        · subst q; obtain ⟨o, q, _⟩ := sIt_obj h4; exact Heap.lt_size q
        · subst q; obtain ⟨o, q, _⟩ := sIt_obj h5; exact Heap.lt_size q
      rw [upd_ne (Nat.ne_of_lt (Nat.lt_of_lt_of_le hb' hT))]
      exact (hf c hb).1
  done := by
    intro X hP hw hK hc i pins s σ H E I hf st hg
    subst hP hw hK
    obtain ⟨h1, h2, h3, h4, h5⟩ := st
    obtain ⟨xs, ys, hq, hq2, hx⟩ := hg
    obtain ⟨its, rv, hs⟩ := src_vals I hq
    obtain ⟨its2, rv2, hs2⟩ := src_vals I hq2
    have D := src_draws (prog := X.prog) (w := X.w) (A := X.A.in1) (k := k1) (I.ok.hd hc) (src_ne hs h4) its.toArray
    have D2 := src_draws (prog := X.prog) (w := X.w) (A := X.A.in1) (k := k2) (I.ok.hd hc) (src_ne hs2 h5) its2.toArray
    have W := GoesN.zip2 (elts := elts) (x1 := kk) (pos := tpos) S D D2
    have hn : i = min its.toArray.size its2.toArray.size := by
      have := rv.length
      have := rv2.length
      simp only [List.size_toArray]
      omega
    subst hn
    have hf' : ∀ c ∈ [z, TO, i1, i2], FpOk X pins H c := fun c hc => hf c (by
      simp only [List.mem_cons, List.not_mem_nil, or_false] at hc ⊢
      rcases hc with q | q | q | q
      · exact .inl q
      · exact .inr (.inr (.inl q))
      · exact .inr (.inr (.inr (.inl q)))
      · exact .inr (.inr (.inr (.inr q))))
    exact W.stops s _ E ⟨h1, h2, h3, ⟨h4, hs⟩, ⟨h5, hs2⟩⟩ fun h' tk hk htk => I.turnedL (t' := tk) (ch := [z, TO, i1, i2]) hk hf'
  self := fun A i s Q E st h => wpAny_pyIter_zip st.1 h
end
/-! ### how it begins -/
section
variable {X : Cx} {tg e e2 : Expr} {te : TE} {ta : TA}
def iSeq (K : PySem.W.Frag) (te : TE) : TI := fun σ H R => te σ H fun x H1 => (∃ a xs, x = .ref a ∧ SqL K H1 a xs ∧ R (Itl K a) H1) ∨ (∃ a xs, x = .ref a ∧ SqT K H1 a xs ∧ R (Itt K a) H1) ∨ ∃ y, x = .str y ∧ R (Its y) H1
theorem pi_seq (he : PE X e te) : PI X tg e (iSeq X.K te) := by
  refine ⟨fun pins s σ H R I h => ?_⟩
  refine thn (he.run pins s σ H _ I h) fun v s1 ⟨x, H1, I1, r1, q⟩ => ?_
  rcases q with ⟨a, xs, rfl, hs, q⟩ | ⟨a, xs, rfl, hs, q⟩ | ⟨y, rfl, q⟩
  · cases r1
    obtain ⟨its, rv, p, _⟩ := I1.list hs
    exact wpAny_pyIter_list p.isList (pi_one (tk := s1.toks) I1 _ (turn_list a _) ⟨_, Heap.get?_push_size _ rfl, rfl, rfl⟩ q)
  · cases r1
    obtain ⟨its, rv, p, _⟩ := I1.tuple hs
    exact wpAny_pyIter_tuple p (pi_one (tk := s1.toks) I1 _ (turn_tuple a _) ⟨_, Heap.get?_push_size _ rfl, rfl, rfl⟩ q)
  · obtain ⟨t, rfl⟩ := r1
    cases ha : y.cps.all (· < 128) with
    | false => exact wpAny_pyIter_wide ha (pi_one (tk := s1.toks) I1 _ (turn_str _ y t _ (.inr rfl)) ⟨_, Heap.get?_push_size _ rfl, rfl, rfl⟩ q)
    | true => exact wpAny_pyIter_ascii ha (pi_one (tk := s1.toks) I1 _ (turn_str _ y t _ (.inl rfl)) ⟨_, Heap.get?_push_size _ rfl, rfl, rfl⟩ q)
/-- several new cells of an iterator -/
theorem fp_new {pins : List (Addr × Obj)} {σ : L2.St} {H : Hp} {s s' : Shared} (I : Inv X pins σ H s) (I' : Inv X pins σ H s') {b : Addr} (h : s.heap.objs.size ≤ b) : FpOk X pins H b :=
  I.fpOk h (I.hok.fresh h)
section
open PySem.AutoSeq1 (wpAny_loadPart')
set_option maxHeartbeats 2000000 in
/-- enumerate(v), v anything that begins -/
theorem en_new {v : Value} {o : Obj} {Hv : Heap → Prop} (Bg : Begins v o Hv) :
    Meets (Builtin.«enumerate.__new__» ⟨[.type "enumerate", v], []⟩) (fun _ Rq s0 => Hv s0.heap ∧
      Rq (.ok (.ret (.ref (s0.heap.push o).objs.size))) { s0 with heap := (s0.heap.push o).push { cls := .type "enumerate", data := .fields #[.none, .bool false, .ref s0.heap.objs.size, rawInt 0, .none, .none] } }) :=
  .of_wp fun prog w A Rq s0 hh => by
    obtain ⟨hp, gn, dr, tks, os⟩ := s0
    obtain ⟨hv, hh⟩ := hh
    have hse := sub_enumerate
    have go : ∀ {A' : Around} {E' : Value → Shared → Prop} {Q' : Value → Shared → Prop}, Q' (.ref hp.objs.size) ⟨hp.push o, gn, dr, tks, os⟩ → wpAny (model prog w) A' (pyIter v) Q' E' ⟨hp, gn, dr, tks, os⟩ :=
      fun q' => Bg.iter prog w _ _ ⟨hp, gn, dr, tks, os⟩ _ hv q'
    wp_walk using go
    refine wpAny_stack_any fun stk => wpAny_pure ?_
    split
    · rename_i cc _ _ _ _ _
      cases (cc == Value.type "enumerate") <;> (wp_walk using go) <;> exact ⟨_, rfl, hh⟩
    · wp_walk using go
      exact ⟨_, rfl, hh⟩
theorem call_en {prog : Program} {w : World} {A : Around} {E : Value → Shared → Prop} {s : Shared} {v : Value} {o : Obj} {Hv : Heap → Prop} {Q : Value → Shared → Prop} (Bg : Begins v o Hv) (hv : Hv s.heap)
    (q : ∀ h', IsEnum h' (s.heap.objs.size + 1) s.heap.objs.size 0 .none → h'.get? s.heap.objs.size = some o → (∀ c u, s.heap.get? c = some u → h'.get? c = some u) → Q (.ref (s.heap.objs.size + 1)) { s with heap := h' }) :
    wpAny (model prog w) A (call (.type "enumerate") [v]) Q E s := by
  refine callType_new F.called_enumerate (by decide) (F.typeCall_enumerate_1 _) (F.newCall_enumerate_1 _) (fun ob => F.args_object_init_2 ob _) F.entry_enumerate_new (en_new Bg) ⟨hv, ?_⟩
  have sz : (s.heap.push o).objs.size = s.heap.objs.size + 1 := Heap.size_push ..
  show _ ∧ _
  rw [sz]
  have e1 : IsEnum ((s.heap.push o).push { cls := .type "enumerate", data := .fields #[.none, .bool false, .ref s.heap.objs.size, rawInt 0, .none, .none] }) (s.heap.objs.size + 1) s.heap.objs.size 0 .none := by
    have z := Heap.get?_push_size (s.heap.push o) (o := { cls := .type "enumerate", data := .fields #[.none, .bool false, .ref s.heap.objs.size, rawInt 0, .none, .none] }) rfl
    rw [sz] at z
    exact z
  exact ⟨⟨_, e1, rfl⟩, q _ e1 (Heap.get?_push_of_some _ (Heap.get?_push_size _ Bg.free)) fun c u x => Heap.get?_push_of_some _ (Heap.get?_push_of_some _ x)⟩
end
theorem src_lt {k : Sk} {h : Heap} {a : Addr} {its : Array Value} (hs : sIs k h a its) : a < h.objs.size := by
  cases k with
  | l => obtain ⟨o, e, _⟩ := hs; exact Heap.lt_size e
  | t => obtain ⟨o, e, _⟩ := hs; exact Heap.lt_size e
def iEn (K : PySem.W.Frag) (ta : TA) : TI := fun σ H R => ta σ H fun vs H1 => ∃ k a xs, vs = [.ref a] ∧ sAt K k H1 a xs ∧ R (Iten K k a) H1
theorem pi_en {p pos tpos : Pos} {elts : List Expr} {kk : Nat} (hg : Gl X "enumerate") (hm : X.mg "enumerate" = none) (ha : PA X [e] ta) (hs : starEach [e] X.env = [(false, eval e X.env)]) :
    PI X (.Tuple elts kk tpos) (.Call (.Name "enumerate" p) [e] [] pos) (iEn X.K ta) := by
  refine ⟨fun pins s σ H R I h => ?_⟩
  refine Call_ (ld_blt I hg hm boot_enumerate (PyProof.Rows.callWith_type1 (thn (ha.run pos pins s σ H _ I h) fun us s1 ⟨vs, H1, I1, r1, q1⟩ => ?_) hs rfl))
  obtain ⟨k, a, xs, rfl, hq, q⟩ := q1
  cases r1 with
  | cons r rr =>
    cases rr
    cases r
    obtain ⟨its, rv, hsr⟩ := src_vals I1 hq
    refine call_en (src_begins k a its.toArray) hsr fun h' he hb hk => wpAny_pyIter_enum he ?_
    have I2 : Inv X pins σ H1 { s1 with heap := h' } := I1.kept (t' := s1.toks) hk
    have he0 : IsEnum h' (s1.heap.objs.size + 1) s1.heap.objs.size (0 + ((0 : Nat) : Int)) .none := by
      have z : (0 : Int) + ((0 : Nat) : Int) = 0 := by omega
      rw [z]
      exact he
    refine ⟨s1.heap.objs.size + 1, [s1.heap.objs.size + 1, s1.heap.objs.size], _, _, H1, rfl, I2, turn_en k a (s1.heap.objs.size + 1) s1.heap.objs.size, ⟨⟨.none, he0⟩, src_begun hb, Nat.succ_ne_self _⟩, fun b hb => ?_, q⟩
    simp only [List.mem_cons, List.not_mem_nil, or_false] at hb
    rcases hb with z | z
    · subst z; exact fp_new I1 I1 (Nat.le_succ _)
    · subst z; exact fp_new I1 I1 (Nat.le_refl _)
def iPr (K : PySem.W.Frag) (ta : TA) : TI := fun σ H R => ta σ H fun vs H1 => ∃ k1 k2 a b xs ys, vs = [.ref a, .ref b] ∧ sAt K k1 H1 a xs ∧ sAt K k2 H1 b ys ∧ R (Itpr K k1 k2 a b) H1
theorem pi_pr {p pos tpos : Pos} {elts : List Expr} {kk : Nat} (hg : Gl X "zip") (hm : X.mg "zip" = none) (ha : PA X [e, e2] ta)
    (hs : starEach [e, e2] X.env = (false, eval e X.env) :: starEach [e2] X.env) (hpl : (backTo pos (starEach [e2] X.env)).any (·.1) = false) :
    PI X (.Tuple elts kk tpos) (.Call (.Name "zip" p) [e, e2] [] pos) (iPr X.K ta) := by
  refine ⟨fun pins s σ H R I h => ?_⟩
  refine Call_ (ld_blt I hg hm PyProof.Rows.boot_zip (PyProof.Rows.callWith_type1 (thn (ha.run pos pins s σ H _ I h) fun us s1 ⟨vs, H1, I1, r1, q1⟩ => ?_) hs hpl))
  obtain ⟨k1, k2, a, b, xs, ys, rfl, hq, hq2, q⟩ := q1
  cases r1 with
  | cons r rr =>
    cases rr with
    | cons r' rr =>
      cases rr
      cases r
      cases r'
      obtain ⟨its, rv, hsr⟩ := src_vals I1 hq
      obtain ⟨its2, rv2, hsr2⟩ := src_vals I1 hq2
      refine zip_begins2 (src_begins k1 a its.toArray) (src_begins k2 b its2.toArray) hsr hsr2 fun h' hz hT hO h1 h2 hsz hk => wpAny_pyIter_zip hz ?_
      have I2 : Inv X pins σ H1 { s1 with heap := h' } := I1.kept (t' := s1.toks) hk
      have S := zip_sep2 (N := s1.heap.objs.size) (fp1 := [a]) (fp2 := [b]) (fun c hc => by simp only [List.mem_singleton] at hc; subst hc; exact src_lt hsr) (fun c hc => by simp only [List.mem_singleton] at hc; subst hc; exact src_lt hsr2)
      refine ⟨s1.heap.objs.size + 4, [s1.heap.objs.size + 4, s1.heap.objs.size + 2, s1.heap.objs.size + 3, s1.heap.objs.size, s1.heap.objs.size + 1], _, _, H1, rfl, I2, turn_pr k1 k2 S, ⟨hz, hT, ⟨_, _, hO⟩, src_begun h1, src_begun h2⟩, fun c hb => fp_new I1 I1 ?_, q⟩
      simp only [List.mem_cons, List.not_mem_nil, or_false] at hb
      rcases hb with z | z | z | z | z
      · subst z; exact Nat.le_add_right _ _
      · subst z; exact Nat.le_add_right _ _
      · subst z; exact Nat.le_add_right _ _
      · subst z; exact Nat.le_refl _
      · subst z; exact Nat.le_add_right _ _
end
end Eg
set_option Elab.async false
set_option linter.all false
set_option maxRecDepth 100000
set_option maxHeartbeats 2000000
/-! The engine, part seven: walks by trees, targets, new lists. -/
namespace Eg
open PySem PySem.Spec PyProof.Rows L2
section
variable {G : Gh} {m m1 m' : Mm} {H H1 H' H'' : Hp} {st st' : Sto} {σ σ' : L2.St} {env env' : Env} {a b p : Addr} {o : HO} {W : WX}
theorem Mov.trans (x : Mov m H m1 H1) (y : Mov m1 H1 m' H') : Mov m H m' H' := by
  have keep : ∀ a o, H a = some o → a ∉ m.as → H' a = some o := fun a o h hn => by
    refine y.keep a o (x.keep a o h hn) fun q => ?_
    rcases x.newA a q with z | z
    · exact hn z
    · rw [h] at z; cases z
  have back : ∀ a, H1 a = none → a ∈ m.as ∨ H a = none := fun a z => by
    by_cases hm : a ∈ m.as
    · exact .inl hm
    · refine .inr ?_
      cases e : H a with
      | none => rfl
      | some o => rw [x.keep a o e hm] at z; cases z
  refine ⟨keep, fun a h => ?_, fun a h => ?_, ?_⟩
  · rcases y.newA a h with z | z
    · exact x.newA a z
    · exact back a z
  · rcases y.newF a h with z | z
    · rcases x.w z with q | q
      · exact .inl q
      · exact .inr q
    · rcases back a z with q | q
      · exact .inl (.inl q)
      · exact .inr q
  · obtain ⟨n, e⟩ := x.pre
    obtain ⟨n', e'⟩ := y.pre
    exact ⟨n ++ n', by rw [e', e, List.append_assoc]⟩
/-- at each later point J walks xs -/
structure Wk (G : Gh) (m : Mm) (H : Hp) (J : It) (xs : List T) : Prop where
  go : ∀ m' H', MovF m H m' H' → ∀ i, i < xs.length → J.go i H'
  stop : ∀ m' H', MovF m H m' H' → J.stop xs.length H'
  yld : ∀ m' H' st, MovF m H m' H' → RSto G m' H' st → ∀ i x H'', i < xs.length → J.yld i H' x H'' → (H'' = H' ∨ ∃ p o, H' p = none ∧ H'' = upd H' p o) ∧ ∃ t, xs[i]? = some t ∧ Rp G m' H'' t x
theorem get_len {ts : List T} {vs : List V} (r : Rps G m H ts vs) {i : Nat} (h : i < ts.length) : ∃ t v, ts[i]? = some t ∧ vs[i]? = some v ∧ Rp G m H t v := by
  obtain ⟨v, e, q⟩ := r.get (List.getElem?_eq_getElem h)
  exact ⟨_, v, List.getElem?_eq_getElem h, e, q⟩
theorem Wk.lst {xs : List T} {vs : List V} (s : SAt G m H a vs) (r : Rps G m H xs vs) : Wk G m H (Itl G.K a) xs := by
  have sq : ∀ {m' : Mm} {H' : Hp}, MovF m H m' H' → SqL G.K H' a vs := fun x => by
    rcases s.movF x with h | h
    · exact .inl h.2
    · exact .inr h
  refine ⟨fun m' H' x i hi => ?_, fun m' H' x => ⟨vs, sq x, Nat.le_of_eq r.length.symm⟩, fun m' H' st x _ i y H'' hi hy => ?_⟩
  · obtain ⟨t, v, _, e, _⟩ := get_len r hi
    exact ⟨vs, v, sq x, e⟩
  · obtain ⟨rfl, hy⟩ := hy
    obtain ⟨t, v, e1, e2, q⟩ := get_len r hi
    have := hy vs (sq x)
    rw [e2] at this
    cases this
    exact ⟨.inl rfl, t, e1, Rp.movF x t _ q⟩
theorem Wk.tup {xs : List T} {vs : List V} (s : TAt G m H a vs) (r : Rps G m H xs vs) : Wk G m H (Itt G.K a) xs := by
  have sq : ∀ {m' : Mm} {H' : Hp}, MovF m H m' H' → SqT G.K H' a vs := fun x => .inl (.inl (s.movF x).2)
  refine ⟨fun m' H' x i hi => ?_, fun m' H' x => ⟨vs, sq x, Nat.le_of_eq r.length.symm⟩, fun m' H' st x _ i y H'' hi hy => ?_⟩
  · obtain ⟨t, v, _, e, _⟩ := get_len r hi
    exact ⟨vs, v, sq x, e⟩
  · obtain ⟨rfl, hy⟩ := hy
    obtain ⟨t, v, e1, e2, q⟩ := get_len r hi
    have := hy vs (sq x)
    rw [e2] at this
    cases this
    exact ⟨.inl rfl, t, e1, Rp.movF x t _ q⟩
theorem Wk.str {y : Str} : Wk G m H (Its y) (chars y) := by
  have hl : (chars y).length = y.cps.size := by unfold chars; rw [List.length_map]; exact Array.length_toList
  refine ⟨fun m' H' x i hi => by rw [hl] at hi; exact hi, fun m' H' x => Nat.le_of_eq hl.symm, fun m' H' st x _ i v H'' hi hy => ?_⟩
  obtain ⟨rfl, c, e, rfl⟩ := hy
  refine ⟨.inl rfl, .str ⟨#[c]⟩, ?_, rfl⟩
  unfold chars
  rw [List.getElem?_map, Array.getElem?_toList, e]
  rfl
/-- a frozen sequence -/
def sOf : Sk → T → Option (List T)
  | .l, .lst xs => some xs
  | .t, .tup xs => some xs
  | _, _ => none
theorem s_at {k : Sk} {t : T} {v : V} {xs : List T} (r : Rp G m H t v) (e : sOf k t = some xs) : ∃ a vs, v = .ref a ∧ Rps G m H xs vs ∧ ∀ {m' : Mm} {H' : Hp}, MovF m H m' H' → sAt G.K k H' a vs := by
  cases k with
  | l =>
    cases t with
    | lst ys =>
      cases (show some ys = some xs from e)
      obtain ⟨a, vs, rfl, h, q⟩ := r
      exact ⟨a, vs, rfl, q, fun x => .inl (.inl (h.movF x).2)⟩
    | _ => cases e
  | t =>
    cases t with
    | tup ys =>
      cases (show some ys = some xs from e)
      obtain ⟨a, vs, rfl, h, q⟩ := r
      exact ⟨a, vs, rfl, q, fun x => .inl (.inl (h.movF x).2)⟩
    | _ => cases e
theorem numbered_len : ∀ (xs : List T) (n : Nat), (numbered n xs).length = xs.length
  | [], _ => rfl
  | x :: xs, n => by simp [numbered, numbered_len xs (n + 1)]
theorem numbered_get : ∀ (xs : List T) (n i : Nat) (t : T), xs[i]? = some t → (numbered n xs)[i]? = some (.tup [.int ((n + i : Nat) : Int), t])
  | [], _, i, t, h => by simp at h
  | x :: xs, n, 0, t, h => by
    have : x = t := by simpa using h
    subst this
    rfl
  | x :: xs, n, i + 1, t, h => by
    have := numbered_get xs (n + 1) i t (by simpa using h)
    have e : n + (i + 1) = n + 1 + i := by omega
    rw [e]
    simpa [numbered] using this
theorem Mov.fresh (hp : H p = none) : Mov m H m (upd H p o) := (Stp.fresh hp).toMov
theorem Wk.en {k : Sk} {t : T} {v : V} {xs : List T} (r : Rp G m H t v) (e : sOf k t = some xs) : ∃ a vs, v = .ref a ∧ sAt G.K k H a vs ∧ Wk G m H (Iten G.K k a) (numbered 0 xs) := by
  obtain ⟨a, vs, rfl, q, sq⟩ := s_at r e
  refine ⟨a, vs, rfl, sq (Stp.refl m H).toMov.F, fun m' H' x i hi => ?_, fun m' H' x => ⟨vs, sq x, by rw [numbered_len, q.length]⟩, fun m' H' st x rs i y H'' hi hy => ?_⟩
  · rw [numbered_len] at hi
    obtain ⟨t, v, _, e, _⟩ := get_len q hi
    exact ⟨vs, v, sq x, e⟩
  · rw [numbered_len] at hi
    obtain ⟨T', y', rfl, hT, rfl, hy⟩ := hy
    obtain ⟨t, v, e1, e2, q'⟩ := get_len q hi
    have := hy vs (sq x)
    rw [e2] at this
    cases this
    refine ⟨.inr ⟨T', _, hT, rfl⟩, _, numbered_get xs 0 i t e1, T', _, rfl, ⟨rs.free hT, upd_same⟩, _, _, rfl, ?_, _, _, rfl, ?_, rfl⟩
    · show V.int _ = V.int _
      rw [Nat.zero_add]
    · exact Rp.mov (Mov.fresh hT) _ _ (Rp.movF x t _ q')
theorem pairs_len : ∀ xs ys : List T, (pairs xs ys).length = min xs.length ys.length
  | [], ys => by simp [pairs]
  | x :: xs, [] => by simp [pairs]
  | x :: xs, y :: ys => by simp only [pairs, List.length_cons, pairs_len xs ys]; omega
theorem pairs_get : ∀ (xs ys : List T) (i : Nat) (t u : T), xs[i]? = some t → ys[i]? = some u → (pairs xs ys)[i]? = some (.tup [t, u])
  | [], _, i, t, u, h, _ => by simp at h
  | x :: xs, [], i, t, u, _, h => by simp at h
  | x :: xs, y :: ys, 0, t, u, h, h2 => by
    have e1 : x = t := by simpa using h
    have e2 : y = u := by simpa using h2
    subst e1 e2
    rfl
  | x :: xs, y :: ys, i + 1, t, u, h, h2 => by simpa [pairs] using pairs_get xs ys i t u (by simpa using h) (by simpa using h2)
theorem Wk.pr {k1 k2 : Sk} {t1 t2 : T} {v1 v2 : V} {xs ys : List T} (r1 : Rp G m H t1 v1) (r2 : Rp G m H t2 v2) (e1 : sOf k1 t1 = some xs) (e2 : sOf k2 t2 = some ys) :
    ∃ a b vs ws, v1 = .ref a ∧ v2 = .ref b ∧ sAt G.K k1 H a vs ∧ sAt G.K k2 H b ws ∧ Wk G m H (Itpr G.K k1 k2 a b) (pairs xs ys) := by
  obtain ⟨a, vs, rfl, q1, sq1⟩ := s_at r1 e1
  obtain ⟨b, ws, rfl, q2, sq2⟩ := s_at r2 e2
  refine ⟨a, b, vs, ws, rfl, rfl, sq1 (Stp.refl m H).toMov.F, sq2 (Stp.refl m H).toMov.F, fun m' H' x i hi => ?_, fun m' H' x => ⟨vs, ws, sq1 x, sq2 x, by rw [pairs_len, q1.length, q2.length]⟩, fun m' H' st x rs i y H'' hi hy => ?_⟩
  · rw [pairs_len] at hi
    obtain ⟨t, v, _, e, _⟩ := get_len q1 (i := i) (by omega)
    obtain ⟨t2, v2, _, e2, _⟩ := get_len q2 (i := i) (by omega)
    exact ⟨vs, ws, v, v2, sq1 x, sq2 x, e, e2⟩
  · rw [pairs_len] at hi
    obtain ⟨T', x', y', rfl, hT, rfl, hx, hy⟩ := hy
    obtain ⟨t, v, f1, f2, q1'⟩ := get_len q1 (i := i) (by omega)
    obtain ⟨t2, v2, g1, g2, q2'⟩ := get_len q2 (i := i) (by omega)
    have z1 := hx vs (sq1 x)
    rw [f2] at z1; cases z1
    have z2 := hy ws (sq2 x)
    rw [g2] at z2; cases z2
    refine ⟨.inr ⟨T', _, hT, rfl⟩, _, pairs_get xs ys i t t2 f1 g1, T', _, rfl, ⟨rs.free hT, upd_same⟩, _, _, rfl, ?_, _, _, rfl, ?_, rfl⟩
    · exact Rp.mov (Mov.fresh hT) _ _ (Rp.movF x t _ q1')
    · exact Rp.mov (Mov.fresh hT) _ _ (Rp.movF x t2 _ q2')
theorem range_len (lo hi : Int) : (rangeT lo hi).length = (hi - lo).toNat := by simp [rangeT]
theorem Wk.rng {lo hi : Int} : Wk G m H (Itr lo (hi - lo).toNat) (rangeT lo hi) := by
  refine ⟨fun m' H' x i hi => by rw [range_len] at hi; exact hi, fun m' H' x => by rw [range_len]; exact Nat.le_refl _, fun m' H' st x _ i v H'' hi hy => ?_⟩
  obtain ⟨rfl, rfl⟩ := hy
  rw [range_len] at hi
  refine ⟨.inl rfl, .int (lo + (i : Nat)), ?_, rfl⟩
  unfold rangeT
  rw [List.getElem?_map, List.getElem?_range hi]
  rfl
/-! ### the judgement of what is walked -/
def tI (G : Gh) (W : WX) (f : Env → Sto → R (List T)) : TI := fun σ H R => ∃ m env st, RS G m env st σ H ∧ Rn G W σ env (fun _ _ _ (_ : Unit) => True) m H (f env st) (fun xs _ _ H' m' => ∀ J, Wk G m' H' J xs → R J H')
theorem PI.imp {X : Cx} {tg e : Expr} {t t' : TI} (h : PI X tg e t) (k : ∀ σ H R, t' σ H R → t σ H R) : PI X tg e t' := ⟨fun pins s σ H R I q => h.run pins s σ H R I (k σ H R q)⟩
end
section
variable {X : Cx} {G : Gh} {W : WX} {fa fb : Env → Sto → R T} {e e2 tg : Expr} {pos : Pos}
def fSeq (fa : Env → Sto → R T) : Env → Sto → R (List T) := fun env st => (fa env st).bnd fun x st1 => match x with
    | .lst xs => .ok xs st1
    | .tup xs => .ok xs st1
    | .scr ns => .ok (ns.map .int) st1
    | .str y => .ok (chars y) st1
    | _ => .bad
theorem i_seq (hK : X.K = G.K) (he : PE X e (tE G W fa)) : PI X tg e (tI G W (fSeq fa)) := by
  refine PI.imp (pi_seq he) fun σ H R h => ?_
  rw [hK]
  refine at1 h fun m env st t v H1 rs r q => ?_
  cases t with
  | lst xs =>
    obtain ⟨a, vs, rfl, h, rq⟩ := r
    have hs : SAt G m H1 a vs := .inl ⟨h.1, .inl h.2⟩
    exact .inl ⟨a, vs, rfl, .inl (.inl h.2), Rn.here (b := ()) q rs trivial _ (Wk.lst hs rq)⟩
  | tup xs =>
    obtain ⟨a, vs, rfl, h, rq⟩ := r
    exact .inr (.inl ⟨a, vs, rfl, .inl (.inl h.2), Rn.here (b := ()) q rs trivial _ (Wk.tup h rq)⟩)
  | scr ns =>
    obtain ⟨a, rfl, h⟩ := r
    have sq : SqL G.K H1 a (ns.map V.int) := by
      rcases h with h | h
      · exact .inl h.2
      · exact .inr h
    exact .inl ⟨a, _, rfl, sq, Rn.here (b := ()) q rs trivial _ (Wk.lst h (Rps.of_ints ns))⟩
  | str y => exact .inr (.inr ⟨y, r, Rn.here (b := ()) q rs trivial _ Wk.str⟩)
  | _ => exact q.elim
def fEn (fa : Env → Sto → R T) : Env → Sto → R (List T) := fun env st => (fa env st).bnd fun x st1 => match x with
    | .lst xs => .ok (numbered 0 xs) st1
    | .tup xs => .ok (numbered 0 xs) st1
    | _ => .bad
theorem i_en {elts : List Expr} {kk : Nat} {p tpos : Pos} (hK : X.K = G.K) (hg : Gl X "enumerate") (hm : X.mg "enumerate" = none) (he : PE X e (tE G W fa)) (hs : starEach [e] X.env = [(false, eval e X.env)]) :
    PI X (.Tuple elts kk tpos) (.Call (.Name "enumerate" p) [e] [] pos) (tI G W (fEn fa)) := by
  refine PI.imp (pi_en hg hm (pa_cons he pa_nil hs) hs) fun σ H R h => ?_
  rw [hK]
  show tE G W fa σ H fun x H1 => ∃ k a xs, [x] = [V.ref a] ∧ sAt G.K k H1 a xs ∧ R (Iten G.K k a) H1
  refine at1 h fun m env st t v H1 rs r q => ?_
  cases t with
  | lst xs =>
    obtain ⟨a, vs, rfl, hs, hw⟩ := Wk.en (k := .l) r rfl
    exact ⟨_, a, vs, rfl, hs, Rn.here (b := ()) q rs trivial _ hw⟩
  | tup xs =>
    obtain ⟨a, vs, rfl, hs, hw⟩ := Wk.en (k := .t) r rfl
    exact ⟨_, a, vs, rfl, hs, Rn.here (b := ()) q rs trivial _ hw⟩
  | _ => exact q.elim
def fPr (fa fb : Env → Sto → R T) : Env → Sto → R (List T) := fun env st => (fa env st).bnd fun x st1 => (fb env st1).bnd fun y st2 => match x, y with
    | .lst xs, .lst ys => .ok (pairs xs ys) st2
    | .tup xs, .tup ys => .ok (pairs xs ys) st2
    | .lst xs, .tup ys => .ok (pairs xs ys) st2
    | .tup xs, .lst ys => .ok (pairs xs ys) st2
    | _, _ => .bad
theorem i_pr {elts : List Expr} {kk : Nat} {p tpos : Pos} (hK : X.K = G.K) (hg : Gl X "zip") (hm : X.mg "zip" = none) (he : PE X e (tE G W fa)) (he2 : PE X e2 (tE G W fb))
    (hs : starEach [e, e2] X.env = (false, eval e X.env) :: starEach [e2] X.env) (hs2 : starEach [e2] X.env = [(false, eval e2 X.env)]) :
    PI X (.Tuple elts kk tpos) (.Call (.Name "zip" p) [e, e2] [] pos) (tI G W (fPr fa fb)) := by
  refine PI.imp (pi_pr hg hm (pa_cons he (pa_cons he2 pa_nil hs2) hs) hs (by rw [hs2]; rfl)) fun σ H R h => ?_
  rw [hK]
  show tE G W fa σ H fun x H1 => tE G W fb σ H1 fun y H2 => ∃ k1 k2 a b xs ys, [x, y] = [V.ref a, V.ref b] ∧ sAt G.K k1 H2 a xs ∧ sAt G.K k2 H2 b ys ∧ R (Itpr G.K k1 k2 a b) H2
  refine at2 h fun m env st t u v w H1 rs r1 r2 q => ?_
  have fin : ∀ {k1 k2 : Sk} {xs ys : List T}, sOf k1 t = some xs → sOf k2 u = some ys → Rn G W σ env (fun _ _ _ (_ : Unit) => True) m H1 (.ok (pairs xs ys) st) (fun xs _ _ H' m' => ∀ J, Wk G m' H' J xs → R J H') →
      ∃ k1 k2 a b xs ys, [v, w] = [V.ref a, V.ref b] ∧ sAt G.K k1 H1 a xs ∧ sAt G.K k2 H1 b ys ∧ R (Itpr G.K k1 k2 a b) H1 := fun e1 e2 q => by
    obtain ⟨a, b, vs, ws, rfl, rfl, h1, h2, hw⟩ := Wk.pr r1 r2 e1 e2
    exact ⟨_, _, a, b, vs, ws, rfl, h1, h2, Rn.here (b := ()) q rs trivial _ hw⟩
  cases t with
  | lst xs =>
    cases u with
    | lst ys => exact fin (k1 := .l) (k2 := .l) rfl rfl q
    | tup ys => exact fin (k1 := .l) (k2 := .t) rfl rfl q
    | _ => exact q.elim
  | tup xs =>
    cases u with
    | lst ys => exact fin (k1 := .t) (k2 := .l) rfl rfl q
    | tup ys => exact fin (k1 := .t) (k2 := .t) rfl rfl q
    | _ => exact q.elim
  | _ => exact q.elim
def fRg1 (fa : Env → Sto → R T) : Env → Sto → R (List T) := fun env st => (fa env st).bnd fun x st1 => match x with
    | .int j => if RgOk j then .ok (rangeT 0 j) st1 else .bad
    | _ => .bad
theorem i_rg1 {p : Pos} (hg : Gl X "range") (hm : X.mg "range" = none) (he : PE X e (tE G W fa)) (hs : starEach [e] X.env = [(false, eval e X.env)]) :
    PI X tg (.Call (.Name "range" p) [e] [] pos) (tI G W (fRg1 fa)) := by
  refine PI.imp (pi_range1 hg hm (pa_cons he pa_nil hs) hs) fun σ H R h => ?_
  show tE G W fa σ H fun x H1 => ∃ j : Int, [x] = [V.int j] ∧ -(2 ^ 62) ≤ j ∧ j < 2 ^ 62 ∧ R (Itr 0 j.toNat) H1
  refine at1 h fun m env st t v H1 rs r q => ?_
  cases t with
  | int j =>
    cases (show v = _ from r)
    have q : Rn G W σ env (fun _ _ _ (_ : Unit) => True) m H1 (if RgOk j then .ok (rangeT 0 j) st else .bad) (fun xs _ _ H' m' => ∀ J, Wk G m' H' J xs → R J H') := q
    by_cases c : RgOk j
    · rw [if_pos c] at q
      have z := Rn.here (b := ()) q rs trivial _ (Wk.rng (lo := 0) (hi := j))
      rw [Int.sub_zero] at z
      exact ⟨j, rfl, c.1, c.2, z⟩
    · rw [if_neg c] at q; exact q.elim
  | _ => exact q.elim
def fRg2 (fa fb : Env → Sto → R T) : Env → Sto → R (List T) := fun env st => (fa env st).bnd fun x st1 => (fb env st1).bnd fun y st2 => match x, y with
    | .int i, .int j => if RgOk i ∧ RgOk j then .ok (rangeT i j) st2 else .bad
    | _, _ => .bad
theorem i_rg2 {p : Pos} (hg : Gl X "range") (hm : X.mg "range" = none) (he : PE X e (tE G W fa)) (he2 : PE X e2 (tE G W fb)) (hs : starEach [e, e2] X.env = [(false, eval e X.env), (false, eval e2 X.env)]) (hs2 : starEach [e2] X.env = [(false, eval e2 X.env)]) :
    PI X tg (.Call (.Name "range" p) [e, e2] [] pos) (tI G W (fRg2 fa fb)) := by
  refine PI.imp (pi_range2 hg hm (pa_cons he (pa_cons he2 pa_nil hs2) (by rw [hs, hs2])) hs hs2) fun σ H R h => ?_
  show tE G W fa σ H fun x H1 => tE G W fb σ H1 fun y H2 => ∃ i j : Int, [x, y] = [V.int i, V.int j] ∧ (-(2 ^ 62) ≤ i ∧ i < 2 ^ 62 ∧ -(2 ^ 62) ≤ j ∧ j < 2 ^ 62) ∧ R (Itr i (j - i).toNat) H2
  refine at2 h fun m env st t u v w H1 rs r1 r2 q => ?_
  cases t with
  | int i =>
    cases u with
    | int j =>
      cases (show v = _ from r1)
      cases (show w = _ from r2)
      have q : Rn G W σ env (fun _ _ _ (_ : Unit) => True) m H1 (if RgOk i ∧ RgOk j then .ok (rangeT i j) st else .bad) (fun xs _ _ H' m' => ∀ J, Wk G m' H' J xs → R J H') := q
      by_cases c : RgOk i ∧ RgOk j
      · rw [if_pos c] at q
        exact ⟨i, j, rfl, ⟨c.1.1, c.1.2, c.2.1, c.2.2⟩, Rn.here (b := ()) q rs trivial _ Wk.rng⟩
      · rw [if_neg c] at q; exact q.elim
    | _ => exact q.elim
  | _ => exact q.elim
end
end Eg
set_option Elab.async false
set_option linter.all false
set_option maxRecDepth 100000
set_option maxHeartbeats 2000000
/-! The engine, part eight: targets, comprehensions. -/
namespace Eg
open PySem PySem.Spec PyProof.Rows L2
/-- what the checker knows of a body: its names by slot, its scope, which cells are its own -/
structure CC where
  N : List Str
  sc : Scope
  fn : Str → Bool
def visC (c : CC) (i : Nat) (x : Str) : Bool := decide (c.N[i]? = some x) && (match c.sc.names.lookup x with
  | some .local => true
  | some .cell => true
  | some .free => true
  | _ => false) && !(x == ("__debug__" : Str)) && !(x == ("__classdict__" : Str))
def locC (c : CC) (i : Nat) (x : Str) : Bool := decide (c.N[i]? = some x) && (match c.sc.names.lookup x with
  | some .local => true
  | some .cell => c.fn x
  | _ => false)
mutual
def chkG (c : CC) : IG → Expr → Bool
  | .name i, .Name x _ => locC c i x
  | .tup gs, .Tuple es _ _ => chkGs c gs es
  | _, _ => false
def chkGs (c : CC) : List IG → List Expr → Bool
  | [], [] => true
  | g :: gs, e :: es => chkG c g e && chkGs c gs es
  | _, _ => false
end
mutual
def IG.slots : IG → List Nat
  | .name i => [i]
  | .tup gs => slotsL gs
def slotsL : List IG → List Nat
  | [] => []
  | g :: gs => g.slots ++ slotsL gs
end
section
variable {G : Gh} {m m1 m' : Mm} {H H1 H' : Hp} {st st' : Sto} {σ σ' : L2.St} {env env' : Env} {a D : Addr} {o : HO}
def tG (G : Gh) (g : IG) : TG := fun v σ H Q => ∃ m env st t env', RS G m env st σ H ∧ Rp G m H t v ∧ g.set t env = some env' ∧ ∀ σ', RS G m env' st σ' H → σ'.length = σ.length → (∀ i, i ∉ g.slots → σ'[i]? = σ[i]?) → Q σ' H
def tGs (G : Gh) (gs : List IG) : TGs := fun vs σ H Q => ∃ m env st ts env', RS G m env st σ H ∧ Rps G m H ts vs ∧ IG.set.sets gs ts env = some env' ∧ ∀ σ', RS G m env' st σ' H → σ'.length = σ.length → (∀ i, i ∉ slotsL gs → σ'[i]? = σ[i]?) → Q σ' H
theorem PG.imp {X : Cx} {e : Expr} {t t' : TG} (h : PG X e t) (k : ∀ v σ H Q, t' v σ H Q → t v σ H Q) : PG X e t' := ⟨fun pins s σ H v u Q I r q => h.run pins s σ H v u Q I r (k v σ H Q q)⟩
theorem PGs.imp {X : Cx} {e : List Expr} {t t' : TGs} (h : PGs X e t) (k : ∀ v σ H Q, t' v σ H Q → t v σ H Q) : PGs X e t' := ⟨fun pins s σ H v u Q I r q => h.run pins s σ H v u Q I r (k v σ H Q q)⟩
/-- a slot stored -/
theorem RS.set {i : Nat} {t : T} {v : V} (rs : RS G m env st σ H) (hi : i < env.length) (r : Rp G m H t v) : RS G m (env.set i (some t)) st (σ.set i (some v)) H := by
  refine ⟨⟨by rw [List.length_set, List.length_set]; exact rs.env.1, fun j u e => ?_⟩, rs.sto⟩
  by_cases hj : j = i
  · subst hj
    rw [List.getElem?_set_self hi] at e
    cases e
    exact ⟨v, List.getElem?_set_self (by rw [← rs.env.1]; exact hi), r⟩
  · rw [List.getElem?_set_ne (Ne.symm hj)] at e
    obtain ⟨w, e2, r2⟩ := rs.env.2 j u e
    exact ⟨w, by rw [List.getElem?_set_ne (Ne.symm hj)]; exact e2, r2⟩
theorem tGs_nil : ∀ vs σ H Q, tGs G [] vs σ H Q → gNil vs σ H Q := fun vs σ H Q ⟨m, env, st, ts, env', rs, r, e, k⟩ => by
  cases ts with
  | nil =>
    cases (show some env = some env' from e)
    exact ⟨r, k σ rs rfl fun _ _ => rfl⟩
  | cons t ts => cases e
theorem tGs_cons {g : IG} {gs : List IG} : ∀ vs σ H Q, tGs G (g :: gs) vs σ H Q → gCons (tG G g) (tGs G gs) vs σ H Q := fun vs σ H Q ⟨m, env, st, ts, env', rs, r, e, k⟩ => by
  cases ts with
  | nil => cases e
  | cons t ts =>
    obtain ⟨v, w, rfl, r1, r2⟩ := r
    have e : (match g.set t env with
      | some env' => IG.set.sets gs ts env'
      | none => none) = some env' := e
    cases e1 : g.set t env with
    | none => rw [e1] at e; cases e
    | some env1 =>
      rw [e1] at e
      refine ⟨v, w, rfl, m, env, st, t, env1, rs, r1, e1, fun σ1 rs1 l1 k1 => ⟨m, env1, st, ts, env', rs1, r2, e, fun σ2 rs2 l2 k2 => ?_⟩⟩
      refine k σ2 rs2 (l2.trans l1) fun i hi => ?_
      have hi' : i ∉ g.slots ∧ i ∉ slotsL gs := by
        constructor
        · exact fun z => hi (by simp [slotsL, z])
        · exact fun z => hi (by simp [slotsL, z])
      exact (k2 i hi'.2).trans (k1 i hi'.1)
variable {X : Cx} {c : CC}
theorem chkG_star {g : IG} {e : Expr} (h : chkG c g e = true) (es : List Expr) (env : PySem.Env) : assignEach (e :: es) env = (false, assign e env) :: assignEach es env := by
  cases e <;> first | rfl | (cases g <;> simp [chkG] at h)
theorem chkGs_each (env : PySem.Env) : ∀ {gs : List IG} {es : List Expr}, chkGs c gs es = true → (assignEach es env).length = gs.length ∧ (assignEach es env).findIdx? (·.1) = none
  | [], [], _ => ⟨rfl, rfl⟩
  | [], _ :: _, h => by simp [chkGs] at h
  | _ :: _, [], h => by simp [chkGs] at h
  | g :: gs, e :: es, h => by
    simp only [chkGs, Bool.and_eq_true] at h
    obtain ⟨h1, h2⟩ := chkGs_each env h.2
    rw [chkG_star h.1 es env]
    refine ⟨by simp [h1], ?_⟩
    rw [List.findIdx?_cons, h2]
    rfl
theorem sets_len : ∀ {gs : List IG} {ts : List T} {env env' : Env}, IG.set.sets gs ts env = some env' → ts.length = gs.length
  | [], [], _, _, _ => rfl
  | [], _ :: _, _, _, h => by cases h
  | _ :: _, [], _, _, h => by cases h
  | g :: gs, t :: ts, env, env', h => by
    have h : (match g.set t env with
      | some env' => IG.set.sets gs ts env'
      | none => none) = some env' := h
    cases e1 : g.set t env with
    | none => rw [e1] at h; cases h
    | some env1 =>
      rw [e1] at h
      simp [sets_len (gs := gs) (ts := ts) h]
theorem loc_of {i : Nat} {x : Str} (h : locC c i x = true) (hN : X.N = c.N) (hs : X.env.scope = c.sc) (hf : X.fn = c.fn) : X.N[i]? = some x ∧ L2.Loc X.env.scope x ∧ (X.fn x = true ∨ X.env.scope.names.lookup x = some .local) := by
  unfold locC at h
  rw [Bool.and_eq_true, decide_eq_true_eq] at h
  rw [hN, hs, hf]
  refine ⟨h.1, ?_⟩
  have h2 := h.2
  unfold L2.Loc
  split at h2
  · rename_i e; exact ⟨.inl e, .inr e⟩
  · rename_i e; exact ⟨.inr e, .inl h2⟩
  · cases h2
theorem PG.or {e : Expr} {t t' : TG} (h : PG X e t) (h' : PG X e t') : PG X e (fun v σ H Q => t v σ H Q ∨ t' v σ H Q) := ⟨fun pins s σ H v u Q I r hw => by
  rcases hw with hw | hw
  · exact h.run pins s σ H v u Q I r hw
  · exact h'.run pins s σ H v u Q I r hw⟩
mutual
theorem g_ok (hN : X.N = c.N) (hs : X.env.scope = c.sc) (hf : X.fn = c.fn) (nd : X.N.Nodup) (hK : X.K = G.K) (hc : X.calm = true) : ∀ (g : IG) (e : Expr), chkG c g e = true → PG X e (tG G g)
  | .name i, e, h => by
    cases e with
    | Name x pos =>
      obtain ⟨h1, h2, h3⟩ := loc_of (X := X) h hN hs hf
      refine PG.imp (pg_name nd h1 h2 h3) fun v σ H Q ⟨m, env, st, t, env', rs, r, e, k⟩ => ?_
      have e : (if i < env.length then some (env.set i (some t)) else none) = some env' := e
      by_cases hi : i < env.length
      · rw [if_pos hi] at e
        cases e
        refine k _ (rs.set hi r) (by rw [List.length_set]) fun j hj => ?_
        have : j ≠ i := fun z => hj (by simp [IG.slots, z])
        rw [List.getElem?_set_ne (Ne.symm this)]
      · rw [if_neg hi] at e; cases e
    | _ => simp [chkG] at h
  | .tup gs, e, h => by
    cases e with
    | Tuple es k pos =>
      have h : chkGs c gs es = true := by simpa [chkG] using h
      obtain ⟨h1, h2⟩ := chkGs_each X.env h
      refine PG.imp (PG.or (pg_tup (n := gs.length) hc (gs_ok hN hs hf nd hK hc gs es h) h1 h2) (pg_lst (n := gs.length) hc (gs_ok hN hs hf nd hK hc gs es h) h1 h2)) fun v σ H Q ⟨m, env, st, t, env', rs, r, e, k⟩ => ?_
      cases t with
      | tup ts =>
        obtain ⟨a, vs, rfl, ha, rr⟩ := r
        have e : IG.set.sets gs ts env = some env' := e
        refine .inl ⟨a, vs, rfl, .inl (.inl ha.2), by rw [← rr.length, sets_len e], m, env, st, ts, env', rs, rr, e, fun σ' rs' l' k' => k σ' rs' l' fun i hi => k' i ?_⟩
        simpa [IG.slots] using hi
      | lst ts =>
        obtain ⟨a, vs, rfl, ha, rr⟩ := r
        have e : IG.set.sets gs ts env = some env' := e
        refine .inr ⟨a, vs, rfl, SqL.of ha.2, by rw [← rr.length, sets_len e], m, env, st, ts, env', rs, rr, e, fun σ' rs' l' k' => k σ' rs' l' fun i hi => k' i ?_⟩
        simpa [IG.slots] using hi
      | _ => cases e
    | _ => simp [chkG] at h
theorem gs_ok (hN : X.N = c.N) (hs : X.env.scope = c.sc) (hf : X.fn = c.fn) (nd : X.N.Nodup) (hK : X.K = G.K) (hc : X.calm = true) : ∀ (gs : List IG) (es : List Expr), chkGs c gs es = true → PGs X es (tGs G gs)
  | [], [], _ => PGs.imp pgs_nil tGs_nil
  | [], _ :: _, h => by simp [chkGs] at h
  | _ :: _, [], h => by simp [chkGs] at h
  | g :: gs, e :: es, h => by
    have h' : chkG c g e = true ∧ chkGs c gs es = true := by simpa [chkGs] using h
    exact PGs.imp (pgs_cons (g_ok hN hs hf nd hK hc g e h'.1) (gs_ok hN hs hf nd hK hc gs es h'.2) (by rw [chkG_star h'.1 es X.env]; rfl)) tGs_cons
end
end
/-! ### kept apart: the list that a comprehension fills -/
section
variable {G : Gh} {m m1 m' : Mm} {H H1 H' : Hp} {st st' : Sto} {σ σ' : L2.St} {env env' : Env} {a D : Addr} {o : HO}
/-- the heap without D -/
def era (H : Hp) (D : Addr) : Hp := fun b => if b = D then none else H b
theorem era_ne (h : a ≠ D) : era H D a = H a := if_neg h
theorem era_at : era H D D = none := if_pos rfl
theorem era_upd (h : H D = some o) : upd (era H D) D o = H := by
  funext b
  unfold upd
  by_cases hb : b = D
  · rw [if_pos hb, hb, h]
  · rw [if_neg hb, era_ne hb]
mutual
/-- another heap that is the same but for what is kept apart -/
theorem Rp.sub (k : ∀ a, ¬ m.w a → H' a = H a) (w : ∀ a, m'.w a → m.w a) (e : m'.as = m.as) : ∀ (t : T) (v : V), Rp G m H t v → Rp G m' H' t v
  | .non, _, h => h
  | .bl _, _, h => h
  | .int _, _, h => h
  | .str _, _, h => h
  | .tup xs, _, ⟨a, vs, e1, h, r⟩ => ⟨a, vs, e1, ⟨fun z => h.1 (w a z), by rw [k a h.1]; exact h.2⟩, Rps.sub k w e xs vs r⟩
  | .lst xs, _, ⟨a, vs, e1, h, r⟩ => ⟨a, vs, e1, ⟨fun z => h.1 (w a z), by rw [k a h.1]; exact h.2⟩, Rps.sub k w e xs vs r⟩
  | .obj c xs, _, ⟨a, dx, fv, e1, hn, h, hf, r⟩ => ⟨a, dx, fv, e1, fun z => hn (w a z), by rw [k a hn]; exact h, hf, Rps.sub k w e xs _ r⟩
  | .exc _ _, _, h => h
  | .loc l, _, ⟨a, e1, h⟩ => ⟨a, e1, by rw [e]; exact h⟩
  | .scr ns, _, ⟨a, e1, h⟩ => ⟨a, e1, by
    rcases h with ⟨hn, h⟩ | h
    · refine .inl ⟨fun z => hn (w a z), ?_⟩
      unfold Rd at h ⊢
      rw [k a hn]
      exact h
    · exact .inr h⟩
theorem Rps.sub (k : ∀ a, ¬ m.w a → H' a = H a) (w : ∀ a, m'.w a → m.w a) (e : m'.as = m.as) : ∀ (ts : List T) (vs : List V), Rps G m H ts vs → Rps G m' H' ts vs
  | [], _, h => h
  | t :: ts, _, ⟨v, r, e1, h, q⟩ => ⟨v, r, e1, Rp.sub k w e t v h, Rps.sub k w e ts r q⟩
end
theorem REnv.sub (k : ∀ a, ¬ m.w a → H' a = H a) (w : ∀ a, m'.w a → m.w a) (e : m'.as = m.as) (h : REnv G m H env σ) : REnv G m' H' env σ :=
  ⟨h.1, fun i t q => let ⟨v, e1, r⟩ := h.2 i t q; ⟨v, e1, Rp.sub k w e t v r⟩⟩
theorem RSto.sub (k : ∀ a, ¬ m.fo a → H' a = H a) (w : ∀ a, m'.fo a → m.fo a) (e : m'.as = m.as) (fs : ∀ a, m'.fo a → H' a ≠ none) (s : RSto G m H st) : RSto G m' H' st where
  nd := by rw [e]; exact s.nd
  fd := fun a h z => s.fd a (e ▸ h) (w a z)
  len := by rw [e]; exact s.len
  cell := fun i a c h1 h2 => by
    rw [e] at h1
    have hk : H' a = H a := k a (s.fd a (List.mem_of_getElem? h1))
    have k' : ∀ a, ¬ m.w a → H' a = H a := fun a h => k a fun z => h (.inr z)
    have w' : ∀ a, m'.w a → m.w a := fun a h => by
      rcases h with h | h
      · exact .inl (e ▸ h)
      · exact .inr (w a h)
    cases c with
    | lst xs =>
      obtain ⟨vs, e1, r⟩ := s.cell i a _ h1 h2
      exact ⟨vs, by rw [hk]; exact e1, Rps.sub k' w' e xs vs r⟩
    | ins c xs =>
      obtain ⟨dx, fv, e1, e2, e3, r⟩ := s.cell i a _ h1 h2
      exact ⟨dx, fv, by rw [hk]; exact e1, e2, e3, Rps.sub k' w' e xs _ r⟩
  foS := fs
/-- D joins what is kept apart -/
def Mm.add (m : Mm) (D : Addr) : Mm := ⟨m.as, fun a => m.fo a ∨ a = D⟩
theorem Mov.add (hD : H D = none) : Mov m H (m.add D) (upd H D o) :=
  ⟨fun a u h _ => by rw [upd_ne (ne_of_none h hD)]; exact h, fun _ h => .inl h, fun a h => by
    rcases h with h | h
    · exact .inl (.inr h)
    · subst h; exact .inr hD, ⟨[], by simp [Mm.add]⟩⟩
theorem RSto.add (s : RSto G m H st) (hD : H D = none) : RSto G (m.add D) (upd H D o) st where
  nd := s.nd
  fd := fun a h z => by
    rcases z with z | z
    · exact s.fd a h z
    · subst z; exact s.mem h hD
  len := s.len
  cell := fun i a c h1 h2 => RCell.mov (Mov.add hD) (upd_ne fun z => s.mem (z ▸ List.mem_of_getElem? h1) hD) (s.cell i a c h1 h2)
  foS := fun a h => by
    rcases h with h | h
    · rw [upd_ne (fun z => s.foS a h (by rw [z]; exact hD))]
      exact s.foS a h
    · subst h; rw [upd_same]; simp
/-- the list at D, kept apart, is written -/
theorem RSto.upd (s : RSto G m H st) (hD : m.fo D) : RSto G m (L2.upd H D o) st :=
  s.sub (fun a h => upd_ne fun z => h (z ▸ hD)) (fun _ h => h) rfl fun a h => by
    by_cases e : a = D
    · subst e; rw [upd_same]; simp
    · rw [upd_ne e]; exact s.foS a h
theorem REnv.upd (h : REnv G m H env σ) (hD : m.fo D) : REnv G m (L2.upd H D o) env σ := h.sub (fun a hn => upd_ne fun z => hn (.inr (z ▸ hD))) (fun _ h => h) rfl
theorem Rps.upd {ts : List T} {vs : List V} (h : Rps G m H ts vs) (hD : m.fo D) : Rps G m (L2.upd H D o) ts vs := Rps.sub (fun a hn => upd_ne fun z => hn (.inr (z ▸ hD))) (fun _ h => h) rfl _ _ h
end
/-! ### the block's own names -/
section
variable {G : Gh} {m m1 m' : Mm} {H H1 H' : Hp} {st st' : Sto} {σ σ' : L2.St} {env env' : Env}
theorem wipeE_len (env : Env) : ∀ vs : List Nat, (wipeE env vs).length = env.length
  | [] => rfl
  | v :: vs => by rw [wipeE, List.length_set, wipeE_len env vs]
theorem wipeE_some {i : Nat} {t : T} : ∀ {vs : List Nat}, (wipeE env vs)[i]? = some (some t) → env[i]? = some (some t) ∧ i ∉ vs
  | [], h => ⟨h, by simp⟩
  | v :: vs, h => by
    by_cases hv : i = v
    · subst hv
      by_cases hl : i < (wipeE env vs).length
      · rw [wipeE, List.getElem?_set_self hl] at h; cases h
      · rw [wipeE, List.getElem?_eq_none (by rw [List.length_set]; omega)] at h; cases h
    · rw [wipeE, List.getElem?_set_ne (Ne.symm hv)] at h
      obtain ⟨h1, h2⟩ := wipeE_some (vs := vs) h
      exact ⟨h1, by simp [hv, h2]⟩
theorem REnv.wipe (h : REnv G m H env σ) (vs : List Nat) : REnv G m H (wipeE env vs) (L2.wipe σ vs) := by
  refine ⟨by rw [wipeE_len, wipe_length, h.1], fun i t e => ?_⟩
  obtain ⟨e1, hn⟩ := wipeE_some e
  obtain ⟨v, e2, r⟩ := h.2 i t e1
  exact ⟨v, by rw [wipe_out hn]; exact e2, r⟩
theorem wipe_none {i : Nat} : ∀ {vs : List Nat}, i ∈ vs → i < σ.length → (wipe σ vs)[i]? = some none
  | v :: vs, h, hl => by
    rw [L2.wipe]
    by_cases hv : i = v
    · subst hv
      rw [List.getElem?_set_self (by rw [wipe_length]; exact hl)]
    · rw [List.getElem?_set_ne (Ne.symm hv)]
      exact wipe_none ((List.mem_cons.mp h).resolve_left hv) hl
theorem wipe_same {vs : List Nat} (hl : σ'.length = σ.length) (h : ∀ i, i ∉ vs → σ'[i]? = (wipe σ vs)[i]?) : wipe σ' vs = wipe σ vs := by
  apply List.ext_getElem?
  intro i
  by_cases hi : i ∈ vs
  · by_cases hl' : i < σ.length
    · rw [wipe_none hi hl', wipe_none hi (by rw [hl]; exact hl')]
    · rw [List.getElem?_eq_none (by rw [wipe_length]; omega), List.getElem?_eq_none (by rw [wipe_length]; omega)]
  · rw [wipe_out hi, h i hi]
end
end Eg
set_option Elab.async false
set_option linter.all false
set_option maxRecDepth 100000
set_option maxHeartbeats 2000000
/-! The engine, part nine: new lists. -/
namespace Eg
open PySem PySem.Spec PyProof.Rows L2
/-- no exception is wished for -/
abbrev W0 : WX := fun _ _ _ _ => False
section
variable {X : Cx} {G : Gh} {W : WX} {fa fb : Env → Sto → R T} {fs : Env → Sto → R (List T)} {fl fh : Env → Sto → R (Option Int)} {a b : Expr} {es : List Expr} {pos : Pos}
/-- a frozen list -/
theorem s_fz {e : Expr} (h : PE X e (tL G W fs)) : PE X e (tE G W fun env st => (fs env st).bnd fun xs st1 => .ok (.lst xs) st1) := by
  refine PE.imp h fun σ H Q ⟨m, env, st, rs, h⟩ => ⟨m, env, st, rs, (Rn.bnd h).imp fun xs st' vs H' m' rs' _ r q p hp => ?_⟩
  exact Rn.next (K := Kq Q) q (rs'.fresh hp) (Stp.fresh hp) ⟨p, vs, rfl, ⟨rs'.sto.free hp, upd_same⟩, Rps.mov (Stp.fresh hp).toMov _ _ r⟩
def fDl (fs : Env → Sto → R (List T)) : Env → Sto → R (List T) := fun env st => (fs env st).bnd fun xs st1 => if xs.length ≤ lim then .ok xs st1 else .bad
theorem l_lst (h : PA X es (tA G W fs)) : PE X (.List es pos) (tL G W (fDl fs)) := by
  refine PE.imp (pe_lst h) fun σ H Q h => ?_
  show tA G W fs σ H fun xs H1 => xs.length ≤ sizeLine ∧ ∀ p, H1 p = none → Q (.ref p) (upd H1 p (.lst xs))
  refine atA h fun m env st ts vs H1 rs r q => ?_
  by_cases hl : ts.length ≤ lim
  · have hl' : vs.length ≤ sizeLine := by rw [← r.length, ← lim_eq]; exact hl
    rw [if_pos hl] at q
    exact ⟨hl', fun p hp => Rn.here q rs r p hp⟩
  · rw [if_neg hl] at q; exact q.elim
def fCat (fa fb : Env → Sto → R T) : Env → Sto → R (List T) := fun env st => (fa env st).bnd fun x st1 => (fb env st1).bnd fun y st2 => match ownL st2 x, ownL st2 y with
    | some xs, some ys => if xs.length + ys.length ≤ lim then .ok (xs ++ ys) st2 else .bad
    | _, _ => .bad
theorem l_cat (ha : PE X a (tE G W fa)) (hb : PE X b (tE G W fb)) : PE X (.BinOp a .Add b pos) (tL G W (fCat fa fb)) := by
  refine PE.imp (pe_op op_cat ha hb) fun σ H Q h => ?_
  refine at2 h fun m env st t u v w H1 rs r1 r2 q => ?_
  cases e1 : ownL st t with
  | none => rw [e1] at q; exact q.elim
  | some xs =>
    cases e2 : ownL st u with
    | none => rw [e1, e2] at q; exact q.elim
    | some ys =>
      rw [e1, e2] at q
      have q : Rn G W σ env (Rps G) m H1 (if xs.length + ys.length ≤ lim then .ok (xs ++ ys) st else .bad) _ := q
      by_cases hl : xs.length + ys.length ≤ lim
      · rw [if_pos hl] at q
        obtain ⟨l, vs, rfl, h1, rq1⟩ := Rp.own rs.sto r1 e1
        obtain ⟨l2, ws, rfl, h2, rq2⟩ := Rp.own rs.sto r2 e2
        have hl' : vs.length + ws.length ≤ sizeLine := by rw [← rq1.length, ← rq2.length, ← lim_eq]; exact hl
        exact ⟨l, l2, vs, ws, rfl, rfl, h1, h2, hl', fun p hp => Rn.here q rs (rq1.append rq2) p hp⟩
      · rw [if_neg hl] at q; exact q.elim
def fRep (fa fb : Env → Sto → R T) : Env → Sto → R (List T) := fun env st => (fa env st).bnd fun x st1 => (fb env st1).bnd fun y st2 => match ownL st2 x, y with
    | some xs, .int k => if -(2 ^ 62) ≤ k ∧ k < 2 ^ 62 ∧ xs.length * k.toNat ≤ lim then .ok (List.replicate k.toNat xs).flatten st2 else .bad
    | _, _ => .bad
theorem flat_rep {A : Type} (xs : List A) : ∀ k : Nat, (List.replicate k xs).flatten.length = xs.length * k
  | 0 => by simp
  | k + 1 => by rw [List.replicate_succ, List.flatten_cons, List.length_append, flat_rep xs k, Nat.mul_succ, Nat.add_comm]
theorem l_rep (ha : PE X a (tE G W fa)) (hb : PE X b (tE G W fb)) : PE X (.BinOp a .Mult b pos) (tL G W (fRep fa fb)) := by
  refine PE.imp (pe_op op_rep ha hb) fun σ H Q h => ?_
  refine at2 h fun m env st t u v w H1 rs r1 r2 q => ?_
  cases e1 : ownL st t with
  | none => rw [e1] at q; exact q.elim
  | some xs =>
    rw [e1] at q
    cases u with
    | int k =>
      cases (show w = _ from r2)
      have q : Rn G W σ env (Rps G) m H1 (if -(2 ^ 62) ≤ k ∧ k < 2 ^ 62 ∧ xs.length * k.toNat ≤ lim then .ok (List.replicate k.toNat xs).flatten st else .bad) _ := q
      by_cases hl : -(2 ^ 62) ≤ k ∧ k < 2 ^ 62 ∧ xs.length * k.toNat ≤ lim
      · rw [if_pos hl] at q
        obtain ⟨l, vs, rfl, h1, rq1⟩ := Rp.own rs.sto r1 e1
        have hl' : vs.length * k.toNat ≤ sizeLine := by rw [← rq1.length, ← lim_eq]; exact hl.2.2
        exact ⟨l, k, vs, rfl, rfl, h1, by omega, by omega, hl', fun p hp => Rn.here q rs (rq1.rep k.toNat) p hp⟩
      · rw [if_neg hl] at q; exact q.elim
    | _ => exact q.elim
def fLi (fa : Env → Sto → R T) : Env → Sto → R (List T) := fun env st => (fa env st).bnd fun x st1 => R.opt (seqOf st1 x) st1
/-- list(x) -/
theorem l_list {p : Pos} (hK : X.K = G.K) (hg : Gl X "list") (hm : X.mg "list" = none) (ha : PE X a (tE G W fa)) (hs : starEach [a] X.env = [(false, eval a X.env)]) :
    PE X (.Call (.Name "list" p) [a] [] pos) (tL G W (fLi fa)) := by
  refine PE.imp (pe_callTy call_list_of hg hm (by decide +kernel) (pa_cons ha pa_nil hs) (by decide) (by decide) (by rw [hs]; rfl) rfl) fun σ H Q h => ?_
  rw [hK]
  show tE G W fa σ H fun x H1 => ∃ p ys, [x] = [V.ref p] ∧ (SqL G.K H1 p ys ∨ SqT G.K H1 p ys) ∧ ∀ l, H1 l = none → Q (.ref l) (upd H1 l (.lst ys))
  refine at1 h fun m env st t v H1 rs r q => ?_
  cases e : seqOf st t with
  | none => rw [e] at q; exact q.elim
  | some xs =>
    rw [e] at q
    obtain ⟨a, vs, rfl, hs, rq⟩ := Rp.seq rs.sto r e
    exact ⟨a, vs, rfl, hs, fun l hl => Rn.here q rs rq l hl⟩
def fSlL (fa : Env → Sto → R T) (fl fh : Env → Sto → R (Option Int)) : Env → Sto → R (List T) := fun env st => (fa env st).bnd fun x st1 => (fl env st1).bnd fun l st2 => (fh env st2).bnd fun u st3 => match lstOf st3 x with
    | some xs => .ok (cut xs l u) st3
    | none => .bad
theorem l_sl {lo hi : Option Expr} {p2 : Pos} (hK : X.K = G.K) (ha : PE X a (tE G W fa)) (hl : PO X lo (tP G W fl)) (hh : PO X hi (tP G W fh)) :
    PE X (.Subscript a (.Slice lo hi none p2) pos) (tL G W (fSlL fa fl fh)) := by
  refine PE.imp (pe_slice (r := rSlL X.K) sl_list ha hl hh) fun σ H Q h => ?_
  refine at_sl h fun m env st t v l u H1 rs r q => ?_
  rw [hK]
  cases e : lstOf st t with
  | none => rw [e] at q; exact q.elim
  | some xs =>
    rw [e] at q
    obtain ⟨p, vs, rfl, hs, rq⟩ := Rp.lst rs.sto r e
    exact ⟨p, vs, rfl, hs, fun n hn => Rn.here q rs (rq.cut l u) n hn⟩
/-! ### comprehensions -/
/-- a clause's test, by its meaning -/
def tT0 (G : Gh) (f : Env → Sto → R Bool) : TT := fun σ H Q => ∃ m env st, RS G m env st σ H ∧ Rn G W0 σ env (fun _ _ a b => b = a) m H (f env st) (fun _ _ b H' _ => Q b H')
def fYes : Env → Sto → R Bool := fun _ st => .ok true st
def fTst (fa : Env → Sto → R T) : Env → Sto → R Bool := fun env st => (fa env st).bnd fun x st1 => R.opt (asBl x) st1
theorem PTs.imp {X : Cx} {e : List Expr} {t t' : TT} (h : PTs X e t) (k : ∀ σ H Q, t' σ H Q → t σ H Q) : PTs X e t' := ⟨fun pins s σ H Q I q => h.run pins s σ H Q I (k σ H Q q)⟩
theorem ts_nil : PTs X [] (tT0 G fYes) := PTs.imp pts_nil fun σ H Q ⟨m, env, st, rs, q⟩ => Rn.here (b := true) q rs rfl
theorem ts_one {e : Expr} (h : PT X e (tTest (tE G W0 fa))) : PTs X [e] (tT0 G (fTst fa)) := by
  refine PTs.imp (pts_one h) fun σ H Q h => ?_
  show tE G W0 fa σ H fun x H' => ∃ k, x = .bl k ∧ Q k H'
  refine at1 h fun m env st t v H1 rs r q => ?_
  cases t with
  | bl b => exact ⟨b, r, Rn.here (b := b) q rs rfl⟩
  | _ => exact q.elim
def fTurn (own : List Nat) (fe : Env → Sto → R T) (g : IG) (ft : Env → Sto → R Bool) (env : Env) (x : T) (st2 : Sto) : R (Option T) := match g.set x (wipeE env own) with
    | none => .bad
    | some env1 => (ft env1 st2).bnd fun b st3 => if b = true then (fe env1 st3).bnd fun y st4 => .ok (some y) st4 else .ok none st3
def fLc (own : List Nat) (fe : Env → Sto → R T) (g : IG) (fit : Env → Sto → R (List T)) (ft : Env → Sto → R Bool) : Env → Sto → R (List T) := fun env st => (fit env st).bnd fun xs st1 =>
    if xs.length ≤ lim then (each (fTurn own fe g ft env) xs st1).nox else .bad
theorem bnd_ok {A B : Type} {x : R A} {f : A → Sto → R B} {b : B} {s : Sto} (h : x.bnd f = .ok b s) : ∃ a s1, x = .ok a s1 ∧ f a s1 = .ok b s := by
  cases x with
  | ok a s1 => exact ⟨a, s1, rfl, h⟩
  | exc e s1 => cases h
  | bad => cases h
theorem each_cons {f : T → Sto → R (Option T)} {x : T} {xs r : List T} {st s : Sto} (h : each f (x :: xs) st = .ok r s) : ∃ o st1 r1, f x st = .ok o st1 ∧ each f xs st1 = .ok r1 s ∧ r = (match o with
    | some y => y :: r1
    | none => r1) := by
  obtain ⟨o, st1, h1, h⟩ := bnd_ok h
  obtain ⟨r1, st2, h2, h⟩ := bnd_ok h
  cases h
  exact ⟨o, st1, r1, h1, h2, rfl⟩
theorem lc_imp {own : List Nat} {fe : Env → Sto → R T} {g : IG} {fit : Env → Sto → R (List T)} {ft : Env → Sto → R Bool} (hg : ∀ i, i ∈ g.slots → i ∈ own) {σ : L2.St} {H : Hp} {Q : VK}
    (h : tL G W (fLc own fe g fit ft) σ H Q) : tLc (tI G W fit) (tG G g) (tT0 G ft) (tE G W0 fe) own σ H Q := by
  obtain ⟨m0, env, st0, rs0, h⟩ := h
  refine ⟨m0, env, st0, rs0, (Rn.bnd h).imp fun xs st1 _ H1 m1 rs1 _ _ q J hJ D hD => ?_⟩
  by_cases hl : xs.length ≤ lim
  case neg => rw [if_neg hl] at q; exact q.elim
  rw [if_pos hl] at q
  cases eE : each (fTurn own fe g ft env) xs st1 with
  | exc e s => rw [eE] at q; exact q.elim
  | bad => rw [eE] at q; exact q.elim
  | ok r stE =>
  rw [eE] at q
  have q : Rn G W σ env (Rps G) m1 H1 (.ok r stE) _ := q
  have M0 : Mov m1 H1 (m1.add D) (upd H1 D (.lst [])) := Mov.add hD
  -- the walk
  let Gp : Hp → Prop := fun Hx => ∃ m' st', Mov m1 H1 m' Hx ∧ RSto G m' Hx st'
  let Y : Nat → Hp → V → Hp → Prop := fun i Hx x H'' => (H'' = Hx ∨ ∃ p o, Hx p = none ∧ H'' = upd Hx p o) ∧ ∃ t, xs[i]? = some t ∧ ∀ m' st', Mov m1 H1 m' Hx → RSto G m' Hx st' → Rp G m' H'' t x
  have w : Walk J xs.length Gp Y := by
    refine ⟨fun i Hx hi ⟨m', st', x, _⟩ => hJ.go m' Hx x.F i hi, fun Hx ⟨m', st', x, _⟩ => hJ.stop m' Hx x.F, fun i Hx y H'' hi ⟨m', st', x, s⟩ hy => ?_⟩
    obtain ⟨h1, t, h2, h3⟩ := hJ.yld m' Hx st' x.F s i y H'' hi hy
    refine ⟨h1, t, h2, fun m2 st2 x2 s2 => ?_⟩
    obtain ⟨_, t2, h4, h5⟩ := hJ.yld m2 Hx st2 x2.F s2 i y H'' hi hy
    rw [h2] at h4; cases h4
    exact h5
  let Pv : Nat → Hp → Prop := fun i Hx => ∃ m' st' acc vs r', Mov m1 H1 m' Hx ∧ m'.fo = (m1.add D).fo ∧ REnv G m' Hx env σ ∧ RSto G m' Hx st' ∧ Hx D = some (.lst vs) ∧ Rps G m' Hx acc vs ∧ acc.length ≤ i ∧
    each (fTurn own fe g ft env) (xs.drop i) st' = .ok r' stE ∧ r = acc ++ r'
  refine lc_it w Pv ?h0 ?hG ?hs ?hd
  case h0 =>
    exact ⟨m1.add D, st1, [], [], r, M0, rfl, rs1.env.mov M0, rs1.sto.add hD, upd_same, rfl, Nat.le_refl _, by simpa using eE, rfl⟩
  case hG =>
    rintro i Hx _ ⟨m', st', acc, vs, r', x, _, _, s, _⟩
    exact ⟨m', st', x, s⟩
  case hd =>
    rintro Hx ⟨m', st', acc, vs, r', x, hfo, re, s, hDx, ra, _, eD, er⟩
    rw [List.drop_length] at eD
    have eD : R.ok [] st' = R.ok r' stE := eD
    cases eD
    rw [List.append_nil] at er
    subst er
    have hfoD : m'.fo D := by rw [hfo]; exact .inr rfl
    have nD : ¬ m1.fo D := fun z => rs1.sto.foS D z hD
    have k1 : ∀ a, ¬ m'.fo a → era Hx D a = Hx a := fun a h => era_ne fun z => h (z ▸ hfoD)
    have k2 : ∀ a, ¬ m'.w a → era Hx D a = Hx a := fun a h => k1 a fun z => h (.inr z)
    have f1 : ∀ a, m1.fo a → m'.fo a := fun a h => by rw [hfo]; exact .inl h
    have w1 : ∀ a, (⟨m'.as, m1.fo⟩ : Mm).w a → m'.w a := fun a h => by
      rcases h with h | h
      · exact .inl h
      · exact .inr (f1 a h)
    have s2 : RSto G ⟨m'.as, m1.fo⟩ (era Hx D) stE := s.sub k1 f1 rfl fun a h => by
      have hne : a ≠ D := fun z => nD (z ▸ h)
      rw [era_ne hne]
      exact s.foS a (f1 a h)
    have st : Stp m1 H1 ⟨m'.as, m1.fo⟩ (era Hx D) := by
      have x2 := x
      refine ⟨⟨fun a o h hn => ?_, fun a h => x2.newA a h, fun a h => .inl (.inr h), x2.pre⟩, rfl⟩
      have hne : a ≠ D := fun z => by subst z; rw [h] at hD; cases hD
      rw [era_ne hne]
      exact x2.keep a o h hn
    have z := q vs (era Hx D) ⟨m'.as, m1.fo⟩ ⟨re.sub k2 w1 rfl, s2⟩ st (Rps.sub k2 w1 rfl _ _ ra) D era_at
    rw [era_upd hDx] at z
    exact z
  case hs =>
    rintro i y Hx H'' hi ⟨m', st', acc, vs, r', x, hfo, re, s, hDx, ra, hla, eD, er⟩ ⟨hH, t, ht, hrp⟩
    have rt := hrp m' st' x s
    have hdr : xs.drop i = t :: xs.drop (i + 1) := by
      obtain ⟨h1, h2⟩ := List.getElem?_eq_some_iff.mp ht
      rw [List.drop_eq_getElem_cons h1, h2]
    rw [hdr] at eD
    obtain ⟨o, st2, r2, e1, e2, e3⟩ := each_cons eD
    unfold fTurn at e1
    cases eg : g.set t (wipeE env own) with
    | none => rw [eg] at e1; cases e1
    | some env1 =>
    rw [eg] at e1
    obtain ⟨b, st3, e4, e1⟩ := bnd_ok e1
    have hfoD : m'.fo D := by rw [hfo]; exact .inr rfl
    -- the heap in which the target is stored
    have S2 : Stp m' Hx m' H'' := by
      rcases hH with rfl | ⟨p, o, hp, rfl⟩
      · exact Stp.refl _ _
      · exact Stp.fresh hp
    have s2 : RSto G m' H'' st' := by
      rcases hH with rfl | ⟨p, o, hp, rfl⟩
      · exact s
      · exact s.fresh hp
    have re2 := re.mov S2.toMov
    have nDa : D ∉ m'.as := fun z => s.fd D z hfoD
    have hD2 : H'' D = some (.lst vs) := S2.keep D _ hDx nDa
    refine ⟨m', wipeE env own, st', t, env1, ⟨re2.wipe own, s2⟩, rt, eg, fun σ2 rs2 l2 k2 => ⟨?_, ?_⟩⟩
    · refine wipe_same ?_ fun j hj => k2 j fun z => hj (hg j z)
      rw [l2, wipe_length]
    · refine ⟨m', env1, st', rs2, ?_⟩
      rw [e4]
      intro b' H3 m3 rs3 S3 hb
      subst hb
      have fin : ∀ {H4 : Hp} {m4 : Mm} {st4 : Sto}, Stp m' H'' m4 H4 → RSto G m4 H4 st4 → Mov m1 H1 m4 H4 ∧ m4.fo = (m1.add D).fo ∧ REnv G m4 H4 env σ ∧ H4 D = some (.lst vs) ∧ Rps G m4 H4 acc vs := fun {H4 m4 st4} S4 s4 =>
        ⟨x.trans (S2.trans S4).toMov, S4.fo.trans hfo, re2.mov S4.toMov, S4.keep D _ hD2 nDa, Rps.mov (S2.trans S4).toMov _ _ ra⟩
      cases b' with
      | false =>
        rw [if_neg (by decide)] at e1 ⊢
        cases e1
        obtain ⟨f1, f2, f3, f4, f5⟩ := fin S3 rs3.sto
        exact ⟨m3, st2, acc, vs, r2, f1, f2, f3, rs3.sto, f4, f5, Nat.le_succ_of_le hla, e2, by rw [er, e3]⟩
      | true =>
        rw [if_pos rfl] at e1 ⊢
        obtain ⟨yt, st4, e5, e1⟩ := bnd_ok e1
        cases e1
        refine ⟨m3, env1, st3, rs3, ?_⟩
        rw [e5]
        intro v H4 m4 rs4 S4 rv
        have S34 := S3.trans S4
        obtain ⟨f1, f2, f3, f4, f5⟩ := fin S34 rs4.sto
        have hfo4 : m4.fo D := by rw [f2]; exact .inr rfl
        refine ⟨vs, f4, ?_, m4, st2, acc ++ [yt], vs ++ [v], r2, ?_, f2, f3.upd hfo4, rs4.sto.upd hfo4, upd_same, Rps.upd (f5.append ⟨v, [], rfl, rv, rfl⟩) hfo4, by rw [List.length_append, List.length_singleton]; omega, e2, by rw [er, e3, List.append_assoc]; rfl⟩
        · rw [← f5.length, ← lim_eq]; omega
        · refine ⟨fun a o h hn => ?_, f1.newA, f1.newF, f1.pre⟩
          by_cases ha : a = D
          · subst ha; rw [hD] at h; cases h
          · rw [upd_ne ha]; exact f1.keep a o h hn
end
end Eg
set_option Elab.async false
set_option linter.all false
set_option maxRecDepth 100000
set_option maxHeartbeats 2000000
/-! The engine: comprehensions of two clauses. -/
namespace Eg
open PySem PySem.Spec PyProof.Rows L2
theorem walk_it {J : It} {n : Nat} {Gp : Hp → Prop} {Y : Nat → Hp → V → Hp → Prop} (w : Walk J n Gp Y) {Qd : Hp → Prop} {H0 : Hp} {B : V → Hp → (Hp → Prop) → Prop} (Pv : Nat → Hp → Prop) (h0 : Pv 0 H0) (hG : ∀ i H, i ≤ n → Pv i H → Gp H)
    (hs : ∀ i x H H', i < n → Pv i H → Y i H x H' → B x H' (Pv (i + 1))) (hd : ∀ H, Pv n H → Qd H) :
    ∃ W : Nat → Nat → Hp → Prop, (∃ m, W 0 m H0) ∧ ∀ i m H, W i m H →
      (J.stop i H ∧ Qd H) ∨ (J.go i H ∧ ∃ Nx : Hp → Prop, (∀ H', Nx H' → ∃ m', m' < m ∧ W (i + 1) m' H') ∧ ∀ x H', J.yld i H x H' → B x H' Nx) := by
  refine ⟨fun i m H => m = n - i ∧ i ≤ n ∧ Pv i H, ⟨n, by simp, Nat.zero_le _, h0⟩, ?_⟩
  rintro i m H ⟨rfl, hi, p⟩
  have q := hG i H hi p
  by_cases c : i < n
  · refine .inr ⟨w.goes i H c q, Pv (i + 1), fun H' p' => ⟨n - (i + 1), by omega, rfl, c, p'⟩, fun x H' y => ?_⟩
    exact hs i x H H' c p (w.yields i H x H' c q y)
  · have e : i = n := by omega
    subst e
    exact .inl ⟨w.stops H q, hd H p⟩
section
variable {G : Gh} {W : WX}
/-- a walk of trees as a walk of the hand layer -/
theorem wk_walk {m1 : Mm} {H1 : Hp} {J : It} {xs : List T} (hJ : Wk G m1 H1 J xs) : Walk J xs.length (fun Hx => ∃ m' st', MovF m1 H1 m' Hx ∧ RSto G m' Hx st')
    (fun i Hx x H'' => (H'' = Hx ∨ ∃ p o, Hx p = none ∧ H'' = upd Hx p o) ∧ ∃ t, xs[i]? = some t ∧ ∀ m' st', MovF m1 H1 m' Hx → RSto G m' Hx st' → Rp G m' H'' t x) := by
  refine ⟨fun i Hx hi ⟨m', st', x, _⟩ => hJ.go m' Hx x i hi, fun Hx ⟨m', st', x, _⟩ => hJ.stop m' Hx x, fun i Hx y H'' hi ⟨m', st', x, s⟩ hy => ?_⟩
  obtain ⟨h1, t, h2, h3⟩ := hJ.yld m' Hx st' x s i y H'' hi hy
  refine ⟨h1, t, h2, fun m2 st2 x2 s2 => ?_⟩
  obtain ⟨_, t2, h4, h5⟩ := hJ.yld m2 Hx st2 x2 s2 i y H'' hi hy
  rw [h2] at h4; cases h4
  exact h5
def eachL (f : T → Sto → R (List T)) : List T → Sto → R (List T)
  | [], st => .ok [] st
  | x :: xs, st => (f x st).bnd fun r st1 => (eachL f xs st1).bnd fun rs st2 => .ok (r ++ rs) st2
theorem eachL_cons {f : T → Sto → R (List T)} {x : T} {xs r : List T} {st s : Sto} (h : eachL f (x :: xs) st = .ok r s) : ∃ r1 st1 r2, f x st = .ok r1 st1 ∧ eachL f xs st1 = .ok r2 s ∧ r = r1 ++ r2 := by
  obtain ⟨o, st1, h1, h⟩ := bnd_ok h
  obtain ⟨r1, st2, h2, h⟩ := bnd_ok h
  cases h
  exact ⟨o, st1, r1, h1, h2, rfl⟩
/-- a turn of the outer clause -/
def fTurnL (own vs1 : List Nat) (fe : Env → Sto → R T) (g : IG) (ft : Env → Sto → R Bool) (g1 : IG) (fit1 : Env → Sto → R (List T)) (ft1 : Env → Sto → R Bool) (env : Env) (x : T) (st2 : Sto) : R (List T) := match g.set x (wipeE env own) with
    | none => .bad
    | some env1 => (ft env1 st2).bnd fun b st3 => if b = true then (fit1 env1 st3).bnd fun ys st4 => if ys.length ≤ lim then each (fTurn vs1 fe g1 ft1 env1) ys st4 else .bad else .ok [] st3
def fLc2 (own vs1 : List Nat) (fe : Env → Sto → R T) (g : IG) (fit : Env → Sto → R (List T)) (ft : Env → Sto → R Bool) (g1 : IG) (fit1 : Env → Sto → R (List T)) (ft1 : Env → Sto → R Bool) : Env → Sto → R (List T) := fun env st => (fit env st).bnd fun xs st1 =>
    if xs.length ≤ lim then ((eachL (fTurnL own vs1 fe g ft g1 fit1 ft1 env) xs st1).bnd fun r st2 => if r.length ≤ lim then .ok r st2 else .bad).nox else .bad
theorem MovF.upd {m1 m : Mm} {H1 H : Hp} {D : Addr} {o : HO} (x : MovF m1 H1 m H) (hD : m1.fo D) : MovF m1 H1 m (upd H D o) := by
  refine ⟨fun a u h hn => ?_, x.newA, x.newF, x.pre, fun a hf hm h => ?_⟩
  · have hne : a ≠ D := fun z => hn (.inr (z ▸ hD))
    rw [upd_ne hne]; exact x.keep a u h hn
  · by_cases e : a = D
    · subst e; rw [upd_same]; simp
    · rw [upd_ne e]; exact x.stay a hf hm h
theorem lc2_imp {own vs1 : List Nat} {fe : Env → Sto → R T} {g g1 : IG} {fit fit1 : Env → Sto → R (List T)} {ft ft1 : Env → Sto → R Bool} (hg : ∀ i, i ∈ g.slots → i ∈ own) (hg1 : ∀ i, i ∈ g1.slots → i ∈ vs1) {σ : L2.St} {H : Hp} {Q : VK}
    (h : tL G W (fLc2 own vs1 fe g fit ft g1 fit1 ft1) σ H Q) : tLc2 (tI G W fit) (tG G g) (tT0 G ft) (tI G W0 fit1) (tG G g1) (tT0 G ft1) (tE G W0 fe) own vs1 σ H Q := by
  obtain ⟨m0, env, st0, rs0, h⟩ := h
  refine ⟨m0, env, st0, rs0, (Rn.bnd h).imp fun xs st1 _ H1 m1 rs1 _ _ q J hJ D hD => ?_⟩
  by_cases hl : xs.length ≤ lim
  case neg => rw [if_neg hl] at q; exact q.elim
  rw [if_pos hl] at q
  cases eE : eachL (fTurnL own vs1 fe g ft g1 fit1 ft1 env) xs st1 with
  | exc e s => rw [eE] at q; exact q.elim
  | bad => rw [eE] at q; exact q.elim
  | ok r stE =>
  rw [eE] at q
  by_cases hrl : r.length ≤ lim
  case neg =>
    have : ((R.ok r stE).bnd fun r st2 => if r.length ≤ lim then R.ok r st2 else .bad).nox = .bad := by
      show (if r.length ≤ lim then R.ok r stE else .bad).nox = .bad
      rw [if_neg hrl]; rfl
    rw [this] at q; exact q.elim
  have hq : ((R.ok r stE).bnd fun r st2 => if r.length ≤ lim then R.ok r st2 else .bad).nox = .ok r stE := by
    show (if r.length ≤ lim then R.ok r stE else .bad).nox = _
    rw [if_pos hrl]; rfl
  rw [hq] at q
  have q : Rn G W σ env (Rps G) m1 H1 (.ok r stE) _ := q
  have M0 : Mov m1 H1 (m1.add D) (upd H1 D (.lst [])) := Mov.add hD
  let Pv : Nat → Hp → Prop := fun i Hx => ∃ m' st' acc vs r', Mov m1 H1 m' Hx ∧ m'.fo = (m1.add D).fo ∧ REnv G m' Hx env σ ∧ RSto G m' Hx st' ∧ Hx D = some (.lst vs) ∧ Rps G m' Hx acc vs ∧
    eachL (fTurnL own vs1 fe g ft g1 fit1 ft1 env) (xs.drop i) st' = .ok r' stE ∧ r = acc ++ r'
  refine walk_it (wk_walk hJ) Pv ?h0 ?hG ?hs ?hd
  case h0 =>
    exact ⟨m1.add D, st1, [], [], r, M0, rfl, rs1.env.mov M0, rs1.sto.add hD, upd_same, rfl, by simpa using eE, rfl⟩
  case hG =>
    rintro i Hx _ ⟨m', st', acc, vs, r', x, _, _, s, _⟩
    exact ⟨m', st', x.F, s⟩
  case hd =>
    rintro Hx ⟨m', st', acc, vs, r', x, hfo, re, s, hDx, ra, eD, er⟩
    rw [List.drop_length] at eD
    have eD : R.ok [] st' = R.ok r' stE := eD
    cases eD
    rw [List.append_nil] at er
    subst er
    have hfoD : m'.fo D := by rw [hfo]; exact .inr rfl
    have nD : ¬ m1.fo D := fun z => rs1.sto.foS D z hD
    have k1 : ∀ a, ¬ m'.fo a → era Hx D a = Hx a := fun a h => era_ne fun z => h (z ▸ hfoD)
    have k2 : ∀ a, ¬ m'.w a → era Hx D a = Hx a := fun a h => k1 a fun z => h (.inr z)
    have f1 : ∀ a, m1.fo a → m'.fo a := fun a h => by rw [hfo]; exact .inl h
    have w1 : ∀ a, (⟨m'.as, m1.fo⟩ : Mm).w a → m'.w a := fun a h => by
      rcases h with h | h
      · exact .inl h
      · exact .inr (f1 a h)
    have s2 : RSto G ⟨m'.as, m1.fo⟩ (era Hx D) stE := s.sub k1 f1 rfl fun a h => by
      have hne : a ≠ D := fun z => nD (z ▸ h)
      rw [era_ne hne]
      exact s.foS a (f1 a h)
    have st : Stp m1 H1 ⟨m'.as, m1.fo⟩ (era Hx D) := by
      refine ⟨⟨fun a o h hn => ?_, fun a h => x.newA a h, fun a h => .inl (.inr h), x.pre⟩, rfl⟩
      have hne : a ≠ D := fun z => by subst z; rw [h] at hD; cases hD
      rw [era_ne hne]
      exact x.keep a o h hn
    have z := q vs (era Hx D) ⟨m'.as, m1.fo⟩ ⟨re.sub k2 w1 rfl, s2⟩ st (Rps.sub k2 w1 rfl _ _ ra) D era_at
    rw [era_upd hDx] at z
    exact z
  case hs =>
    rintro i y Hx H'' hi ⟨m', st', acc, vs, r', x, hfo, re, s, hDx, ra, eD, er⟩ ⟨hH, t, ht, hrp⟩
    have rt := hrp m' st' x.F s
    have hdr : xs.drop i = t :: xs.drop (i + 1) := by
      obtain ⟨h1, h2⟩ := List.getElem?_eq_some_iff.mp ht
      rw [List.drop_eq_getElem_cons h1, h2]
    rw [hdr] at eD
    obtain ⟨r1, st2, r2, e1, e2, e3⟩ := eachL_cons eD
    unfold fTurnL at e1
    cases eg : g.set t (wipeE env own) with
    | none => rw [eg] at e1; cases e1
    | some env1 =>
    rw [eg] at e1
    obtain ⟨b, st3, e4, e1⟩ := bnd_ok e1
    have hfoD : m'.fo D := by rw [hfo]; exact .inr rfl
    have S2 : Stp m' Hx m' H'' := by
      rcases hH with rfl | ⟨p, o, hp, rfl⟩
      · exact Stp.refl _ _
      · exact Stp.fresh hp
    have s2 : RSto G m' H'' st' := by
      rcases hH with rfl | ⟨p, o, hp, rfl⟩
      · exact s
      · exact s.fresh hp
    have re2 := re.mov S2.toMov
    have nDa : D ∉ m'.as := fun z => s.fd D z hfoD
    have hD2 : H'' D = some (.lst vs) := S2.keep D _ hDx nDa
    refine ⟨m', wipeE env own, st', t, env1, ⟨re2.wipe own, s2⟩, rt, eg, fun σ2 rs2 l2 k2 => ⟨?_, ?_⟩⟩
    · refine wipe_same ?_ fun j hj => k2 j fun z => hj (hg j z)
      rw [l2, wipe_length]
    · refine ⟨m', env1, st', rs2, ?_⟩
      rw [e4]
      intro b' H3 m3 rs3 S3 hb
      subst hb
      have fin : ∀ {H4 : Hp} {m4 : Mm} {st4 : Sto}, Stp m' H'' m4 H4 → RSto G m4 H4 st4 → Mov m1 H1 m4 H4 ∧ m4.fo = (m1.add D).fo ∧ REnv G m4 H4 env σ ∧ H4 D = some (.lst vs) ∧ Rps G m4 H4 acc vs := fun {H4 m4 st4} S4 s4 =>
        ⟨x.trans (S2.trans S4).toMov, S4.fo.trans hfo, re2.mov S4.toMov, S4.keep D _ hD2 nDa, Rps.mov (S2.trans S4).toMov _ _ ra⟩
      cases b' with
      | false =>
        rw [if_neg (by decide)] at e1 ⊢
        cases e1
        obtain ⟨f1, f2, f3, f4, f5⟩ := fin S3 rs3.sto
        exact ⟨m3, st2, acc, vs, r2, f1, f2, f3, rs3.sto, f4, f5, e2, by rw [er, e3]; rfl⟩
      | true =>
        rw [if_pos rfl] at e1 ⊢
        obtain ⟨ys, st4, e5, e1⟩ := bnd_ok e1
        by_cases hl1 : ys.length ≤ lim
        case neg => rw [if_neg hl1] at e1; cases e1
        rw [if_pos hl1] at e1
        refine ⟨m3, env1, st3, rs3, ?_⟩
        rw [e5]
        intro _ H4 m4 rs4 S4 _ J1 hJ1
        have S34 := S3.trans S4
        obtain ⟨f1, f2, f3, f4, f5⟩ := fin S34 rs4.sto
        have hfo4 : m4.fo D := by rw [f2]; exact .inr rfl
        -- the inner walk
        let Pi : Nat → Hp → Prop := fun j Hy => ∃ n' st' acc vs r1', Mov m1 H1 n' Hy ∧ MovF m4 H4 n' Hy ∧ n'.fo = (m1.add D).fo ∧ REnv G n' Hy env σ ∧ REnv G n' Hy env1 σ2 ∧ RSto G n' Hy st' ∧ Hy D = some (.lst vs) ∧ Rps G n' Hy acc vs ∧
          each (fTurn vs1 fe g1 ft1 env1) (ys.drop j) st' = .ok r1' st2 ∧ r = acc ++ (r1' ++ r2)
        refine walk_it (B := fun x1 H' Nx1 => tG G g1 x1 (L2.wipe σ2 vs1) H' fun σ3 H5 => L2.wipe σ3 vs1 = L2.wipe σ2 vs1 ∧ tT0 G ft1 σ3 H5 fun b H6 =>
          if b = true then tE G W0 fe σ3 H6 fun y H7 => ∃ acc, H7 D = some (.lst acc) ∧ acc.length < sizeLine ∧ Nx1 (upd H7 D (.lst (acc ++ [y]))) else Nx1 H6) (wk_walk hJ1) Pi ?i0 ?iG ?is ?id
        case i0 =>
          exact ⟨m4, st4, acc, vs, r1, f1, (Stp.refl m4 H4).toMov.F, f2, f3, rs4.env, rs4.sto, f4, f5, by simpa using e1, by rw [er, e3]⟩
        case iG =>
          rintro j Hy _ ⟨n', st', _, _, _, _, x, _, _, _, s, _⟩
          exact ⟨n', st', x, s⟩
        case id =>
          rintro Hy ⟨n', st', acc, vs, r1', x, _, hf, re3, _, s, hDy, ra3, eD, er3⟩
          rw [List.drop_length] at eD
          have eD : R.ok [] st' = R.ok r1' st2 := eD
          cases eD
          exact ⟨n', st2, acc, vs, r2, x, hf, re3, s, hDy, ra3, e2, by rw [er3]; rfl⟩
        case is =>
          rintro j y1 Hy Hz hj ⟨n', st', acc, vs, r1', x, xF, hf, re3, re4, s, hDy, ra3, eD, er3⟩ ⟨hH, u, hu, hru⟩
          have ru := hru n' st' xF s
          have hdr : ys.drop j = u :: ys.drop (j + 1) := by
            obtain ⟨h1, h2⟩ := List.getElem?_eq_some_iff.mp hu
            rw [List.drop_eq_getElem_cons h1, h2]
          rw [hdr] at eD
          obtain ⟨o, st5, r3, g1', g2, g3⟩ := each_cons eD
          unfold fTurn at g1'
          cases eg1 : g1.set u (wipeE env1 vs1) with
          | none => rw [eg1] at g1'; cases g1'
          | some env2 =>
          rw [eg1] at g1'
          obtain ⟨b1, st6, g4, g1'⟩ := bnd_ok g1'
          have hfoDn : n'.fo D := by rw [hf]; exact .inr rfl
          have T2 : Stp n' Hy n' Hz := by
            rcases hH with rfl | ⟨p, o, hp, rfl⟩
            · exact Stp.refl _ _
            · exact Stp.fresh hp
          have t2 : RSto G n' Hz st' := by
            rcases hH with rfl | ⟨p, o, hp, rfl⟩
            · exact s
            · exact s.fresh hp
          have nDn : D ∉ n'.as := fun z => s.fd D z hfoDn
          have hD5 : Hz D = some (.lst vs) := T2.keep D _ hDy nDn
          refine ⟨n', wipeE env1 vs1, st', u, env2, ⟨(re4.mov T2.toMov).wipe vs1, t2⟩, ru, eg1, fun σ3 rs5 l5 k5 => ⟨?_, ?_⟩⟩
          · refine wipe_same ?_ fun j hj => k5 j fun z => hj (hg1 j z)
            rw [l5, wipe_length]
          · refine ⟨n', env2, st', rs5, ?_⟩
            rw [g4]
            intro b'' H6 m6 rs6 S6 hb
            subst hb
            have fin1 : ∀ {H7 : Hp} {m7 : Mm} {st7 : Sto}, Stp n' Hz m7 H7 → RSto G m7 H7 st7 → Mov m1 H1 m7 H7 ∧ MovF m4 H4 m7 H7 ∧ m7.fo = (m1.add D).fo ∧ REnv G m7 H7 env σ ∧ REnv G m7 H7 env1 σ2 ∧ H7 D = some (.lst vs) ∧ Rps G m7 H7 acc vs := fun {H7 m7 st7} S7 s7 =>
              ⟨x.trans (T2.trans S7).toMov, xF.trans (T2.trans S7).toMov, S7.fo.trans hf, re3.mov (T2.trans S7).toMov, re4.mov (T2.trans S7).toMov, S7.keep D _ hD5 nDn, Rps.mov (T2.trans S7).toMov _ _ ra3⟩
            cases b'' with
            | false =>
              rw [if_neg (by decide)] at g1' ⊢
              cases g1'
              obtain ⟨a1, a2, a3, a4, a5, a6, a7⟩ := fin1 S6 rs6.sto
              exact ⟨m6, st5, acc, vs, r3, a1, a2, a3, a4, a5, rs6.sto, a6, a7, g2, by rw [er3, g3]⟩
            | true =>
              rw [if_pos rfl] at g1' ⊢
              obtain ⟨yt, st8, g5, g1'⟩ := bnd_ok g1'
              cases g1'
              refine ⟨m6, env2, st6, rs6, ?_⟩
              rw [g5]
              intro v H7 m7 rs7 S7 rv
              have S67 := S6.trans S7
              obtain ⟨a1, a2, a3, a4, a5, a6, a7⟩ := fin1 S67 rs7.sto
              have hfo7 : m7.fo D := by rw [a3]; exact .inr rfl
              refine ⟨vs, a6, ?_, m7, st5, acc ++ [yt], vs ++ [v], r3, ?_, a2.upd hfo4, a3, a4.upd hfo7, a5.upd hfo7, rs7.sto.upd hfo7, upd_same, Rps.upd (a7.append ⟨v, [], rfl, rv, rfl⟩) hfo7, g2, by rw [er3, g3, List.append_assoc]; rfl⟩
              · rw [← a7.length, ← lim_eq]
                have := congrArg List.length er3
                rw [g3, List.length_append, List.length_append, List.length_cons] at this
                omega
              · refine ⟨fun a o h hn => ?_, a1.newA, a1.newF, a1.pre⟩
                by_cases ha : a = D
                · subst ha; rw [hD] at h; cases h
                · rw [upd_ne ha]; exact a1.keep a o h hn
end
end Eg
set_option Elab.async false
set_option linter.all false
set_option maxRecDepth 100000
set_option maxHeartbeats 4000000
/-! The engine: tuples that are repeated. -/
namespace Eg
open PySem PySem.Spec PyProof.Rows L2
theorem tuple_mul_one (l : Addr) (items : Array Value) (n : Nat) (dd : Option Addr) (sl : Array (Option Value)) (u : Tok) :
    Meets (Builtin.«tuple.__mul__» ⟨[.ref l, .int 1 u], []⟩) (fun _ R s => s.heap.get? l = some { cls := .type "tuple", dict := dd, data := .seq items n, slots := sl } ∧ R (.ok (.ret (Value.ref l))) s) :=
  .of_wp fun prog w A R s h => by
    obtain ⟨hp, g, d, tk, os⟩ := s
    obtain ⟨hl, h⟩ := h
    have f1 := AutoSeq1.idx_int
    wp_walk using wpAny_loadPart' hl
    exact ⟨_, rfl, h⟩
/-- a tuple taken once is itself -/
def rRep1 (K : PySem.W.Frag) : R2 := fun x y H Q => ∃ l xs, x = .ref l ∧ y = .int 1 ∧ SqT K H l xs ∧ Q (.ref l) H
section
variable {X : Cx}
theorem op_rep1 : OpR X (binaryOp .Mult) (rRep1 X.K) := by
  intro pins s σ H x y v u Q I rx ry h
  obtain ⟨l, xs, rfl, rfl, hT, q⟩ := h
  cases rx
  obtain ⟨t, rfl⟩ := ry
  obtain ⟨its, r, ⟨⟨cls, dd, data, sl⟩, ho, hc, n, hd⟩, hs⟩ := I.tuple hT
  simp only at hc hd
  subst hc hd
  refine wpAny_binaryOp_repeat_ref (T := "tuple") (U := "int") (by decide) ⟨_, ho, rfl⟩ (fun s' => typeIs_int s' 1 t) noFill_tuple_mul F.fills_int_mul F.slot_int_rmul repeat_tuple F.slot_int_index.lookup
    (call_meets F.slot_int_rmul (typeIs_int s 1 t) F.entry_int_rmul (F.args_int_rmul_2 _ _) (int_rmul_tuple 1 t l its.toArray n dd sl)
      ⟨ho, rfl, ⟨_, ho, rfl⟩, call_meets F.slot_tuple_mul ⟨_, ho, rfl⟩ F.entry_tuple_mul (F.args_tuple_mul_2 _ _) (tuple_mul_one l its.toArray n dd sl t) ⟨ho, ?_⟩⟩)
  exact ⟨.ref l, _, I, rfl, q⟩
end
section
variable {X : Cx} {G : Gh} {W : WX} {fa fb : Env → Sto → R T} {a b : Expr} {pos : Pos}
/-- tuple * int, from one on -/
def fTr (fa fb : Env → Sto → R T) : Env → Sto → R T := fun env st => (fa env st).bnd fun x st1 => (fb env st1).bnd fun y st2 => match x, y with
    | .tup xs, .int k => if xs ≠ [] ∧ 1 ≤ k ∧ k ≤ 1000 ∧ xs.length ≤ 1000 then .ok (.tup (List.replicate k.toNat xs).flatten) st2 else .bad
    | _, _ => .bad
def rTr (K : PySem.W.Frag) : R2 := fun x y H Q => rRep1 K x y H Q ∨ rRepT K x y H Q
theorem op_tr : OpR X (binaryOp .Mult) (rTr X.K) := fun pins s σ H x y v u Q I rx ry h => by
  rcases h with h | h
  · exact op_rep1 pins s σ H x y v u Q I rx ry h
  · exact op_repT pins s σ H x y v u Q I rx ry h
theorem s_tr (hK : X.K = G.K) (ha : PE X a (tE G W fa)) (hb : PE X b (tE G W fb)) : PE X (.BinOp a .Mult b pos) (tE G W (fTr fa fb)) := by
  refine PE.imp (pe_op op_tr ha hb) fun σ H Q h => ?_
  rw [hK]
  refine at2 h fun m env st t u v w H1 rs r1 r2 q => ?_
  cases t with
  | tup xs =>
    cases u with
    | int k =>
      cases (show w = _ from r2)
      have q : Rn G W σ env (Rp G) m H1 (if xs ≠ [] ∧ 1 ≤ k ∧ k ≤ 1000 ∧ xs.length ≤ 1000 then .ok (.tup (List.replicate k.toNat xs).flatten) st else .bad) (Kq Q) := q
      by_cases c : xs ≠ [] ∧ 1 ≤ k ∧ k ≤ 1000 ∧ xs.length ≤ 1000
      · rw [if_pos c] at q
        have r1' := r1
        obtain ⟨l, vs, rfl, h, rq⟩ := r1
        have sq : SqT G.K H1 l vs := .inl (.inl h.2)
        by_cases k1 : k = 1
        · subst k1
          refine .inl ⟨l, vs, rfl, rfl, sq, Rn.give q rs ?_⟩
          have e : (List.replicate (1 : Int).toNat xs).flatten = xs := by simp
          rw [e]
          exact r1'
        · refine .inr ⟨l, k, vs, rfl, rfl, sq, fun z => c.1 (List.length_eq_zero_iff.mp (by rw [rq.length, z]; rfl)), by omega, c.2.2.1, by rw [← rq.length]; exact c.2.2.2, fun p hp => Rn.tup q rs (rq.rep k.toNat) hp⟩
      · rw [if_neg c] at q; exact q.elim
    | _ => exact q.elim
  | _ => exact q.elim
end
end Eg
set_option Elab.async false
set_option linter.all false
set_option maxRecDepth 100000
set_option maxHeartbeats 2000000
/-! The engine: list(zip(a, b, c)). -/
namespace Eg
open PySem PySem.Spec PyProof.Rows
theorem zip_no_len : typeLookup (.type "zip") "__len__" = pure none := am_miss_of_fast (by decide +kernel)
theorem zip_no_hint : typeLookup (.type "zip") "__length_hint__" = pure none := am_miss_of_fast (by decide +kernel)
section
variable {prog : Program} {w : World} {A : Around} {E : Value → Shared → Prop} {s : Shared} {z TI TO i1 i2 i3 : Addr} {fp1 fp2 fp3 : List Addr} {n1 n2 n3 i : Nat} {P1 P2 P3 : Nat → Value → Prop} {St1 St2 St3 : Nat → Heap → Prop}
theorem z3_item_held {T : Addr} {f : Bool} {oT : Obj} {Q : Value → Shared → Prop} (S : ZipSep3 z TI TO i1 i2 i3 fp1 fp2 fp3) (D1 : Draws prog w A i1 fp1 n1 P1 St1) (D2 : Draws prog w A i2 fp2 n2 P2 St2) (D3 : Draws prog w A i3 fp3 n3 P3 St3)
    (hz : IsZipHeld s.heap z TI TO T f) (hT : s.heap.get? T = some oT) (hTI : IsTupOf3 s.heap TI (.ref i1) (.ref i2) (.ref i3)) (st1 : St1 i s.heap) (st2 : St2 i s.heap) (st3 : St3 i s.heap) (hlt1 : i < n1) (hlt2 : i < n2) (hlt3 : i < n3)
    (hQ : ∀ x1 x2 x3 h' tk, P1 i x1 → P2 i x2 → P3 i x3 → IsZipHeld h' z TI TO T true → St1 (i + 1) h' → St2 (i + 1) h' → St3 (i + 1) h' → IsTupOf3 h' s.heap.objs.size x1 x2 x3 → h'.objs.size = s.heap.objs.size + 1 →
      (∀ c o, c ≠ z → c ≠ i1 → c ≠ i2 → c ≠ i3 → s.heap.get? c = some o → h'.get? c = some o) → Q (.ref s.heap.objs.size) { s with heap := h', toks := tk }) :
    wpAny (model prog w) A (Builtin.«zip.__next__» ⟨[.ref z], []⟩) (fun fin s' => ∃ v, fin = .done (.ret v) ∧ Q v s') E s := by
  obtain ⟨hp, g, d, tk0, os⟩ := s
  show wpAny _ _ (field (.ref z) 2 >>= _) _ _ _
  refine wpAny_bind (wpAny_field hz rfl (x := .bool false) rfl ?_)
  show wpAny _ _ (field (.ref z) 3 >>= _) _ _ _
  refine wpAny_bind (wpAny_field hz rfl (x := .ref TI) rfl ?_)
  refine wpAny_bind (wpAny_seqItems hTI rfl ?_)
  show wpAny _ _ (Builtin.SmallTypes.ownedTupleIsFree (.ref z) >>= _) _ _ _
  refine wpAny_bind (wpAny_tupleHeld_zip hz hT fun g0 hz0 hs0 => ?_)
  replace hs0 : Heap.SameBut z hp g0 := hs0
  simp only [Bool.false_eq_true, if_false]
  refine wpAny_bind ?_
  rw [← Array.forIn_toList]
  simp only [List.forIn_cons, List.forIn_nil]
  refine wpAny_bind (wpAny_bind (wpAny_holding ?_))
  show wpAny _ _ (Builtin.SmallTypes.nextOf (.ref i1) >>= _) _ _ ⟨g0, g, d, tk0, os⟩
  refine wpAny_bind (D1.item i _ _ _ hlt1 (D1.over st1 hs0 S.zf1) fun x1 p1 tk1 hx1 sn1 hp1 => wpAny_pure ?_)
  replace hp1 : Heap.SameBut i1 g0 p1 := hp1
  refine wpAny_pure ?_
  refine wpAny_bind (wpAny_bind (wpAny_holding ?_))
  show wpAny _ _ (Builtin.SmallTypes.nextOf (.ref i2) >>= _) _ _ ⟨p1, g, d, tk1, os⟩
  refine wpAny_bind (D2.item i _ _ _ hlt2 (D2.over (D2.over st2 hs0 S.zf2) hp1 S.sep1_2) fun x2 p2 tk2 hx2 sn2 hp2 => wpAny_pure ?_)
  replace hp2 : Heap.SameBut i2 p1 p2 := hp2
  refine wpAny_pure ?_
  refine wpAny_bind (wpAny_bind (wpAny_holding ?_))
  show wpAny _ _ (Builtin.SmallTypes.nextOf (.ref i3) >>= _) _ _ ⟨p2, g, d, tk2, os⟩
  refine wpAny_bind (D3.item i _ _ _ hlt3 (D3.over (D3.over (D3.over st3 hs0 S.zf3) hp1 S.sep1_3) hp2 S.sep2_3) fun x3 p3 tk3 hx3 sn3 hp3 => wpAny_pure ?_)
  replace hp3 : Heap.SameBut i3 p2 p3 := hp3
  refine wpAny_pure (wpAny_pure ?_)
  show wpAny _ _ (newTuple [x1, x2, x3] >>= _) _ _ ⟨p3, g, d, tk3, os⟩
  refine wpAny_bind (wpAny_newTuple ?_)
  have hsz : p3.objs.size = hp.objs.size := by rw [hp3.1, hp2.1, hp1.1, hs0.1]
  have hz3 : IsZipHeld p3 z TI TO T true := hp3.extBut _ _ S.zi3 (hp2.extBut _ _ S.zi2 (hp1.extBut _ _ S.zi1 hz0))
  have hk : ∀ c o, c ≠ z → c ≠ i1 → c ≠ i2 → c ≠ i3 → hp.get? c = some o → p3.get? c = some o := fun c o cz c1 c2 c3 e => hp3.extBut _ _ c3 (hp2.extBut _ _ c2 (hp1.extBut _ _ c1 (hs0.extBut _ _ cz e)))
  have hj1 : St1 (i + 1) p3 := D1.over (D1.over sn1 hp2 S.sep2_1) hp3 S.sep3_1
  have hj2 : St2 (i + 1) p3 := D2.over sn2 hp3 S.sep3_2
  refine wpAny_pure ⟨_, rfl, ?_⟩
  show Q (.ref p3.objs.size) _
  have hp : IsTupOf3 (p3.push { cls := .type "tuple", data := .seq #[x1, x2, x3] }) p3.objs.size x1 x2 x3 := Heap.get?_push_size _ rfl
  have hz4 : (p3.push { cls := .type "tuple", data := .seq #[x1, x2, x3] }).objs.size = p3.objs.size + 1 := Heap.size_push ..
  rw [hsz] at hp hz4 ⊢
  have up : ∀ {b : Addr} {o : Obj}, p3.get? b = some o → (p3.push { cls := .type "tuple", data := .seq #[x1, x2, x3] }).get? b = some o := fun e => Heap.get?_push_of_some _ e
  exact hQ x1 x2 x3 _ tk3 hx1 hx2 hx3 (up hz3) (D1.frame _ _ _ hj1 fun b _ o e => up e) (D2.frame _ _ _ hj2 fun b _ o e => up e) (D3.frame _ _ _ sn3 fun b _ o e => up e) hp hz4 fun c o c1 c2 c3 c4 e => up (hk c o c1 c2 c3 c4 e)
theorem z3_end_held {T : Addr} {f : Bool} {oT : Obj} {Q : Fin → Shared → Prop} (S : ZipSep3 z TI TO i1 i2 i3 fp1 fp2 fp3) (D1 : Draws prog w A i1 fp1 n1 P1 St1) (D2 : Draws prog w A i2 fp2 n2 P2 St2) (D3 : Draws prog w A i3 fp3 n3 P3 St3)
    (hz : IsZipHeld s.heap z TI TO T f) (hT : s.heap.get? T = some oT) (hTI : IsTupOf3 s.heap TI (.ref i1) (.ref i2) (.ref i3)) (st1 : St1 i s.heap) (st2 : St2 i s.heap) (st3 : St3 i s.heap) (hle1 : i ≤ n1) (hle2 : i ≤ n2) (hle3 : i ≤ n3) (hend : i = n1 ∨ i = n2 ∨ i = n3)
    (hE : ∀ h' tk e, (∀ c o, c ≠ z → c ≠ i1 → c ≠ i2 → c ≠ i3 → s.heap.get? c = some o → h'.get? c = some o) → (∃ o, h'.get? e = some o ∧ o.cls = .type "StopIteration") → E (.ref e) { s with heap := h', toks := tk }) :
    wpAny (model prog w) A (Builtin.«zip.__next__» ⟨[.ref z], []⟩) Q E s := by
  obtain ⟨hp, g, d, tk0, os⟩ := s
  show wpAny _ _ (field (.ref z) 2 >>= _) _ _ _
  refine wpAny_bind (wpAny_field hz rfl (x := .bool false) rfl ?_)
  show wpAny _ _ (field (.ref z) 3 >>= _) _ _ _
  refine wpAny_bind (wpAny_field hz rfl (x := .ref TI) rfl ?_)
  refine wpAny_bind (wpAny_seqItems hTI rfl ?_)
  show wpAny _ _ (Builtin.SmallTypes.ownedTupleIsFree (.ref z) >>= _) _ _ _
  refine wpAny_bind (wpAny_tupleHeld_zip hz hT fun g0 hz0 hs0 => ?_)
  replace hs0 : Heap.SameBut z hp g0 := hs0
  simp only [Bool.false_eq_true, if_false]
  refine wpAny_bind ?_
  rw [← Array.forIn_toList]
  simp only [List.forIn_cons, List.forIn_nil]
  refine wpAny_bind (wpAny_bind (wpAny_holding ?_))
  show wpAny _ _ (Builtin.SmallTypes.nextOf (.ref i1) >>= _) _ _ ⟨g0, g, d, tk0, os⟩
  by_cases hlt1 : i < n1
  · refine wpAny_bind (D1.item i _ _ _ hlt1 (D1.over st1 hs0 S.zf1) fun x1 p1 tk1 hx1 sn1 hp1 => wpAny_pure ?_)
    replace hp1 : Heap.SameBut i1 g0 p1 := hp1
    refine wpAny_pure ?_
    refine wpAny_bind (wpAny_bind (wpAny_holding ?_))
    show wpAny _ _ (Builtin.SmallTypes.nextOf (.ref i2) >>= _) _ _ ⟨p1, g, d, tk1, os⟩
    by_cases hlt2 : i < n2
    · refine wpAny_bind (D2.item i _ _ _ hlt2 (D2.over (D2.over st2 hs0 S.zf2) hp1 S.sep1_2) fun x2 p2 tk2 hx2 sn2 hp2 => wpAny_pure ?_)
      replace hp2 : Heap.SameBut i2 p1 p2 := hp2
      refine wpAny_pure ?_
      have hi3 : i = n3 := by omega
      refine wpAny_bind (wpAny_bind (wpAny_holding ?_))
      show wpAny _ _ (Builtin.SmallTypes.nextOf (.ref i3) >>= _) _ _ ⟨p2, g, d, tk2, os⟩
      refine wpAny_bind (D3.done ⟨p2, g, d, tk2, os⟩ _ _ (by rw [← hi3]; exact D3.over (D3.over (D3.over st3 hs0 S.zf3) hp1 S.sep1_3) hp2 S.sep2_3) fun q e hq he => ?_)
      exact hE q tk2 e (fun c o cz c1 c2 c3 x => hq _ _ c3 (hp2.extBut _ _ c2 (hp1.extBut _ _ c1 (hs0.extBut _ _ cz x)))) he
    · have hi2 : i = n2 := by omega
      refine wpAny_bind (D2.done ⟨p1, g, d, tk1, os⟩ _ _ (by rw [← hi2]; exact D2.over (D2.over st2 hs0 S.zf2) hp1 S.sep1_2) fun q e hq he => ?_)
      exact hE q tk1 e (fun c o cz c1 c2 c3 x => hq _ _ c2 (hp1.extBut _ _ c1 (hs0.extBut _ _ cz x))) he
  · have hi1 : i = n1 := by omega
    refine wpAny_bind (D1.done ⟨g0, g, d, tk0, os⟩ _ _ (by rw [← hi1]; exact D1.over st1 hs0 S.zf1) fun q e hq he => ?_)
    exact hE q tk0 e (fun c o cz c1 c2 c3 x => hq _ _ c1 (hs0.extBut _ _ cz x)) he
theorem z3_pyNext_held {T : Addr} {f : Bool} {oT : Obj} {Q : Option Value → Shared → Prop} (S : ZipSep3 z TI TO i1 i2 i3 fp1 fp2 fp3) (D1 : Draws prog w A.in1 i1 fp1 n1 P1 St1) (D2 : Draws prog w A.in1 i2 fp2 n2 P2 St2) (D3 : Draws prog w A.in1 i3 fp3 n3 P3 St3)
    (hz : IsZipHeld s.heap z TI TO T f) (hT : s.heap.get? T = some oT) (hTI : IsTupOf3 s.heap TI (.ref i1) (.ref i2) (.ref i3)) (st1 : St1 i s.heap) (st2 : St2 i s.heap) (st3 : St3 i s.heap) (hlt1 : i < n1) (hlt2 : i < n2) (hlt3 : i < n3)
    (hQ : ∀ x1 x2 x3 h' tk, P1 i x1 → P2 i x2 → P3 i x3 → IsZipHeld h' z TI TO T true → St1 (i + 1) h' → St2 (i + 1) h' → St3 (i + 1) h' → IsTupOf3 h' s.heap.objs.size x1 x2 x3 → h'.objs.size = s.heap.objs.size + 1 →
      (∀ c o, c ≠ z → c ≠ i1 → c ≠ i2 → c ≠ i3 → s.heap.get? c = some o → h'.get? c = some o) → Q (some (.ref s.heap.objs.size)) { s with heap := h', toks := tk }) :
    wpAny (model prog w) A (pyNext (.ref z)) Q E s := by
  have hTy : s.TypeIs (.ref z) "zip" := ⟨_, hz, rfl⟩
  unfold pyNext
  exact wpAny_bind (wpAny_attempt (wpAny_callSpecial?_slot (name := Str.ofString "__next__") hTy PySem.F.slot_zip_next
    (wpAny_call_entry PySem.F.slot_zip_next hTy PySem.F.entry_zip_next
      (z3_item_held S D1 D2 D3 hz hT hTI st1 st2 st3 hlt1 hlt2 hlt3 fun x1 x2 x3 h' tk y1 y2 y3 b1 d1 d2 d3 b5 b6 b7 => wpAny_pure (hQ x1 x2 x3 h' tk y1 y2 y3 b1 d1 d2 d3 b5 b6 b7)) (PySem.F.args_zip_next_1 _))))
theorem z3_pyStop_held {T : Addr} {f : Bool} {oT : Obj} {Q : Option Value → Shared → Prop} (S : ZipSep3 z TI TO i1 i2 i3 fp1 fp2 fp3) (D1 : Draws prog w A.in1 i1 fp1 n1 P1 St1) (D2 : Draws prog w A.in1 i2 fp2 n2 P2 St2) (D3 : Draws prog w A.in1 i3 fp3 n3 P3 St3)
    (hz : IsZipHeld s.heap z TI TO T f) (hT : s.heap.get? T = some oT) (hTI : IsTupOf3 s.heap TI (.ref i1) (.ref i2) (.ref i3)) (st1 : St1 i s.heap) (st2 : St2 i s.heap) (st3 : St3 i s.heap) (hle1 : i ≤ n1) (hle2 : i ≤ n2) (hle3 : i ≤ n3) (hend : i = n1 ∨ i = n2 ∨ i = n3)
    (hQ : ∀ h' tk, (∀ c o, c ≠ z → c ≠ i1 → c ≠ i2 → c ≠ i3 → s.heap.get? c = some o → h'.get? c = some o) → Q none { s with heap := h', toks := tk }) : wpAny (model prog w) A (pyNext (.ref z)) Q E s := by
  have hTy : s.TypeIs (.ref z) "zip" := ⟨_, hz, rfl⟩
  unfold pyNext
  refine wpAny_bind (wpAny_attempt (wpAny_callSpecial?_slot (name := Str.ofString "__next__") hTy PySem.F.slot_zip_next
    (wpAny_call_entry PySem.F.slot_zip_next hTy PySem.F.entry_zip_next (z3_end_held S D1 D2 D3 hz hT hTI st1 st2 st3 hle1 hle2 hle3 hend fun h' tk e hk he => ?_) (PySem.F.args_zip_next_1 _))))
  obtain ⟨o, ho, hc⟩ := he
  refine wpAny_bind (wpAny_isInstance (T := "StopIteration") (b := true) ⟨o, ho, hc⟩ isSubtype_stop ?_)
  exact wpAny_pure (hQ _ _ hk)
end
section
variable {prog : Program} {w : World} {A : Around} {E : Value → Shared → Prop} {s : Shared} {z TI TO i1 i2 i3 S : Addr} {fp1 fp2 fp3 : List Addr} {n1 n2 n3 i : Nat} {P1 P2 P3 : Nat → Value → Prop} {St1 St2 St3 : Nat → Heap → Prop}
/-- a zip of three within list(..): fresh, or the tuple given out before is still there -/
def Z3 (z TI TO i1 i2 i3 S : Addr) (St1 St2 St3 : Nat → Heap → Prop) (i : Nat) (h : Heap) : Prop := IsTupOf3 h TI (.ref i1) (.ref i2) (.ref i3) ∧ St1 i h ∧ St2 i h ∧ St3 i h ∧
  ((IsZip h z TI TO .none ∧ ∃ a b c, IsTupOf3 h TO a b c) ∨ ∃ T f o, IsZipHeld h z TI TO T f ∧ h.get? T = some o ∧ S < T)
structure Z3Lo (z TI TO i1 i2 i3 S : Addr) (fp1 fp2 fp3 : List Addr) : Prop where
  z : z < S
  TI : TI < S
  TO : TO < S
  f1 : ∀ b ∈ fp1, b < S
  f2 : ∀ b ∈ fp2, b < S
  f3 : ∀ b ∈ fp3, b < S
structure Z3G (P1 P2 P3 : Nat → Value → Prop) (lo : Addr) (h : Heap) (as : List Addr) : Prop where
  rise : as.Pairwise (· < ·)
  above : ∀ a ∈ as, lo < a
  tups : ∀ (j : Nat) (a : Addr), as[j]? = some a → ∃ x y u, P1 j x ∧ P2 j y ∧ P3 j u ∧ IsTupOf3 h a x y u
theorem Z3G.there {lo : Addr} {h : Heap} {as : List Addr} (g : Z3G P1 P2 P3 lo h as) {a : Addr} (ha : a ∈ as) : a < h.objs.size := by
  obtain ⟨j, hj⟩ := List.mem_iff_getElem?.mp ha
  obtain ⟨_, _, _, _, _, _, e⟩ := g.tups j a hj
  exact Heap.lt_size e
theorem Z3.keep (D1 : Draws prog w A i1 fp1 n1 P1 St1) (D2 : Draws prog w A i2 fp2 n2 P2 St2) (D3 : Draws prog w A i3 fp3 n3 P3 St3) (L : Z3Lo z TI TO i1 i2 i3 S fp1 fp2 fp3) {h h' : Heap} (x : Z3 z TI TO i1 i2 i3 S St1 St2 St3 i h)
    (hk : ∀ b o, b ≠ S → h.get? b = some o → h'.get? b = some o) : Z3 z TI TO i1 i2 i3 S St1 St2 St3 i h' := by
  obtain ⟨a, b, c, d, e⟩ := x
  refine ⟨hk _ _ (Nat.ne_of_lt L.TI) a, D1.frame _ _ _ b fun q hq o e => hk q o (Nat.ne_of_lt (L.f1 q hq)) e, D2.frame _ _ _ c fun q hq o e => hk q o (Nat.ne_of_lt (L.f2 q hq)) e, D3.frame _ _ _ d fun q hq o e => hk q o (Nat.ne_of_lt (L.f3 q hq)) e, ?_⟩
  rcases e with ⟨e, a, b, c, e2⟩ | ⟨T, f, o, e, e2, e3⟩
  · exact .inl ⟨hk _ _ (Nat.ne_of_lt L.z) e, a, b, c, hk _ _ (Nat.ne_of_lt L.TO) e2⟩
  · exact .inr ⟨T, f, o, hk _ _ (Nat.ne_of_lt L.z) e, hk _ _ (Nat.ne_of_gt e3) e2, e3⟩
theorem z3_item {Q : Option Value → Shared → Prop} (Se : ZipSep3 z TI TO i1 i2 i3 fp1 fp2 fp3) (D1 : Draws prog w A.in1 i1 fp1 n1 P1 St1) (D2 : Draws prog w A.in1 i2 fp2 n2 P2 St2) (D3 : Draws prog w A.in1 i3 fp3 n3 P3 St3) (L : Z3Lo z TI TO i1 i2 i3 S fp1 fp2 fp3) (hS : S < s.heap.objs.size)
    (hst : Z3 z TI TO i1 i2 i3 S St1 St2 St3 i s.heap) (hlt1 : i < n1) (hlt2 : i < n2) (hlt3 : i < n3)
    (hQ : ∀ x1 x2 x3 h' tk, P1 i x1 → P2 i x2 → P3 i x3 → Z3 z TI TO i1 i2 i3 S St1 St2 St3 (i + 1) h' → IsTupOf3 h' s.heap.objs.size x1 x2 x3 → h'.objs.size = s.heap.objs.size + 1 →
      (∀ c o, c ≠ z → c ≠ TO → c ≠ i1 → c ≠ i2 → c ≠ i3 → s.heap.get? c = some o → h'.get? c = some o) → Q (some (.ref s.heap.objs.size)) { s with heap := h', toks := tk }) :
    wpAny (model prog w) A (pyNext (.ref z)) Q E s := by
  obtain ⟨a, b, c, d, e⟩ := hst
  have lI1 : i1 < S := L.f1 _ Se.mem1
  have lI2 : i2 < S := L.f2 _ Se.mem2
  have lI3 : i3 < S := L.f3 _ Se.mem3
  rcases e with ⟨e, a1, a2, a3, e2⟩ | ⟨T, f, o, e, e2, e3⟩
  · refine wpAny_pyNext_zipD3_item Se D1 D2 D3 e a e2 b c d hlt1 hlt2 hlt3 fun x1 x2 x3 h' tk y1 y2 y3 b1 b2 d1 d2 d3 b5 b6 hk => hQ x1 x2 x3 h' tk y1 y2 y3 ⟨hk _ _ Se.TIz Se.TITO Se.TIi1 Se.TIi2 Se.TIi3 a, d1, d2, d3, .inr ⟨s.heap.objs.size, false, _, b1, b5, hS⟩⟩ b5 b6 hk
  · refine z3_pyNext_held Se D1 D2 D3 e e2 a b c d hlt1 hlt2 hlt3 fun x1 x2 x3 h' tk y1 y2 y3 b1 d1 d2 d3 b5 b6 hk => hQ x1 x2 x3 h' tk y1 y2 y3 ⟨hk _ _ Se.TIz Se.TIi1 Se.TIi2 Se.TIi3 a, d1, d2, d3, .inr ⟨T, true, o, b1, hk _ _ (Nat.ne_of_gt (Nat.lt_trans L.z e3)) (Nat.ne_of_gt (Nat.lt_trans lI1 e3)) (Nat.ne_of_gt (Nat.lt_trans lI2 e3)) (Nat.ne_of_gt (Nat.lt_trans lI3 e3)) e2, e3⟩⟩ b5 b6 fun c o h1 _ h3 h4 h5 => hk c o h1 h3 h4 h5
theorem z3_done {Q : Option Value → Shared → Prop} (Se : ZipSep3 z TI TO i1 i2 i3 fp1 fp2 fp3) (D1 : Draws prog w A.in1 i1 fp1 n1 P1 St1) (D2 : Draws prog w A.in1 i2 fp2 n2 P2 St2) (D3 : Draws prog w A.in1 i3 fp3 n3 P3 St3)
    (hst : Z3 z TI TO i1 i2 i3 S St1 St2 St3 i s.heap) (hle1 : i ≤ n1) (hle2 : i ≤ n2) (hle3 : i ≤ n3) (hend : i = n1 ∨ i = n2 ∨ i = n3)
    (hQ : ∀ h' tk, (∀ c o, c ≠ z → c ≠ TO → c ≠ i1 → c ≠ i2 → c ≠ i3 → s.heap.get? c = some o → h'.get? c = some o) → Q none { s with heap := h', toks := tk }) : wpAny (model prog w) A (pyNext (.ref z)) Q E s := by
  obtain ⟨a, b, c, d, e⟩ := hst
  rcases e with ⟨e, a1, a2, a3, e2⟩ | ⟨T, f, o, e, e2, e3⟩
  · exact wpAny_pyNext_zipD3_end Se D1 D2 D3 e a e2 b c d hle1 hle2 hle3 hend hQ
  · exact z3_pyStop_held Se D1 D2 D3 e e2 a b c d hle1 hle2 hle3 hend fun h' tk hk => hQ h' tk fun c o h1 _ h3 h4 h5 => hk c o h1 h3 h4 h5
end
section
variable {prog : Program} {w : World} {A : Around} {s : Shared} {R : Result → Shared → Prop} {z TI TO i1 i2 i3 S : Addr} {fp1 fp2 fp3 : List Addr} {n1 n2 n3 : Nat} {P1 P2 P3 : Nat → Value → Prop} {St1 St2 St3 : Nat → Heap → Prop}
theorem z3_loop (Se : ZipSep3 z TI TO i1 i2 i3 fp1 fp2 fp3) (D1 : Draws prog w A.in1.in1 i1 fp1 n1 P1 St1) (D2 : Draws prog w A.in1.in1 i2 fp2 n2 P2 St2) (D3 : Draws prog w A.in1.in1 i3 fp3 n3 P3 St3) (L : Z3Lo z TI TO i1 i2 i3 S fp1 fp2 fp3)
    (hn : min (min n1 n2) n3 ≤ sizeLine) (res : Value) {h₁ : Heap}
    (hR : ∀ h' tk acc c as, (∀ b o, b ≠ S → b ≠ z → b ≠ TO → b ≠ i1 → b ≠ i2 → b ≠ i3 → h₁.get? b = some o → h'.get? b = some o) → h'.get? S = some { cls := .type "list", dict := none, data := .seq acc c, slots := #[] } → as.length = min (min n1 n2) n3 → Z3G P1 P2 P3 S h' as →
      acc.toList = as.map Value.ref → R (.ok (.ret res)) { s with heap := h', toks := tk }) :
    ∀ (k i : Nat) (h : Heap) (tk c : Nat) (acc : Array Value) (as : List Addr), min (min n1 n2) n3 - i = k → i ≤ min (min n1 n2) n3 → Z3 z TI TO i1 i2 i3 S St1 St2 St3 i h → (∀ b o, b ≠ S → b ≠ z → b ≠ TO → b ≠ i1 → b ≠ i2 → b ≠ i3 → h₁.get? b = some o → h.get? b = some o) →
      h.get? S = some { cls := .type "list", dict := none, data := .seq acc c, slots := #[] } → acc.toList = as.map Value.ref → as.length = i → Z3G P1 P2 P3 S h as →
      codeAny (model prog w) A (.builtin "list.extend.loop" ⟨[.ref S, .ref z, res], []⟩) R { s with heap := h, toks := tk } := by
  have lI1 : i1 < S := L.f1 _ Se.mem1
  have lI2 : i2 < S := L.f2 _ Se.mem2
  have lI3 : i3 < S := L.f3 _ Se.mem3
  intro k
  induction k with
  | zero =>
    intro i h tk c acc as hk hi hst hkeep hS hacc hal hG
    refine codeAny_builtin PySem.F.entry_extend_loop ?_
    rw [Around.under_plainId PySem.F.plain_extend_loop _]
    show wpAny _ A.in1 (pyNext (.ref z) >>= _) _ _ _
    refine wpAny_bind (z3_done (s := { s with heap := h, toks := tk }) (A := A.in1) Se D1 D2 D3 hst (by omega) (by omega) (by omega) (by omega) fun h' tk' he => ?_)
    refine wpAny_pure (hR h' tk' acc c as (fun b o h1 h2 h3 h4 h5 h6 e => he b o h2 h3 h4 h5 h6 (hkeep b o h1 h2 h3 h4 h5 h6 e)) (he S _ (Nat.ne_of_gt L.z) (Nat.ne_of_gt L.TO) (Nat.ne_of_gt lI1) (Nat.ne_of_gt lI2) (Nat.ne_of_gt lI3) hS) (by omega) ⟨hG.rise, hG.above, fun j a hj => ?_⟩ hacc)
    obtain ⟨x, y, u, e1, e2, e3, e4⟩ := hG.tups j a hj
    have ha : S < a := hG.above a (List.mem_of_getElem? hj)
    exact ⟨x, y, u, e1, e2, e3, he a _ (Nat.ne_of_gt (Nat.lt_trans L.z ha)) (Nat.ne_of_gt (Nat.lt_trans L.TO ha)) (Nat.ne_of_gt (Nat.lt_trans lI1 ha)) (Nat.ne_of_gt (Nat.lt_trans lI2 ha)) (Nat.ne_of_gt (Nat.lt_trans lI3 ha)) e4⟩
  | succ k ih =>
    intro i h tk c acc as hk hi hst hkeep hS hacc hal hG
    have hsz : acc.size = i := by rw [← Array.length_toList, hacc, List.length_map, hal]
    refine codeAny_builtin PySem.F.entry_extend_loop ?_
    rw [Around.under_plainId PySem.F.plain_extend_loop _]
    show wpAny _ A.in1 (pyNext (.ref z) >>= _) _ _ _
    refine wpAny_bind (z3_item (s := { s with heap := h, toks := tk }) (A := A.in1) Se D1 D2 D3 L (Heap.lt_size hS) hst (by omega) (by omega) (by omega) fun x1 x2 x3 h' tk' p1 p2 p3 hst' ht hz hkp => ?_)
    dsimp only at ht hz hkp ⊢
    have hS' := hkp S _ (Nat.ne_of_gt L.z) (Nat.ne_of_gt L.TO) (Nat.ne_of_gt lI1) (Nat.ne_of_gt lI2) (Nat.ne_of_gt lI3) hS
    have up : ∀ b o, b ≠ S → h'.get? b = some o → (h'.update S (Obj.mapSeq (·.push (Value.ref h.objs.size)))).get? b = some o := fun b o hb e => (Heap.get?_update_other _ _ (Ne.symm hb)).trans e
    have hSl : S < h.objs.size := Heap.lt_size hS
    show wpAny _ A.in1 (updateSeq S (·.push (Value.ref h.objs.size)) >>= _) _ _ _
    refine wpAny_bind ?_
    refine wpAny_updateSeq hS' rfl (wpAny_pure ⟨plainId_quiet PySem.F.plain_extend_loop _, ih (i + 1) _ tk' _ (acc.push (Value.ref h.objs.size)) (as ++ [h.objs.size]) (by omega) (by omega) (Z3.keep D1 D2 D3 L hst' up)
      (fun b o h1 h2 h3 h4 h5 h6 e => up b o h1 (hkp b o h2 h3 h4 h5 h6 (hkeep b o h1 h2 h3 h4 h5 h6 e))) (Heap.get?_update_self _ hS' rfl) (by rw [Array.toList_push, hacc, List.map_append]; rfl) (by rw [List.length_append, hal]; rfl) ⟨?_, ?_, ?_⟩⟩) (by rw [hsz]; omega) (by show (acc.push (Value.ref h.objs.size)).size ≤ sizeLine + 1; rw [Array.size_push, hsz]; omega)
    · refine List.pairwise_append.mpr ⟨hG.rise, List.pairwise_singleton _ _, fun a ha b hb => ?_⟩
      rw [List.mem_singleton.mp hb]
      exact hG.there ha
    · intro a ha
      rcases List.mem_append.mp ha with ha | ha
      · exact hG.above a ha
      · rw [List.mem_singleton.mp ha]; exact hSl
    · intro j b hj
      rcases Nat.lt_trichotomy j as.length with h1 | h1 | h1
      · rw [List.getElem?_append_left h1] at hj
        obtain ⟨x, y, u, e1, e2, e3, e4⟩ := hG.tups j b hj
        have hb : S < b := hG.above b (List.mem_of_getElem? hj)
        exact ⟨x, y, u, e1, e2, e3, up b _ (Nat.ne_of_gt hb) (hkp b _ (Nat.ne_of_gt (Nat.lt_trans L.z hb)) (Nat.ne_of_gt (Nat.lt_trans L.TO hb)) (Nat.ne_of_gt (Nat.lt_trans lI1 hb)) (Nat.ne_of_gt (Nat.lt_trans lI2 hb)) (Nat.ne_of_gt (Nat.lt_trans lI3 hb)) e4)⟩
      · subst h1
        have hb : h.objs.size = b := by simpa using hj
        subst hb
        rw [hal]
        exact ⟨x1, x2, x3, p1, p2, p3, up _ _ (Nat.ne_of_gt hSl) ht⟩
      · have hnone : (as ++ [h.objs.size])[j]? = none := List.getElem?_eq_none (by rw [List.length_append, List.length_singleton]; omega)
        rw [hnone] at hj; cases hj
theorem z3_extend (Se : ZipSep3 z TI TO i1 i2 i3 fp1 fp2 fp3) (D1 : Draws prog w A.in1.in1 i1 fp1 n1 P1 St1) (D2 : Draws prog w A.in1.in1 i2 fp2 n2 P2 St2) (D3 : Draws prog w A.in1.in1 i3 fp3 n3 P3 St3) (L : Z3Lo z TI TO i1 i2 i3 S fp1 fp2 fp3)
    (hst : Z3 z TI TO i1 i2 i3 S St1 St2 St3 0 s.heap) (hz : IsZip s.heap z TI TO .none) (res : Value) (c₀ : Nat) (hS : s.heap.get? S = some { cls := .type "list", data := .seq #[] c₀ })
    (hR : ∀ h' tk acc c as, (∀ b o, b ≠ S → b ≠ z → b ≠ TO → b ≠ i1 → b ≠ i2 → b ≠ i3 → s.heap.get? b = some o → h'.get? b = some o) → h'.get? S = some { cls := .type "list", dict := none, data := .seq acc c, slots := #[] } → as.length = min (min n1 n2) n3 → Z3G P1 P2 P3 S h' as →
      acc.toList = as.map Value.ref → R (.ok (.ret res)) { s with heap := h', toks := tk }) (hn : min (min n1 n2) n3 ≤ sizeLine) :
    wpAny (model prog w) A.in1 (Builtin.List.listExtendWith (.ref S) (.ref z) res)
      (fun fin s' => match fin with | .done f => R (.ok f) s' | .again c' => c'.quiet = true ∧ codeAny (model prog w) A c' R s') (fun e s' => R (.error e) s') s := by
  have hT : s.TypeIs (.ref z) "zip" := ⟨_, hz, rfl⟩
  unfold Builtin.List.listExtendWith
  refine wpAny_bind (wpAny_typeOf hT ?_)
  have h1 : Builtin.List.listSameRef (.ref S) (.ref z) = false := by simp [Builtin.List.listSameRef, Nat.ne_of_gt L.z]
  have h2 : (Value.type "zip" == Value.type "list") = false := by decide
  have h3 : (Value.type "zip" == Value.type "tuple") = false := by decide
  simp only [h1, h2, h3, Bool.or_false, Bool.false_eq_true, if_false]
  refine wpAny_bind (wpAny_pyIter_zip hz ?_)
  refine wpAny_bind (wpAny_holding ?_)
  unfold Builtin.List.listLengthHint
  refine wpAny_bind (wpAny_specialOf hT zip_no_len ?_)
  show wpAny _ A.in1 (specialOf (Value.ref z) (Str.ofString "__length_hint__") >>= _) _ _ _
  refine wpAny_bind (wpAny_specialOf hT zip_no_hint ?_)
  refine wpAny_pure ?_
  show wpAny _ A.in1 (rule "list.extend.makes-room" >>= fun _ => Builtin.List.listTouch (.ref S) >>= fun _ =>
    again (.builtin "list.extend.loop" ⟨[.ref S, .ref z, res], []⟩)) _ _ _
  refine wpAny_bind (wpAny_rule ?_)
  refine wpAny_bind ?_
  show wpAny _ A.in1 (updateSeq S (·.push .none) >>= fun _ => updateSeq S (·.pop)) _ _ _
  refine wpAny_bind (wpAny_updateSeq hS rfl ?_)
  have hS₂ := Heap.get?_update_self (Obj.mapSeq (·.push Value.none)) hS rfl
  refine wpAny_updateSeq (hz := by seq_fits) hS₂ rfl ?_
  have hS₃ := Heap.get?_update_self (Obj.mapSeq (·.pop)) hS₂ rfl
  have oth : ∀ b o, b ≠ S → s.heap.get? b = some o → ((s.heap.update S (Obj.mapSeq (·.push Value.none))).update S (Obj.mapSeq (·.pop))).get? b = some o :=
    fun b o hb e => (Heap.get?_update_other _ _ (Ne.symm hb)).trans ((Heap.get?_update_other _ _ (Ne.symm hb)).trans e)
  refine wpAny_pure ⟨plainId_quiet PySem.F.plain_extend_loop _, z3_loop (s := s) (h₁ := s.heap) Se D1 D2 D3 L hn res hR _ 0 _ s.toks _ #[] [] (Nat.sub_zero _) (Nat.zero_le _) (Z3.keep D1 D2 D3 L hst oth) (fun b o hb _ _ _ _ _ e => oth b o hb e) hS₃ rfl rfl ⟨List.Pairwise.nil, (fun _ ha => nomatch ha), (fun j a hj => by simp at hj)⟩⟩
theorem z3_init (Se : ZipSep3 z TI TO i1 i2 i3 fp1 fp2 fp3) (D1 : Draws prog w A.in1.in1 i1 fp1 n1 P1 St1) (D2 : Draws prog w A.in1.in1 i2 fp2 n2 P2 St2) (D3 : Draws prog w A.in1.in1 i3 fp3 n3 P3 St3) (L : Z3Lo z TI TO i1 i2 i3 S fp1 fp2 fp3)
    (hst : Z3 z TI TO i1 i2 i3 S St1 St2 St3 0 s.heap) (hz : IsZip s.heap z TI TO .none) (hS : s.heap.get? S = some { cls := .type "list", data := .seq #[] })
    (hR : ∀ h' tk acc c as, (∀ b o, b ≠ S → b ≠ z → b ≠ TO → b ≠ i1 → b ≠ i2 → b ≠ i3 → s.heap.get? b = some o → h'.get? b = some o) → h'.get? S = some { cls := .type "list", dict := none, data := .seq acc c, slots := #[] } → as.length = min (min n1 n2) n3 → Z3G P1 P2 P3 S h' as →
      acc.toList = as.map Value.ref → R (.ok (.ret .none)) { s with heap := h', toks := tk }) (hn : min (min n1 n2) n3 ≤ sizeLine) :
    wpAny (model prog w) A.in1 (Builtin.«list.__init__» ⟨[.ref S, .ref z], []⟩)
      (fun fin s' => match fin with | .done f => R (.ok f) s' | .again c' => c'.quiet = true ∧ codeAny (model prog w) A c' R s') (fun e s' => R (.error e) s') s := by
  show wpAny _ _ (do let old ← Builtin.List.listItems (.ref S); Builtin.List.listUpdate (.ref S) (fun _ => #[]); letGo old.toList.reverse; Builtin.List.listExtendWith (.ref S) (.ref z) .none) _ _ s
  refine wpAny_bind ?_
  unfold Builtin.List.listItems
  refine wpAny_bind (wpAny_seqItems hS rfl (wpAny_pure ?_))
  show wpAny _ _ (updateSeq S (fun _ => #[]) >>= fun _ => letGo (#[] : Array Value).toList.reverse >>= fun _ => Builtin.List.listExtendWith (.ref S) (.ref z) .none) _ _ s
  refine wpAny_bind (wpAny_updateSeq hS rfl ?_)
  have hS₂ := Heap.get?_update_self (Obj.mapSeq (fun _ => (#[] : Array Value))) hS rfl
  have oth : ∀ b o, b ≠ S → s.heap.get? b = some o → (s.heap.update S (Obj.mapSeq (fun _ => (#[] : Array Value)))).get? b = some o :=
    fun b o hb e => (Heap.get?_update_other _ _ (Ne.symm hb)).trans e
  refine wpAny_bind (wpAny_letGo ?_)
  refine z3_extend (s := { s with heap := s.heap.update S (Obj.mapSeq (fun _ => (#[] : Array Value))) }) Se D1 D2 D3 L (Z3.keep D1 D2 D3 L hst oth) (oth _ _ (Nat.ne_of_lt L.z) hz) .none _ hS₂ (fun h' tk acc c as hk hS' hl hG hacc => ?_) hn
  exact hR h' tk acc c as (fun b o hb h2 h3 h4 h5 h6 e => hk b o hb h2 h3 h4 h5 h6 (oth b o hb e)) hS' hl hG hacc
end
section
variable {prog : Program} {w : World} {A : Around} {E : Value → Shared → Prop} {s : Shared} {z TI TO i1 i2 i3 : Addr} {fp1 fp2 fp3 : List Addr} {n1 n2 n3 : Nat} {P1 P2 P3 : Nat → Value → Prop} {St1 St2 St3 : Nat → Heap → Prop}
/-- list(z), z a zip of three just made -/
theorem z3_call {Q : Value → Shared → Prop} (Se : ZipSep3 z TI TO i1 i2 i3 fp1 fp2 fp3) (D1 : Draws prog w A.in1.in1.in1 i1 fp1 n1 P1 St1) (D2 : Draws prog w A.in1.in1.in1 i2 fp2 n2 P2 St2) (D3 : Draws prog w A.in1.in1.in1 i3 fp3 n3 P3 St3)
    (hz : IsZip s.heap z TI TO .none) (hTI : IsTupOf3 s.heap TI (.ref i1) (.ref i2) (.ref i3)) {a1 a2 a3 : Value} (hTO : IsTupOf3 s.heap TO a1 a2 a3) (st1 : St1 0 s.heap) (st2 : St2 0 s.heap) (st3 : St3 0 s.heap)
    (f1 : ∀ b ∈ fp1, b < s.heap.objs.size) (f2 : ∀ b ∈ fp2, b < s.heap.objs.size) (f3 : ∀ b ∈ fp3, b < s.heap.objs.size) (hn : min (min n1 n2) n3 ≤ sizeLine)
    (hQ : ∀ h' tk acc c as, (∀ b o, b ≠ z → b ≠ TO → b ≠ i1 → b ≠ i2 → b ≠ i3 → s.heap.get? b = some o → h'.get? b = some o) → h'.get? s.heap.objs.size = some { cls := .type "list", dict := none, data := .seq acc c, slots := #[] } → as.length = min (min n1 n2) n3 → Z3G P1 P2 P3 s.heap.objs.size h' as →
      acc.toList = as.map Value.ref → Q (.ref s.heap.objs.size) { s with heap := h', toks := tk }) :
    wpAny (model prog w) A (call (.type "list") [.ref z]) Q E s := by
  refine callType_codes (Q₁ := fun obj s₁ => obj = .ref s.heap.objs.size ∧ s₁ = { s with heap := s.heap.push { cls := .type "list", data := .seq #[] } }) PySem.F.called_list (PySem.F.typeCall_list_1 _) PySem.F.entry_list_init
    (code_list_new _ ⟨rfl, rfl⟩) fun obj s₁ h₁ => ?_
  obtain ⟨rfl, rfl⟩ := h₁
  have hS : (s.heap.push { cls := .type "list", data := .seq #[] }).get? s.heap.objs.size = some { cls := .type "list", data := .seq #[] } := Heap.get?_push_size _ rfl
  have up : ∀ {b : Addr} {o : Obj}, s.heap.get? b = some o → (s.heap.push { cls := .type "list", data := .seq #[] }).get? b = some o := fun e => Heap.get?_push_of_some _ e
  refine ⟨⟨_, hS, rfl⟩, PySem.F.args_list_init_2 _ _, z3_init (A := A.in1) (s := { s with heap := s.heap.push { cls := .type "list", data := .seq #[] } }) (S := s.heap.objs.size) Se D1 D2 D3 ⟨Heap.lt_size hz, Heap.lt_size hTI, Heap.lt_size hTO, f1, f2, f3⟩
    ⟨up hTI, D1.frame _ _ _ st1 fun b _ o e => up e, D2.frame _ _ _ st2 fun b _ o e => up e, D3.frame _ _ _ st3 fun b _ o e => up e, .inl ⟨up hz, _, _, _, up hTO⟩⟩ (up hz) hS (fun h' tk acc c as hk hS' hl hG hacc => ?_) hn⟩
  exact ⟨rfl, hQ h' tk acc c as (fun b o h2 h3 h4 h5 h6 e => hk b o (Nat.ne_of_lt (Heap.lt_size e)) h2 h3 h4 h5 h6 (up e)) hS' hl hG hacc⟩
end
end Eg
set_option Elab.async false
set_option linter.all false
set_option maxRecDepth 100000
set_option maxHeartbeats 2000000
/-! The engine: list(zip(a, b, c)), its reading. -/
namespace Eg
open PySem PySem.Spec PyProof.Rows L2
def z3l {A : Type} : List A → List A → List A → List (List A)
  | x :: xs, y :: ys, u :: us => [x, y, u] :: z3l xs ys us
  | _, _, _ => []
theorem z3l_len {A : Type} : ∀ (xs ys us : List A), (z3l xs ys us).length = min (min xs.length ys.length) us.length
  | [], ys, us => by simp [z3l]
  | _ :: _, [], us => by simp [z3l]
  | _ :: _, _ :: _, [] => by simp [z3l]
  | x :: xs, y :: ys, u :: us => by simp only [z3l, List.length_cons, z3l_len xs ys us]; omega
theorem z3l_at {A : Type} : ∀ {xs ys us : List A} {j : Nat} {c : List A}, (z3l xs ys us)[j]? = some c → ∃ x y u, xs[j]? = some x ∧ ys[j]? = some y ∧ us[j]? = some u ∧ c = [x, y, u]
  | [], ys, us, j, c, h => by simp [z3l] at h
  | _ :: _, [], us, j, c, h => by simp [z3l] at h
  | _ :: _, _ :: _, [], j, c, h => by simp [z3l] at h
  | x :: xs, y :: ys, u :: us, 0, c, h => by
    cases (show some [x, y, u] = some c from h)
    exact ⟨x, y, u, rfl, rfl, rfl, rfl⟩
  | x :: xs, y :: ys, u :: us, j + 1, c, h => z3l_at (xs := xs) (ys := ys) (us := us) (j := j) h
/-- tuples laid at places -/
def updT (H : Hp) : List Addr → List (List V) → Hp
  | p :: ps, c :: cs => updT (upd H p (.tup c)) ps cs
  | _, _ => H
theorem updT_ne : ∀ {ps : List Addr} {cs : List (List V)} {H : Hp} {b : Addr}, b ∉ ps → updT H ps cs b = H b
  | [], cs, H, b, h => by unfold updT; rfl
  | p :: ps, [], H, b, h => by unfold updT; rfl
  | p :: ps, c :: cs, H, b, h => by
    show updT (upd H p (.tup c)) ps cs b = _
    rw [updT_ne (fun q => h (List.mem_cons_of_mem _ q)), upd_ne (fun q => h (by rw [q]; exact List.mem_cons_self))]
theorem updT_or : ∀ {ps : List Addr} {cs : List (List V)} {H : Hp} {b : Addr} {o : HO}, updT H ps cs b = some o → H b = some o ∨ ∃ (j : Nat) (c : List V), ps[j]? = some b ∧ cs[j]? = some c ∧ o = .tup c
  | [], cs, H, b, o, h => .inl (by unfold updT at h; exact h)
  | p :: ps, [], H, b, o, h => .inl (by unfold updT at h; exact h)
  | p :: ps, c :: cs, H, b, o, h => by
    rcases updT_or (ps := ps) (cs := cs) (H := upd H p (.tup c)) h with h | ⟨j, c', h1, h2, h3⟩
    · by_cases hb : b = p
      · subst hb
        rw [upd_same] at h
        cases h
        exact .inr ⟨0, c, rfl, rfl, rfl⟩
      · rw [upd_ne hb] at h
        exact .inl h
    · exact .inr ⟨j + 1, c', h1, h2, h3⟩
theorem un_many {fs : List Addr} {H H' : Hp} {h h' : Heap} (k : ∀ b u, h.get? b = some u → h'.get? b = some u) (old : ∀ b o, H b = some o → H' b = some o) (new : ∀ b, H b = none → b < h.objs.size → H' b = none) : Un fs [] H H' h h' where
  keep := fun b u q _ _ _ => k b u q
  slot := fun b u q _ _ _ => ⟨u.slots, k b u q⟩
  free := fun b u q n _ => new b n (Heap.lt_size q)
  there := fun b u q _ => ⟨u, k b u q⟩
  tups := fun b xs q => old _ _ q
  frzs := fun b o u q => old _ _ q
  tbls := fun b ps q => ⟨#[], by rw [old _ _ q]; simp⟩
theorem hok_many {P : Program} {w : World} {H H' : Hp} {h h' : Heap} (x : HOk P w H h) (k : ∀ b u, h.get? b = some u → h'.get? b = some u) (old : ∀ b o, H b = some o → H' b = some o) (new : ∀ b o, H b = none → H' b = some o → ObjOk P w H' h' b o) : HOk P w H' h' := fun b o e => by
  cases q : H b with
  | none => exact new b o q e
  | some u =>
    have e2 := old b u q
    rw [e2] at e
    cases e
    exact (x b _ q).stay (fun c v _ q => k c v q) (fun c q => old _ _ q) fun c xs q => old _ _ q
section
variable {X : Cx} {G : Gh} {W : WX} {σ : L2.St} {H : Hp} {m : Mm} {env : Env} {st : Sto} {pos pos2 : Pos}
def tZ3 (K : PySem.W.Frag) (ta : TA) : TE := fun σ H Q => ta σ H fun vs H1 => ∃ (k1 k2 k3 : Sk) (a b c : Addr) (xs ys us : List V), vs = [.ref a, .ref b, .ref c] ∧ sAt K k1 H1 a xs ∧ sAt K k2 H1 b ys ∧ sAt K k3 H1 c us ∧ min (min xs.length ys.length) us.length ≤ sizeLine ∧
  ∀ (ps : List Addr) (l : Addr), ps.length = (z3l xs ys us).length → l ∉ ps → ps.Nodup → (∀ p, p ∈ l :: ps → H1 p = none) → Q (.ref l) (upd (updT H1 ps (z3l xs ys us)) l (.lst (ps.map .ref)))
theorem vals_at : ∀ {xs : List V} {its : List Value} {j : Nat} {x : V} {v : Value}, Vals xs its → xs[j]? = some x → its[j]? = some v → RelV x v
  | _, _, 0, x, v, .cons r _, h, h2 => by cases h; cases h2; exact r
  | _, _, j + 1, x, v, .cons _ r, h, h2 => vals_at (j := j) r h h2
  | _, _, 0, x, v, .nil, h, h2 => by cases h
  | _, _, j + 1, x, v, .nil, h, h2 => by cases h
theorem vals_refs : ∀ as : List Addr, Vals (as.map V.ref) (as.map Value.ref)
  | [] => .nil
  | a :: as => .cons rfl (vals_refs as)
theorem pe_z3 {e e2 e3 : Expr} {ta : TA} {p p2 : Pos} (hc : X.calm = true) (hg : Gl X "list") (hm : X.mg "list" = none) (hg2 : Gl X "zip") (hm2 : X.mg "zip" = none) (ha : PA X [e, e2, e3] ta)
    (hs : starEach [e, e2, e3] X.env = (false, eval e X.env) :: starEach [e2, e3] X.env) (hpl : (backTo pos2 (starEach [e2, e3] X.env)).any (·.1) = false) :
    PE X (.Call (.Name "list" p) [.Call (.Name "zip" p2) [e, e2, e3] [] pos2] [] pos) (tZ3 X.K ta) := by
  refine ⟨fun pins s σ H Q I h => ?_⟩
  refine wpAny_Call_Name_kw (ld_blt I hg hm PyProof.Rows.boot_list ?_)
  refine PyProof.Rows.callWith_type1 ?_
  show wpAny _ _ (spliced ((false, eval (.Call (.Name "zip" p2) [e, e2, e3] [] pos2) X.env) :: backTo pos (starEach [] X.env))) _ _ s
  refine Calls.spliced_cons ?_
  refine Call_ (ld_blt I hg2 hm2 PyProof.Rows.boot_zip (PyProof.Rows.callWith_type1 (thn (ha.run pos2 pins s σ H _ I h) fun vv s1 ⟨vs, H1, I1, r1, q1⟩ => ?_) hs hpl))
  obtain ⟨k1, k2, k3, a, b, c, xs, ys, us, rfl, hq, hq2, hq3, hn, q⟩ := q1
  cases r1 with
  | cons r rr =>
    cases rr with
    | cons r' rr =>
      cases rr with
      | cons r'' rr =>
        cases rr
        cases r
        cases r'
        cases r''
        obtain ⟨its, rv, hsr⟩ := src_vals I1 hq
        obtain ⟨its2, rv2, hsr2⟩ := src_vals I1 hq2
        obtain ⟨its3, rv3, hsr3⟩ := src_vals I1 hq3
        refine zip_begins3 (src_begins k1 a its.toArray) (src_begins k2 b its2.toArray) (src_begins k3 c its3.toArray) hsr hsr2 hsr3 fun h' hz hTI hTO h1 h2 h3 hsz hk => Calls.spliced_nil ?_
        have la := src_lt hsr
        have lb := src_lt hsr2
        have lc := src_lt hsr3
        have S := zip_sep3 (N := s1.heap.objs.size) (fp1 := [a]) (fp2 := [b]) (fp3 := [c]) (fun c hc => by simp only [List.mem_singleton] at hc; subst hc; exact la) (fun c hc => by simp only [List.mem_singleton] at hc; subst hc; exact lb) (fun c hc => by simp only [List.mem_singleton] at hc; subst hc; exact lc)
        have hh : X.A.in1.in1.in1.handled = none := I1.ok.hd hc
        have D1 := src_draws (prog := X.prog) (w := X.w) (A := X.A.in1.in1.in1) (it := s1.heap.objs.size) (a := a) (k := k1) hh (Nat.ne_of_lt la) its.toArray
        have D2 := src_draws (prog := X.prog) (w := X.w) (A := X.A.in1.in1.in1) (it := s1.heap.objs.size + 1) (a := b) (k := k2) hh (Nat.ne_of_lt (Nat.lt_succ_of_lt lb)) its2.toArray
        have D3 := src_draws (prog := X.prog) (w := X.w) (A := X.A.in1.in1.in1) (it := s1.heap.objs.size + 2) (a := c) (k := k3) hh (Nat.ne_of_lt (Nat.lt_succ_of_lt (Nat.lt_succ_of_lt lc))) its3.toArray
        have keepS : ∀ {k : Sk} {x : Addr} {is : List Value}, sIs k s1.heap x is.toArray → sIs k h' x is.toArray := fun {k x is} hx => by
          cases k with
          | l => obtain ⟨o, e, r⟩ := hx; exact ⟨o, hk _ _ e, r⟩
          | t => obtain ⟨o, e, r⟩ := hx; exact ⟨o, hk _ _ e, r⟩
        have n1 := rv.length
        have n2 := rv2.length
        have n3 := rv3.length
        have la' : @LT.lt Nat _ a s1.heap.objs.size := la
        have lb' : @LT.lt Nat _ b s1.heap.objs.size := lb
        have lc' : @LT.lt Nat _ c s1.heap.objs.size := lc
        have up : ∀ {b : Nat}, @LT.lt Nat _ b (s1.heap.objs.size + 6) → @LT.lt Nat _ b h'.objs.size := fun q => by rw [hsz]; exact q
        refine z3_call S D1 D2 D3 hz hTI hTO ⟨src_begun h1, keepS hsr⟩ ⟨src_begun h2, keepS hsr2⟩ ⟨src_begun h3, keepS hsr3⟩ (fun x hx => ?_) (fun x hx => ?_) (fun x hx => ?_) (by simp only [List.size_toArray]; omega) fun h'' tk acc c' as hk2 hL hl hG hacc => ?_
        · simp only [List.mem_cons, List.not_mem_nil, or_false] at hx
          rcases hx with z | z
          · rw [z]; exact up (by omega)
          · rw [z]; exact up (by omega)
        · simp only [List.mem_cons, List.not_mem_nil, or_false] at hx
          rcases hx with z | z
          · rw [z]; exact up (by omega)
          · rw [z]; exact up (by omega)
        · simp only [List.mem_cons, List.not_mem_nil, or_false] at hx
          rcases hx with z | z
          · rw [z]; exact up (by omega)
          · rw [z]; exact up (by omega)
        have hk3 : ∀ b u, s1.heap.get? b = some u → h''.get? b = some u := fun b u q => by
          have lt : @LT.lt Nat _ b s1.heap.objs.size := Heap.lt_size q
          have ne : ∀ k : Nat, b ≠ s1.heap.objs.size + k := fun k z => by
            have z' : @Eq Nat b (s1.heap.objs.size + k) := z
            omega
          exact hk2 b u (ne 5) (ne 4) (ne 0) (ne 1) (ne 2) (hk b u q)
        have big : ∀ p, p ∈ h'.objs.size :: as → s1.heap.objs.size ≤ p := fun p hp => by
          rcases List.mem_cons.mp hp with z | z
          · rw [z, hsz]; exact Nat.le_add_right _ _
          · have q : @LT.lt Nat _ h'.objs.size p := hG.above p z
            rw [hsz] at q
            exact Nat.le_trans (Nat.le_add_right _ 6) (Nat.le_of_lt q)
        have hf : ∀ p, p ∈ h'.objs.size :: as → H1 p = none := fun p hp => I1.hok.fresh (big p hp)
        have hlen : as.length = (z3l xs ys us).length := by
          rw [hl, z3l_len]
          simp only [List.size_toArray]
          omega
        have nin : h'.objs.size ∉ as := fun hp => Nat.lt_irrefl _ (hG.above _ hp)
        have nd : as.Nodup := hG.rise.imp fun h => Nat.ne_of_lt h
        have old : ∀ b o, H1 b = some o → upd (updT H1 as (z3l xs ys us)) h'.objs.size (.lst (as.map .ref)) b = some o := fun b o e => by
          have n : b ∉ h'.objs.size :: as := fun hp => by rw [hf b hp] at e; cases e
          rw [upd_ne (fun z => n (by rw [z]; exact List.mem_cons_self)), updT_ne (fun z => n (List.mem_cons_of_mem _ z))]
          exact e
        have I2 : Inv X pins σ (upd (updT H1 as (z3l xs ys us)) h'.objs.size (.lst (as.map .ref))) { s1 with heap := h'', toks := tk } := by
          refine I1.un (h' := h'') (t' := tk) (un_many hk3 old fun b hb hlt => ?_) (hok_many I1.hok hk3 old fun b o hb e => ?_)
          · have n : b ∉ h'.objs.size :: as := fun hp => Nat.lt_irrefl _ (Nat.lt_of_lt_of_le hlt (big b hp))
            rw [upd_ne (fun z => n (by rw [z]; exact List.mem_cons_self)), updT_ne (fun z => n (List.mem_cons_of_mem _ z))]
            exact hb
          · by_cases hz : b = h'.objs.size
            · subst hz
              rw [upd_same] at e
              cases e
              refine ⟨by rw [List.length_map, hlen, z3l_len]; exact hn, as.map Value.ref, c', vals_refs as, ?_⟩
              rw [← hacc]
              exact hL
            · rw [upd_ne hz] at e
              rcases updT_or e with e | ⟨j, cc, e1, e2, rfl⟩
              · rw [hb] at e; cases e
              · obtain ⟨x, y, u, f1, f2, f3, rfl⟩ := z3l_at e2
                obtain ⟨v1, v2, v3, g1, g2, g3, g4⟩ := hG.tups j b e1
                have w1 : its[j]? = some v1 := by simpa using g1
                have w2 : its2[j]? = some v2 := by simpa using g2
                have w3 : its3[j]? = some v3 := by simpa using g3
                exact ⟨by simp only [List.length_cons, List.length_nil]; decide, [v1, v2, v3], .cons (vals_at rv f1 w1) (.cons (vals_at rv2 f2 w2) (.cons (vals_at rv3 f3 w3) .nil)), _, g4, rfl, _, rfl⟩
        exact ⟨.ref h'.objs.size, _, I2, rfl, q as _ hlen nin nd hf⟩
end
section
variable {X : Cx} {G : Gh} {W : WX} {σ : L2.St} {H : Hp} {m : Mm} {env : Env} {st : Sto} {pos pos2 : Pos} {A B : Type} {rel : Mm → Hp → A → B → Prop}
theorem at3 {fa fb fc : Env → Sto → R T} {g : Env → T → T → T → Sto → R A} {K : A → Sto → B → Hp → Mm → Prop} {P : V → V → V → Hp → Prop}
    (h : At G W rel (fun env st => (fa env st).bnd fun x st1 => (fb env st1).bnd fun y st2 => (fc env st2).bnd fun z st3 => g env x y z st3) σ H K)
    (k : ∀ m env st t u z v w x H1, RS G m env st σ H1 → Rp G m H1 t v → Rp G m H1 u w → Rp G m H1 z x → Rn G W σ env rel m H1 (g env t u z st) K → P v w x H1) :
    tE G W fa σ H fun v H1 => tE G W fb σ H1 fun w H2 => tE G W fc σ H2 fun x H3 => P v w x H3 := by
  obtain ⟨m, env, st, rs, h⟩ := h
  refine ⟨m, env, st, rs, (Rn.bnd h).imp fun a st' b H' m' rs' _ r q => ⟨m', env, st', rs', (Rn.bnd q).imp fun a2 st2 b2 H2 m2 rs2 s2 r2 q2 => ⟨m2, env, st2, rs2, (Rn.bnd q2).imp fun a3 st3 b3 H3 m3 rs3 s3 r3 q3 => ?_⟩⟩⟩
  exact k m3 env st3 a a2 a3 b b2 b3 H3 rs3 (Rp.mov s3.toMov _ _ (Rp.mov s2.toMov _ _ r)) (Rp.mov s3.toMov _ _ r2) r3 q3
def fZ3 (fa fb fc : Env → Sto → R T) : Env → Sto → R (List T) := fun env st => (fa env st).bnd fun x st1 => (fb env st1).bnd fun y st2 => (fc env st2).bnd fun u st3 => match seqOf st3 x, seqOf st3 y, seqOf st3 u with
    | some xs, some ys, some us => if (z3l xs ys us).length ≤ lim then .ok ((z3l xs ys us).map T.tup) st3 else .bad
    | _, _, _ => .bad
theorem z3_rps : ∀ {xs ys us : List T} {vs ws zs : List V}, Rps G m H xs vs → Rps G m H ys ws → Rps G m H us zs → (z3l xs ys us).length = (z3l vs ws zs).length ∧ ∀ (j : Nat) (c : List T), (z3l xs ys us)[j]? = some c → ∃ d, (z3l vs ws zs)[j]? = some d ∧ Rps G m H c d
  | [], ys, us, vs, ws, zs, h1, h2, h3 => by
    cases vs with
    | nil => exact ⟨rfl, fun j c e => by simp [z3l] at e⟩
    | cons a b => have := h1.length; simp at this
  | x :: xs, [], us, vs, ws, zs, h1, h2, h3 => by
    cases ws with
    | nil => exact ⟨by cases vs <;> rfl, fun j c e => by simp [z3l] at e⟩
    | cons a b => have := h2.length; simp at this
  | x :: xs, y :: ys, [], vs, ws, zs, h1, h2, h3 => by
    cases zs with
    | nil => exact ⟨by cases vs <;> cases ws <;> rfl, fun j c e => by simp [z3l] at e⟩
    | cons a b => have := h3.length; simp at this
  | x :: xs, y :: ys, u :: us, vs, ws, zs, h1, h2, h3 => by
    cases vs with
    | nil => have := h1.length; simp at this
    | cons v vs =>
      cases ws with
      | nil => have := h2.length; simp at this
      | cons w ws =>
        cases zs with
        | nil => have := h3.length; simp at this
        | cons z zs =>
          obtain ⟨v', vs', e1, a1, b1⟩ := h1
          obtain ⟨w', ws', e2, a2, b2⟩ := h2
          obtain ⟨z', zs', e3, a3, b3⟩ := h3
          cases e1; cases e2; cases e3
          obtain ⟨l, k⟩ := z3_rps b1 b2 b3
          refine ⟨by simp only [z3l, List.length_cons, l], fun j c e => ?_⟩
          cases j with
          | zero =>
            cases (show some [x, y, u] = some c from e)
            exact ⟨_, rfl, _, _, rfl, a1, _, _, rfl, a2, _, _, rfl, a3, rfl⟩
          | succ j => exact k j c e
theorem Rn.tups : ∀ {cs : List (List T)} {ds : List (List V)} {ps : List Addr} {H : Hp}, RS G m env st σ H → cs.length = ds.length → ps.length = ds.length → (∀ (j : Nat) (c : List T), cs[j]? = some c → ∃ d, ds[j]? = some d ∧ Rps G m H c d) → ps.Nodup → (∀ p, p ∈ ps → H p = none) →
    RS G m env st σ (updT H ps ds) ∧ Stp m H m (updT H ps ds) ∧ Rps G m (updT H ps ds) (cs.map T.tup) (ps.map V.ref)
  | [], [], [], H, rs, h1, h2, h3, h4, h5 => ⟨rs, Stp.refl m H, rfl⟩
  | [], [], _ :: _, H, rs, h1, h2, h3, h4, h5 => by cases h2
  | [], _ :: _, ps, H, rs, h1, h2, h3, h4, h5 => by cases h1
  | _ :: _, [], ps, H, rs, h1, h2, h3, h4, h5 => by cases h1
  | c :: cs, d :: ds, [], H, rs, h1, h2, h3, h4, h5 => by cases h2
  | c :: cs, d :: ds, p :: ps, H, rs, h1, h2, h3, h4, h5 => by
    have hp := h5 p List.mem_cons_self
    obtain ⟨d', e, r⟩ := h3 0 c rfl
    cases e
    obtain ⟨n1, n2⟩ := List.nodup_cons.mp h4
    have sf : Stp m H m (upd H p (.tup d)) := Stp.fresh hp
    obtain ⟨a1, a2, a3⟩ := Rn.tups (cs := cs) (ds := ds) (ps := ps) (H := upd H p (.tup d)) (rs.fresh hp) (by simpa using h1) (by simpa using h2) (fun j c e => by
      obtain ⟨d, e2, r⟩ := h3 (j + 1) c e
      exact ⟨d, e2, Rps.mov sf.toMov _ _ r⟩) n2 (fun q hq => by rw [upd_ne (fun z => n1 (by rw [← z]; exact hq))]; exact h5 q (List.mem_cons_of_mem _ hq))
    have r1 : Rp G m (upd H p (.tup d)) (.tup c) (.ref p) := ⟨p, d, rfl, ⟨rs.sto.free hp, upd_same⟩, Rps.mov sf.toMov _ _ r⟩
    exact ⟨a1, sf.trans a2, _, _, rfl, Rp.mov a2.toMov _ _ r1, a3⟩
theorem l_z3 {a b c : Expr} {fa fb fc : Env → Sto → R T} {p p2 : Pos} (hK : X.K = G.K) (hc : X.calm = true) (hg : Gl X "list") (hm : X.mg "list" = none) (hg2 : Gl X "zip") (hm2 : X.mg "zip" = none) (ha : PE X a (tE G W fa)) (hb : PE X b (tE G W fb)) (hc2 : PE X c (tE G W fc))
    (hs : starEach [a, b, c] X.env = (false, eval a X.env) :: starEach [b, c] X.env) (hs2 : starEach [b, c] X.env = (false, eval b X.env) :: starEach [c] X.env) (hs3 : starEach [c] X.env = [(false, eval c X.env)]) :
    PE X (.Call (.Name "list" p) [.Call (.Name "zip" p2) [a, b, c] [] pos2] [] pos) (tL G W (fZ3 fa fb fc)) := by
  refine PE.imp (pe_z3 hc hg hm hg2 hm2 (pa_cons ha (pa_cons hb (pa_cons hc2 pa_nil hs3) hs2) hs) hs (by rw [hs2, hs3]; rfl)) fun σ H Q h => ?_
  rw [hK]
  show tE G W fa σ H fun x H1 => tE G W fb σ H1 fun y H2 => tE G W fc σ H2 fun z H3 => _
  refine at3 h fun m env st t u z v w x H1 rs r1 r2 r3 q => ?_
  cases e1 : seqOf st t with
  | none => rw [e1] at q; exact q.elim
  | some xs =>
    cases e2 : seqOf st u with
    | none => rw [e1, e2] at q; exact q.elim
    | some ys =>
      cases e3 : seqOf st z with
      | none => rw [e1, e2, e3] at q; exact q.elim
      | some us =>
        rw [e1, e2, e3] at q
        have q : Rn G W σ env (Rps G) m H1 (if (z3l xs ys us).length ≤ lim then .ok ((z3l xs ys us).map T.tup) st else .bad) _ := q
        by_cases hl : (z3l xs ys us).length ≤ lim
        · rw [if_pos hl] at q
          obtain ⟨a1, vs, rfl, h1, q1⟩ := Rp.seq rs.sto r1 e1
          obtain ⟨a2, ws, rfl, h2, q2⟩ := Rp.seq rs.sto r2 e2
          obtain ⟨a3, zs, rfl, h3, q3⟩ := Rp.seq rs.sto r3 e3
          have sk : ∀ {a : Addr} {xs : List V}, (SqL G.K H1 a xs ∨ SqT G.K H1 a xs) → ∃ k, sAt G.K k H1 a xs := fun {a xs} h => by
            rcases h with h | h
            · exact ⟨.l, h⟩
            · exact ⟨.t, h⟩
          obtain ⟨k1, s1⟩ := sk h1
          obtain ⟨k2, s2⟩ := sk h2
          obtain ⟨k3, s3⟩ := sk h3
          obtain ⟨zl, zr⟩ := z3_rps q1 q2 q3
          refine ⟨k1, k2, k3, a1, a2, a3, vs, ws, zs, rfl, s1, s2, s3, by rw [← z3l_len, ← zl, ← lim_eq]; exact hl, fun ps l pl nin nd hf => ?_⟩
          obtain ⟨t1, t2, t3⟩ := Rn.tups rs zl pl zr nd fun p hp => hf p (List.mem_cons_of_mem _ hp)
          exact Rn.next q t1 t2 t3 l (by rw [updT_ne nin]; exact hf l List.mem_cons_self)
        · rw [if_neg hl] at q; exact q.elim
end
end Eg
set_option Elab.async false
set_option linter.all false
set_option maxRecDepth 100000
set_option maxHeartbeats 2000000
/-! The engine, part ten: what is called. -/
namespace Eg
open PySem PySem.Spec PyProof.Rows L2
/-- what a def promises, by its meaning -/
def Spec (G : Gh) (F : List T → Sto → R T) : Sp := fun vs H Q E => ∃ m st ts, RS G m [] st [] H ∧ Rps G m H ts vs ∧ Rn G (fun cls d _ H' => E cls d H') [] [] (Rp G) m H (F ts st) (Kq Q)
/-- a def's promise under no guard -/
structure FnG (P : Program) (w : World) (K : PySem.W.Frag) (mg : Str → Option Value) (base : Heap) (lv : Nat) (f : Addr) (fd : FuncData) (ps : List Str) (sp : Sp) : Prop where
  go : ∀ (A : Around) (outer : List PySem.Env) (s : Shared) (H : Hp) (args : Args) (us : List Value) (vs : List V) (Q : VK) (E : XK), Room lv A → A.guards = some [] → Env0 P w K mg base A outer s H →
    BindsTo s fd args (ps.zip us) → Vals vs us → vs.length = ps.length → sp vs H Q E → codeAny (model P w) A (.call (.ref f) args) (CR (L2.CX P w) outer P w H s Q E) s
/-- what is called by its address: values by place, then the keywords kn -/
def Cal (P : Program) (w : World) (K : PySem.W.Frag) (mg : Str → Option Value) (base : Heap) (lv : Nat) (G : Gh) (kn : List Str) (F : List T → Sto → R T) (f : Addr) : Prop :=
  ∀ (A : Around) (outer : List PySem.Env) (s : Shared) (H : Hp) (us ws : List Value) (vs zs : List V) (Q : VK) (E : XK), Room lv A → A.guards = some [] → Env0 P w K mg base A outer s H →
    Vals vs us → Vals zs ws → zs.length = kn.length → Spec G F (vs ++ zs) H Q E → codeAny (model P w) A (.call (.ref f) ⟨us, kn.zip ws⟩) (CR (L2.CX P w) outer P w H s Q E) s
section
variable {P : Program} {w : World} {K : PySem.W.Frag} {mg : Str → Option Value} {base : Heap} {lv j : Nat} {G : Gh} {kn ps : List Str} {F : List T → Sto → R T} {f : Addr} {fd : FuncData}
theorem Cal.mono (c : Cal P w K mg base j G kn F f) (h : j ≤ lv) : Cal P w K mg base lv G kn F f := fun A outer s H us ws vs zs Q E r g e v z l q => c A outer s H us ws vs zs Q E (r.mono h) g e v z l q
theorem Spec.imp {F' : List T → Sto → R T} {vs : List V} {H : Hp} {Q : VK} {E : XK} (h : Spec G F' vs H Q E) (e : ∀ ts st, F' ts st = .bad ∨ F' ts st = F ts st) : Spec G F vs H Q E := by
  obtain ⟨m, st, ts, rs, r, q⟩ := h
  refine ⟨m, st, ts, rs, r, ?_⟩
  rcases e ts st with z | z
  · rw [z] at q; exact q.elim
  · rw [z] at q; exact q
/-- scalars that stand for themselves -/
def kTs : List T → Option (List V)
  | [] => some []
  | t :: ts => match kT t, kTs ts with
    | some v, some vs => some (v :: vs)
    | _, _ => none
theorem kTs_rp {m : Mm} {H : Hp} : ∀ {ts : List T} {vs : List V}, kTs ts = some vs → Rps G m H ts vs
  | [], _, h => by cases h; rfl
  | t :: ts, vs, h => by
    have h : (match kT t, kTs ts with
      | some v, some vs => some (v :: vs)
      | _, _ => none) = some vs := h
    cases e1 : kT t with
    | none => rw [e1] at h; cases h
    | some v =>
      cases e2 : kTs ts with
      | none => rw [e1, e2] at h; cases h
      | some r =>
        rw [e1, e2] at h
        cases h
        exact ⟨v, r, rfl, kT_rp e1, kTs_rp e2⟩
/-- by place, the last ones by default -/
def padF (n : Nat) (dts : List T) (F : List T → Sto → R T) : List T → Sto → R T := fun ts st => if ts.length = n then F (ts ++ dts) st else .bad
theorem cal_pad {n : Nat} {dts : List T} {dvs : List V} {ds : List Value} (c : FnG P w K mg base lv f fd ps (Spec G F)) (hb : Binds K fd ps ds) (hd : Vals dvs ds) (hk : kTs dts = some dvs) (hn : n + dts.length = ps.length) :
    Cal P w K mg base lv G [] (padF n dts F) f := fun A outer s H us ws vs zs Q E hr hg e0 rv rz lz q => by
  have hz : zs = [] := List.length_eq_zero_iff.mp lz
  subst hz
  obtain ⟨m, st, ts, rs, r, q⟩ := q
  rw [List.append_nil] at r
  unfold padF at q
  by_cases hl : ts.length = n
  · rw [if_pos hl] at q
    have r2 := rv.append hd
    have hkl : dts.length = dvs.length := (kTs_rp (G := G) (m := m) (H := H) hk).length
    have l1 : (vs ++ dvs).length = ps.length := by rw [List.length_append, ← r.length, hl, ← hkl]; exact hn
    have kin : K.In s.heap := e0.mod.kin.keeps fun b o z => (e0.bs b o z).1
    exact c.go A outer s H ⟨us, []⟩ (us ++ ds) (vs ++ dvs) Q E hr hg e0 (hb s us kin (by rw [← r2.length]; exact l1)) r2 l1 ⟨m, st, ts ++ dts, rs, r.append (kTs_rp hk), q⟩
  · rw [if_neg hl] at q; exact q.elim
/-- by keywords: how the places are filled -/
structure Kwd (K : PySem.W.Frag) (fd : FuncData) (ps : List Str) (n : Nat) (kn : List Str) (gT : List T → List T) : Prop where
  ex : ∃ (g : List Value → List Value → List Value) (gV : List V → List V → List V), KBn K fd ps n kn g gV ∧
    (∀ us ws : List Value, us.length = n → ws.length = kn.length → (g us ws).length = ps.length) ∧
    ∀ (G : Gh) (m : Mm) (H : Hp) (ts : List T) (vs zs : List V), vs.length = n → Rps G m H ts (vs ++ zs) → Rps G m H (gT ts) (gV vs zs)
def kwF (n k : Nat) (gT : List T → List T) (F : List T → Sto → R T) : List T → Sto → R T := fun ts st => if ts.length = n + k then F (gT ts) st else .bad
theorem cal_kw {n : Nat} {gT : List T → List T} (c : FnG P w K mg base lv f fd ps (Spec G F)) (hb : Kwd K fd ps n kn gT) : Cal P w K mg base lv G kn (kwF n kn.length gT F) f := fun A outer s H us ws vs zs Q E hr hg e0 rv rz lz q => by
  obtain ⟨m, st, ts, rs, r, q⟩ := q
  unfold kwF at q
  by_cases hl : ts.length = n + kn.length
  · rw [if_pos hl] at q
    have e := r.length
    rw [List.length_append, hl, lz] at e
    have l1 : vs.length = n := by omega
    obtain ⟨g, gV, kb, hlen, hg2⟩ := hb.ex
    have kin : K.In s.heap := e0.mod.kin.keeps fun b o z => (e0.bs b o z).1
    have u1 : us.length = n := by rw [← rv.length]; exact l1
    have u2 : ws.length = kn.length := by rw [← rz.length]; exact lz
    have rr := kb.rel rv rz
    exact c.go A outer s H ⟨us, kn.zip ws⟩ (g us ws) (gV vs zs) Q E hr hg e0 (kb.to s us ws kin u1 u2) rr (by rw [rr.length]; exact hlen us ws u1 u2) ⟨m, st, gT ts, rs, hg2 G m H ts vs zs l1 r, q⟩
  · rw [if_neg hl] at q; exact q.elim
end
/-! ### the call's own step -/
section
variable {X : Cx} {G : Gh} {W : WX} {lv : Nat} {kn : List Str} {F : List T → Sto → R T} {f : Addr} {x : Str} {p pos : Pos} {e : Expr} {es : List Expr} {kws : List Keyword} {fs fk : Env → Sto → R (List T)}
theorem RS.bare {m : Mm} {env : Env} {st : Sto} {σ : L2.St} {H : Hp} (rs : RS G m env st σ H) : RS G m [] st [] H := ⟨⟨rfl, fun i t e => by simp at e⟩, rs.sto⟩
/-- from a body's wish to a def's -/
theorem spec_of {m : Mm} {env : Env} {st : Sto} {σ : L2.St} {H : Hp} {ts : List T} {vs : List V} {Q : VK} (rs : RS G m env st σ H) (r : Rps G m H ts vs) (q : Rn G W σ env (Rp G) m H (F ts st) (Kq Q)) : Spec G F vs H Q (WE W σ) := by
  refine ⟨m, st, ts, rs.bare, r, ?_⟩
  cases eF : F ts st with
  | ok a s2 =>
    rw [eF] at q
    exact fun b H' m' rs' y rr => q b H' m' ⟨rs.env.mov y.toMov, rs'.sto⟩ y rr
  | exc a s2 =>
    rw [eF] at q
    exact fun cls d H' m' rs' y rr => q cls d H' m' ⟨rs.env.mov y.toMov, rs'.sto⟩ y rr
  | bad => rw [eF] at q; exact q.elim
theorem run_cal {pins : List (Addr × Obj)} {σ : L2.St} {H : Hp} {s : Shared} {Q : VK} {us ws : List Value} {vs zs : List V} (c : Cal X.prog X.w X.K X.mg X.base lv G kn F f) (hr : Room lv X.A) (hg : X.A.guards = some []) (tk : Takes X W)
    (I : Inv X pins σ H s) (rv : Vals vs us) (rz : Vals zs ws) (lz : zs.length = kn.length) (q : Spec G F (vs ++ zs) H Q (WE W σ)) : wpAny (model X.prog X.w) X.A (call (.ref f) us (kn.zip ws)) (EP X pins σ Q) X.xe s := by
  refine wpAny_call (codeAny_mono (c X.A X.stack s H us ws vs zs Q (WE W σ) hr hg I.env0 rv rz lz q) fun r s2 hr2 => ?_)
  match r, hr2 with
  | .error e, hr2 => exact passAt tk σ pins H s e s2 I hr2
  | .ok (.ret u), hr2 => exact I.after hr2
  | .ok .next, hr2 => exact hr2.elim
  | .ok .brk, hr2 => exact hr2.elim
  | .ok .cont, hr2 => exact hr2.elim
def fCall (F : List T → Sto → R T) (fs : Env → Sto → R (List T)) : Env → Sto → R T := fun env st => (fs env st).bnd fun xs st1 => F xs st1
/-- f(e, ..) -/
theorem s_call (c : Cal X.prog X.w X.K X.mg X.base lv G [] F f) (hr : Room lv X.A) (hG : X.A.guards = some []) (tk : Takes X W) (hg : Gl X x) (hm : X.mg x = some (.ref f)) (hk : PySem.W.keepIn X.K (.ref f) = true)
    (ha : PA X (e :: es) (tA G W fs)) (hdb : (x == ("__debug__" : Str)) = false) (he : starEach (e :: es) X.env = (false, eval e X.env) :: starEach es X.env) (hpl : (starEach es X.env).all (fun x => !x.1) = true) :
    PE X (.Call (.Name x p) (e :: es) [] pos) (tE G W (fCall F fs)) := by
  refine ⟨fun pins s σ H Q I h => ?_⟩
  have h2 : tA G W fs σ H fun vs H1 => Spec G F vs H1 Q (WE W σ) := by
    refine atA (g := fun _ xs st1 => F xs st1) h fun m env st ts vs H1 rs r q => ?_
    exact spec_of rs r q
  refine wpAny_Call_Name_kw (ld_glob I hg hm ?_ hdb)
  refine PySem.W.callWith_K (h₀ := X.base) I.ok.mod.kin hk (thn (ha.run pos pins s σ H _ I h2) fun us s1 ⟨vs, H1, I1, r, q⟩ => ⟨I1.kIn, ?_⟩) he (pl_of (e := e) hpl)
  exact run_cal (kn := []) (ws := []) (zs := []) c hr hG tk I1 r .nil rfl (by rw [List.append_nil]; exact q)
/-- f() -/
theorem s_call0 (c : Cal X.prog X.w X.K X.mg X.base lv G [] F f) (hr : Room lv X.A) (hG : X.A.guards = some []) (tk : Takes X W) (hg : Gl X x) (hm : X.mg x = some (.ref f)) (hk : PySem.W.keepIn X.K (.ref f) = true)
    (hdb : (x == ("__debug__" : Str)) = false) : PE X (.Call (.Name x p) [] [] pos) (tE G W fun _ st => F [] st) := by
  refine ⟨fun pins s σ H Q I ⟨m, env, st, rs, h⟩ => ?_⟩
  refine wpAny_Call_Name_kw (ld_glob I hg hm ?_ hdb)
  exact PySem.W.callWith_K0 I.kIn hk (run_cal (kn := []) (ws := []) (zs := []) (us := []) (vs := []) c hr hG tk I .nil .nil rfl (spec_of (ts := []) rs rfl h))
theorem PK.imp {t t' : TA} (h : PK X kws t) (k : ∀ σ H Q, t' σ H Q → t σ H Q) : PK X kws t' := ⟨fun p pins s σ H Q I q => h.run p pins s σ H Q I (k σ H Q q)⟩
theorem k_nil : PK X [] (tA G W fun _ st => .ok [] st) := PK.imp pk_nil fun σ H Q ⟨m, env, st, rs, q⟩ => Rn.here (b := []) q rs rfl
theorem k_cons {nm : Option Str} {kp : Pos} {fa : Env → Sto → R T} (ha : PE X e (tE G W fa)) (hr : PK X kws (tA G W fs)) :
    PK X (⟨nm, e, kp⟩ :: kws) (tA G W fun env st => (fa env st).bnd fun x st1 => (fs env st1).bnd fun xs st2 => .ok (x :: xs) st2) := by
  refine PK.imp (pk_cons ha hr) fun σ H Q h => ?_
  show tE G W fa σ H fun x H1 => tA G W fs σ H1 fun xs H2 => Q (x :: xs) H2
  obtain ⟨m, env, st, rs, h⟩ := h
  refine ⟨m, env, st, rs, (Rn.bnd h).imp fun t st' v H' m' rs' _ r q => ⟨m', env, st', rs', (Rn.bnd q).imp fun ts st2 vs H2 m2 rs2 s2 r2 q2 => ?_⟩⟩
  exact Rn.here q2 rs2 ⟨v, vs, rfl, Rp.mov s2.toMov _ _ r, r2⟩
def fCallK (F : List T → Sto → R T) (fs fk : Env → Sto → R (List T)) : Env → Sto → R T := fun env st => (fs env st).bnd fun xs st1 => (fk env st1).bnd fun ys st2 => if ys.length = 0 then .bad else F (xs ++ ys) st2
theorem tA2 {g : Env → List T → List T → Sto → R T} {σ : L2.St} {H : Hp} {Q : VK} {Pp : List V → List V → Hp → Prop} (h : tE G W (fun env st => (fs env st).bnd fun xs st1 => (fk env st1).bnd fun ys st2 => g env xs ys st2) σ H Q)
    (k : ∀ m env st ts us vs ws H1, RS G m env st σ H1 → Rps G m H1 ts vs → Rps G m H1 us ws → Rn G W σ env (Rp G) m H1 (g env ts us st) (Kq Q) → Pp vs ws H1) :
    tA G W fs σ H fun vs H1 => tA G W fk σ H1 fun ws H2 => Pp vs ws H2 := by
  obtain ⟨m, env, st, rs, h⟩ := h
  refine ⟨m, env, st, rs, (Rn.bnd h).imp fun ts st1 vs H1 m1 rs1 _ r q => ⟨m1, env, st1, rs1, (Rn.bnd q).imp fun us st2 ws H2 m2 rs2 s2 r2 q2 => ?_⟩⟩
  exact k m2 env st2 ts us vs ws H2 rs2 (Rps.mov s2.toMov _ _ r) r2 q2
/-- f(.., k = v, ..) -/
theorem s_callK (c : Cal X.prog X.w X.K X.mg X.base lv G kn F f) (hr : Room lv X.A) (hG : X.A.guards = some []) (tk : Takes X W) (hg : Gl X x) (hm : X.mg x = some (.ref f)) (hk : PySem.W.keepIn X.K (.ref f) = true)
    (ha : PA X es (tA G W fs)) (hkw : PK X kws (tA G W fk)) (hall : (backToKw pos (keywordEach kws X.env)).all (·.1.isSome) = true) (hks : (backToKw pos (keywordEach kws X.env)).filterMap (·.1) = kn) (hlen : kws.length = kn.length)
    (hlk : ∀ xs env st st', fk env st = .ok xs st' → xs.length = kn.length)
    (hdb : (x == ("__debug__" : Str)) = false)
    (hcw : ∀ {Q : Value → Shared → Prop} {E : Value → Shared → Prop} {s : Shared}, wpAny (model X.prog X.w) X.A (spliced (backTo pos (starEach es X.env))) (fun us s1 => wpAny (model X.prog X.w) X.A (evalAll ((backToKw pos (keywordEach kws X.env)).map (·.2))) (fun ws s2 => X.K.In s2.heap ∧ wpAny (model X.prog X.w) X.A (call (.ref f) us (kn.zip ws)) Q E s2) E s1) E s →
      wpAny (model X.prog X.w) X.A (callWith pos (.ref f) [] (backTo pos (starEach es X.env)) (backToKw pos (keywordEach kws X.env))) Q E s) :
    PE X (.Call (.Name x p) es kws pos) (tE G W fun env st => (fs env st).bnd fun xs st1 => (fk env st1).bnd fun ys st2 => if ys.length = kn.length then F (xs ++ ys) st2 else .bad) := by
  refine ⟨fun pins s σ H Q I h => ?_⟩
  have h2 : tA G W fs σ H fun vs H1 => tA G W fk σ H1 fun zs H2 => zs.length = kn.length ∧ Spec G F (vs ++ zs) H2 Q (WE W σ) := by
    refine tA2 (g := fun _ xs ys st2 => if ys.length = kn.length then F (xs ++ ys) st2 else .bad) h fun m env st ts us vs ws H1 rs r1 r2 q => ?_
    by_cases hl : us.length = kn.length
    · rw [if_pos hl] at q
      exact ⟨by rw [← r2.length]; exact hl, spec_of rs (r1.append r2) q⟩
    · rw [if_neg hl] at q; exact q.elim
  refine wpAny_Call_Name_kw (ld_glob I hg hm ?_ hdb)
  refine hcw (thn (ha.run pos pins s σ H _ I h2) fun us s1 ⟨vs, H1, I1, r, q⟩ => ?_)
  refine thn (hkw.run pos pins s1 σ H1 _ I1 q) fun ws s2 ⟨zs, H2, I2, rz, l, q2⟩ => ⟨I2.kIn, ?_⟩
  exact run_cal c hr hG tk I2 r rz l q2
end
end Eg
set_option Elab.async false
set_option linter.all false
set_option maxRecDepth 100000
set_option maxHeartbeats 2000000
/-! The engine, part eleven: statements. -/
namespace Eg
open PySem PySem.Spec PyProof.Rows L2
/-- how a suite ends -/
inductive O where
  | nx (env : Env) (st : Sto) | rt (t : T) (st : Sto) | bk (env : Env) (st : Sto) | ct (env : Env) (st : Sto) | exc (e : T) (env : Env) (st : Sto) | bad
def O.seq (o : O) (f : Env → Sto → O) : O := match o with
  | .nx env st => f env st
  | .rt t st => .rt t st
  | .bk env st => .bk env st
  | .ct env st => .ct env st
  | .exc e env st => .exc e env st
  | .bad => .bad
def R.go {A : Type} (r : R A) (env : Env) (f : A → Sto → O) : O := match r with
  | .ok a st => f a st
  | .exc e st => .exc e env st
  | .bad => .bad
abbrev Fs := Env → Sto → O
section
variable {G : Gh} {W : WX} {D D' : Ends} {m m1 m' : Mm} {H H1 H' : Hp} {o : O} {σ : L2.St} {env : Env} {st : Sto}
/-- an end as it lies behind -/
def Out (G : Gh) (W : WX) (D : Ends) (m : Mm) (H : Hp) : O → Prop
  | .nx env st => ∀ σ' H' m', RS G m' env st σ' H' → Stp m H m' H' → D.nx σ' H'
  | .bk env st => ∀ σ' H' m', RS G m' env st σ' H' → Stp m H m' H' → D.bk σ' H'
  | .ct env st => ∀ σ' H' m', RS G m' env st σ' H' → Stp m H m' H' → D.ct σ' H'
  | .rt t st => ∀ v H' m', RSto G m' H' st → Stp m H m' H' → Rp G m' H' t v → D.rt v H'
  | .exc e env st => ∀ cls d σ' H' m', RS G m' env st σ' H' → Stp m H m' H' → RExc G m' H' e cls d → W cls d σ' H'
  | .bad => False
theorem Out.base (x : Stp m H m1 H1) (h : Out G W D m H o) : Out G W D m1 H1 o := by
  cases o with
  | nx env st => exact fun σ' H' m' rs y => h σ' H' m' rs (x.trans y)
  | bk env st => exact fun σ' H' m' rs y => h σ' H' m' rs (x.trans y)
  | ct env st => exact fun σ' H' m' rs y => h σ' H' m' rs (x.trans y)
  | rt t st => exact fun v H' m' rs y => h v H' m' rs (x.trans y)
  | exc e env st => exact fun cls d σ' H' m' rs y => h cls d σ' H' m' rs (x.trans y)
  | bad => exact h
/-- ends that ask for less -/
theorem Out.imp (h : Out G W D m H o) (n : ∀ σ H, D.nx σ H → D'.nx σ H) (r : ∀ v H, D.rt v H → D'.rt v H) (b : ∀ σ H, D.bk σ H → D'.bk σ H) (c : ∀ σ H, D.ct σ H → D'.ct σ H) : Out G W D' m H o := by
  cases o with
  | nx env st => exact fun σ' H' m' rs y => n _ _ (h σ' H' m' rs y)
  | bk env st => exact fun σ' H' m' rs y => b _ _ (h σ' H' m' rs y)
  | ct env st => exact fun σ' H' m' rs y => c _ _ (h σ' H' m' rs y)
  | rt t st => exact fun v H' m' rs y q => r _ _ (h v H' m' rs y q)
  | exc e env st => exact h
  | bad => exact h
def tS (G : Gh) (W : WX) (f : Fs) : TS := fun D σ H => ∃ m env st, RS G m env st σ H ∧ Out G W D m H (f env st)
theorem PS.imp {X : Cx} {e : Stmt} {t t' : TS} (h : PS X e t) (k : ∀ D σ H, t' D σ H → t D σ H) : PS X e t' := ⟨fun pins s σ H D I q => h.run pins s σ H D I (k D σ H q)⟩
theorem PSs.imp {X : Cx} {e : List Stmt} {t t' : TS} (h : PSs X e t) (k : ∀ D σ H, t' D σ H → t D σ H) : PSs X e t' := ⟨fun pins s σ H D I q => h.run pins s σ H D I (k D σ H q)⟩
theorem Out.seq {f : Fs} (h : Out G W D m H (o.seq f)) : Out G W { D with nx := tS G W f D } m H o := by
  cases o with
  | nx env st => exact fun σ' H' m' rs y => ⟨m', env, st, rs, Out.base y h⟩
  | bk env st => exact h
  | ct env st => exact h
  | rt t st => exact h
  | exc e env st => exact h
  | bad => exact h
/-- an expression ahead of the rest -/
theorem Out.go {A B : Type} {rel : Mm → Hp → A → B → Prop} {r : R A} {f : A → Sto → O} (h : Out G W D m H (r.go env f)) : Rn G W σ env rel m H r fun a st' _ H' m' => Out G W D m' H' (f a st') := by
  cases r with
  | ok a s => exact fun b H' m' rs y q => Out.base y h
  | exc e s => exact fun cls d H' m' rs y q => h cls d σ H' m' rs y q
  | bad => exact h
theorem go1 {fa : Env → Sto → R T} {g : Env → T → Sto → O} {P : V → Hp → Prop} (h : tS G W (fun env st => (fa env st).go env fun t st1 => g env t st1) D σ H)
    (k : ∀ m env st t v H1, RS G m env st σ H1 → Rp G m H1 t v → Out G W D m H1 (g env t st) → P v H1) : tE G W fa σ H P := by
  obtain ⟨m, env, st, rs, h⟩ := h
  exact ⟨m, env, st, rs, (Out.go h).imp fun a st' b H' m' rs' _ r q => k m' env st' a b H' rs' r q⟩
end
/-! ### small statements -/
section
variable {X : Cx} {G : Gh} {W : WX} {f g : Fs} {fa fb : Env → Sto → R T} {fs : Env → Sto → R (List T)} {a b e : Expr} {s1 : Stmt} {rest : List Stmt} {pos : Pos}
def fNx : Fs := fun env st => .nx env st
theorem S_nil : PSs X [] (tS G W fNx) := PSs.imp pss_nil fun D σ H ⟨m, env, st, rs, h⟩ => h σ H m rs (Stp.refl m H)
theorem S_cons (h1 : PS X s1 (tS G W f)) (h2 : PSs X rest (tS G W g)) : PSs X (s1 :: rest) (tS G W fun env st => (f env st).seq g) :=
  PSs.imp (pss_cons h1 h2) fun D σ H ⟨m, env, st, rs, h⟩ => ⟨m, env, st, rs, Out.seq h⟩
theorem S_pass : PS X (.Pass pos) (tS G W fNx) := PS.imp ps_pass fun D σ H ⟨m, env, st, rs, h⟩ => h σ H m rs (Stp.refl m H)
theorem S_break : PS X (.Break pos) (tS G W fun env st => .bk env st) := PS.imp ps_break fun D σ H ⟨m, env, st, rs, h⟩ => h σ H m rs (Stp.refl m H)
theorem S_cont : PS X (.Continue pos) (tS G W fun env st => .ct env st) := PS.imp ps_continue fun D σ H ⟨m, env, st, rs, h⟩ => h σ H m rs (Stp.refl m H)
theorem S_doc {x j p2} : PS X (.Expr (.Constant (.str x) j pos) p2) (tS G W fNx) := PS.imp ps_doc fun D σ H ⟨m, env, st, rs, h⟩ => h σ H m rs (Stp.refl m H)
def fExp (fa : Env → Sto → R T) : Fs := fun env st => (fa env st).go env fun _ st1 => .nx env st1
theorem S_expr (he : PE X e (tE G W fa)) (hs : swapsWith e none pos.line X.env = pure false) : PS X (.Expr e pos) (tS G W (fExp fa)) := by
  refine PS.imp (ps_expr he hs) fun D σ H h => ?_
  refine go1 (g := fun env _ st1 => .nx env st1) h fun m env st t v H1 rs r q => q σ H1 m rs (Stp.refl m H1)
def fRet (fa : Env → Sto → R T) : Fs := fun env st => (fa env st).go env fun t st1 => .rt t st1
theorem S_ret (he : PE X e (tE G W fa)) : PS X (.Return (some e) pos) (tS G W (fRet fa)) := by
  refine PS.imp (ps_ret he) fun D σ H h => ?_
  refine go1 (g := fun _ t st1 => .rt t st1) h fun m env st t v H1 rs r q => q v H1 m rs.sto (Stp.refl m H1) r
theorem S_retN : PS X (.Return none pos) (tS G W fun _ st => .rt .non st) := PS.imp ps_retN fun D σ H ⟨m, env, st, rs, h⟩ => h .non H m rs.sto (Stp.refl m H) rfl
def fIf (fc : Env → Sto → R T) (f g : Fs) : Fs := fun env st => (fc env st).go env fun t st1 => match t with
  | .bl true => f env st1
  | .bl false => g env st1
  | _ => .bad
theorem S_if {c : Expr} {x y : List Stmt} (hc : PT X c (tTest (tE G W fa))) (hx : PSs X x (tS G W f)) (hy : PSs X y (tS G W g)) : PS X (.If c x y pos) (tS G W (fIf fa f g)) := by
  refine PS.imp (ps_if hc hx hy) fun D σ H h => ?_
  show tE G W fa σ H fun v H1 => ∃ k, v = .bl k ∧ (if k = true then tS G W f D σ H1 else tS G W g D σ H1)
  refine go1 (g := fun env t st1 => match t with
    | .bl true => f env st1
    | .bl false => g env st1
    | _ => .bad) h fun m env st t v H1 rs r q => ?_
  cases t with
  | bl k =>
    cases k with
    | true => exact ⟨true, r, by rw [if_pos rfl]; exact ⟨m, env, st, rs, q⟩⟩
    | false => exact ⟨false, r, by rw [if_neg (by decide)]; exact ⟨m, env, st, rs, q⟩⟩
  | _ => exact q.elim
/-! ### targets that may lie in the store -/
abbrev Ft := T → Env → Sto → O
def OutN (G : Gh) (W : WX) (Q : L2.St → Hp → Prop) (m : Mm) (H : Hp) : O → Prop
  | .nx env st => ∀ σ' H' m', RS G m' env st σ' H' → Stp m H m' H' → Q σ' H'
  | .exc e env st => ∀ cls d σ' H' m', RS G m' env st σ' H' → Stp m H m' H' → RExc G m' H' e cls d → W cls d σ' H'
  | _ => False
theorem OutN.base {Q : L2.St → Hp → Prop} {m m1 : Mm} {H H1 : Hp} {o : O} (x : Stp m H m1 H1) (h : OutN G W Q m H o) : OutN G W Q m1 H1 o := by
  cases o with
  | nx env st => exact fun σ' H' m' rs y => h σ' H' m' rs (x.trans y)
  | exc e env st => exact fun cls d σ' H' m' rs y => h cls d σ' H' m' rs (x.trans y)
  | _ => exact h
theorem OutN.go {A B : Type} {rel : Mm → Hp → A → B → Prop} {Q : L2.St → Hp → Prop} {m : Mm} {H : Hp} {σ : L2.St} {env : Env} {r : R A} {f : A → Sto → O} (h : OutN G W Q m H (r.go env f)) :
    Rn G W σ env rel m H r fun a st' _ H' m' => OutN G W Q m' H' (f a st') := by
  cases r with
  | ok a s => exact fun b H' m' rs y q => OutN.base y h
  | exc e s => exact fun cls d H' m' rs y q => h cls d σ H' m' rs y q
  | bad => exact h
def tT (G : Gh) (W : WX) (f : Ft) : TG := fun v σ H Q => ∃ m env st t, RS G m env st σ H ∧ Rp G m H t v ∧ OutN G W Q m H (f t env st)
def tTs (G : Gh) (W : WX) (f : List T → Env → Sto → O) : TGs := fun vs σ H Q => ∃ m env st ts, RS G m env st σ H ∧ Rps G m H ts vs ∧ OutN G W Q m H (f ts env st)
def fG (g : IG) : Ft := fun t env st => match g.set t env with
  | some env' => .nx env' st
  | none => .bad
theorem T_g {g : IG} (h : PG X e (tG G g)) : PG X e (tT G W (fG g)) := by
  refine PG.imp h fun v σ H Q ⟨m, env, st, t, rs, r, q⟩ => ?_
  unfold fG at q
  cases eg : g.set t env with
  | none => rw [eg] at q; exact q.elim
  | some env' => rw [eg] at q; exact ⟨m, env, st, t, env', rs, r, eg, fun σ' rs' _ _ => q σ' H m rs' (Stp.refl m H)⟩
/-- a list in the store is written -/
theorem RSto.setc {m : Mm} {H : Hp} {st : Sto} {l : Nat} {a : Addr} {vs : List V} {ts : List T} (s : RSto G m H st) (e : m.as[l]? = some a) (r : Rps G m H ts vs) : RSto G m (L2.upd H a (.lst vs)) (st.set l (.lst ts)) ∧ Stp m H m (L2.upd H a (.lst vs)) := by
  have ha : a ∈ m.as := List.mem_of_getElem? e
  have S : Stp m H m (L2.upd H a (.lst vs)) := ⟨⟨fun b o h hn => by
    have hne : b ≠ a := fun z => hn (by rw [z]; exact ha)
    rw [upd_ne hne]; exact h, fun _ h => .inl h, fun _ h => .inl (.inr h), ⟨[], by simp⟩⟩, rfl⟩
  refine ⟨⟨s.nd, s.fd, by rw [List.length_set]; exact s.len, fun i b c h1 h2 => ?_, fun b h => ?_⟩, S⟩
  · by_cases hi : i = l
    · subst hi
      rw [e] at h1
      cases h1
      have hl : i < st.length := by rw [← s.len]; exact (List.getElem?_eq_some_iff.mp e).1
      rw [List.getElem?_set_self hl] at h2
      cases h2
      exact ⟨vs, upd_same, Rps.mov S.toMov _ _ r⟩
    · rw [List.getElem?_set_ne (Ne.symm hi)] at h2
      have hne : b ≠ a := fun z => by
        subst z
        exact hi ((List.getElem?_inj (List.getElem?_eq_some_iff.mp h1).1 s.nd).mp (h1.trans e.symm))
      exact RCell.mov S.toMov (upd_ne hne) (s.cell i b c h1 h2)
  · have hne : b ≠ a := fun z => s.fd a ha (z ▸ h)
    rw [upd_ne hne]
    exact s.foS b h
theorem Rps.setAt {m : Mm} {H : Hp} {t : T} {v : V} (h : Rp G m H t v) : ∀ {ts : List T} {vs : List V} (j : Nat), Rps G m H ts vs → Rps G m H (ts.set j t) (vs.set j v)
  | [], _, _, r => by cases (show _ = _ from r); exact rfl
  | x :: ts, _, 0, ⟨w, r, e, h1, q⟩ => by subst e; exact ⟨v, r, rfl, h, q⟩
  | x :: ts, _, j + 1, ⟨w, r, e, h1, q⟩ => by subst e; exact ⟨w, r.set j v, rfl, h1, Rps.setAt h j q⟩
/-- the list at a place of the store -/
def lstAt (st : Sto) : T → Option (Nat × List T)
  | .loc l => match st[l]? with
    | some (.lst xs) => some (l, xs)
    | _ => none
  | _ => none
theorem lstAt_ok {m : Mm} {H : Hp} {st : Sto} {t : T} {v : V} {l : Nat} {xs : List T} (s : RSto G m H st) (r : Rp G m H t v) (e : lstAt st t = some (l, xs)) : ∃ a vs, v = .ref a ∧ m.as[l]? = some a ∧ H a = some (.lst vs) ∧ Rps G m H xs vs := by
  cases t with
  | loc k =>
    obtain ⟨a, e1, h⟩ := r
    have e : (match st[k]? with
      | some (.lst xs) => some (k, xs)
      | _ => none) = some (l, xs) := e
    cases e2 : st[k]? with
    | none => rw [e2] at e; cases e
    | some c =>
      cases c with
      | ins c ys => rw [e2] at e; cases e
      | lst ys =>
        rw [e2] at e
        cases e
        obtain ⟨vs, h1, q⟩ := s.cell _ a _ h e2
        exact ⟨a, vs, e1, h, h1, q⟩
  | _ => cases e
def fSub (fa fb : Env → Sto → R T) : Ft := fun t env st => (fa env st).go env fun x st1 => (fb env st1).go env fun y st2 => match lstAt st2 x, y with
  | some (l, xs), .int k => match ixN xs.length k with
    | some j => .nx env (st2.set l (.lst (xs.set j t)))
    | none => .bad
  | _, _ => .bad
theorem T_sub (ha : PE X a (tE G W fa)) (hb : PE X b (tE G W fb)) (hx : ∀ v, assign (.Subscript a b pos) X.env v = (do
      let ov ← holding [v] (eval a X.env)
      let iv ← holding [v, ov] (eval b X.env)
      standAt pos
      holding [v, ov, iv] (setItem ov iv v)
      release [v, ov, iv] [])) : PG X (.Subscript a b pos) (tT G W (fSub fa fb)) := by
  refine PG.imp (pg_sub ha hb set_list hx) fun v σ H Q ⟨m, env, st, t, rs, r, h⟩ => ?_
  refine ⟨m, env, st, rs, (OutN.go h).imp fun x st1 xv H1 m1 rs1 S1 r1 h => ⟨m1, env, st1, rs1, (OutN.go h).imp fun y st2 yv H2 m2 rs2 S2 r2 h => ?_⟩⟩
  cases e1 : lstAt st2 x with
  | none => rw [e1] at h; exact h.elim
  | some p =>
    obtain ⟨l, xs⟩ := p
    cases y with
    | int k =>
      cases (show yv = _ from r2)
      cases e2 : ixN xs.length k with
      | none => rw [e1] at h; simp only [e2] at h; exact h.elim
      | some j =>
        rw [e1] at h
        simp only [e2] at h
        obtain ⟨p, vs, rfl, hp, hH, rq⟩ := lstAt_ok rs2.sto (Rp.mov S2.toMov _ _ r1) e1
        refine ⟨p, vs, k, j, rfl, rfl, hH, by rw [← rq.length]; exact e2, ?_⟩
        have rt : Rp G m2 H2 t v := Rp.mov S2.toMov _ _ (Rp.mov S1.toMov _ _ r)
        obtain ⟨s3, S3⟩ := rs2.sto.setc hp (rq.setAt rt j)
        exact h σ _ m2 ⟨rs2.env.mov S3.toMov, s3⟩ S3
    | _ => rw [e1] at h; exact h.elim
def fNo : List T → Env → Sto → O := fun ts env st => match ts with
  | [] => .nx env st
  | _ => .bad
def fCo (f : Ft) (g : List T → Env → Sto → O) : List T → Env → Sto → O := fun ts env st => match ts with
  | t :: ts => (f t env st).seq fun env1 st1 => g ts env1 st1
  | [] => .bad
def fTu (n : Nat) (g : List T → Env → Sto → O) : Ft := fun t env st => match t with
  | .tup ts => if ts.length = n then g ts env st else .bad
  | _ => .bad
theorem T_no : PGs X [] (tTs G W fNo) := PGs.imp pgs_nil fun vs σ H Q ⟨m, env, st, ts, rs, r, h⟩ => by
  cases ts with
  | nil => exact ⟨r, h σ H m rs (Stp.refl m H)⟩
  | cons t ts => exact h.elim
theorem T_co {es : List Expr} {ft : Ft} {gt : List T → Env → Sto → O} (h1 : PG X e (tT G W ft)) (h2 : PGs X es (tTs G W gt)) (hs : (assignEach (e :: es) X.env).map (·.2) = assign e X.env :: (assignEach es X.env).map (·.2)) : PGs X (e :: es) (tTs G W (fCo ft gt)) := by
  refine PGs.imp (pgs_cons h1 h2 hs) fun vs σ H Q ⟨m, env, st, ts, rs, r, h⟩ => ?_
  cases ts with
  | nil => exact h.elim
  | cons t ts =>
    obtain ⟨v, w, rfl, r1, r2⟩ := r
    refine ⟨v, w, rfl, m, env, st, t, rs, r1, ?_⟩
    have h : OutN G W Q m H ((ft t env st).seq fun env1 st1 => gt ts env1 st1) := h
    cases eo : ft t env st with
    | nx env1 st1 =>
      rw [eo] at h
      exact fun σ1 H1 m1 rs1 S1 => ⟨m1, env1, st1, ts, rs1, Rps.mov S1.toMov _ _ r2, OutN.base S1 h⟩
    | exc e1 env1 st1 => rw [eo] at h; exact h
    | _ => rw [eo] at h; exact h.elim
theorem T_tu {es : List Expr} {k n : Nat} {gt : List T → Env → Sto → O} (hc : X.calm = true) (h : PGs X es (tTs G W gt)) (hn : (assignEach es X.env).length = n) (hst : (assignEach es X.env).findIdx? (·.1) = none) : PG X (.Tuple es k pos) (tT G W (fTu n gt)) := by
  refine PG.imp (pg_tup hc h hn hst) fun v σ H Q ⟨m, env, st, t, rs, r, h⟩ => ?_
  cases t with
  | tup ts =>
    obtain ⟨p, vs, rfl, hp, rr⟩ := r
    have h : OutN G W Q m H (if ts.length = n then gt ts env st else .bad) := h
    by_cases hl : ts.length = n
    · rw [if_pos hl] at h
      exact ⟨p, vs, rfl, .inl (.inl hp.2), by rw [← rr.length]; exact hl, m, env, st, ts, rs, rr, h⟩
    · rw [if_neg hl] at h; exact h.elim
  | _ => exact h.elim
/-- target = e -/
def fAsg (fa : Env → Sto → R T) (ft : Ft) : Fs := fun env st => (fa env st).go env fun t st1 => match ft t env st1 with
  | .nx env' st' => .nx env' st'
  | .exc e env' st' => .exc e env' st'
  | _ => .bad
theorem OutN.of {D : Ends} {m : Mm} {H : Hp} {o : O} (h : Out G W D m H (match o with
  | .nx env' st' => .nx env' st'
  | .exc e env' st' => .exc e env' st'
  | _ => .bad)) : OutN G W D.nx m H o := by cases o <;> exact h
theorem asg_imp {ft : Ft} {D : Ends} {σ : L2.St} {H : Hp} (h : tS G W (fAsg fa ft) D σ H) : tAsg (tE G W fa) (tT G W ft) D σ H := by
  show tE G W fa σ H fun v H1 => tT G W ft v σ H1 D.nx
  refine go1 (g := fun env t st1 => match ft t env st1 with
    | .nx env' st' => .nx env' st'
    | .exc e env' st' => .exc e env' st'
    | _ => .bad) h fun m env st t v H1 rs r q => ⟨m, env, st, t, rs, r, OutN.of q⟩
theorem S_asg {ft : Ft} {tg : Expr} (he : PE X e (tE G W fa)) (hg : PG X tg (tT G W ft)) (hs : swapsWithSole [tg] e pos.line X.env = pure false) (hw : swappedStores [tg] e X.env = pure none)
    (h1 : (assignEach [tg] X.env).map (·.2) = [assign tg X.env]) : PS X (.Assign [tg] e pos) (tS G W (fAsg fa ft)) := PS.imp (ps_asg he hg hs hw h1) fun D σ H h => asg_imp h
/-- several names at once -/
def fPar2 (i j : Nat) (fs : Env → Sto → R (List T)) : Fs := fun env st => (fs env st).go env fun ts st1 => match ts with
  | [t, u] => if i < env.length ∧ j < env.length then .nx ((env.set i (some t)).set j (some u)) st1 else .bad
  | _ => .bad
def fPar3 (i j l : Nat) (fs : Env → Sto → R (List T)) : Fs := fun env st => (fs env st).go env fun ts st1 => match ts with
  | [t, u, w] => if i < env.length ∧ j < env.length ∧ l < env.length then .nx (((env.set i (some t)).set j (some u)).set l (some w)) st1 else .bad
  | _ => .bad
theorem goA {D : Ends} {σ : L2.St} {H : Hp} {g : Env → List T → Sto → O} {P : List V → Hp → Prop} (h : tS G W (fun env st => (fs env st).go env fun t st1 => g env t st1) D σ H)
    (k : ∀ m env st t v H1, RS G m env st σ H1 → Rps G m H1 t v → Out G W D m H1 (g env t st) → P v H1) : tA G W fs σ H P := by
  obtain ⟨m, env, st, rs, h⟩ := h
  exact ⟨m, env, st, rs, (Out.go h).imp fun a st' b H' m' rs' _ r q => k m' env st' a b H' rs' r q⟩
theorem par2_imp {i j : Nat} {D : Ends} {σ : L2.St} {H : Hp} (h : tS G W (fPar2 i j fs) D σ H) : tPar i j (tA G W fs) D σ H := by
  refine goA (g := fun env ts st1 => match ts with
    | [t, u] => if i < env.length ∧ j < env.length then .nx ((env.set i (some t)).set j (some u)) st1 else .bad
    | _ => .bad) h fun m env st ts vs H1 rs r q => ?_
  match ts, r, q with
  | [t, u], r, q =>
    obtain ⟨v, w, rfl, h1, h2⟩ := two_of r
    have q : Out G W D m H1 (if i < env.length ∧ j < env.length then .nx ((env.set i (some t)).set j (some u)) st else .bad) := q
    by_cases c : i < env.length ∧ j < env.length
    · rw [if_pos c] at q
      exact ⟨v, w, rfl, q _ H1 m ((rs.set c.1 h1).set (by rw [List.length_set]; exact c.2) h2) (Stp.refl m H1)⟩
    · rw [if_neg c] at q; exact q.elim
  | [], _, q => exact q.elim
  | [_], _, q => exact q.elim
  | _ :: _ :: _ :: _, _, q => exact q.elim
theorem par3_imp {i j l : Nat} {D : Ends} {σ : L2.St} {H : Hp} (h : tS G W (fPar3 i j l fs) D σ H) : tPar3 i j l (tA G W fs) D σ H := by
  refine goA (g := fun env ts st1 => match ts with
    | [t, u, w] => if i < env.length ∧ j < env.length ∧ l < env.length then .nx (((env.set i (some t)).set j (some u)).set l (some w)) st1 else .bad
    | _ => .bad) h fun m env st ts vs H1 rs r q => ?_
  match ts, r, q with
  | [t, u, w], r, q =>
    obtain ⟨v1, x, rfl, h1, r⟩ := r
    obtain ⟨v2, v3, rfl, h2, h3⟩ := two_of r
    have q : Out G W D m H1 (if i < env.length ∧ j < env.length ∧ l < env.length then .nx (((env.set i (some t)).set j (some u)).set l (some w)) st else .bad) := q
    by_cases c : i < env.length ∧ j < env.length ∧ l < env.length
    · rw [if_pos c] at q
      exact ⟨v1, v2, v3, rfl, q _ H1 m (((rs.set c.1 h1).set (by rw [List.length_set]; exact c.2.1) h2).set (by rw [List.length_set, List.length_set]; exact c.2.2) h3) (Stp.refl m H1)⟩
    · rw [if_neg c] at q; exact q.elim
  | [], _, q => exact q.elim
  | [_], _, q => exact q.elim
  | [_, _], _, q => exact q.elim
  | _ :: _ :: _ :: _ :: _, _, q => exact q.elim
end
end Eg
set_option Elab.async false
set_option linter.all false
set_option maxRecDepth 100000
set_option maxHeartbeats 2000000
/-! The engine, part twelve: loops. -/
namespace Eg
open PySem PySem.Spec PyProof.Rows L2
/-- over trees, turn by turn -/
def walkO (g : IG) (f : Fs) : List T → Env → Sto → O
  | [], env, st => .nx env st
  | x :: xs, env, st => match g.set x env with
    | none => .bad
    | some env1 => match f env1 st with
      | .nx env2 st2 => walkO g f xs env2 st2
      | .ct env2 st2 => walkO g f xs env2 st2
      | .bk env2 st2 => .nx env2 st2
      | o => o
def fFor (fit : Env → Sto → R (List T)) (g : IG) (f : Fs) : Fs := fun env st => (fit env st).go env fun xs st1 => walkO g f xs env st1
section
variable {X : Cx} {G : Gh} {W : WX} {f : Fs} {fa fb : Env → Sto → R T} {fit : Env → Sto → R (List T)} {e tg iter : Expr} {body : List Stmt} {pos : Pos}
theorem for_imp {g : IG} {D : Ends} {σ : L2.St} {H : Hp} (h : tS G W (fFor fit g f) D σ H) : tFor (tI G W fit) (tG G g) (tS G W f) D σ H := by
  obtain ⟨m0, env0, st0, rs0, h⟩ := h
  refine ⟨m0, env0, st0, rs0, (Out.go h).imp fun xs st1 _ H1 m1 rs1 _ _ q J hJ => ?_⟩
  let Pv : Nat → L2.St → Hp → Prop := fun i σ Hx => ∃ m' env st', Mov m1 H1 m' Hx ∧ RS G m' env st' σ Hx ∧ Out G W D m' Hx (walkO g f (xs.drop i) env st')
  refine ⟨fun i n σ Hx => i ≤ xs.length ∧ n = xs.length - i ∧ Pv i σ Hx, ⟨xs.length, Nat.zero_le _, rfl, m1, env0, st1, (Stp.refl m1 H1).toMov, rs1, q⟩, ?_⟩
  rintro i n σ2 Hx ⟨hi, hn, m', env, st', x, rs, q⟩
  by_cases he : i = xs.length
  · refine .inl ⟨by rw [he]; exact hJ.stop m' Hx x.F, ?_⟩
    rw [he, List.drop_length] at q
    exact q σ2 Hx m' rs (Stp.refl m' Hx)
  · have hlt : i < xs.length := by omega
    refine .inr ⟨hJ.go m' Hx x.F i hlt, Pv (i + 1), fun σ' H' p => ⟨xs.length - (i + 1), by omega, by omega, rfl, p⟩, fun y H'' hy => ?_⟩
    obtain ⟨hH, t, ht, hr⟩ := hJ.yld m' Hx st' x.F rs.sto i y H'' hlt hy
    have S2 : Stp m' Hx m' H'' := by
      rcases hH with rfl | ⟨p, o, hp, rfl⟩
      · exact Stp.refl _ _
      · exact Stp.fresh hp
    have rs2 : RS G m' env st' σ2 H'' := by
      rcases hH with rfl | ⟨p, o, hp, rfl⟩
      · exact rs
      · exact rs.fresh hp
    have hdr : xs.drop i = t :: xs.drop (i + 1) := by
      obtain ⟨h1, h2⟩ := List.getElem?_eq_some_iff.mp ht
      rw [List.drop_eq_getElem_cons h1, h2]
    rw [hdr] at q
    unfold walkO at q
    cases eg : g.set t env with
    | none => rw [eg] at q; exact q.elim
    | some env1 =>
      rw [eg] at q
      refine ⟨m', env, st', t, env1, rs2, hr, eg, fun σ3 rs3 _ _ => ⟨m', env1, st', rs3, ?_⟩⟩
      have q : Out G W D m' Hx (match f env1 st' with
        | .nx env2 st2 => walkO g f (xs.drop (i + 1)) env2 st2
        | .ct env2 st2 => walkO g f (xs.drop (i + 1)) env2 st2
        | .bk env2 st2 => .nx env2 st2
        | o => o) := q
      have go : ∀ {env2 : Env} {st2 : Sto}, Out G W D m' Hx (walkO g f (xs.drop (i + 1)) env2 st2) → ∀ σ' H' m2, RS G m2 env2 st2 σ' H' → Stp m' H'' m2 H' → Pv (i + 1) σ' H' := fun {env2 st2} q σ' H' m2 rs' S =>
        ⟨m2, env2, st2, x.trans (S2.trans S).toMov, rs', Out.base (S2.trans S) q⟩
      cases ef : f env1 st' with
      | nx env2 st2 => rw [ef] at q; exact go q
      | ct env2 st2 => rw [ef] at q; exact go q
      | bk env2 st2 => rw [ef] at q; exact fun σ' H' m2 rs' S => q σ' H' m2 rs' (S2.trans S)
      | rt t2 st2 => rw [ef] at q; exact fun v H' m2 rs' S => q v H' m2 rs' (S2.trans S)
      | exc e2 env2 st2 => rw [ef] at q; exact fun cls d σ' H' m2 rs' S => q cls d σ' H' m2 rs' (S2.trans S)
      | bad => rw [ef] at q; exact q.elim
theorem S_for {g : IG} (hp : PassesOwn (model X.prog X.w) X.A X.env X.xe) (hc : X.calm = true) (hi : PI X tg iter (tI G W fit)) (hg : PG X tg (tG G g)) (hb : PSs X body (tS G W f)) (hs : ∀ x, foldedSetIterable iter X.env x = pure x) :
    PS X (.For tg iter body [] pos) (tS G W (fFor fit g f)) := PS.imp (ps_for hp hc hi hg hb hs) fun D σ H h => for_imp h
/-! ### while -/
def whO (fc : Env → Sto → R T) (f : Fs) : Nat → Env → Sto → O
  | 0, _, _ => .bad
  | n + 1, env, st => (fc env st).go env fun t st1 => match t with
    | .bl true => match f env st1 with
      | .nx env2 st2 => whO fc f n env2 st2
      | .ct env2 st2 => whO fc f n env2 st2
      | .bk env2 st2 => .nx env2 st2
      | o => o
    | .bl false => .nx env st1
    | _ => .bad
open Classical in
noncomputable def fWh (fc : Env → Sto → R T) (f : Fs) : Fs := fun env st => if h : ∃ n, whO fc f n env st ≠ .bad then whO fc f h.choose env st else .bad
theorem whO_more {fc : Env → Sto → R T} {f : Fs} : ∀ (n k : Nat) (env : Env) (st : Sto), whO fc f n env st ≠ .bad → whO fc f (n + k) env st = whO fc f n env st
  | 0, _, _, _, h => (h rfl).elim
  | n + 1, k, env, st, h => by
    rw [show n + 1 + k = (n + k) + 1 by omega]
    unfold whO at h ⊢
    cases ec : fc env st with
    | exc e s => rfl
    | bad => rfl
    | ok t st1 =>
      rw [ec] at h
      cases t with
      | bl b =>
        cases b with
        | false => rfl
        | true =>
          have h : (match f env st1 with
            | .nx env2 st2 => whO fc f n env2 st2
            | .ct env2 st2 => whO fc f n env2 st2
            | .bk env2 st2 => .nx env2 st2
            | o => o) ≠ .bad := h
          show (match f env st1 with
            | .nx env2 st2 => whO fc f (n + k) env2 st2
            | .ct env2 st2 => whO fc f (n + k) env2 st2
            | .bk env2 st2 => .nx env2 st2
            | o => o) = (match f env st1 with
            | .nx env2 st2 => whO fc f n env2 st2
            | .ct env2 st2 => whO fc f n env2 st2
            | .bk env2 st2 => .nx env2 st2
            | o => o)
          cases ef : f env st1 with
          | nx env2 st2 => rw [ef] at h; exact whO_more n k env2 st2 h
          | ct env2 st2 => rw [ef] at h; exact whO_more n k env2 st2 h
          | _ => rfl
      | _ => rfl
theorem fWh_of {fc : Env → Sto → R T} {f : Fs} {n : Nat} {env : Env} {st : Sto} (h : whO fc f n env st ≠ .bad) : fWh fc f env st = whO fc f n env st := by
  have hx : ∃ n, whO fc f n env st ≠ .bad := ⟨n, h⟩
  unfold fWh
  rw [dif_pos hx]
  have h1 := whO_more hx.choose n env st hx.choose_spec
  have h2 := whO_more n hx.choose env st h
  rw [← h1, ← h2, Nat.add_comm]
theorem wh_imp {fc : Env → Sto → R T} {D : Ends} {σ : L2.St} {H : Hp} (h : tS G W (fWh fc f) D σ H) : tWhile (tTest (tE G W fc)) (tS G W f) D σ H := by
  obtain ⟨m0, env0, st0, rs0, h⟩ := h
  refine ⟨fun n σ Hx => ∃ m' env st', RS G m' env st' σ Hx ∧ Out G W D m' Hx (whO fc f n env st'), ?_, ?_⟩
  · unfold fWh at h
    by_cases hx : ∃ n, whO fc f n env0 st0 ≠ .bad
    · rw [dif_pos hx] at h
      exact ⟨hx.choose, m0, env0, st0, rs0, h⟩
    · rw [dif_neg hx] at h; exact h.elim
  · rintro n σ2 Hx ⟨m', env, st', rs, q⟩
    cases n with
    | zero => exact q.elim
    | succ n =>
      unfold whO at q
      show tE G W fc σ2 Hx fun v H1 => ∃ k, v = .bl k ∧ (if k = true then _ else D.nx σ2 H1)
      refine ⟨m', env, st', rs, (Out.go q).imp fun t st1 v H1 m1 rs1 S1 r q => ?_⟩
      cases t with
      | bl k =>
        refine ⟨k, r, ?_⟩
        cases k with
        | false => rw [if_neg (by decide)]; exact q σ2 H1 m1 rs1 (Stp.refl m1 H1)
        | true =>
          rw [if_pos rfl]
          refine ⟨fun σ Hx => ∃ m' env st', RS G m' env st' σ Hx ∧ Out G W D m' Hx (whO fc f n env st'), fun σ' H' p => ⟨n, Nat.lt_succ_self n, p⟩, m1, env, st1, rs1, ?_⟩
          have q : Out G W D m1 H1 (match f env st1 with
            | .nx env2 st2 => whO fc f n env2 st2
            | .ct env2 st2 => whO fc f n env2 st2
            | .bk env2 st2 => .nx env2 st2
            | o => o) := q
          cases ef : f env st1 with
          | nx env2 st2 => rw [ef] at q; exact fun σ' H' m2 rs' S => ⟨m2, env2, st2, rs', Out.base S q⟩
          | ct env2 st2 => rw [ef] at q; exact fun σ' H' m2 rs' S => ⟨m2, env2, st2, rs', Out.base S q⟩
          | bk env2 st2 => rw [ef] at q; exact q
          | rt t2 st2 => rw [ef] at q; exact q
          | exc e2 env2 st2 => rw [ef] at q; exact q
          | bad => rw [ef] at q; exact q.elim
      | _ => exact q.elim
theorem S_while {c : Expr} (hp : PassesOwn (model X.prog X.w) X.A X.env X.xe) (hc : PT X c (tTest (tE G W fa))) (hb : PSs X body (tS G W f)) : PS X (.While c body [] pos) (tS G W (fWh fa f)) := PS.imp (ps_while hp hc hb) fun D σ H h => wh_imp h
end
/-! ### lists that grow -/
section
variable {X : Cx} {G : Gh} {W : WX} {fa fb fc : Env → Sto → R T} {fl : Env → Sto → R (List T)} {a b e : Expr} {pos apos : Pos}
/-- a new list in the store -/
def fNew (fl : Env → Sto → R (List T)) : Env → Sto → R T := fun env st => (fl env st).bnd fun xs st1 => .ok (.loc st1.length) (st1 ++ [.lst xs])
theorem RSto.push {m : Mm} {H : Hp} {st : Sto} {p : Addr} {vs : List V} {ts : List T} (s : RSto G m H st) (hp : H p = none) (r : Rps G m H ts vs) :
    RSto G ⟨m.as ++ [p], m.fo⟩ (L2.upd H p (.lst vs)) (st ++ [.lst ts]) ∧ Stp m H ⟨m.as ++ [p], m.fo⟩ (L2.upd H p (.lst vs)) := by
  have hpa : p ∉ m.as := fun z => s.mem z hp
  have S : Stp m H ⟨m.as ++ [p], m.fo⟩ (L2.upd H p (.lst vs)) := ⟨⟨fun b o h hn => by rw [upd_ne (ne_of_none h hp)]; exact h, fun b h => by
    rcases List.mem_append.mp h with h | h
    · exact .inl h
    · rw [List.mem_singleton.mp h]; exact .inr hp, fun _ h => .inl (.inr h), ⟨[p], rfl⟩⟩, rfl⟩
  refine ⟨⟨?_, fun a h => ?_, by simp [s.len], fun i b c h1 h2 => ?_, fun b h => ?_⟩, S⟩
  · rw [List.nodup_append]
    exact ⟨s.nd, by simp, fun a ha b hb => by rw [List.mem_singleton.mp hb]; exact fun z => hpa (z ▸ ha)⟩
  · rcases List.mem_append.mp h with h | h
    · exact s.fd a h
    · rw [List.mem_singleton.mp h]; exact fun z => s.foS p z hp
  · by_cases hi : i < st.length
    · rw [List.getElem?_append_left (by rw [s.len]; exact hi)] at h1
      rw [List.getElem?_append_left hi] at h2
      exact RCell.mov S.toMov (upd_ne fun z => hpa (z ▸ List.mem_of_getElem? h1)) (s.cell i b c h1 h2)
    · have hi2 : i = st.length := by
        have := (List.getElem?_eq_some_iff.mp h2).1
        simp at this
        omega
      subst hi2
      rw [List.getElem?_append_right (Nat.le_refl _)] at h2
      rw [List.getElem?_append_right (by rw [s.len]; exact Nat.le_refl _)] at h1
      have e1 : p = b := by simpa [s.len] using h1
      have e2 : Cell.lst ts = c := by simpa using h2
      subst e1 e2
      exact ⟨vs, upd_same, Rps.mov S.toMov _ _ r⟩
  · have hne : b ≠ p := fun z => s.foS b h (by rw [z]; exact hp)
    rw [upd_ne hne]
    exact s.foS b h
theorem s_new (h : PE X e (tL G W fl)) : PE X e (tE G W (fNew fl)) := by
  refine PE.imp h fun σ H Q ⟨m, env, st, rs, h⟩ => ⟨m, env, st, rs, (Rn.bnd h).imp fun xs st' vs H' m' rs' _ r q p hp => ?_⟩
  obtain ⟨s2, S2⟩ := rs'.sto.push hp r
  exact Rn.next (K := Kq Q) q ⟨rs'.env.mov S2.toMov, s2⟩ S2 ⟨p, rfl, by show (m'.as ++ [p])[st'.length]? = some p; rw [← rs'.sto.len]; simp⟩
/-- x.append(e) -/
def fApp (fa fb : Env → Sto → R T) : Env → Sto → R T := fun env st => (fa env st).bnd fun x st1 => (fb env st1).bnd fun y st2 => match lstAt st2 x with
  | some (l, xs) => if xs.length < lim then .ok .non (st2.set l (.lst (xs ++ [y]))) else .bad
  | none => .bad
theorem loc_lst {m : Mm} {H : Hp} {st : Sto} {t : T} {v : V} {l : Nat} {xs : List T} (s : RSto G m H st) (r : Rp G m H t v) (e : lstAt st t = some (l, xs)) (K : PySem.W.Frag) : tyV K "list" v H := by
  obtain ⟨a, vs, rfl, _, hH, _⟩ := lstAt_ok s r e
  exact .inl ⟨rfl, vs, .inl (.inl hH)⟩
theorem lstAt_loc {st : Sto} {t : T} {l : Nat} {xs : List T} (e : lstAt st t = some (l, xs)) : t = .loc l ∧ st[l]? = some (.lst xs) := by
  cases t with
  | loc k =>
    have e : (match st[k]? with
      | some (.lst xs) => some (k, xs)
      | _ => none) = some (l, xs) := e
    cases e2 : st[k]? with
    | none => rw [e2] at e; cases e
    | some c => cases c with
      | ins c ys => rw [e2] at e; cases e
      | lst ys => rw [e2] at e; cases e; exact ⟨rfl, e2⟩
  | _ => cases e
end
end Eg
set_option Elab.async false
set_option linter.all false
set_option maxRecDepth 100000
set_option maxHeartbeats 2000000
/-! The engine, part thirteen: methods of lists, texts of values. -/
namespace Eg
open PySem PySem.Spec PyProof.Rows L2
/-- methods that change a list -/
inductive Mu where
  | append | insert | pop | extend
  deriving DecidableEq
def muName : Mu → Str
  | .append => "append" | .insert => "insert" | .pop => "pop" | .extend => "extend"
/-- what they give, and the list behind -/
def muT : Mu → List T → List T → Option (T × List T)
  | .append, xs, [y] => if xs.length < lim then some (.non, xs ++ [y]) else none
  | .insert, xs, [.int i, y] => if xs.length < lim ∧ 0 ≤ i ∧ i < 2 ^ 63 then some (.non, xs.take i.toNat ++ [y] ++ xs.drop i.toNat) else none
  | .pop, xs, [] => match xs[xs.length - 1]? with
    | some y => some (y, xs.dropLast)
    | none => none
  | .extend, xs, [.lst ys] => if xs.length + ys.length ≤ lim then some (.non, xs ++ ys) else none
  | _, _, _ => none
def fMu (o : Mu) (fa : Env → Sto → R T) (fs : Env → Sto → R (List T)) : Env → Sto → R T := fun env st => (fa env st).bnd fun x st1 => if (lstAt st1 x).isSome then (fs env st1).bnd fun ys st2 => match lstAt st2 x with
  | some (l, xs) => match muT o xs ys with
    | some (r, xs') => .ok r (st2.set l (.lst xs'))
    | none => .bad
  | none => .bad else .bad
section
variable {X : Cx} {G : Gh} {W : WX} {fa fb fc : Env → Sto → R T} {fs : Env → Sto → R (List T)} {a b e : Expr} {es : List Expr} {pos apos p : Pos} {m : Mm} {H : Hp} {σ : L2.St} {env : Env} {st : Sto} {Q : VK}
def rInsE : V → List V → Hp → VK → Prop := fun x vs H Q => ∃ (l : Addr) (xs : List V) (i : Int) (y : V), x = .ref l ∧ vs = [.int i, y] ∧ H l = some (.lst xs) ∧ xs.length < sizeLine ∧ 0 ≤ i ∧ i < 2 ^ 63 ∧
    Q .non (upd H l (.lst (xs.take i.toNat ++ [y] ++ xs.drop i.toNat)))
def rMu : Mu → V → List V → Hp → VK → Prop
  | .append => rAppend | .insert => rInsE | .pop => rPop | .extend => rExtend
theorem Rps.last {ts : List T} {vs : List V} (h : Rps G m H ts vs) : Rps G m H ts.dropLast vs.dropLast := by
  rw [List.dropLast_eq_take, List.dropLast_eq_take, h.length]
  exact h.take _
theorem mu_ok {o : Mu} {ts us : List T} {vs : List V} {v : V} {x : T} {l : Nat} {r : T} {ts' : List T} (rs : RS G m env st σ H) (r1 : Rp G m H x v) (r2 : Rps G m H us vs) (e1 : lstAt st x = some (l, ts)) (e2 : muT o ts us = some (r, ts'))
    (q : Rn G W σ env (Rp G) m H (.ok r (st.set l (.lst ts'))) (Kq Q)) : rMu o v vs H Q := by
  obtain ⟨p, xs, rfl, hp, hH, rq⟩ := lstAt_ok rs.sto r1 e1
  have fin : ∀ {xs' : List V} {w : V}, Rps G m H ts' xs' → Rp G m H r w → Q w (upd H p (.lst xs')) := fun {xs' w} h1 h2 => by
    obtain ⟨s3, S3⟩ := rs.sto.setc hp h1
    exact Rn.next (K := Kq Q) q ⟨rs.env.mov S3.toMov, s3⟩ S3 (Rp.mov S3.toMov _ _ h2)
  unfold muT at e2
  split at e2
  · rename_i y
    split at e2
    · rename_i hl
      cases e2
      obtain ⟨w, rfl, hw⟩ := one_of (ts := []) r2
      exact ⟨p, xs, w, rfl, rfl, hH, by rw [← rq.length, ← lim_eq]; exact hl, fin (rq.append ⟨w, [], rfl, hw, rfl⟩) rfl⟩
    · cases e2
  · rename_i i y
    split at e2
    · rename_i hl
      cases e2
      obtain ⟨w1, w, rfl, h1, hw⟩ := two_of r2
      cases (show w1 = _ from h1)
      exact ⟨p, xs, i, w, rfl, rfl, hH, by rw [← rq.length, ← lim_eq]; exact hl.1, hl.2.1, hl.2.2, fin (((rq.take _).append (ts := _) (us := [y]) (ws := [w]) ⟨w, [], rfl, hw, rfl⟩).append (rq.drop _)) rfl⟩
    · cases e2
  · split at e2
    · rename_i y hy
      cases e2
      cases (show vs = [] from r2)
      obtain ⟨w, hw1, hw2⟩ := rq.get hy
      rw [rq.length] at hw1
      exact ⟨p, xs, w, rfl, rfl, hH, hw1, fin rq.last hw2⟩
    · cases e2
  · rename_i ys
    split at e2
    · rename_i hl
      cases e2
      obtain ⟨w, rfl, hw⟩ := one_of (ts := []) r2
      obtain ⟨p2, zs, rfl, hz, rz⟩ := hw
      exact ⟨p, p2, xs, zs, rfl, rfl, hH, hz.2, by rw [← rq.length, ← rz.length, ← lim_eq]; exact hl, fin (rq.append rz) rfl⟩
    · cases e2
  · cases e2
theorem mu_imp {o : Mu} (h : tE G W (fMu o fa fs) σ H Q) : tE G W fa σ H fun x H1 => tyV X.K "list" x H1 ∧ tA G W fs σ H1 fun xs H2 => rMu o x xs H2 Q := by
  obtain ⟨m, env, st, rs, h⟩ := h
  refine ⟨m, env, st, rs, (Rn.bnd h).imp fun x st1 v H1 m1 rs1 S1 r1 q => ?_⟩
  cases e1 : lstAt st1 x with
  | none => rw [e1] at q; exact q.elim
  | some pp =>
    rw [e1] at q
    have q := (if_pos (c := (some pp).isSome = true) rfl) ▸ q
    refine ⟨loc_lst (l := pp.1) (xs := pp.2) rs1.sto r1 e1 _, m1, env, st1, rs1, (Rn.bnd q).imp fun us st2 vs H2 m2 rs2 S2 r2 q => ?_⟩
    cases e2 : lstAt st2 x with
    | none => rw [e2] at q; exact q.elim
    | some pq =>
      obtain ⟨l, xs⟩ := pq
      rw [e2] at q
      simp only at q
      cases e3 : muT o xs us with
      | none => rw [e3] at q; exact q.elim
      | some rr =>
        obtain ⟨r, xs'⟩ := rr
        rw [e3] at q
        exact mu_ok rs2 (Rp.mov S2.toMov _ _ r1) r2 e2 e3 q
def Few (X : Cx) (es : List Expr) (cpos : Pos) : Prop := ((backTo cpos (starEach es X.env)).all (fun x => !x.1) && (backToKw cpos (keywordEach [] X.env)).all (fun x => x.1.isSome)
      && decide (es.length + ([] : List Keyword).length + (if ([] : List Keyword).isEmpty then 0 else 1) < 30)) = true
theorem s_mu {o : Mu} (ha : PE X a (tE G W fa)) (hes : PA X (e :: es) (tA G W fs)) (hne : o ≠ .pop) (hbase : attributeBase a (muName o) X.env (eval a X.env) = eval a X.env) (hfew : Few X (e :: es) pos)
    (hline : (apos.endLine == pos.line) = true) (he : starEach (e :: es) X.env = (false, eval e X.env) :: starEach es X.env) (hpl : (starEach es X.env).all (fun x => !x.1) = true) :
    PE X (.Call (.Attribute a (muName o) apos) (e :: es) [] pos) (tE G W (fMu o fa fs)) := by
  have hp := pl_of (e := e) (pos := pos) hpl
  cases o with
  | append => exact PE.imp (pe_bm (r := rAppend) PySem.F.plainAttrs_list PySem.F.slot_list_append PySem.F.type_list_append mt_append ha hes hbase hfew hline he hp) fun σ H Q h => mu_imp h
  | insert => exact PE.imp (pe_bm (r := rInsE) PySem.F.plainAttrs_list PySem.F.slot_list_insert PySem.F.type_list_insert mt_insert ha hes hbase hfew hline he hp) fun σ H Q h => mu_imp h
  | extend => exact PE.imp (pe_bm (r := rExtend) PySem.F.plainAttrs_list PySem.F.slot_list_extend PySem.F.type_list_extend mt_extend ha hes hbase hfew hline he hp) fun σ H Q h => mu_imp h
  | pop => exact absurd rfl hne
theorem s_pop (ha : PE X a (tE G W fa)) (hbase : attributeBase a "pop" X.env (eval a X.env) = eval a X.env) (hline : (apos.endLine == pos.line) = true) :
    PE X (.Call (.Attribute a "pop" apos) [] [] pos) (tE G W (fMu .pop fa fun _ st => .ok [] st)) := by
  refine PE.imp (pe_bm0 (r := rPop) PySem.F.plainAttrs_list PySem.F.slot_list_pop PySem.F.type_list_pop mt_pop ha hbase hline) fun σ H Q h => ?_
  obtain ⟨m, env, st, rs, h⟩ := mu_imp (X := X) h
  refine ⟨m, env, st, rs, h.imp fun x st' v H1 m' rs' _ _ ⟨q1, m2, env2, st2, rs2, q2⟩ => ⟨q1, Rn.here q2 rs2 rfl⟩⟩
/-! ### texts -/
def okShow (t : T) : Bool := data t && (toD t).showable && decide (dep t ≤ 60) && decide ((toD t).shown.length ≤ lim)
/-- repr(x) -/
def reprT (st : Sto) (t : T) : Option T := if okShow (frozen st t) then some (.str (toD (frozen st t)).shown) else none
def fRepr (fa : Env → Sto → R T) : Env → Sto → R T := fun env st => (fa env st).bnd fun x st1 => R.opt (reprT st1 x) st1
def rRepr (K : PySem.W.Frag) : List V → Hp → VK → Prop := fun xs H Q => ∃ v d, xs = [v] ∧ Dp K H v d ∧ d.showable = true ∧ d.canLay0 = true ∧ d.depth ≤ 60 ∧ d.shown.length ≤ sizeLine ∧ Q (.str d.shown) H
theorem call_repr (hg : X.A.guards = some []) (hu : X.A.units + 65 < cLine) : CallR X (.builtin "repr") (rRepr X.K) := by
  intro pins s σ H xs us Q I r h
  obtain ⟨v, d, rfl, hd, hs, hl, hdep, hsz, q⟩ := h
  obtain ⟨u, rfl, ru⟩ := vals1 r
  obtain ⟨as, rd⟩ := Dp.reads I d v u hd ru
  cases rd with
  | none => exact PySem.P.repr_of_none ⟨.str _, H, I.tok _, ⟨_, rfl⟩, q⟩
  | bool b => exact PySem.P.repr_of_bool ⟨.str _, H, I.tok _, ⟨_, rfl⟩, q⟩
  | int i t => exact PySem.P.repr_of_int (by simpa [PyData.showable] using hs) ⟨.str _, H, I.tok _, ⟨_, rfl⟩, q⟩
  | str x t => exact PySem.P.repr_of_str ⟨.str _, H, I.tok _, ⟨_, rfl⟩, q⟩ hsz
  | list h1 h2 h3 h4 =>
    exact repr_of_reads' (.list h1 h2 h3 h4) hs (PyData.noDict_hsm (PyData.hasDict_of_canLay _ hl)) hg (by omega) (fun _ _ z => z) (fun h' u tk hk => ⟨.str _, H, I.kept hk, ⟨_, rfl⟩, q⟩) hsz
  | tuple h1 h2 h3 h4 =>
    exact repr_of_reads' (.tuple h1 h2 h3 h4) hs (PyData.noDict_hsm (PyData.hasDict_of_canLay _ hl)) hg (by omega) (fun _ _ z => z) (fun h' u tk hk => ⟨.str _, H, I.kept hk, ⟨_, rfl⟩, q⟩) hsz
  | dict h1 h2 h3 h4 h5 => simp [PyData.canLay0] at hl
theorem s_repr (hK : X.K = G.K) (hG : X.A.guards = some []) (hu : X.A.units + 65 < cLine) (hg : Gl X "repr") (hm : X.mg "repr" = none) (ha : PE X a (tE G W fa)) (hs : starEach [a] X.env = [(false, eval a X.env)]) :
    PE X (.Call (.Name "repr" p) [a] [] pos) (tE G W (fRepr fa)) := by
  refine PE.imp (pe_callB (call_repr hG hu) hg hm (by decide +kernel) (pa_cons ha pa_nil hs) (by decide) (by decide) (by rw [hs]; rfl) rfl) fun σ H Q h => ?_
  rw [hK]
  show tE G W fa σ H fun v H1 => rRepr G.K [v] H1 Q
  refine at1 h fun m env st t v H1 rs r q => ?_
  cases e : reprT st t with
  | none => rw [e] at q; exact q.elim
  | some w =>
    rw [e] at q
    unfold reprT at e
    split at e
    · rename_i hk
      cases e
      unfold okShow at hk
      simp only [Bool.and_eq_true, decide_eq_true_eq] at hk
      obtain ⟨⟨⟨h1, h2⟩, h3⟩, h4⟩ := hk
      exact ⟨v, _, rfl, froz_dp rs.sto h1 r, h2, canLay_toD _ h1, by rw [depth_toD]; exact h3, lim_eq ▸ h4, Rn.give q rs rfl⟩
    · cases e
/-- str(x) of an int or a text -/
def strT : T → Option T
  | .int i => if i.natAbs.log2 < 1920 then some (.str (toString i)) else none
  | .str x => some (.str x)
  | _ => none
def fStr (fa : Env → Sto → R T) : Env → Sto → R T := fun env st => (fa env st).bnd fun x st1 => R.opt (strT x) st1
theorem s_str (hg : Gl X "str") (hm : X.mg "str" = none) (ha : PE X a (tE G W fa)) (hs : starEach [a] X.env = [(false, eval a X.env)]) :
    PE X (.Call (.Name "str" p) [a] [] pos) (tE G W (fStr fa)) := by
  refine PE.imp (pe_callTy (CallR.or call_str_int SkE.call_str_str) hg hm (by decide +kernel) (pa_cons ha pa_nil hs) (by decide) (by decide) (by rw [hs]; rfl) rfl) fun σ H Q h => ?_
  show tE G W fa σ H fun v H1 => (∃ i, [v] = [V.int i] ∧ i.natAbs.log2 < 1920 ∧ Q (.str (toString i)) H1) ∨ (∃ a, [v] = [V.str a] ∧ Q (.str a) H1)
  refine at1 h fun m env st t v H1 rs r q => ?_
  cases t with
  | int i =>
    cases (show v = _ from r)
    obtain ⟨c, q⟩ := if_some q
    exact .inl ⟨i, rfl, c, Rn.give (b := .str (toString i)) q rs rfl⟩
  | str x =>
    cases (show v = _ from r)
    exact .inr ⟨x, rfl, Rn.give (b := .str x) q rs rfl⟩
  | _ => exact q.elim
end
end Eg
set_option Elab.async false
set_option linter.all false
set_option maxRecDepth 100000
set_option maxHeartbeats 2000000
/-! The engine, part fourteen: instances. -/
namespace Eg
open PySem PySem.Spec PyProof.Rows L2
/-- a field's place -/
def fldIx : List Str → Str → Option Nat
  | [], _ => none
  | g :: gs, f => if g = f then some 0 else (fldIx gs f).map (· + 1)
def insOf (st : Sto) : T → Option (Nat × List T)
  | .obj c vs => some (c, vs)
  | .loc l => match st[l]? with
    | some (.ins c vs) => some (c, vs)
    | _ => none
  | _ => none
/-- what a class must have -/
structure ClsOk (P : Program) (w : World) (K : PySem.W.Frag) (mg : Str → Option Value) (base : Heap) (lv : Nat) (G : Gh) (c : Nat) (ci : Ci) : Prop where
  fl : G.fl c = ci.fl
  cls : Cls K (G.cl c)
  ha : PySem.W.findIn K (.ref (G.cl c)) "__class__" = some (some (.builtin "object.__class__"))
  hn : PySem.W.specialIn K (.builtin "object.__class__") "__get__" = some (some (.builtin "getset_descriptor.__get__"))
  htk : PySem.W.takesIn K (.builtin "object.__class__") = some true
  hm : PySem.W.mroIn K (G.cl c) (.type "object") = some true
  na : ∀ f, f ∈ ci.fl → NoAttr K (G.cl c) f
  nd : ci.fl.Nodup
  few : ci.fl.length < 1000
  props : ∀ (f : Str) F, ci.props.lookup f = some F → ∃ p g, PropOf K (G.cl c) f p g ∧ Cal P w K mg base lv G [] F g
  meths : ∀ (f : Str) fn, ci.meths.lookup f = some fn → f ∉ ci.fl ∧ ∃ g, Meth K (G.cl c) f g ∧ Cal P w K mg base lv G fn.ks fn.F g
section
variable {G : Gh} {m : Mm} {H : Hp} {st : Sto}
theorem ins_at {t : T} {v : V} {c : Nat} {vs : List T} (s : RSto G m H st) (r : Rp G m H t v) (e : insOf st t = some (c, vs)) : ∃ a dx fv, v = .ref a ∧ H a = some (.ins (G.cl c) dx fv) ∧ fv.map (·.1) = (G.fl c).take vs.length ∧ Rps G m H vs (fv.map (·.2)) := by
  cases t with
  | obj c2 ws =>
    cases (show some (c2, ws) = some (c, vs) from e)
    obtain ⟨a, dx, fv, e1, _, h, hf, q⟩ := r
    refine ⟨a, dx, fv, e1, h, ?_, q⟩
    have hl : vs.length = (G.fl c).length := by
      have := congrArg List.length hf
      rw [List.length_map] at this
      rw [q.length, List.length_map]
      exact this
    rw [hf, hl, List.take_length]
  | loc l =>
    obtain ⟨a, e1, h⟩ := r
    have e : (match st[l]? with
      | some (.ins c vs) => some (c, vs)
      | _ => none) = some (c, vs) := e
    cases e2 : st[l]? with
    | none => rw [e2] at e; cases e
    | some cc =>
      cases cc with
      | lst xs => rw [e2] at e; cases e
      | ins c2 ws =>
        rw [e2] at e
        cases e
        obtain ⟨dx, fv, h1, h2, _, q⟩ := s.cell l a _ h e2
        exact ⟨a, dx, fv, e1, h1, h2, q⟩
  | _ => cases e
theorem fld_look : ∀ {fl : List Str} {fv : List (Str × V)} {n i : Nat} {f : Str} {v : V}, fv.map (·.1) = fl.take n → fldIx fl f = some i → (fv.map (·.2))[i]? = some v → fv.lookup f = some v
  | [], fv, n, i, f, v, _, e, _ => by cases e
  | g :: gs, [], n, i, f, v, _, _, h => by simp at h
  | g :: gs, (k, w) :: fv, 0, i, f, v, h, _, _ => by simp at h
  | g :: gs, (k, w) :: fv, n + 1, i, f, v, h, e, hv => by
    simp only [List.map_cons, List.take_succ_cons, List.cons.injEq] at h
    obtain ⟨rfl, h⟩ := h
    have e : (if k = f then some 0 else (fldIx gs f).map (· + 1)) = some i := e
    by_cases hk : k = f
    · rw [if_pos hk] at e
      cases e
      have : w = v := by simpa using hv
      subst this hk
      simp
    · rw [if_neg hk] at e
      cases e2 : fldIx gs f with
      | none => rw [e2] at e; cases e
      | some j =>
        rw [e2] at e
        cases e
        rw [List.lookup_cons, show (f == k) = false from beq_eq_false_iff_ne.mpr (Ne.symm hk)]
        exact fld_look (fl := gs) (n := n) h e2 (by simpa using hv)
theorem fldIx_mem : ∀ {fl : List Str} {i : Nat} {f : Str}, fldIx fl f = some i → f ∈ fl
  | [], _, _, e => by cases e
  | g :: gs, i, f, e => by
    have e : (if g = f then some 0 else (fldIx gs f).map (· + 1)) = some i := e
    by_cases hk : g = f
    · subst hk; exact List.mem_cons_self
    · rw [if_neg hk] at e
      cases e2 : fldIx gs f with
      | none => rw [e2] at e; cases e
      | some j => exact List.mem_cons_of_mem _ (fldIx_mem e2)
end
section
variable {X : Cx} {G : Gh} {W : WX} {lv : Nat} {cs : List Ci} {fa fb : Env → Sto → R T} {fs : Env → Sto → R (List T)} {a b e : Expr} {es : List Expr} {f : Str} {pos apos p : Pos}
def fAttr (cs : List Ci) (f : Str) (fa : Env → Sto → R T) : Env → Sto → R T := fun env st => (fa env st).bnd fun x st1 => match insOf st1 x with
  | some (c, vs) => match cs[c]? with
    | some ci => match fldIx ci.fl f with
      | some i => R.opt vs[i]? st1
      | none => match ci.props.lookup f with
        | some F => (F [x] st1).nox
        | none => .bad
    | none => .bad
  | none => .bad
theorem own_prop {pins : List (Addr × Obj)} {σ : L2.St} {H : Hp} {s : Shared} {Q : VK} {b : Bool} {E' : Value → Shared → Prop} {C x dx pa g : Addr} {fv : List (Str × V)} {F : List T → Sto → R T} (I : Inv X pins σ H s) (ea : H x = some (.ins C dx fv)) (c : Cls X.K C) (hp : PropOf X.K C f pa g)
    (cal : Cal X.prog X.w X.K X.mg X.base lv G [] F g) (hr : Room (lv + 1) X.A) (hg : X.A.guards = some []) (h : Spec G F [.ref x] H Q (fun _ _ _ => False)) :
    wpAny (model X.prog X.w) X.A (getAttr (.ref x) f b) (EP X pins σ Q) E' s := by
  obtain ⟨mA, O, _⟩ := ins_get I.hok ea
  obtain ⟨od, J, _⟩ := O.look
  obtain ⟨tail, hrec⟩ := hp.rec_
  have J1 := I.tok (s.toks + 1)
  have there : (PySem.W.clsIn X.K C).isSome = true := by
    obtain ⟨cd, hc, _⟩ := PySem.W.any_some c.hd
    rw [hc]; rfl
  refine PySem.W.get_bind I.kIn J (PySem.W.plainGet_of (c.get f)).1 (PySem.W.findObj_data there hp.at_ hp.get hp.tak) (PySem.W.plainGet_of (c.get f)).2 (wpAny_call (PySem.W.prop_get (s := { s with toks := s.toks + 1 }) I.kIn hrec ?_))
  refine codeAny_mono (cal X.A.in1 X.stack { s with toks := s.toks + 1 } H [.ref x] [] [.ref x] [] Q (fun _ _ _ => False) hr.in1 hg J1.env0.in1 (.cons rfl .nil) .nil rfl h) fun r s2 hq => ?_
  match r, hq with
  | .error e, hq =>
    obtain ⟨_, _, _, _, _, _, _, _, _, _, _, _, z⟩ := hq
    exact z.elim
  | .ok (.ret u), hq =>
    obtain ⟨v, H2, I2, rv, q2⟩ := J1.after hq
    show wpAny _ _ (handedOut u) _ _ _
    rw [PySem.W.handedOut_of (handed_of rv)]
    exact wpAny_pure ⟨v, H2, I2, rv, q2⟩
  | .ok .next, hq => exact hq.elim
  | .ok .brk, hq => exact hq.elim
  | .ok .cont, hq => exact hq.elim
/-- from no exception -/
theorem spec_nox {F : List T → Sto → R T} {m : Mm} {env : Env} {st : Sto} {σ : L2.St} {H : Hp} {ts : List T} {vs : List V} {Q : VK} (rs : RS G m env st σ H) (r : Rps G m H ts vs) (q : Rn G W σ env (Rp G) m H (F ts st).nox (Kq Q)) : Spec G F vs H Q (fun _ _ _ => False) := by
  refine ⟨m, st, ts, rs.bare, r, ?_⟩
  cases eF : F ts st with
  | ok x s2 =>
    rw [eF] at q
    exact fun b H' m' rs' y rr => q b H' m' ⟨rs.env.mov y.toMov, rs'.sto⟩ y rr
  | exc x s2 => rw [eF] at q; exact q.elim
  | bad => rw [eF] at q; exact q.elim
theorem s_attr (hcs : ∀ c ci, cs[c]? = some ci → ClsOk X.prog X.w X.K X.mg X.base lv G c ci) (hr : Room (lv + 1) X.A) (hg : X.A.guards = some []) (he : PE X e (tE G W fa)) (hb : attributeBase e f X.env (eval e X.env) = eval e X.env) :
    PE X (.Attribute e f pos) (tE G W (fAttr cs f fa)) := by
  refine ⟨fun pins s σ H Q I h => ?_⟩
  have h2 : tE G W fa σ H fun v H1 => (∃ x C dx fv w, v = .ref x ∧ H1 x = some (.ins C dx fv) ∧ Cls X.K C ∧ NoAttr X.K C f ∧ fv.lookup f = some w ∧ Q w H1) ∨
      (∃ x C dx fv pa g F, v = .ref x ∧ H1 x = some (.ins C dx fv) ∧ Cls X.K C ∧ PropOf X.K C f pa g ∧ Cal X.prog X.w X.K X.mg X.base lv G [] F g ∧ Spec G F [.ref x] H1 Q (fun _ _ _ => False)) := by
    refine at1 (g := fun _ x st1 => match insOf st1 x with
      | some (c, vs) => match cs[c]? with
        | some ci => match fldIx ci.fl f with
          | some i => R.opt vs[i]? st1
          | none => match ci.props.lookup f with
            | some F => (F [x] st1).nox
            | none => .bad
        | none => .bad
      | none => .bad) h fun m env st t v H1 rs r q => ?_
    cases e1 : insOf st t with
    | none => rw [e1] at q; exact q.elim
    | some pr =>
      obtain ⟨c, vs⟩ := pr
      rw [e1] at q
      simp only at q
      cases e2 : cs[c]? with
      | none => rw [e2] at q; exact q.elim
      | some ci =>
        rw [e2] at q
        simp only at q
        have ok := hcs c ci e2
        obtain ⟨x, dx, fv, rfl, hH, hf, rq⟩ := ins_at rs.sto r e1
        cases e3 : fldIx ci.fl f with
        | some i =>
          rw [e3] at q
          simp only at q
          cases e4 : vs[i]? with
          | none => rw [e4] at q; exact q.elim
          | some t2 =>
            rw [e4] at q
            obtain ⟨w, hw, rw2⟩ := rq.get e4
            rw [ok.fl] at hf
            exact .inl ⟨x, _, dx, fv, w, rfl, hH, ok.cls, ok.na f (fldIx_mem e3), fld_look hf e3 hw, Rn.give q rs rw2⟩
        | none =>
          rw [e3] at q
          simp only at q
          cases e4 : ci.props.lookup f with
          | none => rw [e4] at q; exact q.elim
          | some F =>
            rw [e4] at q
            simp only at q
            obtain ⟨pa, g, hp, cal⟩ := ok.props f F e4
            exact .inr ⟨x, _, dx, fv, pa, g, F, rfl, hH, ok.cls, hp, cal, spec_nox (W := W) (ts := [t]) rs ⟨_, [], rfl, r, rfl⟩ q⟩
  refine attr_of hb (thn (he.run pins s σ H _ I h2) fun u s1 ⟨v, H1, I1, rv, alt⟩ => ?_)
  rcases alt with ⟨x, C, dx, fv, w, rfl, ea, c, n, l, q⟩ | ⟨x, C, dx, fv, pa, g, F, rfl, ea, c, hp, cal, q⟩
  · obtain rfl : u = Value.ref x := rv
    exact getattr_ok I1 ea c n l fun u2 s2 I2 ru => ⟨w, H1, I2, ru, q⟩
  · obtain rfl : u = Value.ref x := rv
    exact own_prop I1 ea c hp cal hr hg q
/-! ### isinstance -/
def tyOf (st : Sto) : T → Option Ty
  | .non => some .non
  | .bl _ => some .bl
  | .int _ => some .int
  | .str _ => some .str
  | .tup _ => some .tup
  | .lst _ => some .lst
  | .obj c _ => some (.cls c)
  | .loc l => match st[l]? with
    | some (.lst _) => some .lst
    | some (.ins c _) => some (.cls c)
    | none => none
  | _ => none
def tyVal (G : Gh) : Ty → Value
  | .non => .type "NoneType" | .bl => .type "bool" | .int => .type "int" | .str => .type "str" | .tup => .type "tuple" | .lst => .type "list" | .cls c => .ref (G.cl c)
def tgVal (G : Gh) : Tg → Value
  | .ty n => .type n | .cls c => .ref (G.cl c)
def tgV (G : Gh) : Tg → V
  | .ty n => .ty n | .cls c => .ref (G.cl c)
theorem ty_ok {m : Mm} {H : Hp} {st : Sto} {t : T} {v : V} {ty : Ty} (hcs : ∀ c ci, cs[c]? = some ci → ClsOk X.prog X.w X.K X.mg X.base lv G c ci) (s : RSto G m H st) (r : Rp G m H t v) (e : tyOf st t = some ty) (hc : ∀ c, ty = .cls c → c < cs.length) : TyX X.K H v (tyVal G ty) := by
  have ins : ∀ {c : Nat} {a dx : Addr} {fv : List (Str × V)}, c < cs.length → H a = some (.ins (G.cl c) dx fv) → TyX X.K H (.ref a) (.ref (G.cl c)) := fun {c a dx fv} hl h => by
    have ok := hcs c _ (List.getElem?_eq_getElem hl)
    exact .base (.ins h ok.cls ok.ha ok.hn ok.htk ok.hm)
  cases t with
  | non => cases e; cases (show v = _ from r); exact .base .non
  | bl b => cases e; cases (show v = _ from r); exact .base (.bl b)
  | int b => cases e; cases (show v = _ from r); exact .base (.int b)
  | str b => cases e; cases (show v = _ from r); exact .base (.str b)
  | tup xs => cases e; obtain ⟨a, vs, rfl, h, _⟩ := r; exact .base (.tup h.2)
  | lst xs => cases e; obtain ⟨a, vs, rfl, h, _⟩ := r; exact .base (.lst h.2)
  | obj c vs => cases e; obtain ⟨a, dx, fv, rfl, _, h, _⟩ := r; exact ins (hc c rfl) h
  | loc l =>
    obtain ⟨a, rfl, h⟩ := r
    have e : (match st[l]? with
      | some (.lst _) => some Ty.lst
      | some (.ins c _) => some (.cls c)
      | none => none) = some ty := e
    cases e2 : st[l]? with
    | none => rw [e2] at e; cases e
    | some cc =>
      rw [e2] at e
      cases cc with
      | lst xs => cases e; obtain ⟨vs, h1, _⟩ := s.cell l a _ h e2; exact .base (.lst h1)
      | ins c vs => cases e; obtain ⟨dx, fv, h1, _⟩ := s.cell l a _ h e2; exact ins (hc c rfl) h1
  | _ => cases e
/-- isinstance's answer by the table -/
def tyIn (n : Nat) : Ty → Bool
  | .cls c => decide (c < n)
  | _ => true
def isiT (n : Nat) (tb : List ((Ty × Tg) × Bool)) (g : Tg) (st : Sto) (t : T) : Option Bool := match tyOf st t with
  | some ty => if tyIn n ty = true then tb.lookup (ty, g) else none
  | none => none
def fIsi (n : Nat) (tb : List ((Ty × Tg) × Bool)) (g : Tg) (fa : Env → Sto → R T) : Env → Sto → R T := fun env st => (fa env st).bnd fun x st1 => R.opt ((isiT n tb g st1 x).map .bl) st1
theorem s_isi {tb : List ((Ty × Tg) × Bool)} {g : Tg} {c : Expr} (hcs : ∀ c ci, cs[c]? = some ci → ClsOk X.prog X.w X.K X.mg X.base lv G c ci) (htb : ∀ ty g k, tb.lookup (ty, g) = some k → PySem.W.kitOne X.K (tyVal G ty) (tgVal G g) = some k)
    (hg : Gl X "isinstance") (hm : X.mg "isinstance" = none) (ha : PE X a (tE G W fa)) (hc : PE X c (tC (tgV G g))) (hs : starEach [a, c] X.env = (false, eval a X.env) :: starEach [c] X.env) (hs2 : starEach [c] X.env = [(false, eval c X.env)]) :
    PE X (.Call (.Name "isinstance" p) [a, c] [] pos) (tE G W (fIsi cs.length tb g fa)) := by
  refine PE.imp (pe_callB call_isi hg hm (by decide +kernel) (pa_cons ha (pa_cons hc pa_nil hs2) hs) (by decide) (by decide) hs (by rw [hs2]; rfl)) fun σ H Q h => ?_
  show tE G W fa σ H fun v H1 => rIsi X.K [v, tgV G g] H1 Q
  refine at1 h fun m env st t v H1 rs r q => ?_
  cases e : isiT cs.length tb g st t with
  | none => rw [e] at q; exact q.elim
  | some k =>
    rw [e] at q
    unfold isiT at e
    cases e1 : tyOf st t with
    | none => rw [e1] at e; cases e
    | some ty =>
      rw [e1] at e
      have e : (if tyIn cs.length ty = true then tb.lookup (ty, g) else none) = some k := e
      by_cases hq : tyIn cs.length ty = true
      · rw [if_pos hq] at e
        have hlt : ∀ c, ty = .cls c → c < cs.length := fun c z => by subst z; simpa [tyIn] using hq
        refine ⟨v, tgV G g, tyVal G ty, tgVal G g, k, rfl, ?_, ty_ok hcs rs.sto r e1 hlt, htb ty g k e, Rn.give (b := .bl k) q rs rfl⟩
        cases g with
        | ty n => exact .ty n
        | cls c => exact .own _
      · rw [if_neg hq] at e; cases e
end
end Eg
set_option Elab.async false
set_option linter.all false
set_option maxRecDepth 100000
set_option maxHeartbeats 2000000
/-! The engine, part fifteen: a def's end, defs, classes called. -/
namespace Eg
open PySem PySem.Spec PyProof.Rows L2
/-! ### what was made within is frozen -/
mutual
def frzW (f : Nat → Option T) : T → Option T
  | .loc l => f l
  | .tup xs => (frzWs f xs).map .tup
  | .lst xs => (frzWs f xs).map .lst
  | .obj c xs => (frzWs f xs).map (.obj c)
  | .exc c xs => (frzWs f xs).map (.exc c)
  | .non => some .non
  | .bl b => some (.bl b)
  | .int i => some (.int i)
  | .str x => some (.str x)
  | .scr ns => some (.scr ns)
def frzWs (f : Nat → Option T) : List T → Option (List T)
  | [] => some []
  | x :: xs => match frzW f x, frzWs f xs with
    | some y, some ys => some (y :: ys)
    | _, _ => none
end
def whole (cs : List Ci) (c n : Nat) : Bool := match cs[c]? with
  | some ci => decide (ci.fl.length = n)
  | none => false
def frzL (cs : List Ci) (st : Sto) (ren : Nat → Option Nat) : Nat → Nat → Option T
  | 0, l => (ren l).map .loc
  | k + 1, l => match ren l with
    | some i => some (.loc i)
    | none => match st[l]? with
      | some (.lst xs) => (frzWs (frzL cs st ren k) xs).map .lst
      | some (.ins c vs) => if whole cs c vs.length = true then (frzWs (frzL cs st ren k) vs).map (.obj c) else none
      | none => none
def frzC (f : Nat → Option T) : Cell → Option Cell
  | .lst xs => (frzWs f xs).map .lst
  | .ins c xs => (frzWs f xs).map (.ins c)
def frzCs (f : Nat → Option T) : List Cell → Option (List Cell)
  | [] => some []
  | c :: cs => match frzC f c, frzCs f cs with
    | some d, some ds => some (d :: ds)
    | _, _ => none
/-- how deep -/
abbrev frz (cs : List Ci) (st : Sto) (ren : Nat → Option Nat) : Nat → Option T := frzL cs st ren 3
/-- md: a new thing of the store may go out as it is -/
def kept (md : Bool) (n : Nat) : T → Option Nat
  | .loc l => if md = true ∧ n ≤ l then some l else none
  | _ => none
def ren (n : Nat) (kp : Option Nat) (i : Nat) : Option Nat := if i < n then some i else if kp = some i then some n else none
def more {A : Type} (xs : List A) : Option Nat → List A
  | some l => xs[l]?.toList
  | none => []
/-- what a def gives -/
def finR (cs : List Ci) (md : Bool) (n : Nat) (t : T) (st : Sto) : R T :=
  match frzCs (frz cs st (ren n (kept md n t))) (st.take n ++ more st (kept md n t)), frzW (frz cs st (ren n (kept md n t))) t with
  | some st', some t' => .ok t' st'
  | _, _ => .bad
def finO (cs : List Ci) (md : Bool) (n : Nat) : O → R T
  | .nx _ st => finR cs false n .non st
  | .rt t st => finR cs md n t st
  | .exc (.exc c ts) _ st => match frzCs (frz cs st (ren n none)) (st.take n ++ more st none), frzWs (frz cs st (ren n none)) ts with
    | some st', some us => .exc (.exc c us) st'
    | _, _ => .bad
  | _ => .bad
section
variable {G : Gh} {m m' m2 : Mm} {H H' : Hp} {st : Sto} {f : Nat → Option T} {cs : List Ci}
mutual
theorem frzW_ok (hw : ∀ a, m2.w a → m'.w a) (hf : ∀ l t v, f l = some t → Rp G m' H (.loc l) v → Rp G m2 H t v) : ∀ (t t' : T) (v : V), frzW f t = some t' → Rp G m' H t v → Rp G m2 H t' v
  | .loc l, t', v, e, r => hf l t' v (by rw [frzW] at e; exact e) r
  | .tup xs, t', v, e, r => by
    rw [frzW] at e
    obtain ⟨ys, e1, rfl⟩ := Option.map_eq_some_iff.mp e
    obtain ⟨a, vs, rfl, h, q⟩ := r
    exact ⟨a, vs, rfl, ⟨fun z => h.1 (hw a z), h.2⟩, frzWs_ok hw hf xs ys vs e1 q⟩
  | .lst xs, t', v, e, r => by
    rw [frzW] at e
    obtain ⟨ys, e1, rfl⟩ := Option.map_eq_some_iff.mp e
    obtain ⟨a, vs, rfl, h, q⟩ := r
    exact ⟨a, vs, rfl, ⟨fun z => h.1 (hw a z), h.2⟩, frzWs_ok hw hf xs ys vs e1 q⟩
  | .obj c xs, t', v, e, r => by
    rw [frzW] at e
    obtain ⟨ys, e1, rfl⟩ := Option.map_eq_some_iff.mp e
    obtain ⟨a, dx, fv, rfl, hn, h, hl, q⟩ := r
    exact ⟨a, dx, fv, rfl, fun z => hn (hw a z), h, hl, frzWs_ok hw hf xs ys _ e1 q⟩
  | .exc c xs, t', v, e, r => r.elim
  | .non, t', v, e, r => by rw [frzW] at e; cases e; exact r
  | .bl b, t', v, e, r => by rw [frzW] at e; cases e; exact r
  | .int b, t', v, e, r => by rw [frzW] at e; cases e; exact r
  | .str b, t', v, e, r => by rw [frzW] at e; cases e; exact r
  | .scr ns, t', v, e, r => by
    rw [frzW] at e; cases e
    obtain ⟨a, rfl, h⟩ := r
    refine ⟨a, rfl, ?_⟩
    rcases h with ⟨hn, h⟩ | h
    · exact .inl ⟨fun z => hn (hw a z), h⟩
    · exact .inr h
theorem frzWs_ok (hw : ∀ a, m2.w a → m'.w a) (hf : ∀ l t v, f l = some t → Rp G m' H (.loc l) v → Rp G m2 H t v) : ∀ (ts ts' : List T) (vs : List V), frzWs f ts = some ts' → Rps G m' H ts vs → Rps G m2 H ts' vs
  | [], ts', vs, e, r => by rw [frzWs] at e; cases e; exact r
  | x :: xs, ts', vs, e, r => by
    rw [frzWs] at e
    obtain ⟨v, w, rfl, h, q⟩ := r
    cases e1 : frzW f x with
    | none => rw [e1] at e; cases e
    | some y =>
      cases e2 : frzWs f xs with
      | none => rw [e1, e2] at e; cases e
      | some ys =>
        rw [e1, e2] at e
        cases e
        exact ⟨v, w, rfl, frzW_ok hw hf x y v e1 h, frzWs_ok hw hf xs ys w e2 q⟩
end
/-- the ways of the fields are known -/
def KnowC (G : Gh) (cs : List Ci) : Prop := ∀ c ci, cs[c]? = some ci → G.fl c = ci.fl
theorem frzWs_len {f : Nat → Option T} : ∀ {ts us : List T}, frzWs f ts = some us → us.length = ts.length
  | [], us, e => by rw [frzWs] at e; cases e; rfl
  | x :: xs, us, e => by
    rw [frzWs] at e
    cases e1 : frzW f x with
    | none => rw [e1] at e; cases e
    | some y =>
      cases e2 : frzWs f xs with
      | none => rw [e1, e2] at e; cases e
      | some ys => rw [e1, e2] at e; cases e; simp [frzWs_len e2]
theorem frzL_ok (kc : KnowC G cs) {rn : Nat → Option Nat} (s : RSto G m' H st) (hw : ∀ a, m2.w a → m'.w a) (hlt : ∀ l i a, rn l = some i → m'.as[l]? = some a → m2.as[i]? = some a) (hge : ∀ l a, rn l = none → m'.as[l]? = some a → ¬ m2.w a) :
    ∀ (k l : Nat) (t : T) (v : V), frzL cs st rn k l = some t → Rp G m' H (.loc l) v → Rp G m2 H t v
  | 0, l, t, v, e, ⟨a, ev, h⟩ => by
    unfold frzL at e
    obtain ⟨i, e1, rfl⟩ := Option.map_eq_some_iff.mp e
    exact ⟨a, ev, hlt l i a e1 h⟩
  | k + 1, l, t, v, e, ⟨a, ev, h⟩ => by
    unfold frzL at e
    cases er : rn l with
    | some i => rw [er] at e; cases e; exact ⟨a, ev, hlt l i a er h⟩
    | none =>
      rw [er] at e
      simp only at e
      cases e2 : st[l]? with
      | none => rw [e2] at e; cases e
      | some c =>
        rw [e2] at e
        cases c with
        | lst xs =>
          obtain ⟨ys, e3, rfl⟩ := Option.map_eq_some_iff.mp e
          obtain ⟨vs, h1, q⟩ := s.cell l a _ h e2
          exact ⟨a, vs, ev, ⟨hge l a er h, h1⟩, frzWs_ok hw (frzL_ok kc s hw hlt hge k) xs ys vs e3 q⟩
        | ins c vs =>
          have e : (if whole cs c vs.length = true then (frzWs (frzL cs st rn k) vs).map (T.obj c) else none) = some t := e
          by_cases hwh : whole cs c vs.length = true
          · rw [if_pos hwh] at e
            obtain ⟨ys, e3, rfl⟩ := Option.map_eq_some_iff.mp e
            obtain ⟨dx, fv, h1, h2, _, q⟩ := s.cell l a _ h e2
            refine ⟨a, dx, fv, ev, hge l a er h, h1, ?_, frzWs_ok hw (frzL_ok kc s hw hlt hge k) vs ys _ e3 q⟩
            unfold whole at hwh
            cases e4 : cs[c]? with
            | none => rw [e4] at hwh; cases hwh
            | some ci =>
              rw [e4] at hwh
              have : ci.fl.length = vs.length := by simpa using hwh
              rw [h2, kc c ci e4, ← this, List.take_length]
          · rw [if_neg hwh] at e; cases e
theorem frzC_ok (hw : ∀ a, m2.w a → m'.w a) (hf : ∀ l t v, f l = some t → Rp G m' H (.loc l) v → Rp G m2 H t v) {c d : Cell} {a : Addr} (e : frzC f c = some d) (r : RCell G m' H a c) : RCell G m2 H a d := by
  cases c with
  | lst xs =>
    obtain ⟨ys, e1, rfl⟩ := Option.map_eq_some_iff.mp (show (frzWs f xs).map Cell.lst = some d from e)
    obtain ⟨vs, h, q⟩ := r
    exact ⟨vs, h, frzWs_ok hw hf xs ys vs e1 q⟩
  | ins c xs =>
    obtain ⟨ys, e1, rfl⟩ := Option.map_eq_some_iff.mp (show (frzWs f xs).map (Cell.ins c) = some d from e)
    obtain ⟨dx, fv, h, h1, h2, q⟩ := r
    have hl := frzWs_len e1
    exact ⟨dx, fv, h, by rw [hl]; exact h1, by rw [hl]; exact h2, frzWs_ok hw hf xs ys _ e1 q⟩
theorem frzCs_get {f : Nat → Option T} : ∀ {cs ds : List Cell}, frzCs f cs = some ds → ds.length = cs.length ∧ ∀ (i : Nat) c, cs[i]? = some c → ∃ d, ds[i]? = some d ∧ frzC f c = some d
  | [], ds, e => by cases e; exact ⟨rfl, fun i c h => by simp at h⟩
  | c :: cs, ds, e => by
    have e : (match frzC f c, frzCs f cs with
      | some d, some ds => some (d :: ds)
      | _, _ => none) = some ds := e
    cases e1 : frzC f c with
    | none => rw [e1] at e; cases e
    | some d =>
      cases e2 : frzCs f cs with
      | none => rw [e1, e2] at e; cases e
      | some r =>
        rw [e1, e2] at e
        cases e
        obtain ⟨h1, h2⟩ := frzCs_get e2
        refine ⟨by simp [h1], fun i c' h => ?_⟩
        cases i with
        | zero => simp at h; subst h; exact ⟨d, rfl, e1⟩
        | succ i => obtain ⟨d', h3, h4⟩ := h2 i c' (by simpa using h); exact ⟨d', by simpa using h3, h4⟩
theorem more_len {A B : Type} {xs : List A} {ys : List B} (h : xs.length = ys.length) : ∀ kp : Option Nat, (more xs kp).length = (more ys kp).length
  | none => rfl
  | some l => by
    show (xs[l]?.toList).length = (ys[l]?.toList).length
    by_cases hl : l < xs.length
    · rw [List.getElem?_eq_getElem hl, List.getElem?_eq_getElem (by omega)]; rfl
    · rw [List.getElem?_eq_none (by omega), List.getElem?_eq_none (by omega)]; rfl
/-- at the end -/
structure FinOk (G : Gh) (m : Mm) (H : Hp) (m' : Mm) (H' : Hp) (m2 : Mm) (st' : Sto) (f : Nat → Option T) : Prop where
  hw : ∀ a, m2.w a → m'.w a
  hf : ∀ l t v, f l = some t → Rp G m' H' (.loc l) v → Rp G m2 H' t v
  sto : RSto G m2 H' st'
  stp : Stp m H m2 H'
theorem fin_ok (kc : KnowC G cs) {n : Nat} {st' : Sto} (kp : Option Nat) (hkp : ∀ l, kp = some l → n ≤ l) (x : Stp m H m' H') (hn : m.as.length = n) (s : RSto G m' H' st)
    (e : frzCs (frz cs st (ren n kp)) (st.take n ++ more st kp) = some st') : FinOk G m H m' H' ⟨m.as ++ more m'.as kp, m.fo⟩ st' (frz cs st (ren n kp)) := by
  obtain ⟨nw, hpre⟩ := x.pre
  have sub : ∀ a, a ∈ m.as ++ more m'.as kp → a ∈ m'.as := fun a h => by
    rcases List.mem_append.mp h with h | h
    · rw [hpre]; exact List.mem_append_left _ h
    · cases kp with
      | none => cases h
      | some l =>
        cases e1 : m'.as[l]? with
        | none => simp [more, e1] at h
        | some b => simp [more, e1] at h; rw [h]; exact List.mem_of_getElem? e1
  have hw : ∀ a, (⟨m.as ++ more m'.as kp, m.fo⟩ : Mm).w a → m'.w a := fun a h => by
    rcases h with h | h
    · exact .inl (sub a h)
    · exact .inr (by rw [x.fo]; exact h)
  have inj : ∀ {i l a}, m'.as[i]? = some a → m'.as[l]? = some a → i = l := fun {i l a} h1 h2 => (List.getElem?_inj (List.getElem?_eq_some_iff.mp h1).1 s.nd).mp (h1.trans h2.symm)
  have old : ∀ i a, m.as[i]? = some a → m'.as[i]? = some a := fun i a h => by rw [hpre, List.getElem?_append_left (List.getElem?_eq_some_iff.mp h).1]; exact h
  have hlt : ∀ l i a, ren n kp l = some i → m'.as[l]? = some a → (m.as ++ more m'.as kp)[i]? = some a := fun l i a hr h => by
    unfold ren at hr
    by_cases h1 : l < n
    · rw [if_pos h1] at hr; cases hr
      rw [hpre, List.getElem?_append_left (by rw [hn]; exact h1)] at h
      rw [List.getElem?_append_left (by rw [hn]; exact h1)]
      exact h
    · rw [if_neg h1] at hr
      by_cases h2 : kp = some l
      · rw [if_pos h2] at hr; cases hr
        rw [List.getElem?_append_right (by rw [hn]; exact Nat.le_refl _), hn, h2]
        simp [more, h]
      · rw [if_neg h2] at hr; cases hr
  have hge : ∀ l a, ren n kp l = none → m'.as[l]? = some a → ¬ (⟨m.as ++ more m'.as kp, m.fo⟩ : Mm).w a := fun l a hr h z => by
    unfold ren at hr
    by_cases h1 : l < n
    · rw [if_pos h1] at hr; cases hr
    · rw [if_neg h1] at hr
      by_cases h2 : kp = some l
      · rw [if_pos h2] at hr; cases hr
      · rcases z with z | z
        · rcases List.mem_append.mp z with z | z
          · obtain ⟨i, hi, hia⟩ := List.mem_iff_getElem.mp z
            have := inj (old i a (by rw [List.getElem?_eq_getElem hi, hia])) h
            omega
          · cases kp with
            | none => cases z
            | some j =>
              cases e1 : m'.as[j]? with
              | none => simp [more, e1] at z
              | some b =>
                simp [more, e1] at z
                subst z
                exact h2 (by rw [inj e1 h])
        · exact s.fd a (List.mem_of_getElem? h) (by rw [x.fo]; exact z)
  have hf := frzL_ok kc s hw hlt hge 3
  obtain ⟨hl, hg⟩ := frzCs_get e
  have hle : n ≤ st.length := by rw [← s.len, hpre, List.length_append, hn]; omega
  refine ⟨hw, hf, ⟨?_, fun a h z => s.fd a (sub a h) (by rw [x.fo]; exact z), ?_, fun i a c h1 h2 => ?_, fun a h => s.foS a (by rw [x.fo]; exact h)⟩, ⟨⟨x.keep, fun a h => ?_, fun a h => .inl (.inr h), ⟨_, rfl⟩⟩, rfl⟩⟩
  · have nd := s.nd
    rw [List.nodup_append]
    refine ⟨?_, ?_, fun a ha b hb z => ?_⟩
    · rw [hpre, List.nodup_append] at nd; exact nd.1
    · cases kp with
      | none => simp [more]
      | some l => cases e1 : m'.as[l]? <;> simp [more, e1]
    · cases kp with
      | none => cases hb
      | some l =>
        cases e1 : m'.as[l]? with
        | none => simp [more, e1] at hb
        | some b' =>
          simp [more, e1] at hb
          subst hb z
          obtain ⟨i, hi, hia⟩ := List.mem_iff_getElem.mp ha
          have := inj (old i a (by rw [List.getElem?_eq_getElem hi, hia])) e1
          have := hkp l rfl
          omega
  · rw [hl, List.length_append, List.length_append, hn, List.length_take, more_len s.len kp]; omega
  · have key : ∃ j : Nat, (st.take n ++ more st kp)[i]? = st[j]? ∧ m'.as[j]? = some a := by
      by_cases hi : i < n
      · refine ⟨i, ?_, ?_⟩
        · rw [List.getElem?_append_left (by rw [List.length_take]; omega)]
          exact List.getElem?_take_of_lt hi
        · rw [List.getElem?_append_left (by rw [hn]; exact hi)] at h1
          exact old i a h1
      · rw [List.getElem?_append_right (by rw [hn]; omega), hn] at h1
        cases kp with
        | none => simp [more] at h1
        | some l =>
          cases e1 : m'.as[l]? with
          | none => simp [more, e1] at h1
          | some b =>
            have h3 : i - n = 0 := by
              rcases Nat.eq_zero_or_pos (i - n) with z | z
              · exact z
              · rw [List.getElem?_eq_none (by simp [more, e1]; omega)] at h1; cases h1
            rw [h3] at h1
            have : b = a := by simpa [more, e1] using h1
            subst this
            refine ⟨l, ?_, e1⟩
            rw [List.getElem?_append_right (by rw [List.length_take]; omega), List.length_take, Nat.min_eq_left hle, h3]
            have hlt2 : l < st.length := by rw [← s.len]; exact (List.getElem?_eq_some_iff.mp e1).1
            simp [more, List.getElem?_eq_getElem hlt2]
    obtain ⟨j, h3, h4⟩ := key
    have hj : j < st.length := by rw [← s.len]; exact (List.getElem?_eq_some_iff.mp h4).1
    obtain ⟨d, h5, h6⟩ := hg i st[j] (by rw [h3]; exact List.getElem?_eq_getElem hj)
    rw [h2] at h5
    cases h5
    exact frzC_ok hw hf h6 (s.cell j a _ h4 (List.getElem?_eq_getElem hj))
  · rcases x.newA a (sub a h) with z | z
    · exact .inl z
    · exact .inr z
theorem finR_ok {Q : VK} {W : WX} {md : Bool} {n : Nat} {t : T} {v : V} (kc : KnowC G cs) (x : Stp m H m' H') (hn : m.as.length = n) (s : RSto G m' H' st) (r : Rp G m' H' t v) (q : Rn G W [] [] (Rp G) m H (finR cs md n t st) (Kq Q)) : Q v H' := by
  unfold finR at q
  cases e1 : frzCs (frz cs st (ren n (kept md n t))) (st.take n ++ more st (kept md n t)) with
  | none => rw [e1] at q; exact q.elim
  | some st' =>
    cases e2 : frzW (frz cs st (ren n (kept md n t))) t with
    | none => rw [e1, e2] at q; exact q.elim
    | some t' =>
      rw [e1, e2] at q
      have F := fin_ok kc (kept md n t) (fun l h => by
        unfold kept at h
        split at h
        · split at h
          · rename_i z; cases h; exact z.2
          · cases h
        · cases h) x hn s e1
      exact q v H' _ ⟨⟨rfl, fun i t e => by simp at e⟩, F.sto⟩ F.stp (frzW_ok F.hw F.hf t t' v e2 r)
theorem fin_exc {n : Nat} {c : Nat} {ts us : List T} {st' : Sto} {cls : Value} {d : Option Addr} (kc : KnowC G cs) (x : Stp m H m' H') (hn : m.as.length = n) (s : RSto G m' H' st) (e1 : frzCs (frz cs st (ren n none)) (st.take n ++ more st none) = some st')
    (e2 : frzWs (frz cs st (ren n none)) ts = some us) (r : RExc G m' H' (.exc c ts) cls d) : ∃ m2, RSto G m2 H' st' ∧ Stp m H m2 H' ∧ RExc G m2 H' (.exc c us) cls d := by
  have F := fin_ok kc none (fun l h => by cases h) x hn s e1
  refine ⟨_, F.sto, F.stp, ?_⟩
  match ts, e2, r with
  | [], e2, r => rw [frzWs] at e2; cases e2; exact r
  | [t], e2, r =>
    rw [frzWs] at e2
    cases e3 : frzW (frz cs st (ren n none)) t with
    | none => rw [e3] at e2; cases e2
    | some y =>
      rw [e3] at e2
      simp only [frzWs] at e2
      cases e2
      obtain ⟨h1, a, v, f, h2, h3, h4, h5, h6⟩ := r
      exact ⟨h1, a, v, f, h2, fun z => h3 (F.hw a z), h4, h5, frzW_ok F.hw F.hf t y v e3 h6⟩
  | _ :: _ :: _, _, r => exact r.elim
end
end Eg
set_option Elab.async false
set_option linter.all false
set_option maxRecDepth 100000
set_option maxHeartbeats 2000000
/-! The engine, part sixteen: a def by its body's meaning; a class called. -/
namespace Eg
open PySem PySem.Spec PyProof.Rows L2
def env0 (n : Nat) (ts : List T) : Env := ts.map some ++ List.replicate (n - ts.length) none
/-- a def's meaning: k parameters, n names -/
def den (cs : List Ci) (md : Bool) (k n : Nat) (f : Fs) : List T → Sto → R T := fun ts st => if ts.length = k then finO cs md st.length (f (env0 n ts) st) else .bad
section
variable {G : Gh} {m : Mm} {H : Hp} {cs : List Ci}
theorem env0_ok {N : List Str} {ts : List T} {vs : List V} (r : Rps G m H ts vs) : REnv G m H (env0 N.length ts) (L2.start N vs) := by
  have hl := r.length
  refine ⟨by unfold env0 L2.start; simp [hl], fun i t e => ?_⟩
  unfold env0 at e
  by_cases hi : i < ts.length
  · rw [List.getElem?_append_left (by simpa using hi), List.getElem?_map, List.getElem?_eq_getElem hi] at e
    have e2 : ts[i] = t := by simpa using e
    obtain ⟨v, hv, rv⟩ := r.get (List.getElem?_eq_getElem hi)
    rw [e2] at rv
    refine ⟨v, ?_, rv⟩
    unfold L2.start
    rw [List.getElem?_append_left (by rw [List.length_map, ← hl]; exact hi), List.getElem?_map, hv]
    rfl
  · rw [List.getElem?_append_right (by rw [List.length_map]; omega), List.getElem?_replicate] at e
    split at e <;> cases e
/-- from a def's promise to its body's -/
theorem den_imp {fb : Fs} {md : Bool} {k : Nat} {N : List Str} {vs : List V} {Q : VK} {E : XK} (kc : KnowC G cs) (h : Spec G (den cs md k N.length fb) vs H Q E) :
    vs.length = k ∧ tS G (fun cls d _ H => E cls d H) fb { nx := fun _ H' => Q .non H', rt := Q } (L2.start N vs) H := by
  obtain ⟨m, st, ts, rs, r, q⟩ := h
  unfold den at q
  by_cases hl : ts.length = k
  · rw [if_pos hl] at q
    refine ⟨r.length.symm.trans hl, m, env0 N.length ts, st, ⟨env0_ok r, rs.sto⟩, ?_⟩
    have hn : m.as.length = st.length := rs.sto.len
    generalize fb (env0 N.length ts) st = o at q ⊢
    cases o with
    | nx env' st' => exact fun σ' H' m' rs' S => finR_ok (t := .non) (v := .non) kc S hn rs'.sto rfl q
    | rt t st' => exact fun v H' m' s' S rv => finR_ok kc S hn s' rv q
    | bk env' st' => exact q.elim
    | ct env' st' => exact q.elim
    | bad => exact q.elim
    | exc e env' st' =>
      intro cls d σ' H' m' rs' S re
      cases e with
      | exc c us =>
        have q : Rn G (fun cls d _ H => E cls d H) [] [] (Rp G) m H (match frzCs (frz cs st' (ren st.length none)) (st'.take st.length ++ more st' none), frzWs (frz cs st' (ren st.length none)) us with
          | some st', some us => .exc (.exc c us) st'
          | _, _ => .bad) (Kq Q) := q
        cases e1 : frzCs (frz cs st' (ren st.length none)) (st'.take st.length ++ more st' none) with
        | none => rw [e1] at q; exact q.elim
        | some st2 =>
          cases e2 : frzWs (frz cs st' (ren st.length none)) us with
          | none => rw [e1, e2] at q; exact q.elim
          | some us2 =>
            rw [e1, e2] at q
            obtain ⟨m2, s2, S2, r2⟩ := fin_exc kc S hn rs'.sto e1 e2 re
            exact q cls d H' m2 ⟨⟨rfl, fun i t e => by simp at e⟩, s2⟩ S2 r2
      | _ => exact re.elim
  · rw [if_neg hl] at q; exact q.elim
end
section
variable {P : Program} {w : World} {K : PySem.W.Frag} {mg : Str → Option Value} {base : Heap} {lv : Nat} {G : Gh} {cs : List Ci}
theorem deep_guards {A : Around} {env : PySem.Env} (h : A.guards = some []) : (A.deeper env).guards = some [] := h
/-- THE RULE for a def -/
theorem fnG_of {fp : Addr} {nm qual : Str} {prm : Arguments} {body : List Stmt} {sc : Scope} {dV kV doc pm cdv ct oc : Value} {an od : Option Addr} {osl : Array (Option Value)} {N ps : List Str} {fb : Fs} {md : Bool} (kc : KnowC G cs)
    (look : K.lookup fp = some ⟨oc, od, .func (PySem.W.fnOf nm qual prm body sc dV kV doc pm an cdv ct), osl⟩) (code : PySem.W.codeIn K cdv qual = true) (S : FnScope N ps sc)
    (walk : ∀ (A : Around) (outer : List PySem.Env) (s : Shared) (H : Hp) (E : XK), Room lv (A.deeper (envOfC qual sc s.heap.objs.size fp cdv)) → A.guards = some [] →
      PSs (cxOf (L2.CX P w) P w K mg base N qual sc fp cdv A outer s H E) body (tS G (fun cls d _ H => E cls d H) fb)) :
    FnG P w K mg base (lv + 1) fp (PySem.W.fnOf nm qual prm body sc dV kV doc pm an cdv ct) ps (Spec G (den cs md ps.length N.length fb)) := by
  refine ⟨fun A outer s H args us vs Q E room grd e0 bnd rv lenv spec => ?_⟩
  obtain ⟨_, wish⟩ := den_imp (N := N) kc spec
  have inH : K.In s.heap := e0.mod.kin.keeps fun b o z => (e0.bs b o z).1
  have unl : s.heap.NoLimit := e0.mod.nolimit.keeps fun b o z => (e0.bs b o z).1
  have kinds : ∀ y ∈ ps.zip us, sc.names.lookup y.1 = some .local ∨ (sc.names.lookup y.1 = some .cell ∧ ((cellsFrom (s.heap.objs.size + 1) sc.names []).lookup y.1).isSome = true) := fun y hy => by
    rcases S.par y.1 (List.of_mem_zip (a := y.1) (b := y.2) hy).1 with z | z
    · exact .inl z
    · exact .inr ⟨z, PySem.W.cellsFrom_some sc.names _ _ (.inl z)⟩
  refine codeAny_call_function room.depth (inH fp _ look) rfl S.co S.gen rfl (PySem.W.codeRec_of inH code) (bnd _ _ _ _ ?_)
  refine wpAny_newFunctionEnv_cells S.kind kinds fun env same s1 inC => ?_
  subst same
  refine ⟨unl.keeps inC.toInCall.keep, codeAny_func ?_⟩
  have J : Inv (cxOf (L2.CX P w) P w K mg base N qual sc fp cdv A outer s H E) [] (L2.start N vs) H s1 := inv_start S room.hd e0 lenv rv inC
  refine wpAny_mono ((walk A outer s H E (room.deeper _) grd).run [] s1 (L2.start N vs) H _ J wish) (fun fl s2 z => ?_) fun _ _ z => z
  have out : ∀ {σ2 : L2.St} {H2 : Hp} {v : V} {u : Value}, Inv (cxOf (L2.CX P w) P w K mg base N qual sc fp cdv A outer s H E) [] σ2 H2 s2 → RelV v u → Q v H2 → CE outer P w H s Q u s2 :=
    fun {σ2 H2 v u} J2 r2 q2 => ⟨v, H2, J2.os, J2.bare, J2.base, J2.hok, r2, q2⟩
  match fl, z with
  | .ret u, ⟨v, _, _, J2, r2, q2⟩ => exact out J2 r2 q2
  | .next, ⟨_, _, J2, q2⟩ => exact out (v := V.non) (u := Value.none) J2 rfl q2
  | .brk, ⟨_, _, _, q2⟩ => exact q2.elim
  | .cont, ⟨_, _, _, q2⟩ => exact q2.elim
/-! ### a class called -/
/-- its instance is frozen -/
def mkF (cs : List Ci) (c : Nat) (F : List T → Sto → R T) : List T → Sto → R T := fun ts st => (F (.loc st.length :: ts) (st ++ [.ins c []])).bnd fun r st1 => match r with
  | .non => finR cs false st.length (.loc st.length) st1
  | _ => .bad
/-- its instance stays in the store -/
def mkL (cs : List Ci) (c : Nat) (F : List T → Sto → R T) : List T → Sto → R T := fun ts st => (F (.loc st.length :: ts) (st ++ [.ins c []])).bnd fun r st1 => match r with
  | .non => .ok (.loc st.length) st1
  | _ => .bad
theorem made_sto {m : Mm} {H : Hp} {st : Sto} {x dx : Addr} {c : Nat} (s : RSto G m H st) (hx : H x = none) (hd : H dx = none) (hne : dx ≠ x) :
    RSto G ⟨m.as ++ [x], m.fo⟩ (L2.upd (L2.upd H dx (.own x)) x (.ins (G.cl c) dx [])) (st ++ [.ins c []]) ∧ Stp m H ⟨m.as ++ [x], m.fo⟩ (L2.upd (L2.upd H dx (.own x)) x (.ins (G.cl c) dx [])) := by
  have hxa : x ∉ m.as := fun z => s.mem z hx
  have keep : ∀ a o, H a = some o → (L2.upd (L2.upd H dx (.own x)) x (.ins (G.cl c) dx [])) a = some o := fun a o h => by
    rw [upd_ne (ne_of_none h hx), upd_ne (ne_of_none h hd)]; exact h
  have St : Stp m H ⟨m.as ++ [x], m.fo⟩ (L2.upd (L2.upd H dx (.own x)) x (.ins (G.cl c) dx [])) := ⟨⟨fun a o h _ => keep a o h, fun b h => by
    rcases List.mem_append.mp h with h | h
    · exact .inl h
    · rw [List.mem_singleton.mp h]; exact .inr hx, fun _ h => .inl (.inr h), ⟨[x], rfl⟩⟩, rfl⟩
  refine ⟨⟨?_, fun a h => ?_, by simp [s.len], fun i b cc h1 h2 => ?_, fun b h => ?_⟩, St⟩
  · rw [List.nodup_append]
    exact ⟨s.nd, by simp, fun a ha b hb => by rw [List.mem_singleton.mp hb]; exact fun z => hxa (z ▸ ha)⟩
  · rcases List.mem_append.mp h with h | h
    · exact s.fd a h
    · rw [List.mem_singleton.mp h]; exact fun z => s.foS x z hx
  · by_cases hi : i < st.length
    · rw [List.getElem?_append_left (by rw [s.len]; exact hi)] at h1
      rw [List.getElem?_append_left hi] at h2
      have hb : H b ≠ none := s.mem (List.mem_of_getElem? h1)
      refine RCell.mov St.toMov ?_ (s.cell i b cc h1 h2)
      rw [upd_ne (fun z => hb (by rw [z]; exact hx)), upd_ne (fun z => hb (by rw [z]; exact hd))]
    · have hi2 : i = st.length := by
        have := (List.getElem?_eq_some_iff.mp h2).1
        simp at this
        omega
      subst hi2
      rw [List.getElem?_append_right (Nat.le_refl _)] at h2
      rw [List.getElem?_append_right (by rw [s.len]; exact Nat.le_refl _)] at h1
      have e1 : x = b := by simpa [s.len] using h1
      have e2 : Cell.ins c [] = cc := by simpa using h2
      subst e1 e2
      exact ⟨dx, [], upd_same, by simp, Nat.zero_le _, rfl⟩
  · have hb := s.foS b h
    rw [upd_ne (fun z => hb (by rw [z]; exact hx)), upd_ne (fun z => hb (by rw [z]; exact hd))]
    exact hb
/-- the class at its address; F: its __init__'s meaning. The list md says whether the instance stays -/
theorem cal_make {c : Nat} {f : Addr} {kn : List Str} {F : List T → Sto → R T} {md : Bool} (M : Mk K (G.cl c) f) (kc : KnowC G cs) (cal : Cal P w K mg base lv G kn F f) :
    Cal P w K mg base (lv + 1) G kn (if md = true then mkL cs c F else mkF cs c F) (G.cl c) := fun A outer s H us ws vs zs Q E hr hg e0 rv rz lz q => by
  have inH : K.In s.heap := e0.mod.kin.keeps fun b o z => (e0.bs b o z).1
  have hx : H (s.heap.objs.size + 1) = none := e0.hok.fresh (Nat.le_succ _)
  have hd : H s.heap.objs.size = none := e0.hok.fresh (Nat.le_refl _)
  have hne : s.heap.objs.size ≠ s.heap.objs.size + 1 := Nat.ne_of_lt (Nat.lt_succ_self _)
  obtain ⟨m, st, ts, rs, r, q⟩ := q
  obtain ⟨s2, S2⟩ := made_sto (c := c) rs.sto hx hd hne
  -- the state with the new instance
  have e1 : (s.heap.push PySem.W.emptyDict).get? s.heap.objs.size = some PySem.W.emptyDict := Heap.get?_push_size s.heap rfl
  have e2 : ((s.heap.push PySem.W.emptyDict).push (PySem.W.instObj (G.cl c) s.heap.objs.size)).get? (s.heap.objs.size + 1) = some (PySem.W.instObj (G.cl c) s.heap.objs.size) := by
    have := Heap.get?_push_size (s.heap.push PySem.W.emptyDict) (o := PySem.W.instObj (G.cl c) s.heap.objs.size) rfl
    rwa [Heap.size_push] at this
  have e3 : (s.heap.push PySem.W.emptyDict).Ns s.heap.objs.size (fun _ => none) := ⟨PySem.W.emptyDict, #[], _, e1, rfl, (fun e he => absurd he (by simp)), fun _ => rfl⟩
  have hp1 : ∀ b o, s.heap.get? b = some o → (s.heap.push PySem.W.emptyDict).get? b = some o := fun b o z => Heap.get?_push_of_some _ z
  have hp2 : ∀ b o, s.heap.get? b = some o → ((s.heap.push PySem.W.emptyDict).push (PySem.W.instObj (G.cl c) s.heap.objs.size)).get? b = some o := fun b o z => Heap.get?_push_of_some _ (hp1 b o z)
  have ok1 : HOk P w (L2.upd H s.heap.objs.size (.own (s.heap.objs.size + 1))) (s.heap.push PySem.W.emptyDict) := e0.hok.laid hp1 (Nat.le_refl _) ⟨_, e1⟩
  have ok2 : HOk P w (L2.upd (L2.upd H s.heap.objs.size (.own (s.heap.objs.size + 1))) (s.heap.objs.size + 1) (.ins (G.cl c) s.heap.objs.size [])) ((s.heap.push PySem.W.emptyDict).push (PySem.W.instObj (G.cl c) s.heap.objs.size)) := by
    refine ok1.laid (fun b o z => Heap.get?_push_of_some _ z) (Nat.le_of_eq (Heap.size_push _ _)) ?_
    refine ⟨by rw [upd_ne hne, upd_same], Nat.zero_le _, hne, e2, fun _ => none, (Heap.Ns1.of_empty e3).at fun o z => Heap.get?_push_of_some _ z, fun _ => True.intro, fun y hy => absurd rfl hy⟩
  have fr : ∀ b, H b ≠ none ∨ (∃ o, s.heap.get? b = some o) → (L2.upd (L2.upd H s.heap.objs.size (.own (s.heap.objs.size + 1))) (s.heap.objs.size + 1) (.ins (G.cl c) s.heap.objs.size [])) b = H b := fun b hb => by
    have hlt : b < s.heap.objs.size := by
      rcases hb with hb | ⟨o, hb⟩
      · cases eb : H b with
        | none => exact absurd eb hb
        | some o => exact e0.hok.lt eb
      · exact Heap.lt_size hb
    rw [upd_ne (Nat.ne_of_lt (Nat.lt_succ_of_lt hlt)), upd_ne (Nat.ne_of_lt hlt)]
  have e0' : Env0 P w K mg base A outer { s with heap := (s.heap.push PySem.W.emptyDict).push (PySem.W.instObj (G.cl c) s.heap.objs.size) } (L2.upd (L2.upd H s.heap.objs.size (.own (s.heap.objs.size + 1))) (s.heap.objs.size + 1) (.ins (G.cl c) s.heap.objs.size [])) :=
    ⟨e0.frames, e0.mod, fun b o z => ⟨hp2 b o (e0.bs b o z).1, by rw [fr b (.inr ⟨o, (e0.bs b o z).1⟩)]; exact (e0.bs b o z).2⟩, Nat.le_trans e0.bsz (by show _ ≤ (Heap.push _ _).objs.size; rw [Heap.size_push, Heap.size_push]; omega),
      Heap.FunFrames.of_keeps (fun b o z _ => ⟨o, hp2 b o z, rfl⟩) e0.funs, fun b hb => by
        obtain ⟨_, o, ho, _⟩ := e0.funs.mem hb
        rw [fr b (.inr ⟨o, ho⟩)]; exact e0.frf b hb, ok2, e0.bare⟩
  have unOut : ∀ {H3 : Hp} {h3 : Heap}, Un (frs outer) [] (L2.upd (L2.upd H s.heap.objs.size (.own (s.heap.objs.size + 1))) (s.heap.objs.size + 1) (.ins (G.cl c) s.heap.objs.size [])) H3 ((s.heap.push PySem.W.emptyDict).push (PySem.W.instObj (G.cl c) s.heap.objs.size)) h3 → Un (frs outer) [] H H3 s.heap h3 := fun {H3 h3} u =>
    ⟨fun b o z n hb hx => u.keep b o (hp2 b o z) (by rw [fr b (.inr ⟨o, z⟩)]; exact n) hb hx, fun b o z n hb hx => u.slot b o (hp2 b o z) (by rw [fr b (.inr ⟨o, z⟩)]; exact n) hb hx, fun b o z n hx => u.free b o (hp2 b o z) (by rw [fr b (.inr ⟨o, z⟩)]; exact n) hx,
      fun b o z hx => u.there b o (hp2 b o z) hx, fun b xs z => u.tups b xs (by rw [fr b (.inl (by rw [z]; exact nofun))]; exact z), fun b o x2 z => u.frzs b o x2 (by rw [fr b (.inl (by rw [z]; exact nofun))]; exact z), fun b p2 z => u.tbls b p2 (by rw [fr b (.inl (by rw [z]; exact nofun))]; exact z)⟩
  refine make_map (f := f) inH M.makes M.init (beq_iff_eq.mp M.fn) (codeAny_mono (cal _ outer _ _ (Value.ref (s.heap.objs.size + 1) :: us) ws (V.ref (s.heap.objs.size + 1) :: vs) zs (fun v H3 => v = .non ∧ Q (.ref (s.heap.objs.size + 1)) H3) E (hr.make (G.cl c) us (kn.zip ws)) ?g (e0'.make (G.cl c) us (kn.zip ws)) (.cons rfl rv) rz lz ?sp) fun rr s3 hq => ?_)
  case g => first | exact hg | (simpa [Around.under, Code.guards, Code.isGuard, pushGuards] using hg)
  case sp =>
    refine ⟨_, st ++ [.ins c []], .loc st.length :: ts, ⟨⟨rfl, fun i t e => by simp at e⟩, s2⟩, ⟨_, _, rfl, ⟨_, rfl, by rw [← rs.sto.len]; simp⟩, Rps.mov S2.toMov _ _ r⟩, ?_⟩
    cases eF : F (.loc st.length :: ts) (st ++ [.ins c []]) with
    | bad =>
      cases md with
      | true => have q : Rn G (fun cls d _ H' => E cls d H') [] [] (Rp G) m H (mkL cs c F ts st) (Kq Q) := q; unfold mkL at q; rw [eF] at q; exact q.elim
      | false => have q : Rn G (fun cls d _ H' => E cls d H') [] [] (Rp G) m H (mkF cs c F ts st) (Kq Q) := q; unfold mkF at q; rw [eF] at q; exact q.elim
    | exc e st1 =>
      intro cls d H' m' rs' y re
      cases md with
      | true =>
        have q : Rn G (fun cls d _ H' => E cls d H') [] [] (Rp G) m H (mkL cs c F ts st) (Kq Q) := q
        unfold mkL at q; rw [eF] at q
        exact q cls d H' m' rs' (S2.trans y) re
      | false =>
        have q : Rn G (fun cls d _ H' => E cls d H') [] [] (Rp G) m H (mkF cs c F ts st) (Kq Q) := q
        unfold mkF at q; rw [eF] at q
        exact q cls d H' m' rs' (S2.trans y) re
    | ok t st1 =>
      intro b H' m' rs' y rb
      have hloc : Rp G m' H' (.loc st.length) (.ref (s.heap.objs.size + 1)) := ⟨_, rfl, pre_get y.toMov (by rw [← rs.sto.len]; simp)⟩
      cases md with
      | true =>
        have q : Rn G (fun cls d _ H' => E cls d H') [] [] (Rp G) m H (mkL cs c F ts st) (Kq Q) := q
        unfold mkL at q; rw [eF] at q
        cases t with
        | non => exact ⟨rb, q _ H' m' rs' (S2.trans y) hloc⟩
        | _ => exact q.elim
      | false =>
        have q : Rn G (fun cls d _ H' => E cls d H') [] [] (Rp G) m H (mkF cs c F ts st) (Kq Q) := q
        unfold mkF at q; rw [eF] at q
        cases t with
        | non => exact ⟨rb, finR_ok kc (S2.trans y) rs.sto.len rs'.sto hloc q⟩
        | _ => exact q.elim
  · match rr, hq with
    | .error e, hq =>
      obtain ⟨a, B, H3, cls, d, ea, fl, hok, ub, na, os, ag, z⟩ := hq
      refine ⟨a, B, H3, cls, d, ea, fl, hok, ⟨fun b o zz n hb => ub.keep b o (hp2 b o zz) (by rw [fr b (.inr ⟨o, zz⟩)]; exact n) hb, fun b o zz hb => ub.slot b o (hp2 b o zz) hb, fun b o zz n => ub.free b o (hp2 b o zz) (by rw [fr b (.inr ⟨o, zz⟩)]; exact n),
        fun b o zz hb => ub.there b o (hp2 b o zz) hb, fun b xs zz => ub.tups b xs (by rw [fr b (.inl (by rw [zz]; exact nofun))]; exact zz), fun b o x2 zz => ub.frzs b o x2 (by rw [fr b (.inl (by rw [zz]; exact nofun))]; exact zz), fun b p2 zz => ub.tbls b p2 (by rw [fr b (.inl (by rw [zz]; exact nofun))]; exact zz)⟩, na, os, ag, z⟩
    | .ok (.ret u), hq =>
      obtain ⟨v, H3, os, bare, un, hok, rv2, ev, q3⟩ := hq
      subst ev
      exact ⟨rv2, ⟨V.ref (s.heap.objs.size + 1), H3, os, bare, unOut un, hok, rfl, q3⟩⟩
    | .ok .next, hq => exact hq.elim
    | .ok .brk, hq => exact hq.elim
    | .ok .cont, hq => exact hq.elim
end
end Eg
set_option Elab.async false
set_option linter.all false
set_option maxRecDepth 100000
set_option maxHeartbeats 4000000
/-! The engine, part seventeen: the language of expressions, its meaning, its likeness to a text. -/
namespace Eg
open PySem PySem.Spec PyProof.Rows L2
mutual
inductive IE where
  | never | k (c : T) | v (i : Nat) | g (j : Nat)
  | bin (op : Operator) (a b : IE) | tr (a b : IE) | neg (a : IE) | not (a : IE)
  | cmp (op : CmpOp) (a b : IE) | isN (n : Bool) (a : IE) | chain (o1 o2 : CmpOp) (a b c : IE)
  | and (a b : IE) | or (a b : IE) | ite (c a b : IE)
  | tup (es : IEs) | ix (a b : IE) | sl (a : IE) (lo hi : IO)
  | fz (l : IL) | new (l : IL) | call (f : Nat) (es ks : IEs) | bi (b : Bi) (es : IEs)
  | mu (o : Mu) (a : IE) (es : IEs) | str (a : IE) | repr (a : IE) | attr (f : Str) (a : IE) | isi (g : Tg) (a : IE)
inductive IL where
  | lst (es : IEs) | lc (own : List Nat) (e : IE) (g : IG) (it : II) (c : IO)
  | lc2 (own vs1 : List Nat) (e : IE) (g : IG) (it : II) (c : IO) (g1 : IG) (it1 : II) (c1 : IO)
  | cat (a b : IE) | rep (a b : IE) | list (a : IE) | sl (a : IE) (lo hi : IO) | zip3 (a b c : IE)
inductive IEs where
  | nil | cons (e : IE) (es : IEs)
inductive IO where
  | none | some (e : IE)
inductive II where
  | seq (e : IE) | rng1 (a : IE) | rng2 (a b : IE) | enum (e : IE) | zip (a b : IE)
end
/-! ### meanings -/
def fNever : Env → Sto → R T := fun _ _ => .bad
def fK (c : T) : Env → Sto → R T := fun _ st => .ok c st
def fGl (tb : Tab) (j : Nat) : Env → Sto → R T := fun _ st => match tb.cons[j]? with
  | some p => .ok p.2 st
  | none => .bad
def fBin (op : Operator) (fa fb : Env → Sto → R T) : Env → Sto → R T := fun env st => (fa env st).bnd fun x st1 => (fb env st1).bnd fun y st2 => R.opt (binT op x y) st2
def fNeg (fa : Env → Sto → R T) : Env → Sto → R T := fun env st => (fa env st).bnd fun x st1 => match x with
  | .int i => .ok (.int (-i)) st1
  | _ => .bad
def fCmp (op : CmpOp) (fa fb : Env → Sto → R T) : Env → Sto → R T := fun env st => (fa env st).bnd fun x st1 => (fb env st1).bnd fun y st2 => R.opt ((cmpT st2 op x y).map .bl) st2
def fIsN (n : Bool) (fa : Env → Sto → R T) : Env → Sto → R T := fun env st => (fa env st).bnd fun x st1 => .ok (.bl (isNn n x)) st1
def fTup (fs : Env → Sto → R (List T)) : Env → Sto → R T := fun env st => (fs env st).bnd fun xs st1 => if xs.length ≤ lim then .ok (.tup xs) st1 else .bad
def fIx (fa fb : Env → Sto → R T) : Env → Sto → R T := fun env st => (fa env st).bnd fun x st1 => (fb env st1).bnd fun y st2 => R.opt (ixT st2 x y) st2
def fSl (fa : Env → Sto → R T) (fl fh : Env → Sto → R (Option Int)) : Env → Sto → R T := fun env st => (fa env st).bnd fun x st1 => (fl env st1).bnd fun l st2 => (fh env st2).bnd fun u st3 => match x with
  | .tup xs => .ok (.tup (cut xs l u)) st3
  | _ => .bad
def fFz (fl : Env → Sto → R (List T)) : Env → Sto → R T := fun env st => (fl env st).bnd fun xs st1 => .ok (.lst xs) st1
def fFn (o : Option Fn) (fs fk : Env → Sto → R (List T)) : Env → Sto → R T := fun env st => match o with
  | some fn => (fs env st).bnd fun xs st1 => (fk env st1).bnd fun ys st2 => if ys.length = fn.ks.length then fn.F (xs ++ ys) st2 else .bad
  | none => .bad
def fBi (b : Bi) (fs : Env → Sto → R (List T)) : Env → Sto → R T := fun env st => (fs env st).bnd fun xs st1 => R.opt (biT st1 b xs) st1
def fNil : Env → Sto → R (List T) := fun _ st => .ok [] st
def fCons (fa : Env → Sto → R T) (fs : Env → Sto → R (List T)) : Env → Sto → R (List T) := fun env st => (fa env st).bnd fun x st1 => (fs env st1).bnd fun xs st2 => .ok (x :: xs) st2
def fNo' : Env → Sto → R (Option Int) := fun _ st => .ok none st
def fSo (fa : Env → Sto → R T) : Env → Sto → R (Option Int) := fun env st => (fa env st).bnd fun x st1 => match x with
  | .int i => .ok (some i) st1
  | _ => .bad
mutual
def IE.ev (tb : Tab) : IE → Env → Sto → R T
  | .never => fNever
  | .k c => fK c
  | .v i => evV i
  | .g j => fGl tb j
  | .bin op a b => fBin op (a.ev tb) (b.ev tb)
  | .tr a b => fTr (a.ev tb) (b.ev tb)
  | .neg a => fNeg (a.ev tb)
  | .not a => fNot (a.ev tb)
  | .cmp op a b => fCmp op (a.ev tb) (b.ev tb)
  | .isN n a => fIsN n (a.ev tb)
  | .chain o1 o2 a b c => fChain o1 o2 (a.ev tb) (b.ev tb) (c.ev tb)
  | .and a b => fAnd (a.ev tb) (b.ev tb)
  | .or a b => fOr (a.ev tb) (b.ev tb)
  | .ite c a b => fIte (c.ev tb) (a.ev tb) (b.ev tb)
  | .tup es => fTup (es.ev tb)
  | .ix a b => fIx (a.ev tb) (b.ev tb)
  | .sl a lo hi => fSl (a.ev tb) (lo.ev tb) (hi.ev tb)
  | .fz l => fFz (l.ev tb)
  | .new l => fNew (l.ev tb)
  | .call f es ks => fFn tb.funs[f]? (es.ev tb) (ks.ev tb)
  | .bi b es => fBi b (es.ev tb)
  | .mu o a es => fMu o (a.ev tb) (es.ev tb)
  | .str a => fStr (a.ev tb)
  | .repr a => fRepr (a.ev tb)
  | .attr f a => fAttr tb.cls f (a.ev tb)
  | .isi g a => fIsi tb.cls.length tb.isi g (a.ev tb)
def IL.ev (tb : Tab) : IL → Env → Sto → R (List T)
  | .lst es => fDl (es.ev tb)
  | .lc own e g it c => fLc own (e.ev tb) g (it.ev tb) (c.test tb)
  | .lc2 own vs1 e g it c g1 it1 c1 => fLc2 own vs1 (e.ev tb) g (it.ev tb) (c.test tb) g1 (it1.ev tb) (c1.test tb)
  | .cat a b => fCat (a.ev tb) (b.ev tb)
  | .rep a b => fRep (a.ev tb) (b.ev tb)
  | .list a => fLi (a.ev tb)
  | .sl a lo hi => fSlL (a.ev tb) (lo.ev tb) (hi.ev tb)
  | .zip3 a b c => fZ3 (a.ev tb) (b.ev tb) (c.ev tb)
def IEs.ev (tb : Tab) : IEs → Env → Sto → R (List T)
  | .nil => fNil
  | .cons e es => fCons (e.ev tb) (es.ev tb)
def IO.ev (tb : Tab) : IO → Env → Sto → R (Option Int)
  | .none => fNo'
  | .some e => fSo (e.ev tb)
def IO.test (tb : Tab) : IO → Env → Sto → R Bool
  | .none => fYes
  | .some e => fTst (e.ev tb)
def II.ev (tb : Tab) : II → Env → Sto → R (List T)
  | .seq e => fSeq (e.ev tb)
  | .rng1 a => fRg1 (a.ev tb)
  | .rng2 a b => fRg2 (a.ev tb) (b.ev tb)
  | .enum e => fEn (e.ev tb)
  | .zip a b => fPr (a.ev tb) (b.ev tb)
end
/-! ### likeness -/
def kC : T → Const → Bool
  | .non, .none => true
  | .bl b, .bool c => b == c
  | .int i, .int j => decide (i = j)
  | .str x, .str y => decide (x = y)
  | _, _ => false
def glC (c : CC) (x : Str) : Bool := match c.sc.names.lookup x with
  | some .globalImplicit => !(x == ("__debug__" : Str)) && !(x == ("__name__" : Str))
  | _ => false
def plIx : Expr → Bool
  | .Slice .. => false
  | _ => true
def notStar : Expr → Bool
  | .Starred .. => false
  | _ => true
def notSet : Expr → Bool
  | .Set .. => false
  | _ => true
/-- receivers that super() is not -/
def plO : Expr → Bool
  | .Call (.Name _ _) [] [] _ => false
  | _ => true
/-- what may be a test as it stands -/
def IE.tst : IE → Bool
  | .not a => a.tst
  | .and a b => a.tst && b.tst
  | .or a b => a.tst && b.tst
  | .ite _ _ _ => false
  | .never => false
  | _ => true
def tgC (c : CC) (tb : Tab) (g : Tg) (x : Str) : Bool := glC c x && decide (tb.tgs.lookup x = some g)
def ksC (kn : List Str) (kws : List Keyword) : Bool := decide (kws.map (·.arg) = kn.map some)
def blkCC (c : CC) (scope : Scope) : CC := ⟨c.N, relS scope c.sc, fun x => scope.names.lookup x == some .cell⟩
def ownP (c : CC) (own : List Nat) : List (Str × Nat) := own.filterMap fun i => c.N[i]?.map fun x => (x, i)
mutual
def chkE (c : CC) (tb : Tab) : IE → Expr → Bool
  | .never, _ => true
  | .k t, e => match e with
    | .Constant q _ _ => kC t q
    | _ => false
  | .v i, e => match e with
    | .Name x _ => visC c i x
    | _ => false
  | .g j, e => match e with
    | .Name x _ => glC c x && decide (tb.cons[j]?.map (·.1) = some x)
    | _ => false
  | .bin op a b, e => match e with
    | .BinOp x o y _ => decide (o = op) && chkE c tb a x && chkE c tb b y
    | _ => false
  | .tr a b, e => match e with
    | .BinOp x o y _ => decide (o = .Mult) && chkE c tb a x && chkE c tb b y
    | _ => false
  | .neg a, e => match e with
    | .UnaryOp o x _ => decide (o = .USub) && chkE c tb a x
    | _ => false
  | .not a, e => match e with
    | .UnaryOp o x _ => decide (o = .Not) && a.tst && chkE c tb a x
    | _ => false
  | .cmp op a b, e => match e with
    | .Compare x [o] [y] _ => decide (o = op) && !behindInMarks op y && chkE c tb a x && chkE c tb b y
    | _ => false
  | .isN n a, e => match e with
    | .Compare x [o] [.Constant .none _ _] _ => decide (o = if n then .IsNot else .Is) && chkE c tb a x
    | _ => false
  | .chain o1 o2 a b d, e => match e with
    | .Compare x [p1, p2] [y, z] _ => decide (p1 = o1) && decide (p2 = o2) && !lastMarks [o1, o2] [y, z] && chkE c tb a x && chkE c tb b y && chkE c tb d z
    | _ => false
  | .and a b, e => match e with
    | .BoolOp .And (x :: y :: r) p => a.tst && b.tst && chkE c tb a x && chkE c tb b (match r with
      | [] => y
      | _ :: _ => .BoolOp .And (y :: r) p)
    | _ => false
  | .or a b, e => match e with
    | .BoolOp .Or (x :: y :: r) p => a.tst && b.tst && chkE c tb a x && chkE c tb b (match r with
      | [] => y
      | _ :: _ => .BoolOp .Or (y :: r) p)
    | _ => false
  | .ite d a b, e => match e with
    | .IfExp z x y _ => d.tst && chkE c tb d z && chkE c tb a x && chkE c tb b y
    | _ => false
  | .tup es, e => match e with
    | .Tuple xs _ _ => chkEs c tb es xs
    | _ => false
  | .ix a b, e => match e with
    | .Subscript x y _ => plIx y && chkE c tb a x && chkE c tb b y
    | _ => false
  | .sl a lo hi, e => match e with
    | .Subscript x (.Slice l h none _) _ => chkE c tb a x && chkO c tb lo l && chkO c tb hi h
    | _ => false
  | .fz l, e => chkL c tb l e
  | .new l, e => chkL c tb l e
  | .call f es ks, e => match e with
    | .Call (.Name x _) xs kws _ => glC c x && (match tb.funs[f]? with
      | some fn => decide (fn.name = x) && ksC fn.ks kws
      | none => false) && chkEs c tb es xs && chkK c tb ks kws
    | _ => false
  | .bi b es, e => match e with
    | .Call (.Name x _) (y :: xs) [] _ => decide (x = biName b) && glC c x && chkEs c tb es (y :: xs)
    | _ => false
  | .mu o a es, e => match e with
    | .Call (.Attribute x m ap) (y :: xs) [] p => decide (o ≠ .pop) && decide (m = muName o) && (ap.endLine == p.line) && plO x && decide (xs.length < 20) && chkE c tb a x && chkEs c tb es (y :: xs)
    | .Call (.Attribute x m ap) [] [] p => decide (o = .pop) && decide (m = muName o) && (ap.endLine == p.line) && plO x && chkE c tb a x && (match es with
      | .nil => true
      | _ => false)
    | _ => false
  | .str a, e => match e with
    | .Call (.Name x _) [y] [] _ => decide (x = "str") && glC c x && notStar y && chkE c tb a y
    | _ => false
  | .repr a, e => match e with
    | .Call (.Name x _) [y] [] _ => decide (x = "repr") && glC c x && notStar y && chkE c tb a y
    | _ => false
  | .attr f a, e => match e with
    | .Attribute x m _ => decide (m = f) && plO x && chkE c tb a x
    | _ => false
  | .isi g a, e => match e with
    | .Call (.Name x _) [y, .Name z _] [] _ => decide (x = "isinstance") && glC c x && tgC c tb g z && notStar y && chkE c tb a y
    | _ => false
def chkL (c : CC) (tb : Tab) : IL → Expr → Bool
  | .lst es, e => match e with
    | .List xs _ => chkEs c tb es xs
    | _ => false
  | .lc own d g it t, e => match e with
    | .ListComp elt [⟨tg, iter, ifs, 0⟩] scope _ => chkI c tb it tg iter && blkC c.N c.sc scope (ownP c own) && decide ((ownP c own).map (·.2) = own) && decide (∀ i, i ∈ g.slots → i ∈ own) && notSet iter &&
        chkG (blkCC c scope) g tg && chkE (blkCC c scope) tb d elt && chkIf (blkCC c scope) tb t ifs
    | _ => false
  | .lc2 own vs1 d g it t g1 it1 t1, e => match e with
    | .ListComp elt [⟨tg, iter, ifs, 0⟩, ⟨tg1, iter1, ifs1, 0⟩] scope _ => chkI c tb it tg iter && blkC c.N c.sc scope (ownP c own) && decide ((ownP c own).map (·.2) = own) && decide (∀ i, i ∈ g.slots → i ∈ own) && decide (∀ i, i ∈ g1.slots → i ∈ vs1) && decide (∀ i, i ∈ vs1 → i ∈ own) && notSet iter && notSet iter1 &&
        chkG (blkCC c scope) g tg && chkE (blkCC c scope) tb d elt && chkIf (blkCC c scope) tb t ifs && chkI (blkCC c scope) tb it1 tg1 iter1 && chkG (blkCC c scope) g1 tg1 && chkIf (blkCC c scope) tb t1 ifs1
    | _ => false
  | .cat a b, e => match e with
    | .BinOp x o y _ => decide (o = .Add) && chkE c tb a x && chkE c tb b y
    | _ => false
  | .rep a b, e => match e with
    | .BinOp x o y _ => decide (o = .Mult) && chkE c tb a x && chkE c tb b y
    | _ => false
  | .list a, e => match e with
    | .Call (.Name x _) [y] [] _ => decide (x = "list") && glC c x && notStar y && chkE c tb a y
    | _ => false
  | .sl a lo hi, e => match e with
    | .Subscript x (.Slice l h none _) _ => chkE c tb a x && chkO c tb lo l && chkO c tb hi h
    | _ => false
  | .zip3 a b d, e => match e with
    | .Call (.Name x _) [.Call (.Name y _) [u, v, w] [] _] [] _ => decide (x = "list") && decide (y = "zip") && glC c x && glC c y && notStar u && notStar v && notStar w && chkE c tb a u && chkE c tb b v && chkE c tb d w
    | _ => false
def chkEs (c : CC) (tb : Tab) : IEs → List Expr → Bool
  | .nil, xs => match xs with
    | [] => true
    | _ => false
  | .cons e es, xs => match xs with
    | x :: r => notStar x && chkE c tb e x && chkEs c tb es r
    | _ => false
def chkK (c : CC) (tb : Tab) : IEs → List Keyword → Bool
  | .nil, xs => match xs with
    | [] => true
    | _ => false
  | .cons e es, xs => match xs with
    | ⟨_, x, _⟩ :: r => chkE c tb e x && chkK c tb es r
    | _ => false
def chkO (c : CC) (tb : Tab) : IO → Option Expr → Bool
  | .none, o => match o with
    | .none => true
    | _ => false
  | .some e, o => match o with
    | .some x => chkE c tb e x
    | _ => false
def chkIf (c : CC) (tb : Tab) : IO → List Expr → Bool
  | .none, o => match o with
    | [] => true
    | _ => false
  | .some e, o => match o with
    | [x] => e.tst && chkE c tb e x
    | _ => false
def chkI (c : CC) (tb : Tab) : II → Expr → Expr → Bool
  | .seq d, _, e => chkE c tb d e
  | .rng1 a, _, e => match e with
    | .Call (.Name x _) [y] [] _ => decide (x = "range") && glC c x && notStar y && chkE c tb a y
    | _ => false
  | .rng2 a b, _, e => match e with
    | .Call (.Name x _) [y, z] [] _ => decide (x = "range") && glC c x && notStar y && notStar z && chkE c tb a y && chkE c tb b z
    | _ => false
  | .enum d, tg, e => match tg, e with
    | .Tuple _ _ _, .Call (.Name x _) [y] [] _ => decide (x = "enumerate") && glC c x && notStar y && chkE c tb d y
    | _, _ => false
  | .zip a b, tg, e => match tg, e with
    | .Tuple _ _ _, .Call (.Name x _) [y, z] [] _ => decide (x = "zip") && glC c x && notStar y && notStar z && chkE c tb a y && chkE c tb b z
    | _, _ => false
end
end Eg
set_option Elab.async false
set_option linter.all false
set_option maxRecDepth 100000
set_option maxHeartbeats 4000000
/-! The engine, part eighteen: an expression that is like a text does what it means. -/
namespace Eg
open PySem PySem.Spec PyProof.Rows L2
def plainNames : List Str := ["len", "sum", "max", "min", "abs", "int", "tuple", "all", "any", "divmod", "list", "range", "enumerate", "zip", "str", "repr", "isinstance"]
/-- what the module holds -/
structure TabOk (P : Program) (w : World) (K : PySem.W.Frag) (mg : Str → Option Value) (base : Heap) (lv : Nat) (G : Gh) (tb : Tab) : Prop where
  no : ∀ x, x ∈ plainNames → mg x = none
  cons : ∀ (j : Nat) p, tb.cons[j]? = some p → ∃ u v, mg p.1 = some u ∧ RelV v u ∧ kT p.2 = some v
  funs : ∀ (j : Nat) fn, tb.funs[j]? = some fn → ∃ f, mg fn.name = some (.ref f) ∧ PySem.W.keepIn K (.ref f) = true ∧ Cal P w K mg base lv G fn.ks fn.F f
  cls : ∀ (k : Nat) ci, tb.cls[k]? = some ci → ClsOk P w K mg base lv G k ci
  isi : ∀ ty g k, tb.isi.lookup (ty, g) = some k → PySem.W.kitOne K (tyVal G ty) (tgVal G g) = some k
  tgs : ∀ x g, tb.tgs.lookup x = some g → (∃ n, g = .ty n ∧ mg x = none ∧ bootBuiltins x = some (.type n)) ∨ (∃ k, g = .cls k ∧ mg x = some (.ref (G.cl k)))
/-- where a text stands -/
structure Okx (X : Cx) (c : CC) (G : Gh) (tb : Tab) (lv : Nat) : Prop where
  hN : X.N = c.N
  hs : X.env.scope = c.sc
  hf : X.fn = c.fn
  nd : X.N.Nodup
  hK : X.K = G.K
  calm : X.calm = true
  room : Room (lv + 1) X.A
  gd : X.A.guards = some []
  tab : TabOk X.prog X.w X.K X.mg X.base lv G tb
section
variable {X : Cx} {c : CC} {G : Gh} {W : WX} {tb : Tab} {lv : Nat} {e : Expr} {es : List Expr} {x : Str} {i : Nat} {fa : Env → Sto → R T}
theorem Okx.units (ok : Okx X c G tb lv) : X.A.units + 65 < cLine := by have := ok.room.un; omega
theorem Okx.gl (ok : Okx X c G tb lv) (h : glC c x = true) : Gl X x ∧ (x == ("__debug__" : Str)) = false ∧ x ≠ "__name__" := by
  unfold glC at h
  split at h
  · rename_i e
    simp only [Bool.and_eq_true, Bool.not_eq_true'] at h
    exact ⟨by unfold Gl PySem.Env.kindOf; rw [ok.hs]; exact e, h.1, fun z => by rw [z] at h; simp at h⟩
  · cases h
theorem Okx.vis (ok : Okx X c G tb lv) (h : visC c i x = true) : X.N[i]? = some x ∧ Vis X.env.scope x ∧ (x == ("__debug__" : Str)) = false ∧ (x == ("__classdict__" : Str)) = false := by
  unfold visC at h
  simp only [Bool.and_eq_true, decide_eq_true_eq, Bool.not_eq_true'] at h
  obtain ⟨⟨⟨h1, h2⟩, h3⟩, h4⟩ := h
  refine ⟨by rw [ok.hN]; exact h1, ?_, h3, h4⟩
  unfold Vis
  rw [ok.hs]
  split at h2
  · rename_i z; exact .inl z
  · rename_i z; exact .inr (.inl z)
  · rename_i z; exact .inr (.inr z)
  · cases h2
theorem Okx.blk (ok : Okx X c G tb lv) (s : Shared) (H : Hp) (scope : Scope) (C : Addr) (cl : List (Str × Addr)) (fp : List Addr) : Okx (X.blk s H scope (compEnvC scope cl C X.env) fp) (blkCC c scope) G tb lv := by
  refine ⟨ok.hN, ?_, rfl, ok.nd, ok.hK, ok.calm, ok.room, ok.gd, ok.tab⟩
  show relabel scope X.env = relS scope c.sc
  rw [← ok.hs]
  rfl
theorem takes0 {X : Cx} : Takes X W0 := fun u s' ⟨_, _, _, _, _, _, _, _, _, _, _, _, _, _, _, _, z⟩ => z.elim
theorem star1 (h : notStar e = true) (env : PySem.Env) : starEach [e] env = [(false, eval e env)] := by cases e <;> first | rfl | cases h
theorem starC (h : notStar e = true) (env : PySem.Env) : starEach (e :: es) env = (false, eval e env) :: starEach es env := by cases e <;> first | rfl | cases h
theorem chkEs_star (env : PySem.Env) : ∀ {is : IEs} {es : List Expr}, chkEs c tb is es = true → (starEach es env).all (fun x => !x.1) = true
  | .nil, [], _ => rfl
  | .nil, _ :: _, h => by simp [chkEs] at h
  | .cons _ _, [], h => by simp [chkEs] at h
  | .cons i is, e :: es, h => by
    simp only [chkEs, Bool.and_eq_true] at h
    rw [starC h.1.1]
    simp only [List.all_cons, Bool.not_false, Bool.true_and]
    exact chkEs_star env h.2
theorem plain_tst {i : IE} (h : PE X e (tE G W fa)) (he : ∀ whole, isTrue e X.env whole = (do let v ← whole; standAt e.pos; holding [v] (truthy v))) : PE X e (tE G W fa) ∧ (i.tst = true → PT X e (tTest (tE G W fa))) :=
  ⟨h, fun _ => pt_val h he⟩
theorem kC_ok {t : T} {q : Const} {k : Nat} {p : Pos} (h : kC t q = true) : PE X (.Constant q k p) (tE G W (fK t)) := by
  cases t with
  | non => cases q <;> first | (cases h; done) | exact s_k (v := .non) rfl pe_non
  | bl b => cases q <;> first | (cases h; done) | (rename_i z; have : b = z := by simpa [kC] using h
                                                   subst this; exact s_k (v := .bl b) rfl pe_bl)
  | int b => cases q <;> first | (cases h; done) | (rename_i z; have : b = z := by simpa [kC] using h
                                                    subst this; exact s_k (v := .int b) rfl pe_int)
  | str b => cases q <;> first | (cases h; done) | (rename_i z; have : b = z := by simpa [kC] using h
                                                    subst this; exact s_k (v := .str b) rfl pe_str)
  | _ => cases q <;> cases h
theorem never_ok : PE X e (tE G W fNever) := ⟨fun pins s σ H Q I ⟨m, env, st, rs, q⟩ => q.elim⟩
theorem s_neg {p : Pos} (h : PE X e (tE G W fa)) : PE X (.UnaryOp .USub e p) (tE G W (fNeg fa)) := by
  refine PE.imp (pe_un un_neg h) fun σ H Q h => ?_
  show tE G W fa σ H fun v H1 => ∃ i, v = .int i ∧ Q (.int (-i)) H1
  refine at1 (g := fun _ x st1 => match x with
    | T.int i => R.ok (T.int (-i)) st1
    | _ => R.bad) (rel := Rp G) (K := Kq Q) h fun m env st t v H1 rs r q => ?_
  cases t with
  | int i => exact ⟨i, r, Rn.give (b := .int (-i)) q rs rfl⟩
  | _ => exact q.elim
theorem gl_ok (ok : Okx X c G tb lv) {j : Nat} {p : Pos} (h : glC c x = true) (h2 : tb.cons[j]?.map (·.1) = some x) : PE X (.Name x p) (tE G W (fGl tb j)) := by
  obtain ⟨g, hd, _⟩ := ok.gl h
  cases e : tb.cons[j]? with
  | none => rw [e] at h2; cases h2
  | some q =>
    obtain ⟨u, v, hm, rv, hk⟩ := ok.tab.cons j q e
    rw [e] at h2
    have : q.1 = x := by simpa using h2
    rw [this] at hm
    refine PE.imp (pe_glob g hm rv hd) fun σ H Q ⟨m, env, st, rs, q2⟩ => ?_
    unfold fGl at q2
    rw [e] at q2
    exact Rn.give q2 rs (kT_rp hk)
theorem tg_ok (ok : Okx X c G tb lv) {g : Tg} {p : Pos} (h : tgC c tb g x = true) : PE X (.Name x p) (tC (tgV G g)) := by
  unfold tgC at h
  rw [Bool.and_eq_true, decide_eq_true_eq] at h
  obtain ⟨gg, hd, hn⟩ := ok.gl h.1
  rcases ok.tab.tgs x g h.2 with ⟨n, rfl, hm, hb⟩ | ⟨k, rfl, hm⟩
  · exact pe_bltn gg hm hb rfl hn hd
  · exact pe_glob gg hm rfl hd
theorem ab_ok {m : Str} (h : plO e = true) : attributeBase e m X.env (eval e X.env) = eval e X.env := by
  unfold attributeBase
  cases e with
  | Call f a k p =>
    cases f with
    | Name id q =>
      cases a with
      | nil => cases k with
        | nil => cases h
        | cons _ _ => rfl
      | cons _ _ => rfl
    | _ => rfl
  | _ => rfl
theorem bi_mem (b : Bi) : biName b ∈ plainNames := by cases b <;> decide
end
end Eg
set_option Elab.async false
set_option linter.all false
set_option maxRecDepth 100000
set_option maxHeartbeats 8000000
/-! The engine, part nineteen: THE THEOREM of expressions. -/
namespace Eg
open PySem PySem.Spec PyProof.Rows L2
section
variable {G : Gh} {tb : Tab} {lv : Nat}
theorem pt_bool {X : Cx} {op : BoolOp} {vs : List Expr} {p : Pos} {t : TT} (h : PT X (.BoolOp op vs p) t) : PW X (.BoolOp op vs p) t := ⟨fun whole pins s σ H Q I q => h.run pins s σ H Q I q⟩
theorem few_ok {X : Cx} {es : List Expr} {p : Pos} (h : (starEach es X.env).all (fun x => !x.1) = true) (hl : es.length < 25) : Few X es p := by
  unfold Few
  have h1 : (backTo p (starEach es X.env)).all (fun x => !x.1) = true := by
    unfold backTo
    rw [List.all_map]
    exact h
  rw [h1]
  simp [keywordEach, backToKw]
  omega
theorem fn_none {o : Option Fn} {fs fk : Env → Sto → R (List T)} (h : o = none) : fFn o fs fk = fNever := by subst h; rfl
mutual
theorem e_ok : ∀ (i : IE) {X : Cx} {c : CC} {W : WX} {e : Expr}, Okx X c G tb lv → Takes X W → chkE c tb i e = true → PE X e (tE G W (i.ev tb)) ∧ (i.tst = true → PT X e (tTest (tE G W (i.ev tb))))
  | .never, X, c, W, e, ok, tk, h => ⟨by rw [IE.ev]; exact never_ok, fun z => by simp [IE.tst] at z⟩
  | .k t, X, c, W, e, ok, tk, h => by
    unfold chkE at h; rw [IE.ev]
    split at h
    · exact plain_tst (kC_ok h) fun _ => rfl
    · cases h
  | .v i, X, c, W, e, ok, tk, h => by
    unfold chkE at h; rw [IE.ev]
    split at h
    · obtain ⟨h1, h2, h3, h4⟩ := ok.vis h
      exact plain_tst (s_v h1 h2 h3 h4) fun _ => rfl
    · cases h
  | .g j, X, c, W, e, ok, tk, h => by
    unfold chkE at h; rw [IE.ev]
    split at h
    · rw [Bool.and_eq_true, decide_eq_true_eq] at h
      exact plain_tst (gl_ok ok h.1 h.2) fun _ => rfl
    · cases h
  | .bin op a b, X, c, W, e, ok, tk, h => by
    unfold chkE at h; rw [IE.ev]
    split at h
    · simp only [Bool.and_eq_true, decide_eq_true_eq] at h
      obtain ⟨⟨rfl, h1⟩, h2⟩ := h
      exact plain_tst (s_bin ok.hK (e_ok a ok tk h1).1 (e_ok b ok tk h2).1) fun _ => rfl
    · cases h
  | .tr a b, X, c, W, e, ok, tk, h => by
    unfold chkE at h; rw [IE.ev]
    split at h
    · simp only [Bool.and_eq_true, decide_eq_true_eq] at h
      obtain ⟨⟨rfl, h1⟩, h2⟩ := h
      exact plain_tst (s_tr ok.hK (e_ok a ok tk h1).1 (e_ok b ok tk h2).1) fun _ => rfl
    · cases h
  | .neg a, X, c, W, e, ok, tk, h => by
    unfold chkE at h; rw [IE.ev]
    split at h
    · simp only [Bool.and_eq_true, decide_eq_true_eq] at h
      obtain ⟨rfl, h1⟩ := h
      exact plain_tst (s_neg (e_ok a ok tk h1).1) fun _ => rfl
    · cases h
  | .not a, X, c, W, e, ok, tk, h => by
    unfold chkE at h; rw [IE.ev]
    split at h
    · simp only [Bool.and_eq_true, decide_eq_true_eq] at h
      obtain ⟨⟨rfl, h1⟩, h2⟩ := h
      have z := e_ok a ok tk h2
      exact ⟨s_not z.1, fun _ => t_not (z.2 h1)⟩
    · cases h
  | .cmp op a b, X, c, W, e, ok, tk, h => by
    unfold chkE at h; rw [IE.ev]
    split at h
    · simp only [Bool.and_eq_true, decide_eq_true_eq, Bool.not_eq_true'] at h
      obtain ⟨⟨⟨rfl, h1⟩, h2⟩, h3⟩ := h
      have za := (e_ok a ok tk h2).1
      have zb := (e_ok b ok tk h3).1
      exact ⟨s_cmp ok.hK ok.units h1 za zb, fun _ => t_cmp ok.hK ok.units h1 za zb⟩
    · cases h
  | .isN n a, X, c, W, e, ok, tk, h => by
    unfold chkE at h; rw [IE.ev]
    split at h
    · simp only [Bool.and_eq_true, decide_eq_true_eq] at h
      obtain ⟨rfl, h1⟩ := h
      have za := (e_ok a ok tk h1).1
      exact ⟨pe_isN za, fun _ => pt_isN za⟩
    · cases h
  | .chain o1 o2 a b d, X, c, W, e, ok, tk, h => by
    unfold chkE at h; rw [IE.ev]
    split at h
    · simp only [Bool.and_eq_true, decide_eq_true_eq, Bool.not_eq_true'] at h
      obtain ⟨⟨⟨⟨⟨rfl, rfl⟩, h0⟩, h1⟩, h2⟩, h3⟩ := h
      have za := (e_ok a ok tk h1).1
      have zb := (e_ok b ok tk h2).1
      have zd := (e_ok d ok tk h3).1
      exact ⟨s_chain ok.hK ok.units h0 za zb zd, fun _ => t_chain ok.hK ok.units h0 za zb zd⟩
    · cases h
  | .and a b, X, c, W, e, ok, tk, h => by
    unfold chkE at h; rw [IE.ev]
    split at h
    · rename_i x y r p
      simp only [Bool.and_eq_true] at h
      obtain ⟨⟨⟨t1, t2⟩, h1⟩, h2⟩ := h
      have za := e_ok a ok tk h1
      cases r with
      | nil =>
        have zb := e_ok b ok tk (show chkE c tb b y = true from h2)
        exact ⟨PE.imp (pe_and za.1 (pe_one zb.1)) fun σ H Q q => and_imp q, fun _ => PT.imp (PW.pt (pw_and (za.2 t1) (pw_and1 (zb.2 t2)))) fun σ H Q q => and_impT q⟩
      | cons w r =>
        have zb := e_ok b ok tk (show chkE c tb b (.BoolOp .And (y :: w :: r) p) = true from h2)
        exact ⟨PE.imp (pe_and za.1 zb.1) fun σ H Q q => and_imp q, fun _ => PT.imp (PW.pt (pw_and (za.2 t1) (pt_bool (zb.2 t2)))) fun σ H Q q => and_impT q⟩
    · cases h
  | .or a b, X, c, W, e, ok, tk, h => by
    unfold chkE at h; rw [IE.ev]
    split at h
    · rename_i x y r p
      simp only [Bool.and_eq_true] at h
      obtain ⟨⟨⟨t1, t2⟩, h1⟩, h2⟩ := h
      have za := e_ok a ok tk h1
      cases r with
      | nil =>
        have zb := e_ok b ok tk (show chkE c tb b y = true from h2)
        exact ⟨PE.imp (pe_or za.1 (pe_one zb.1)) fun σ H Q q => or_imp q, fun _ => PT.imp (PW.pt (pw_or (za.2 t1) (pw_or1 (zb.2 t2)))) fun σ H Q q => or_impT q⟩
      | cons w r =>
        have zb := e_ok b ok tk (show chkE c tb b (.BoolOp .Or (y :: w :: r) p) = true from h2)
        exact ⟨PE.imp (pe_or za.1 zb.1) fun σ H Q q => or_imp q, fun _ => PT.imp (PW.pt (pw_or (za.2 t1) (pt_bool (zb.2 t2)))) fun σ H Q q => or_impT q⟩
    · cases h
  | .ite d a b, X, c, W, e, ok, tk, h => by
    unfold chkE at h; rw [IE.ev]
    split at h
    · simp only [Bool.and_eq_true] at h
      obtain ⟨⟨⟨t1, h1⟩, h2⟩, h3⟩ := h
      exact ⟨s_ite ((e_ok d ok tk h1).2 t1) (e_ok a ok tk h2).1 (e_ok b ok tk h3).1, fun z => by simp [IE.tst] at z⟩
    · cases h
  | .tup es, X, c, W, e, ok, tk, h => by
    unfold chkE at h; rw [IE.ev]
    split at h
    · exact plain_tst (s_tup (es_ok es ok tk h)) fun _ => rfl
    · cases h
  | .ix a b, X, c, W, e, ok, tk, h => by
    unfold chkE at h; rw [IE.ev]
    split at h
    · rename_i x y p
      simp only [Bool.and_eq_true] at h
      obtain ⟨⟨h0, h1⟩, h2⟩ := h
      have hp : PlainIx y := fun o i => by cases y <;> first | rfl | cases h0
      exact plain_tst (s_ix ok.hK hp (e_ok a ok tk h1).1 (e_ok b ok tk h2).1) fun _ => rfl
    · cases h
  | .sl a lo hi, X, c, W, e, ok, tk, h => by
    unfold chkE at h; rw [IE.ev]
    split at h
    · simp only [Bool.and_eq_true] at h
      obtain ⟨⟨h1, h2⟩, h3⟩ := h
      exact plain_tst (s_sl ok.hK (e_ok a ok tk h1).1 (o_ok lo ok tk h2) (o_ok hi ok tk h3)) fun _ => rfl
    · cases h
  | .fz l, X, c, W, e, ok, tk, h => by
    unfold chkE at h; rw [IE.ev]
    have z := l_ok l ok tk h
    exact plain_tst (s_fz z.1) z.2
  | .new l, X, c, W, e, ok, tk, h => by
    unfold chkE at h; rw [IE.ev]
    have z := l_ok l ok tk h
    exact plain_tst (s_new z.1) z.2
  | .call f es ks, X, c, W, e, ok, tk, h => by
    unfold chkE at h; rw [IE.ev]
    split at h
    · rename_i x p xs kws pos
      simp only [Bool.and_eq_true] at h
      obtain ⟨⟨⟨h1, h2⟩, h3⟩, h4⟩ := h
      obtain ⟨gg, hd, _⟩ := ok.gl h1
      cases ef : tb.funs[f]? with
      | none => rw [ef] at h2; cases h2
      | some fn =>
        rw [ef] at h2
        simp only [Bool.and_eq_true, decide_eq_true_eq] at h2
        obtain ⟨hx, hks⟩ := h2
        obtain ⟨fa, hm, hk, cal⟩ := ok.tab.funs f fn ef
        rw [hx] at hm
        have hA := es_ok es ok tk h3
        have hK := k_ok ks ok tk h4
        have hst := chkEs_star (tb := tb) (c := c) X.env h3
        unfold ksC at hks
        rw [decide_eq_true_eq] at hks
        refine plain_tst ?_ fun _ => rfl
        have ekw : (backToKw pos (keywordEach kws X.env)).map (·.1) = kws.map (·.arg) := by
          unfold backToKw
          rw [List.map_map]
          clear hK h4 hks
          induction kws with
          | nil => rfl
          | cons k kws ih => obtain ⟨nm, v, kp⟩ := k; exact congrArg (List.cons nm) ih
        have hall : (backToKw pos (keywordEach kws X.env)).all (·.1.isSome) = true := by
          have : (backToKw pos (keywordEach kws X.env)).all (·.1.isSome) = ((backToKw pos (keywordEach kws X.env)).map (·.1)).all (·.isSome) := by rw [List.all_map]; rfl
          rw [this, ekw, hks, List.all_map]
          simp
        have hfm : (backToKw pos (keywordEach kws X.env)).filterMap (·.1) = fn.ks := by
          have : (backToKw pos (keywordEach kws X.env)).filterMap (·.1) = ((backToKw pos (keywordEach kws X.env)).map (·.1)).filterMap id := by rw [List.filterMap_map]; rfl
          rw [this, ekw, hks, List.filterMap_map]
          simp
        have hpl : ((backTo pos (starEach xs X.env)).any (·.1) || (backToKw pos (keywordEach kws X.env)).any (·.1.isNone)) = false := by
          have h5 : (backTo pos (starEach xs X.env)).any (·.1) = false := by
            unfold backTo
            rw [List.any_map, List.any_eq_false]
            intro y hy
            have := List.all_eq_true.mp hst y hy
            simpa using this
          have h6 : (backToKw pos (keywordEach kws X.env)).any (·.1.isNone) = false := by
            rw [List.any_eq_false]
            intro y hy
            have := List.all_eq_true.mp hall y hy
            cases hq : y.1 with
            | none => rw [hq] at this; cases this
            | some _ => simp
          rw [h5, h6]; rfl
        refine ⟨fun pins s σ H Q I h => ?_⟩
        have h7 : tA G W (es.ev tb) σ H fun vs H1 => tA G W (ks.ev tb) σ H1 fun zs H2 => zs.length = fn.ks.length ∧ Spec G fn.F (vs ++ zs) H2 Q (WE W σ) := by
          refine tA2 (g := fun _ xs ys st2 => if ys.length = fn.ks.length then fn.F (xs ++ ys) st2 else .bad) h fun m env st ts us vs ws H1 rs r1 r2 q => ?_
          by_cases hl : us.length = fn.ks.length
          · rw [if_pos hl] at q
            exact ⟨by rw [← r2.length]; exact hl, spec_of rs (r1.append r2) q⟩
          · rw [if_neg hl] at q; exact q.elim
        refine wpAny_Call_Name_kw (ld_glob I gg hm ?_ hd)
        have room := ok.room.mono (Nat.le_succ lv)
        cases xs with
        | nil =>
          refine PySem.W.callWith_KW0 (h₀ := X.base) I.ok.mod.kin hk hall ?_ hpl
          have h8 : tA G W (ks.ev tb) σ H fun zs H2 => zs.length = fn.ks.length ∧ Spec G fn.F zs H2 Q (WE W σ) := by
            cases es with
            | cons _ _ => simp [chkEs] at h3
            | nil =>
              rw [IEs.ev] at h7
              obtain ⟨m, env, st, rs, q⟩ := h7
              exact Rn.here (K := fun _ _ vs H1 _ => tA G W (ks.ev tb) σ H1 fun zs H2 => zs.length = fn.ks.length ∧ Spec G fn.F (vs ++ zs) H2 Q (WE W σ)) (b := []) q rs rfl
          refine thn (hK.run pos pins s σ H _ I h8) fun ws s2 ⟨zs, H2, I2, rz, l, q2⟩ => ⟨I2.kIn, ?_⟩
          rw [hfm]
          exact run_cal (us := []) (vs := []) cal room ok.gd tk I2 .nil rz l q2
        | cons y ys =>
          have hy : starEach (y :: ys) X.env = (false, eval y X.env) :: starEach ys X.env := by
            cases es with
            | nil => simp [chkEs] at h3
            | cons e es => simp only [chkEs, Bool.and_eq_true] at h3; exact starC h3.1.1 X.env
          refine PySem.W.callWith_KW (h₀ := X.base) I.ok.mod.kin hk hall (thn (hA.run pos pins s σ H _ I h7) fun us s1 ⟨vs, H1, I1, r, q⟩ => ?_) hpl hy
          refine thn (hK.run pos pins s1 σ H1 _ I1 q) fun ws s2 ⟨zs, H2, I2, rz, l, q2⟩ => ⟨I2.kIn, ?_⟩
          rw [hfm]
          exact run_cal cal room ok.gd tk I2 r rz l q2
    · cases h
  | .bi b es, X, c, W, e, ok, tk, h => by
    unfold chkE at h; rw [IE.ev]
    split at h
    · rename_i x p y xs pos
      simp only [Bool.and_eq_true, decide_eq_true_eq] at h
      obtain ⟨⟨rfl, h1⟩, h2⟩ := h
      obtain ⟨gg, _, _⟩ := ok.gl h1
      have hA := es_ok es ok tk h2
      have hst := chkEs_star (tb := tb) (c := c) X.env h2
      cases es with
      | nil => simp [chkEs] at h2
      | cons d es =>
        simp only [chkEs, Bool.and_eq_true] at h2
        have hy := starC (es := xs) h2.1.1 X.env
        rw [hy] at hst
        simp only [List.all_cons, Bool.not_false, Bool.true_and] at hst
        exact plain_tst (s_bi ok.hK ok.calm gg (ok.tab.no _ (bi_mem b)) hA hy hst) fun _ => rfl
    · cases h
  | .mu o a es, X, c, W, e, ok, tk, h => by
    unfold chkE at h; rw [IE.ev]
    split at h
    · rename_i x m ap y xs p
      simp only [Bool.and_eq_true, decide_eq_true_eq] at h
      obtain ⟨⟨⟨⟨⟨⟨hne, rfl⟩, hline⟩, h0⟩, hl⟩, h1⟩, h2⟩ := h
      have hA := es_ok es ok tk h2
      have hst := chkEs_star (tb := tb) (c := c) X.env h2
      have hfew := few_ok (p := p) hst (by simp only [List.length_cons]; omega)
      cases es with
      | nil => simp [chkEs] at h2
      | cons d es =>
        simp only [chkEs, Bool.and_eq_true] at h2
        have hy := starC (es := xs) h2.1.1 X.env
        rw [hy] at hst
        simp only [List.all_cons, Bool.not_false, Bool.true_and] at hst
        exact plain_tst (s_mu (e_ok a ok tk h1).1 hA hne (ab_ok h0) hfew hline hy hst) fun _ => rfl
    · rename_i x m ap p
      simp only [Bool.and_eq_true, decide_eq_true_eq] at h
      obtain ⟨⟨⟨⟨⟨rfl, rfl⟩, hline⟩, h0⟩, h1⟩, h2⟩ := h
      cases es with
      | cons _ _ => simp at h2
      | nil =>
        rw [IEs.ev]
        exact plain_tst (s_pop (e_ok a ok tk h1).1 (ab_ok h0) hline) fun _ => rfl
    · cases h
  | .str a, X, c, W, e, ok, tk, h => by
    unfold chkE at h; rw [IE.ev]
    split at h
    · simp only [Bool.and_eq_true, decide_eq_true_eq] at h
      obtain ⟨⟨⟨rfl, h1⟩, h2⟩, h3⟩ := h
      exact plain_tst (s_str (ok.gl h1).1 (ok.tab.no _ (by decide)) (e_ok a ok tk h3).1 (star1 h2 X.env)) fun _ => rfl
    · cases h
  | .repr a, X, c, W, e, ok, tk, h => by
    unfold chkE at h; rw [IE.ev]
    split at h
    · simp only [Bool.and_eq_true, decide_eq_true_eq] at h
      obtain ⟨⟨⟨rfl, h1⟩, h2⟩, h3⟩ := h
      exact plain_tst (s_repr ok.hK ok.gd ok.units (ok.gl h1).1 (ok.tab.no _ (by decide)) (e_ok a ok tk h3).1 (star1 h2 X.env)) fun _ => rfl
    · cases h
  | .attr f a, X, c, W, e, ok, tk, h => by
    unfold chkE at h; rw [IE.ev]
    split at h
    · simp only [Bool.and_eq_true, decide_eq_true_eq] at h
      obtain ⟨⟨rfl, h1⟩, h2⟩ := h
      exact plain_tst (s_attr (fun k ci => ok.tab.cls k ci) ok.room ok.gd (e_ok a ok tk h2).1 (ab_ok h1)) fun _ => rfl
    · cases h
  | .isi g a, X, c, W, e, ok, tk, h => by
    unfold chkE at h; rw [IE.ev]
    split at h
    · rename_i x p y z zp pos
      simp only [Bool.and_eq_true, decide_eq_true_eq] at h
      obtain ⟨⟨⟨⟨rfl, h1⟩, h2⟩, h3⟩, h4⟩ := h
      exact plain_tst (s_isi (fun k ci => ok.tab.cls k ci) ok.tab.isi (ok.gl h1).1 (ok.tab.no _ (by decide)) (e_ok a ok tk h4).1 (tg_ok ok h2) (starC h3 X.env) rfl) fun _ => rfl
    · cases h
theorem l_ok : ∀ (l : IL) {X : Cx} {c : CC} {W : WX} {e : Expr}, Okx X c G tb lv → Takes X W → chkL c tb l e = true → PE X e (tL G W (l.ev tb)) ∧ ∀ whole, isTrue e X.env whole = (do let v ← whole; standAt e.pos; holding [v] (truthy v))
  | .lst es, X, c, W, e, ok, tk, h => by
    unfold chkL at h; rw [IL.ev]
    split at h
    · exact ⟨l_lst (es_ok es ok tk h), fun _ => rfl⟩
    · cases h
  | .lc own d g it t, X, c, W, e, ok, tk, h => by
    unfold chkL at h; rw [IL.ev]
    split at h
    · rename_i elt tg iter ifs scope pos
      simp only [Bool.and_eq_true, decide_eq_true_eq] at h
      obtain ⟨⟨⟨⟨⟨⟨⟨h1, h2⟩, h3⟩, h4⟩, h5⟩, h6⟩, h7⟩, h8⟩ := h
      have hg : ∀ (s : Shared) (H : Hp) (C : Addr) (cl : List (Str × Addr)) (fp : List Addr), PG (X.blk s H scope (compEnvC scope cl C X.env) fp) tg (tG G g) := fun s H C cl fp => by
        have ok' := ok.blk s H scope C cl fp
        exact g_ok ok'.hN ok'.hs ok'.hf ok'.nd ok'.hK ok'.calm g tg h6
      have ht : ∀ (s : Shared) (H : Hp) (C : Addr) (cl : List (Str × Addr)) (fp : List Addr), PTs (X.blk s H scope (compEnvC scope cl C X.env) fp) ifs (tT0 G (t.test tb)) := fun s H C cl fp => if_ok t (ok.blk s H scope C cl fp) takes0 h8
      have he : ∀ (s : Shared) (H : Hp) (C : Addr) (cl : List (Str × Addr)) (fp : List Addr), PE (X.blk s H scope (compEnvC scope cl C X.env) fp) elt (tE G W0 (d.ev tb)) := fun s H C cl fp => (e_ok d (ok.blk s H scope C cl fp) takes0 h7).1
      have hs : ∀ x, foldedSetIterable iter X.env x = pure x := fun x => by cases iter <;> first | rfl | cases h5
      refine ⟨PE.imp (pe_lc (pos := pos) ok.calm ok.nd (i_ok it ok tk h1) (own := ownP c own) (blkOk_by (by rw [ok.hN, ok.hs]; exact h2)) hg ht he hs) fun σ H Q q => ?_, fun _ => rfl⟩
      rw [h3]
      exact lc_imp h4 q
    · cases h
  | .lc2 own vs1 d g it t g1 it1 t1, X, c, W, e, ok, tk, h => by
    unfold chkL at h; rw [IL.ev]
    split at h
    · rename_i elt tg iter ifs tg1 iter1 ifs1 scope pos
      simp only [Bool.and_eq_true, decide_eq_true_eq] at h
      obtain ⟨⟨⟨⟨⟨⟨⟨⟨⟨⟨⟨⟨⟨h1, h2⟩, h3⟩, h4⟩, h41⟩, h42⟩, h5⟩, h51⟩, h6⟩, h7⟩, h8⟩, h9⟩, h61⟩, h81⟩ := h
      have hg : ∀ (s : Shared) (H : Hp) (C : Addr) (cl : List (Str × Addr)) (fp : List Addr), PG (X.blk s H scope (compEnvC scope cl C X.env) fp) tg (tG G g) := fun s H C cl fp => by
        have ok' := ok.blk s H scope C cl fp
        exact g_ok ok'.hN ok'.hs ok'.hf ok'.nd ok'.hK ok'.calm g tg h6
      have hg1 : ∀ (s : Shared) (H : Hp) (C : Addr) (cl : List (Str × Addr)) (fp : List Addr), PG (X.blk s H scope (compEnvC scope cl C X.env) fp) tg1 (tG G g1) := fun s H C cl fp => by
        have ok' := ok.blk s H scope C cl fp
        exact g_ok ok'.hN ok'.hs ok'.hf ok'.nd ok'.hK ok'.calm g1 tg1 h61
      have ht : ∀ (s : Shared) (H : Hp) (C : Addr) (cl : List (Str × Addr)) (fp : List Addr), PTs (X.blk s H scope (compEnvC scope cl C X.env) fp) ifs (tT0 G (t.test tb)) := fun s H C cl fp => if_ok t (ok.blk s H scope C cl fp) takes0 h8
      have ht1 : ∀ (s : Shared) (H : Hp) (C : Addr) (cl : List (Str × Addr)) (fp : List Addr), PTs (X.blk s H scope (compEnvC scope cl C X.env) fp) ifs1 (tT0 G (t1.test tb)) := fun s H C cl fp => if_ok t1 (ok.blk s H scope C cl fp) takes0 h81
      have he : ∀ (s : Shared) (H : Hp) (C : Addr) (cl : List (Str × Addr)) (fp : List Addr), PE (X.blk s H scope (compEnvC scope cl C X.env) fp) elt (tE G W0 (d.ev tb)) := fun s H C cl fp => (e_ok d (ok.blk s H scope C cl fp) takes0 h7).1
      have hi1 : ∀ (s : Shared) (H : Hp) (C : Addr) (cl : List (Str × Addr)) (fp : List Addr), PI (X.blk s H scope (compEnvC scope cl C X.env) fp) tg1 iter1 (tI G W0 (it1.ev tb)) := fun s H C cl fp => i_ok it1 (ok.blk s H scope C cl fp) takes0 h9
      have hs : ∀ x, foldedSetIterable iter X.env x = pure x := fun x => by cases iter <;> first | rfl | cases h5
      have hs1 : ∀ env x, foldedSetIterable iter1 env x = pure x := fun env x => by cases iter1 <;> first | rfl | cases h51
      refine ⟨PE.imp (pe_lc2 (pos := pos) (vs1 := vs1) ok.calm ok.nd (i_ok it ok tk h1) (own := ownP c own) (blkOk_by (by rw [ok.hN, ok.hs]; exact h2)) (fun i hi => by rw [h3]; exact h42 i hi) hg ht hi1 hg1 ht1 he hs hs1) fun σ H Q q => ?_, fun _ => rfl⟩
      rw [h3]
      exact lc2_imp h4 h41 q
    · cases h
  | .cat a b, X, c, W, e, ok, tk, h => by
    unfold chkL at h; rw [IL.ev]
    split at h
    · simp only [Bool.and_eq_true, decide_eq_true_eq] at h
      obtain ⟨⟨rfl, h1⟩, h2⟩ := h
      exact ⟨l_cat (e_ok a ok tk h1).1 (e_ok b ok tk h2).1, fun _ => rfl⟩
    · cases h
  | .rep a b, X, c, W, e, ok, tk, h => by
    unfold chkL at h; rw [IL.ev]
    split at h
    · simp only [Bool.and_eq_true, decide_eq_true_eq] at h
      obtain ⟨⟨rfl, h1⟩, h2⟩ := h
      exact ⟨l_rep (e_ok a ok tk h1).1 (e_ok b ok tk h2).1, fun _ => rfl⟩
    · cases h
  | .list a, X, c, W, e, ok, tk, h => by
    unfold chkL at h; rw [IL.ev]
    split at h
    · simp only [Bool.and_eq_true, decide_eq_true_eq] at h
      obtain ⟨⟨⟨rfl, h1⟩, h2⟩, h3⟩ := h
      exact ⟨l_list ok.hK (ok.gl h1).1 (ok.tab.no _ (by decide)) (e_ok a ok tk h3).1 (star1 h2 X.env), fun _ => rfl⟩
    · cases h
  | .sl a lo hi, X, c, W, e, ok, tk, h => by
    unfold chkL at h; rw [IL.ev]
    split at h
    · simp only [Bool.and_eq_true] at h
      obtain ⟨⟨h1, h2⟩, h3⟩ := h
      exact ⟨l_sl ok.hK (e_ok a ok tk h1).1 (o_ok lo ok tk h2) (o_ok hi ok tk h3), fun _ => rfl⟩
    · cases h
  | .zip3 a b d, X, c, W, e, ok, tk, h => by
    unfold chkL at h; rw [IL.ev]
    split at h
    · simp only [Bool.and_eq_true, decide_eq_true_eq] at h
      obtain ⟨⟨⟨⟨⟨⟨⟨⟨⟨rfl, rfl⟩, h1⟩, h2⟩, h3⟩, h4⟩, h5⟩, h6⟩, h7⟩, h8⟩ := h
      exact ⟨l_z3 ok.hK ok.calm (ok.gl h1).1 (ok.tab.no _ (by decide)) (ok.gl h2).1 (ok.tab.no _ (by decide)) (e_ok a ok tk h6).1 (e_ok b ok tk h7).1 (e_ok d ok tk h8).1 (starC h3 X.env) (starC h4 X.env) (star1 h5 X.env), fun _ => rfl⟩
    · cases h
theorem es_ok : ∀ (is : IEs) {X : Cx} {c : CC} {W : WX} {es : List Expr}, Okx X c G tb lv → Takes X W → chkEs c tb is es = true → PA X es (tA G W (is.ev tb))
  | .nil, X, c, W, es, ok, tk, h => by
    unfold chkEs at h; rw [IEs.ev]
    split at h
    · exact s_nil
    · cases h
  | .cons i is, X, c, W, es, ok, tk, h => by
    unfold chkEs at h; rw [IEs.ev]
    split at h
    · simp only [Bool.and_eq_true] at h
      obtain ⟨⟨h1, h2⟩, h3⟩ := h
      exact s_cons (e_ok i ok tk h2).1 (es_ok is ok tk h3) (starC h1 X.env)
    · cases h
theorem k_ok : ∀ (is : IEs) {X : Cx} {c : CC} {W : WX} {es : List Keyword}, Okx X c G tb lv → Takes X W → chkK c tb is es = true → PK X es (tA G W (is.ev tb))
  | .nil, X, c, W, es, ok, tk, h => by
    unfold chkK at h; rw [IEs.ev]
    split at h
    · exact k_nil
    · cases h
  | .cons i is, X, c, W, es, ok, tk, h => by
    unfold chkK at h; rw [IEs.ev]
    split at h
    · simp only [Bool.and_eq_true] at h
      exact k_cons (e_ok i ok tk h.1).1 (k_ok is ok tk h.2)
    · cases h
theorem o_ok : ∀ (o : IO) {X : Cx} {c : CC} {W : WX} {e : Option Expr}, Okx X c G tb lv → Takes X W → chkO c tb o e = true → PO X e (tP G W (o.ev tb))
  | .none, X, c, W, e, ok, tk, h => by
    unfold chkO at h; rw [IO.ev]
    split at h
    · exact p_none
    · cases h
  | .some i, X, c, W, e, ok, tk, h => by
    unfold chkO at h; rw [IO.ev]
    split at h
    · exact p_some (e_ok i ok tk h).1
    · cases h
theorem if_ok : ∀ (o : IO) {X : Cx} {c : CC} {e : List Expr}, Okx X c G tb lv → Takes X W0 → chkIf c tb o e = true → PTs X e (tT0 G (o.test tb))
  | .none, X, c, e, ok, tk, h => by
    unfold chkIf at h; rw [IO.test]
    split at h
    · exact ts_nil
    · cases h
  | .some i, X, c, e, ok, tk, h => by
    unfold chkIf at h; rw [IO.test]
    split at h
    · rw [Bool.and_eq_true] at h
      exact ts_one ((e_ok i ok tk h.2).2 h.1)
    · cases h
theorem i_ok : ∀ (o : II) {X : Cx} {c : CC} {W : WX} {tg e : Expr}, Okx X c G tb lv → Takes X W → chkI c tb o tg e = true → PI X tg e (tI G W (o.ev tb))
  | .seq d, X, c, W, tg, e, ok, tk, h => by
    unfold chkI at h; rw [II.ev]
    exact i_seq ok.hK (e_ok d ok tk h).1
  | .rng1 a, X, c, W, tg, e, ok, tk, h => by
    unfold chkI at h; rw [II.ev]
    split at h
    · simp only [Bool.and_eq_true, decide_eq_true_eq] at h
      obtain ⟨⟨⟨rfl, h1⟩, h2⟩, h3⟩ := h
      exact i_rg1 (ok.gl h1).1 (ok.tab.no _ (by decide)) (e_ok a ok tk h3).1 (star1 h2 X.env)
    · cases h
  | .rng2 a b, X, c, W, tg, e, ok, tk, h => by
    unfold chkI at h; rw [II.ev]
    split at h
    · simp only [Bool.and_eq_true, decide_eq_true_eq] at h
      obtain ⟨⟨⟨⟨⟨rfl, h1⟩, h2⟩, h3⟩, h4⟩, h5⟩ := h
      exact i_rg2 (ok.gl h1).1 (ok.tab.no _ (by decide)) (e_ok a ok tk h4).1 (e_ok b ok tk h5).1 (by rw [starC h2 X.env, star1 h3 X.env]) (star1 h3 X.env)
    · cases h
  | .enum d, X, c, W, tg, e, ok, tk, h => by
    unfold chkI at h; rw [II.ev]
    split at h
    · simp only [Bool.and_eq_true, decide_eq_true_eq] at h
      obtain ⟨⟨⟨rfl, h1⟩, h2⟩, h3⟩ := h
      exact i_en ok.hK (ok.gl h1).1 (ok.tab.no _ (by decide)) (e_ok d ok tk h3).1 (star1 h2 X.env)
    · cases h
  | .zip a b, X, c, W, tg, e, ok, tk, h => by
    unfold chkI at h; rw [II.ev]
    split at h
    · simp only [Bool.and_eq_true, decide_eq_true_eq] at h
      obtain ⟨⟨⟨⟨⟨rfl, h1⟩, h2⟩, h3⟩, h4⟩, h5⟩ := h
      exact i_pr ok.hK (ok.gl h1).1 (ok.tab.no _ (by decide)) (e_ok a ok tk h4).1 (e_ok b ok tk h5).1 (starC h2 X.env) (star1 h3 X.env)
    · cases h
end
end
end Eg
set_option Elab.async false
set_option linter.all false
set_option maxRecDepth 100000
set_option maxHeartbeats 4000000
/-! The engine, part twenty: attributes stored; stores in one row. -/
namespace Eg
open PySem PySem.Spec PyProof.Rows L2
theorem putF_old {f : Str} {v : V} : ∀ {fl : List Str} {fv : List (Str × V)} {n i : Nat}, fv.map (·.1) = fl.take n → fldIx fl f = some i → i < fv.length → (putF f v fv).map (·.1) = fv.map (·.1) ∧ (putF f v fv).map (·.2) = (fv.map (·.2)).set i v
  | [], fv, n, i, _, e, _ => by cases e
  | g :: gs, [], n, i, _, _, h => by simp at h
  | g :: gs, (k, w) :: fv, 0, i, h, _, _ => by simp at h
  | g :: gs, (k, w) :: fv, n + 1, i, h, e, hi => by
    simp only [List.map_cons, List.take_succ_cons, List.cons.injEq] at h
    obtain ⟨rfl, h⟩ := h
    have e : (if k = f then some 0 else (fldIx gs f).map (· + 1)) = some i := e
    by_cases hk : k = f
    · rw [if_pos hk] at e
      cases e
      unfold putF
      rw [if_pos hk]
      exact ⟨rfl, rfl⟩
    · rw [if_neg hk] at e
      cases e2 : fldIx gs f with
      | none => rw [e2] at e; cases e
      | some j =>
        rw [e2] at e
        cases e
        unfold putF
        rw [if_neg hk]
        obtain ⟨h1, h2⟩ := putF_old (v := v) h e2 (by simpa using hi)
        exact ⟨by simp [h1], by simp [h2]⟩
theorem putF_new {f : Str} {v : V} : ∀ {fl : List Str} {fv : List (Str × V)} {n : Nat}, fv.map (·.1) = fl.take n → fldIx fl f = some n → fv.length = n → (putF f v fv).map (·.1) = fl.take (n + 1) ∧ (putF f v fv).map (·.2) = fv.map (·.2) ++ [v]
  | [], fv, n, _, e, _ => by cases e
  | g :: gs, [], n, h, e, hl => by
    cases (show 0 = n from hl)
    have e : (if g = f then some 0 else (fldIx gs f).map (· + 1)) = some 0 := e
    by_cases hk : g = f
    · subst hk; exact ⟨by simp [putF], by simp [putF]⟩
    · rw [if_neg hk] at e
      cases e2 : fldIx gs f <;> rw [e2] at e <;> simp at e
  | g :: gs, (k, w) :: fv, 0, h, _, hl => by simp at hl
  | g :: gs, (k, w) :: fv, n + 1, h, e, hl => by
    simp only [List.map_cons, List.take_succ_cons, List.cons.injEq] at h
    obtain ⟨rfl, h⟩ := h
    have e : (if k = f then some 0 else (fldIx gs f).map (· + 1)) = some (n + 1) := e
    by_cases hk : k = f
    · rw [if_pos hk] at e; cases e
    · rw [if_neg hk] at e
      cases e2 : fldIx gs f with
      | none => rw [e2] at e; cases e
      | some j =>
        rw [e2] at e
        have : j = n := by simpa using e
        subst this
        unfold putF
        rw [if_neg hk]
        obtain ⟨h1, h2⟩ := putF_new (v := v) h e2 (by simpa using hl)
        exact ⟨by simp [h1], by simp [h2]⟩
/-- a field of the instance at a place of the store -/
def putC (cs : List Ci) (f : Str) (y : T) (st : Sto) (l : Nat) : Option Sto := match st[l]? with
  | some (.ins c vs) => match cs[c]? with
    | some ci => match fldIx ci.fl f with
      | some i => if i < vs.length then some (st.set l (.ins c (vs.set i y))) else if i = vs.length then some (st.set l (.ins c (vs ++ [y]))) else none
      | none => none
    | none => none
  | _ => none
def fFld (cs : List Ci) (f : Str) (fv fo : Env → Sto → R T) : Fs := fun env st => (fv env st).go env fun y st1 => (fo env st1).go env fun x st2 => match x with
  | .loc l => match putC cs f y st2 l with
    | some st3 => .nx env st3
    | none => .bad
  | _ => .bad
section
variable {X : Cx} {G : Gh} {W : WX} {lv : Nat} {cs : List Ci} {fv fo : Env → Sto → R T} {o value : Expr} {f : Str} {pos pos' : Pos}
/-- an instance in the store is written -/
theorem RSto.seti {m : Mm} {H : Hp} {st : Sto} {l : Nat} {a : Addr} {cl : Cell} {u : HO} (s : RSto G m H st) (e : m.as[l]? = some a) (r : RCell G m (L2.upd H a u) a cl) : RSto G m (L2.upd H a u) (st.set l cl) ∧ Stp m H m (L2.upd H a u) := by
  have ha : a ∈ m.as := List.mem_of_getElem? e
  have S : Stp m H m (L2.upd H a u) := ⟨⟨fun b o h hn => by
    have hne : b ≠ a := fun z => hn (by rw [z]; exact ha)
    rw [upd_ne hne]; exact h, fun _ h => .inl h, fun _ h => .inl (.inr h), ⟨[], by simp⟩⟩, rfl⟩
  refine ⟨⟨s.nd, s.fd, by rw [List.length_set]; exact s.len, fun i b c h1 h2 => ?_, fun b h => ?_⟩, S⟩
  · by_cases hi : i = l
    · subst hi
      rw [e] at h1
      cases h1
      have hl : i < st.length := by rw [← s.len]; exact (List.getElem?_eq_some_iff.mp e).1
      rw [List.getElem?_set_self hl] at h2
      cases h2
      exact r
    · rw [List.getElem?_set_ne (Ne.symm hi)] at h2
      have hne : b ≠ a := fun z => by
        subst z
        exact hi ((List.getElem?_inj (List.getElem?_eq_some_iff.mp h1).1 s.nd).mp (h1.trans e.symm))
      exact RCell.mov S.toMov (upd_ne hne) (s.cell i b c h1 h2)
  · have hne : b ≠ a := fun z => s.fd a ha (z ▸ h)
    rw [upd_ne hne]
    exact s.foS b h
theorem S_fld (hcs : ∀ c ci, cs[c]? = some ci → ClsOk X.prog X.w X.K X.mg X.base lv G c ci) (ho : PE X o (tE G W fo)) (hv : PE X value (tE G W fv)) (hs : swapsWith value (some (.Attribute o f pos')) pos.line X.env = pure false) :
    PS X (.Assign [.Attribute o f pos'] value pos) (tS G W (fFld cs f fv fo)) := by
  refine PS.imp (ps_fld ho hv hs) fun D σ H ⟨m, env, st, rs, h⟩ => ?_
  refine ⟨m, env, st, rs, (Out.go h).imp fun y st1 yv H1 m1 rs1 S1 r1 h => ⟨m1, env, st1, rs1, (Out.go h).imp fun x st2 xv H2 m2 rs2 S2 r2 h => ?_⟩⟩
  cases x with
  | loc l =>
    cases e1 : putC cs f y st2 l with
    | none => simp only [e1] at h; exact h.elim
    | some st3 =>
      simp only [e1] at h
      obtain ⟨a, rfl, hl⟩ := r2
      unfold putC at e1
      cases e2 : st2[l]? with
      | none => rw [e2] at e1; cases e1
      | some cc =>
        rw [e2] at e1
        cases cc with
        | lst xs => cases e1
        | ins c vs =>
          simp only at e1
          cases e3 : cs[c]? with
          | none => rw [e3] at e1; cases e1
          | some ci =>
            rw [e3] at e1
            simp only at e1
            cases e4 : fldIx ci.fl f with
            | none => rw [e4] at e1; cases e1
            | some i =>
              rw [e4] at e1
              simp only at e1
              have ok := hcs c ci e3
              obtain ⟨dx, fw, h1, h2, h3, h4⟩ := rs2.sto.cell l a _ hl e2
              rw [ok.fl] at h2 h3
              have hlen : fw.length = vs.length := by rw [h4.length, List.length_map]
              have few : fw.length < 1000 := by have := ok.few; omega
              refine ⟨a, G.cl c, dx, fw, rfl, h1, ok.cls, ok.na f (fldIx_mem e4), few, ?_⟩
              have ha : a ∈ m2.as := List.mem_of_getElem? hl
              have S : Stp m2 H2 m2 (L2.upd H2 a (.ins (G.cl c) dx (putF f yv fw))) := ⟨⟨fun b o hb hn => by
                have hne : b ≠ a := fun z => hn (by rw [z]; exact ha)
                rw [upd_ne hne]; exact hb, fun _ h => .inl h, fun _ h => .inl (.inr h), ⟨[], by simp⟩⟩, rfl⟩
              have ry : Rp G m2 H2 y yv := Rp.mov S2.toMov _ _ r1
              by_cases c1 : i < vs.length
              · rw [if_pos c1] at e1
                cases e1
                obtain ⟨p1, p2⟩ := putF_old (v := yv) h2 e4 (by omega)
                obtain ⟨s3, S3⟩ := rs2.sto.seti (u := .ins (G.cl c) dx (putF f yv fw)) (cl := .ins c (vs.set i y)) hl ⟨dx, _, upd_same, by rw [p1, ok.fl, List.length_set]; exact h2, by rw [ok.fl, List.length_set]; exact h3, by rw [p2]; exact Rps.mov S.toMov _ _ (h4.setAt ry i)⟩
                exact h σ _ m2 ⟨rs2.env.mov S3.toMov, s3⟩ S3
              · rw [if_neg c1] at e1
                by_cases c2 : i = vs.length
                · rw [if_pos c2] at e1
                  cases e1
                  subst c2
                  obtain ⟨p1, p2⟩ := putF_new (v := yv) h2 e4 hlen
                  have hlt : vs.length < ci.fl.length := by
                    have : ∀ {fl : List Str} {i : Nat}, fldIx fl f = some i → i < fl.length := fun {fl} => by
                      induction fl with
                      | nil => intro i e; cases e
                      | cons g gs ih =>
                        intro i e
                        have e : (if g = f then some 0 else (fldIx gs f).map (· + 1)) = some i := e
                        by_cases hk : g = f
                        · rw [if_pos hk] at e; cases e; exact Nat.zero_lt_succ _
                        · rw [if_neg hk] at e
                          cases e2 : fldIx gs f with
                          | none => rw [e2] at e; cases e
                          | some j => rw [e2] at e; cases e; exact Nat.succ_lt_succ (ih e2)
                    exact this e4
                  obtain ⟨s3, S3⟩ := rs2.sto.seti (u := .ins (G.cl c) dx (putF f yv fw)) (cl := .ins c (vs ++ [y])) hl ⟨dx, _, upd_same, by rw [p1, ok.fl, List.length_append]; rfl, by rw [ok.fl, List.length_append]; exact hlt, by rw [p2]; exact Rps.mov S.toMov _ _ (h4.append ⟨yv, [], rfl, ry, rfl⟩)⟩
                  exact h σ _ m2 ⟨rs2.env.mov S3.toMov, s3⟩ S3
                · rw [if_neg c2] at e1; cases e1
  | _ => exact h.elim
/-! ### what a comprehension's new list is bound to, and a row of names -/
theorem fz_imp {fl : Env → Sto → R (List T)} {σ : L2.St} {H : Hp} {Q : VK} (h : tE G W (fFz fl) σ H Q) : tL G W fl σ H Q := by
  obtain ⟨m, env, st, rs, h⟩ := h
  refine ⟨m, env, st, rs, (Rn.bnd h).imp fun xs st' vs H' m' rs' _ r q p hp => ?_⟩
  exact Rn.next (K := Kq Q) q (rs'.fresh hp) (Stp.fresh hp) ⟨p, vs, rfl, ⟨rs'.sto.free hp, upd_same⟩, Rps.mov (Stp.fresh hp).toMov _ _ r⟩
theorem new_imp {fl : Env → Sto → R (List T)} {σ : L2.St} {H : Hp} {Q : VK} (h : tE G W (fNew fl) σ H Q) : tL G W fl σ H Q := by
  obtain ⟨m, env, st, rs, h⟩ := h
  refine ⟨m, env, st, rs, (Rn.bnd h).imp fun xs st' vs H' m' rs' _ r q p hp => ?_⟩
  obtain ⟨s2, S2⟩ := rs'.sto.push hp r
  exact Rn.next (K := Kq Q) q ⟨rs'.env.mov S2.toMov, s2⟩ S2 ⟨p, rfl, by show (m'.as ++ [p])[st'.length]? = some p; rw [← rs'.sto.len]; simp⟩
theorem nm_imp {i : Nat} {v : V} {σ : L2.St} {H : Hp} {Q : L2.St → Hp → Prop} (h : tT G W (fG (.name i)) v σ H Q) : gName i v σ H Q := by
  obtain ⟨m, env, st, t, rs, r, q⟩ := h
  by_cases hi : i < env.length
  · have q : OutN G W Q m H (match (if i < env.length then some (env.set i (some t)) else none) with
      | some env' => .nx env' st
      | none => .bad) := q
    rw [if_pos hi] at q
    exact q _ H m (rs.set hi r) (Stp.refl m H)
  · have q : OutN G W Q m H (match (if i < env.length then some (env.set i (some t)) else none) with
      | some env' => .nx env' st
      | none => .bad) := q
    rw [if_neg hi] at q
    exact q.elim
end
end Eg
set_option Elab.async false
set_option linter.all false
set_option maxRecDepth 100000
set_option maxHeartbeats 8000000
/-! The engine, part twenty-one: THE THEOREM of statements. -/
namespace Eg
open PySem PySem.Spec PyProof.Rows L2
/-! ### what a statement made is forgotten behind it -/
def frzEnv (f : Nat → Option T) : Env → Option Env
  | [] => some []
  | none :: r => (frzEnv f r).map (none :: ·)
  | some t :: r => match frzW f t, frzEnv f r with
    | some u, some s => some (some u :: s)
    | _, _ => none
def fDrop (cs : List Ci) (f : Fs) : Fs := fun env st => match f env st with
  | .nx env' st' => match frzCs (frz cs st' (ren st.length none)) (st'.take st.length ++ more st' none), frzEnv (frz cs st' (ren st.length none)) env' with
    | some st2, some env2 => .nx env2 st2
    | _, _ => .bad
  | o => o
theorem frzEnv_ok {f : Nat → Option T} : ∀ {env env2 : Env}, frzEnv f env = some env2 → env2.length = env.length ∧ ∀ (i : Nat) u, env2[i]? = some (some u) → ∃ t, env[i]? = some (some t) ∧ frzW f t = some u
  | [], env2, h => by cases h; exact ⟨rfl, fun i u h => by simp at h⟩
  | none :: r, env2, h => by
    obtain ⟨s, e, rfl⟩ := Option.map_eq_some_iff.mp (show (frzEnv f r).map (none :: ·) = some env2 from h)
    obtain ⟨h1, h2⟩ := frzEnv_ok e
    refine ⟨by simp [h1], fun i u hu => ?_⟩
    cases i with
    | zero => simp at hu
    | succ i => simpa using h2 i u (by simpa using hu)
  | some t :: r, env2, h => by
    have h : (match frzW f t, frzEnv f r with
      | some u, some s => some (some u :: s)
      | _, _ => none) = some env2 := h
    cases e1 : frzW f t with
    | none => rw [e1] at h; cases h
    | some u =>
      cases e2 : frzEnv f r with
      | none => rw [e1, e2] at h; cases h
      | some s =>
        rw [e1, e2] at h
        cases h
        obtain ⟨h1, h2⟩ := frzEnv_ok e2
        refine ⟨by simp [h1], fun i w hw => ?_⟩
        cases i with
        | zero => simp at hw; subst hw; exact ⟨t, rfl, e1⟩
        | succ i => simpa using h2 i w (by simpa using hw)
theorem drop_imp {G : Gh} {W : WX} {cs : List Ci} (kc : KnowC G cs) {f : Fs} {D : Ends} {σ : L2.St} {H : Hp} (h : tS G W (fDrop cs f) D σ H) : tS G W f D σ H := by
  obtain ⟨m, env, st, rs, q⟩ := h
  refine ⟨m, env, st, rs, ?_⟩
  unfold fDrop at q
  cases e : f env st with
  | nx env' st' =>
    rw [e] at q
    intro σ' H' m' rs' x
    dsimp only at q
    cases e1 : frzCs (frz cs st' (ren st.length none)) (st'.take st.length ++ more st' none) with
    | none => rw [e1] at q; exact q.elim
    | some st2 =>
      cases e2 : frzEnv (frz cs st' (ren st.length none)) env' with
      | none => rw [e1, e2] at q; exact q.elim
      | some env2 =>
        rw [e1, e2] at q
        have F := fin_ok kc none (by simp) x rs.sto.len rs'.sto e1
        obtain ⟨l1, l2⟩ := frzEnv_ok e2
        refine q σ' H' ⟨m.as ++ more m'.as none, m.fo⟩ ⟨⟨by rw [l1]; exact rs'.env.1, fun i u hu => ?_⟩, F.sto⟩ F.stp
        obtain ⟨t, ht, hf⟩ := l2 i u hu
        obtain ⟨v, hv, r⟩ := rs'.env.2 i t ht
        exact ⟨v, hv, frzW_ok F.hw F.hf t u v hf r⟩
  | _ => rw [e] at q; exact q
/-- targets that may lie in the store -/
inductive IA where
  | pl (g : IG) | sub (a i : IE) | tup (l : List IA)
inductive IS where
  | never | asg (t : IA) (e : IE) | par2 (i j : Nat) (es : IEs) | par3 (i j l : Nat) (es : IEs) | fld (o : IE) (f : Str) (e : IE)
  | cond (c : IE) (a b : List IS) | for_ (g : IG) (it : II) (b : List IS) | while_ (c : IE) (b : List IS)
  | ret (e : IE) | retN | exp (e : IE) | pass | brk | cnt | doc | drop (s : IS)
def IA.ev (tb : Tab) : IA → Ft
  | .pl q => fG q
  | .sub a i => fSub (a.ev tb) (i.ev tb)
  | .tup l => fTu l.length (evs l)
where evs : List IA → List T → Env → Sto → O
  | [] => fNo
  | t :: ts => fCo (t.ev tb) (evs ts)
mutual
noncomputable def IS.ev (tb : Tab) : IS → Fs
  | .never => fun _ _ => .bad
  | .asg t e => fAsg (e.ev tb) (t.ev tb)
  | .par2 i j es => fPar2 i j (es.ev tb)
  | .par3 i j l es => fPar3 i j l (es.ev tb)
  | .fld o f e => fFld tb.cls f (e.ev tb) (o.ev tb)
  | .cond c a b => fIf (c.ev tb) (evSs tb a) (evSs tb b)
  | .for_ g it b => fFor (it.ev tb) g (evSs tb b)
  | .while_ c b => fWh (c.ev tb) (evSs tb b)
  | .ret e => fRet (e.ev tb)
  | .retN => fun _ st => .rt .non st
  | .exp e => fExp (e.ev tb)
  | .pass => fNx
  | .brk => fun env st => .bk env st
  | .cnt => fun env st => .ct env st
  | .doc => fNx
  | .drop s => fDrop tb.cls (s.ev tb)
noncomputable def evSs (tb : Tab) : List IS → Fs
  | [] => fNx
  | s :: ss => fun env st => (s.ev tb env st).seq (evSs tb ss)
end
/-! ### likeness -/
def noComp : Expr → Bool
  | .ListComp .. => false
  | .SetComp .. => false
  | .DictComp .. => false
  | _ => true
/-- names that are stored in another order -/
def rowF (sc : Scope) (l : Nat) : Expr → Option Str
  | .Name id pos => if sc.names.lookup id == some .local && pos.line == l then some id else none
  | _ => none
def rowN (sc : Scope) (ts : List Expr) : List Str := ts.filterMap (rowF sc ((ts.head?.map (·.pos.line)).getD 0))
theorem rowF_nm {sc : Scope} {l : Nat} {x y : Str} {p : Pos} (h : rowF sc l (.Name x p) = some y) : y = x ∧ sc.names.lookup x = some .local := by
  have h : (if sc.names.lookup x == some .local && p.line == l then some x else none) = some y := h
  by_cases c : (sc.names.lookup x == some NameKind.local && p.line == l) = true
  · rw [if_pos c] at h
    cases h
    rw [Bool.and_eq_true, beq_iff_eq] at c
    exact ⟨rfl, c.1⟩
  · rw [if_neg c] at h; cases h
theorem fm_all {A B : Type} {f : A → Option B} : ∀ {ts : List A}, (ts.filterMap f).length = ts.length → ∀ t, t ∈ ts → ∃ y, f t = some y
  | [], _, t, h => by cases h
  | t :: ts, hl, u, h => by
    have hle := List.length_filterMap_le f ts
    cases e : f t with
    | none => rw [List.filterMap_cons, e] at hl; simp at hl; omega
    | some y =>
      rw [List.filterMap_cons, e] at hl
      rcases List.mem_cons.mp h with rfl | h
      · exact ⟨y, e⟩
      · exact fm_all (ts := ts) (by simpa using hl) u h
def noSwp (sc : Scope) : Expr → Expr → Bool
  | .Tuple ts _ _, .Tuple vs _ _ => !(ts.length == 2 || ts.length == 3) || vs.length != ts.length || (rowN sc ts).length != ts.length || vs.all (foldedForSure 8)
  | .List _ _, .Tuple _ _ _ => false
  | _, _ => true
def swp (sc : Scope) (ts vs : List Expr) : Bool :=
  (ts.length == 2 || ts.length == 3) && vs.length == ts.length && decide (sc.kind = .function) && vs.all notStar && (rowN sc ts).length == ts.length && (rowN sc ts).eraseDups.length == (rowN sc ts).length && !vs.all (foldedForSure 8) && !vs.all (constantsAlone 8)
/-- name = [..] in one row -/
def oneRow (sc : Scope) : Expr → Expr → Bool
  | .Name y py, .ListComp _ _ scope pos => decide (sc.names.lookup y = some .local) && decide (sc.kind = .function) && (py.line == pos.line) && !(scope.names.any fun (n, k) => n == y && (k == .local || k == .cell))
  | _, _ => false
def offRow (sc : Scope) : Expr → Expr → Bool
  | .Name y py, .ListComp _ _ scope pos => !decide (sc.names.lookup y = some .local) || !(py.line == pos.line) || (scope.names.any fun (n, k) => n == y && (k == .local || k == .cell))
  | _, .ListComp .. => true
  | _, e => noComp e
def chkA (c : CC) (tb : Tab) : IA → Expr → Bool
  | .pl q, e => chkG c q e
  | .sub a i, e => match e with
    | .Subscript x y _ => plIx y && chkE c tb a x && chkE c tb i y
    | _ => false
  | .tup l, e => match e with
    | .Tuple es _ _ => chkAs l es
    | _ => false
where chkAs : List IA → List Expr → Bool
  | [], es => match es with
    | [] => true
    | _ => false
  | t :: ts, es => match es with
    | e :: r => notStar e && chkA c tb t e && chkAs ts r
    | _ => false
def isNm : IA → Option Nat
  | .pl (.name i) => some i
  | _ => none
/-- what makes a list by a comprehension -/
def lcOf : IE → Option (Bool × (List Nat × IE × IG × II × IO))
  | .fz (.lc own d g it t) => some (false, own, d, g, it, t)
  | .new (.lc own d g it t) => some (true, own, d, g, it, t)
  | _ => none
/-- .. of two clauses -/
def isLc2 : IE → Bool
  | .fz (.lc2 ..) => true
  | .new (.lc2 ..) => true
  | _ => false
mutual
def chkS (c : CC) (tb : Tab) : IS → Stmt → Bool
  | .never, _ => true
  | .asg t e, s => match s with
    | .Assign [tg] v _ => chkA c tb t tg && chkE c tb e v && noSwp c.sc tg v && (offRow c.sc tg v || (oneRow c.sc tg v && (isNm t).isSome && ((lcOf e).isSome || isLc2 e)))
    | _ => false
  | .par2 i j es, s => match s with
    | .Assign [.Tuple [.Name x px, .Name y py] _ _] (.Tuple [a, b] _ _) _ => locC c i x && locC c j y && decide (i ≠ j) && decide (x ≠ y) && swp c.sc [.Name x px, .Name y py] [a, b] && chkEs c tb es [a, b]
    | _ => false
  | .par3 i j l es, s => match s with
    | .Assign [.Tuple [.Name x px, .Name y py, .Name z pz] _ _] (.Tuple [a, b, d] _ _) _ => locC c i x && locC c j y && locC c l z && decide (i ≠ j) && decide (i ≠ l) && decide (j ≠ l) && swp c.sc [.Name x px, .Name y py, .Name z pz] [a, b, d] && chkEs c tb es [a, b, d]
    | _ => false
  | .fld o f e, s => match s with
    | .Assign [.Attribute x m _] v _ => decide (m = f) && noComp v && chkE c tb o x && chkE c tb e v
    | _ => false
  | .cond d a b, s => match s with
    | .If e x y _ => d.tst && chkE c tb d e && chkSs c tb a x && chkSs c tb b y
    | _ => false
  | .for_ g it b, s => match s with
    | .For tg iter body [] _ => notSet iter && chkI c tb it tg iter && chkG c g tg && chkSs c tb b body
    | _ => false
  | .while_ d b, s => match s with
    | .While e body [] _ => d.tst && chkE c tb d e && chkSs c tb b body
    | _ => false
  | .ret e, s => match s with
    | .Return (some v) _ => chkE c tb e v
    | _ => false
  | .retN, s => match s with
    | .Return none _ => true
    | _ => false
  | .exp e, s => match s with
    | .Expr v _ => noComp v && chkE c tb e v
    | _ => false
  | .pass, s => match s with
    | .Pass _ => true
    | _ => false
  | .brk, s => match s with
    | .Break _ => true
    | _ => false
  | .cnt, s => match s with
    | .Continue _ => true
    | _ => false
  | .doc, s => match s with
    | .Expr (.Constant (.str _) _ _) _ => true
    | _ => false
  | .drop i, s => chkS c tb i s
def chkSs (c : CC) (tb : Tab) : List IS → List Stmt → Bool
  | [], ss => match ss with
    | [] => true
    | _ => false
  | i :: is, ss => match ss with
    | s :: r => chkS c tb i s && chkSs c tb is r
    | _ => false
end
section
variable {X : Cx} {c : CC} {G : Gh} {W : WX} {tb : Tab} {lv : Nat}
theorem swp_ok {env : PySem.Env} {sc : Scope} {ts vs : List Expr} {k1 k2 : Nat} {p1 p2 : Pos} (hs : env.scope = sc) (h : swp sc ts vs = true) : swappedStores [.Tuple ts k1 p1] (.Tuple vs k2 p2) env = pure (some (rowN sc ts)) := by
  unfold swp at h
  simp only [Bool.and_eq_true, decide_eq_true_eq, Bool.not_eq_true', beq_iff_eq] at h
  obtain ⟨⟨⟨⟨⟨⟨⟨h1, h2⟩, h3⟩, h4⟩, h5⟩, h6⟩, h7⟩, h8⟩ := h
  have hb : env.blockKind = .function := by unfold PySem.Env.blockKind; rw [hs, h3]; rfl
  unfold swappedStores
  simp only [hb, h1, h2, Bool.not_true, bne_self_eq_false, Bool.or_self, Bool.false_eq_true, if_false, pure_bind]
  split
  · rename_i hany
    obtain ⟨x, hx, hm⟩ := List.any_eq_true.mp hany
    have := List.all_eq_true.mp h4 x hx
    cases x <;> first | (cases this; done) | (cases hm; done)
  · generalize hq : List.filterMap _ ts = nm
    have hn : nm = rowN sc ts := by
      rw [← hq]
      unfold rowN
      rw [← hs]
      rfl
    subst hn
    simp only [h5, h6, h7, h8, bne_self_eq_false, Bool.or_self, Bool.false_eq_true, if_false, pure_bind]
theorem noSwp_ok {env : PySem.Env} {sc : Scope} {tg v : Expr} (hs : env.scope = sc) (h : noSwp sc tg v = true) : swappedStores [tg] v env = pure none := by
  cases tg with
  | Tuple ts k1 p1 =>
    cases v with
    | Tuple vs k2 p2 =>
      have h : (!(ts.length == 2 || ts.length == 3) || vs.length != ts.length || (rowN sc ts).length != ts.length || vs.all (foldedForSure 8)) = true := h
      unfold swappedStores
      dsimp only
      by_cases c1 : (!(ts.length == 2 || ts.length == 3) || vs.length != ts.length || env.blockKind != .function) = true
      · rw [if_pos c1]
      · rw [if_neg c1]
        have c1' : (!(ts.length == 2 || ts.length == 3) || vs.length != ts.length || env.blockKind != .function) = false := by simpa using c1
        rw [Bool.or_eq_false_iff] at c1'
        rw [c1'.1, Bool.false_or] at h
        split
        · rfl
        · generalize hq : List.filterMap _ ts = nm
          have hn : nm = rowN sc ts := by
            rw [← hq]
            unfold rowN
            rw [← hs]
            rfl
          subst hn
          by_cases c3 : ((rowN sc ts).length != ts.length || (rowN sc ts).eraseDups.length != (rowN sc ts).length) = true
          · rw [if_pos c3]
          · rw [if_neg c3]
            have c3' : ((rowN sc ts).length != ts.length || (rowN sc ts).eraseDups.length != (rowN sc ts).length) = false := by simpa using c3
            rw [Bool.or_eq_false_iff] at c3'
            rw [c3'.1, Bool.false_or] at h
            rw [if_pos h]
    | _ => rfl
  | List ts p => cases v <;> first | rfl | cases h
  | _ => rfl
theorem nocomp_ok {v : Expr} {t : Option Expr} {l : Nat} {env : PySem.Env} (h : noComp v = true) : swapsWith v t l env = pure false := by cases v <;> first | rfl | cases h
theorem offRow_ok {sc : Scope} {tg v : Expr} {l : Nat} {env : PySem.Env} (hs : env.scope = sc) (h : offRow sc tg v = true) : swapsWithSole [tg] v l env = pure false := by
  show swapsWith v (some tg) l env = pure false
  cases v with
  | ListComp elt gs scope pos =>
    cases tg with
    | Name y py =>
      have h : (!decide (sc.names.lookup y = some .local) || !(py.line == pos.line) || (scope.names.any fun (n, k) => n == y && (k == .local || k == .cell))) = true := h
      have : (env.blockKind == .function && env.kindOf y == some .local && py.line == pos.line && !(scope.names.any fun (n, k) => n == y && (k == .local || k == .cell))) = false := by
        have hk : env.kindOf y = sc.names.lookup y := by unfold PySem.Env.kindOf; rw [hs]
        rw [hk]
        simp only [Bool.or_eq_true, Bool.not_eq_true', decide_eq_false_iff_not] at h
        rcases h with (h | h) | h
        · rw [beq_eq_false_iff_ne.mpr h]; simp
        · rw [h]; simp
        · rw [h]; simp
      show pure (env.blockKind == .function && env.kindOf y == some .local && py.line == pos.line && !(scope.names.any fun (n, k) => n == y && (k == .local || k == .cell))) = pure false
      rw [this]
    | _ => rfl
  | SetComp _ _ _ _ => cases tg <;> cases h
  | DictComp _ _ _ _ _ => cases tg <;> cases h
  | _ => cases tg <;> rfl
theorem chkA_one {t : IA} {tg : Expr} (h : chkA c tb t tg = true) (env : PySem.Env) : (assignEach [tg] env).map (·.2) = [assign tg env] := by
  cases tg with
  | Starred _ _ => cases t with
    | pl q => cases q <;> simp [chkA, chkG] at h
    | _ => simp [chkA] at h
  | _ => rfl
theorem chkAs_each (env : PySem.Env) : ∀ {l : List IA} {es : List Expr}, chkA.chkAs c tb l es = true → (assignEach es env).length = l.length ∧ (assignEach es env).findIdx? (·.1) = none
  | [], [], _ => ⟨rfl, rfl⟩
  | [], _ :: _, h => by simp [chkA.chkAs] at h
  | _ :: _, [], h => by simp [chkA.chkAs] at h
  | t :: l, e :: es, h => by
    simp only [chkA.chkAs, Bool.and_eq_true] at h
    obtain ⟨h1, h2⟩ := chkAs_each env h.2
    have : assignEach (e :: es) env = (false, assign e env) :: assignEach es env := by
      have h3 := h.1.1
      cases e <;> first | rfl | cases h3
    rw [this]
    refine ⟨by simp [h1], ?_⟩
    rw [List.findIdx?_cons, h2]
    rfl
mutual
theorem a_ok (ok : Okx X c G tb lv) (tk : Takes X W) : ∀ (t : IA) {e : Expr}, chkA c tb t e = true → PG X e (tT G W (t.ev tb))
  | .pl q, e, h => by
    unfold chkA at h; rw [IA.ev]
    exact T_g (g_ok ok.hN ok.hs ok.hf ok.nd ok.hK ok.calm q e h)
  | .sub a i, e, h => by
    unfold chkA at h; rw [IA.ev]
    split at h
    · rename_i x y p
      simp only [Bool.and_eq_true] at h
      obtain ⟨⟨h0, h1⟩, h2⟩ := h
      refine T_sub (e_ok a ok tk h1).1 (e_ok i ok tk h2).1 fun v => ?_
      cases y <;> first | rfl | cases h0
    · cases h
  | .tup l, e, h => by
    unfold chkA at h; rw [IA.ev]
    split at h
    · obtain ⟨h1, h2⟩ := chkAs_each X.env h
      exact T_tu ok.calm (as_ok ok tk l h) h1 h2
    · cases h
theorem as_ok (ok : Okx X c G tb lv) (tk : Takes X W) : ∀ (l : List IA) {es : List Expr}, chkA.chkAs c tb l es = true → PGs X es (tTs G W (IA.ev.evs tb l))
  | [], es, h => by
    unfold chkA.chkAs at h; rw [IA.ev.evs]
    split at h
    · exact T_no
    · cases h
  | t :: l, es, h => by
    unfold chkA.chkAs at h; rw [IA.ev.evs]
    split at h
    · rename_i e r
      simp only [Bool.and_eq_true] at h
      refine T_co (a_ok ok tk t h.1.2) (as_ok ok tk l h.2) ?_
      have h3 := h.1.1
      cases e <;> first | rfl | cases h3
    · cases h
end
/-- a name bound to a comprehension's list, in one row -/
theorem row_ok (ok : Okx X c G tb lv) (tk : Takes X W) {i : Nat} {own : List Nat} {d : IE} {g : IG} {it : II} {t : IO} {tg v : Expr} {pos : Pos} (h1 : chkG c (.name i) tg = true) (h2 : chkL c tb (.lc own d g it t) v = true) (h3 : oneRow c.sc tg v = true) :
    PS X (.Assign [tg] v pos) (tAsg (tL G W (fLc own (d.ev tb) g (it.ev tb) (t.test tb))) (gName i)) := by
  cases tg with
  | Name y py =>
    unfold chkL at h2
    split at h2
    · rename_i elt tg iter ifs scope lp
      simp only [Bool.and_eq_true, decide_eq_true_eq] at h2
      obtain ⟨⟨⟨⟨⟨⟨⟨a1, a2⟩, a3⟩, a4⟩, a5⟩, a6⟩, a7⟩, a8⟩ := h2
      have h3 : (decide (c.sc.names.lookup y = some .local) && decide (c.sc.kind = .function) && (py.line == lp.line) && !(scope.names.any fun (n, k) => n == y && (k == .local || k == .cell))) = true := h3
      simp only [Bool.and_eq_true, decide_eq_true_eq, Bool.not_eq_true'] at h3
      obtain ⟨⟨⟨b1, b2⟩, b3⟩, b4⟩ := h3
      have hl : locC c i y = true := by simpa [chkG] using h1
      obtain ⟨n1, _, _⟩ := loc_of (X := X) hl ok.hN ok.hs ok.hf
      have hg : ∀ (s : Shared) (H : Hp) (C : Addr) (cl : List (Str × Addr)) (fp : List Addr), PG (X.blk s H scope (compEnvC scope cl C X.env) fp) tg (tG G g) := fun s H C cl fp => by
        have ok' := ok.blk s H scope C cl fp
        exact g_ok ok'.hN ok'.hs ok'.hf ok'.nd ok'.hK ok'.calm g tg a6
      have ht : ∀ (s : Shared) (H : Hp) (C : Addr) (cl : List (Str × Addr)) (fp : List Addr), PTs (X.blk s H scope (compEnvC scope cl C X.env) fp) ifs (tT0 G (t.test tb)) := fun s H C cl fp => if_ok t (ok.blk s H scope C cl fp) takes0 a8
      have he : ∀ (s : Shared) (H : Hp) (C : Addr) (cl : List (Str × Addr)) (fp : List Addr), PE (X.blk s H scope (compEnvC scope cl C X.env) fp) elt (tE G W0 (d.ev tb)) := fun s H C cl fp => (e_ok d (ok.blk s H scope C cl fp) takes0 a7).1
      have hs : ∀ x, foldedSetIterable iter X.env x = pure x := fun x => by cases iter <;> first | rfl | cases a5
      refine PS.imp (ps_setLc (py := py) (pos := lp) (spos := pos) ok.calm ok.nd n1 (by rw [ok.hs]; exact b1) (sw_true (by rw [ok.hs]; exact b2) (by rw [ok.hs]; exact b1) b3 b4) (i_ok it ok tk a1) (own := ownP c own) (blkOk_by (by rw [ok.hN, ok.hs]; exact a2)) hg ht he hs) fun D σ H q => ?_
      rw [a3]
      exact lc_imp a4 q
    · cases h2
  | _ => cases h3
theorem row2_ok (ok : Okx X c G tb lv) (tk : Takes X W) {i : Nat} {own vs1 : List Nat} {d : IE} {g g1 : IG} {it it1 : II} {t t1 : IO} {tg v : Expr} {pos : Pos} (hc1 : chkG c (.name i) tg = true) (hc2 : chkL c tb (.lc2 own vs1 d g it t g1 it1 t1) v = true) (hc3 : oneRow c.sc tg v = true) :
    PS X (.Assign [tg] v pos) (tAsg (tL G W (fLc2 own vs1 (d.ev tb) g (it.ev tb) (t.test tb) g1 (it1.ev tb) (t1.test tb))) (gName i)) := by
  cases tg with
  | Name y py =>
    unfold chkL at hc2
    split at hc2
    · rename_i elt tg iter ifs tg1 iter1 ifs1 scope lp
      simp only [Bool.and_eq_true, decide_eq_true_eq] at hc2
      obtain ⟨⟨⟨⟨⟨⟨⟨⟨⟨⟨⟨⟨⟨h1, h2⟩, h3⟩, h4⟩, h41⟩, h42⟩, h5⟩, h51⟩, h6⟩, h7⟩, h8⟩, h9⟩, h61⟩, h81⟩ := hc2
      have hc3 : (decide (c.sc.names.lookup y = some .local) && decide (c.sc.kind = .function) && (py.line == lp.line) && !(scope.names.any fun (n, k) => n == y && (k == .local || k == .cell))) = true := hc3
      simp only [Bool.and_eq_true, decide_eq_true_eq, Bool.not_eq_true'] at hc3
      obtain ⟨⟨⟨b1, b2⟩, b3⟩, b4⟩ := hc3
      have hl : locC c i y = true := by simpa [chkG] using hc1
      obtain ⟨n1, _, _⟩ := loc_of (X := X) hl ok.hN ok.hs ok.hf
      have hg : ∀ (s : Shared) (H : Hp) (C : Addr) (cl : List (Str × Addr)) (fp : List Addr), PG (X.blk s H scope (compEnvC scope cl C X.env) fp) tg (tG G g) := fun s H C cl fp => by
        have ok' := ok.blk s H scope C cl fp
        exact g_ok ok'.hN ok'.hs ok'.hf ok'.nd ok'.hK ok'.calm g tg h6
      have hg1 : ∀ (s : Shared) (H : Hp) (C : Addr) (cl : List (Str × Addr)) (fp : List Addr), PG (X.blk s H scope (compEnvC scope cl C X.env) fp) tg1 (tG G g1) := fun s H C cl fp => by
        have ok' := ok.blk s H scope C cl fp
        exact g_ok ok'.hN ok'.hs ok'.hf ok'.nd ok'.hK ok'.calm g1 tg1 h61
      have ht : ∀ (s : Shared) (H : Hp) (C : Addr) (cl : List (Str × Addr)) (fp : List Addr), PTs (X.blk s H scope (compEnvC scope cl C X.env) fp) ifs (tT0 G (t.test tb)) := fun s H C cl fp => if_ok t (ok.blk s H scope C cl fp) takes0 h8
      have ht1 : ∀ (s : Shared) (H : Hp) (C : Addr) (cl : List (Str × Addr)) (fp : List Addr), PTs (X.blk s H scope (compEnvC scope cl C X.env) fp) ifs1 (tT0 G (t1.test tb)) := fun s H C cl fp => if_ok t1 (ok.blk s H scope C cl fp) takes0 h81
      have he : ∀ (s : Shared) (H : Hp) (C : Addr) (cl : List (Str × Addr)) (fp : List Addr), PE (X.blk s H scope (compEnvC scope cl C X.env) fp) elt (tE G W0 (d.ev tb)) := fun s H C cl fp => (e_ok d (ok.blk s H scope C cl fp) takes0 h7).1
      have hi1 : ∀ (s : Shared) (H : Hp) (C : Addr) (cl : List (Str × Addr)) (fp : List Addr), PI (X.blk s H scope (compEnvC scope cl C X.env) fp) tg1 iter1 (tI G W0 (it1.ev tb)) := fun s H C cl fp => i_ok it1 (ok.blk s H scope C cl fp) takes0 h9
      have hs : ∀ x, foldedSetIterable iter X.env x = pure x := fun x => by cases iter <;> first | rfl | cases h5
      have hs1 : ∀ env x, foldedSetIterable iter1 env x = pure x := fun env x => by cases iter1 <;> first | rfl | cases h51
      refine PS.imp (ps_setLc2 (py := py) (pos := lp) (spos := pos) (vs1 := vs1) ok.calm ok.nd n1 (by rw [ok.hs]; exact b1) (sw_true (by rw [ok.hs]; exact b2) (by rw [ok.hs]; exact b1) b3 b4) (i_ok it ok tk h1) (own := ownP c own) (blkOk_by (by rw [ok.hN, ok.hs]; exact h2)) (fun i hi => by rw [h3]; exact h42 i hi) hg ht hi1 hg1 ht1 he hs hs1) fun D σ H q => ?_
      rw [h3]
      exact lc2_imp h4 h41 q
    · cases hc2
  | _ => cases hc3
mutual
theorem st_ok (ok : Okx X c G tb lv) (tk : Takes X W) (po : PassesOwn (model X.prog X.w) X.A X.env X.xe) : ∀ (i : IS) {s : Stmt}, chkS c tb i s = true → PS X s (tS G W (i.ev tb))
  | .never, s, h => by rw [IS.ev]; exact ⟨fun pins s σ H D I ⟨m, env, st, rs, q⟩ => q.elim⟩
  | .asg t e, s, h => by
    unfold chkS at h; rw [IS.ev]
    split at h
    · rename_i tg v pos
      simp only [Bool.and_eq_true, Bool.or_eq_true] at h
      obtain ⟨⟨⟨h1, h2⟩, h3⟩, h4⟩ := h
      rcases h4 with h4 | ⟨⟨h4, h5⟩, h6⟩
      · exact S_asg (e_ok e ok tk h2).1 (a_ok ok tk t h1) (offRow_ok ok.hs h4) (noSwp_ok ok.hs h3) (chkA_one h1 X.env)
      · cases t with
        | pl q =>
          cases q with
          | name i =>
            have h1 : chkG c (.name i) tg = true := by simpa [chkA] using h1
            cases e with
            | fz l =>
              cases l with
              | lc own d g it t =>
                refine PS.imp (row_ok ok tk h1 (by simpa [chkE] using h2) h4) fun D σ H q => ?_
                have q2 := asg_imp q
                obtain ⟨m, env, st, rs, q3⟩ := fz_imp q2
                exact ⟨m, env, st, rs, q3.imp fun xs st' vs H' m' _ _ _ k p hp => nm_imp (k p hp)⟩
              | lc2 own vs1 d g it t g1 it1 t1 =>
                refine PS.imp (row2_ok ok tk h1 (by simpa [chkE] using h2) h4) fun D σ H q => ?_
                have q2 := asg_imp q
                obtain ⟨m, env, st, rs, q3⟩ := fz_imp q2
                exact ⟨m, env, st, rs, q3.imp fun xs st' vs H' m' _ _ _ k p hp => nm_imp (k p hp)⟩
              | _ => simp [lcOf, isLc2] at h6
            | new l =>
              cases l with
              | lc own d g it t =>
                refine PS.imp (row_ok ok tk h1 (by simpa [chkE] using h2) h4) fun D σ H q => ?_
                have q2 := asg_imp q
                obtain ⟨m, env, st, rs, q3⟩ := new_imp q2
                exact ⟨m, env, st, rs, q3.imp fun xs st' vs H' m' _ _ _ k p hp => nm_imp (k p hp)⟩
              | lc2 own vs1 d g it t g1 it1 t1 =>
                refine PS.imp (row2_ok ok tk h1 (by simpa [chkE] using h2) h4) fun D σ H q => ?_
                have q2 := asg_imp q
                obtain ⟨m, env, st, rs, q3⟩ := new_imp q2
                exact ⟨m, env, st, rs, q3.imp fun xs st' vs H' m' _ _ _ k p hp => nm_imp (k p hp)⟩
              | _ => simp [lcOf, isLc2] at h6
            | _ => simp [lcOf, isLc2] at h6
          | tup _ => cases h5
        | _ => cases h5
    · cases h
  | .par2 i j es, s, h => by
    unfold chkS at h; rw [IS.ev]
    split at h
    · rename_i x px y py k1 p1 a b k2 p2 pos
      simp only [Bool.and_eq_true, decide_eq_true_eq] at h
      obtain ⟨⟨⟨⟨⟨h1, h2⟩, h3⟩, h4⟩, h5⟩, h6⟩ := h
      obtain ⟨n1, _, _⟩ := loc_of (X := X) h1 ok.hN ok.hs ok.hf
      obtain ⟨n2, _, _⟩ := loc_of (X := X) h2 ok.hN ok.hs ok.hf
      have hw := swp_ok (k1 := k1) (k2 := k2) (p1 := p1) (p2 := p2) ok.hs h5
      have hr : rowN c.sc [.Name x px, .Name y py] = [x, y] ∧ c.sc.names.lookup x = some .local ∧ c.sc.names.lookup y = some .local := by
        unfold swp at h5
        simp only [Bool.and_eq_true, beq_iff_eq] at h5
        have hlen := h5.1.1.1.2
        unfold rowN at hlen ⊢
        obtain ⟨z1, q1⟩ := fm_all hlen (.Name x px) (by simp)
        obtain ⟨z2, q2⟩ := fm_all hlen (.Name y py) (by simp)
        obtain ⟨e1, l1⟩ := rowF_nm q1
        obtain ⟨e2, l2⟩ := rowF_nm q2
        subst e1 e2
        exact ⟨by simp only [List.filterMap_cons, List.filterMap_nil, q1, q2], l1, l2⟩
      rw [hr.1] at hw
      exact PS.imp (ps_par ok.calm ok.nd n1 n2 h3 (by rw [ok.hs]; exact hr.2.1) (by rw [ok.hs]; exact hr.2.2) (es_ok es ok tk h6) hw rfl) fun D σ H q => par2_imp q
    · cases h
  | .par3 i j l es, s, h => by
    unfold chkS at h; rw [IS.ev]
    split at h
    · rename_i x px y py z pz k1 p1 a b d k2 p2 pos
      simp only [Bool.and_eq_true, decide_eq_true_eq] at h
      obtain ⟨⟨⟨⟨⟨⟨⟨h1, h2⟩, h3⟩, h4⟩, h5⟩, h6⟩, h7⟩, h8⟩ := h
      obtain ⟨n1, _, _⟩ := loc_of (X := X) h1 ok.hN ok.hs ok.hf
      obtain ⟨n2, _, _⟩ := loc_of (X := X) h2 ok.hN ok.hs ok.hf
      obtain ⟨n3, _, _⟩ := loc_of (X := X) h3 ok.hN ok.hs ok.hf
      have hw := swp_ok (k1 := k1) (k2 := k2) (p1 := p1) (p2 := p2) ok.hs h7
      have hr : rowN c.sc [.Name x px, .Name y py, .Name z pz] = [x, y, z] ∧ c.sc.names.lookup x = some .local ∧ c.sc.names.lookup y = some .local ∧ c.sc.names.lookup z = some .local := by
        unfold swp at h7
        simp only [Bool.and_eq_true, beq_iff_eq] at h7
        have hlen := h7.1.1.1.2
        unfold rowN at hlen ⊢
        obtain ⟨z1, q1⟩ := fm_all hlen (.Name x px) (by simp)
        obtain ⟨z2, q2⟩ := fm_all hlen (.Name y py) (by simp)
        obtain ⟨z3, q3⟩ := fm_all hlen (.Name z pz) (by simp)
        obtain ⟨e1, l1⟩ := rowF_nm q1
        obtain ⟨e2, l2⟩ := rowF_nm q2
        obtain ⟨e3, l3⟩ := rowF_nm q3
        subst e1 e2 e3
        exact ⟨by simp only [List.filterMap_cons, List.filterMap_nil, q1, q2, q3], l1, l2, l3⟩
      rw [hr.1] at hw
      exact PS.imp (ps_par3 ok.calm ok.nd n1 n2 n3 h4 h5 h6 (by rw [ok.hs]; exact hr.2.1) (by rw [ok.hs]; exact hr.2.2.1) (by rw [ok.hs]; exact hr.2.2.2) (es_ok es ok tk h8) hw rfl) fun D σ H q => par3_imp q
    · cases h
  | .fld o f e, s, h => by
    unfold chkS at h; rw [IS.ev]
    split at h
    · simp only [Bool.and_eq_true, decide_eq_true_eq] at h
      obtain ⟨⟨⟨rfl, h1⟩, h2⟩, h3⟩ := h
      exact S_fld (fun k ci => ok.tab.cls k ci) (e_ok o ok tk h2).1 (e_ok e ok tk h3).1 (nocomp_ok h1)
    · cases h
  | .cond d a b, s, h => by
    unfold chkS at h; rw [IS.ev]
    split at h
    · simp only [Bool.and_eq_true] at h
      obtain ⟨⟨⟨h1, h2⟩, h3⟩, h4⟩ := h
      exact S_if ((e_ok d ok tk h2).2 h1) (sts_ok ok tk po a h3) (sts_ok ok tk po b h4)
    · cases h
  | .for_ g it b, s, h => by
    unfold chkS at h; rw [IS.ev]
    split at h
    · rename_i tg iter body pos
      simp only [Bool.and_eq_true] at h
      obtain ⟨⟨⟨h1, h2⟩, h3⟩, h4⟩ := h
      have hs : ∀ x, foldedSetIterable iter X.env x = pure x := fun x => by cases iter <;> first | rfl | cases h1
      exact S_for po ok.calm (i_ok it ok tk h2) (g_ok ok.hN ok.hs ok.hf ok.nd ok.hK ok.calm g tg h3) (sts_ok ok tk po b h4) hs
    · cases h
  | .while_ d b, s, h => by
    unfold chkS at h; rw [IS.ev]
    split at h
    · simp only [Bool.and_eq_true] at h
      obtain ⟨⟨h1, h2⟩, h3⟩ := h
      exact S_while po ((e_ok d ok tk h2).2 h1) (sts_ok ok tk po b h3)
    · cases h
  | .ret e, s, h => by
    unfold chkS at h; rw [IS.ev]
    split at h
    · exact S_ret (e_ok e ok tk h).1
    · cases h
  | .retN, s, h => by
    unfold chkS at h; rw [IS.ev]
    split at h
    · exact S_retN
    · cases h
  | .exp e, s, h => by
    unfold chkS at h; rw [IS.ev]
    split at h
    · rw [Bool.and_eq_true] at h
      exact S_expr (e_ok e ok tk h.2).1 (nocomp_ok h.1)
    · cases h
  | .drop i, s, h => by
    unfold chkS at h; rw [IS.ev]
    exact PS.imp (st_ok ok tk po i h) fun D σ H q => drop_imp (fun k ci e => (ok.tab.cls k ci e).fl) q
  | .pass, s, h => by
    unfold chkS at h; rw [IS.ev]
    split at h
    · exact S_pass
    · cases h
  | .brk, s, h => by
    unfold chkS at h; rw [IS.ev]
    split at h
    · exact S_break
    · cases h
  | .cnt, s, h => by
    unfold chkS at h; rw [IS.ev]
    split at h
    · exact S_cont
    · cases h
  | .doc, s, h => by
    unfold chkS at h; rw [IS.ev]
    split at h
    · exact S_doc
    · cases h
theorem sts_ok (ok : Okx X c G tb lv) (tk : Takes X W) (po : PassesOwn (model X.prog X.w) X.A X.env X.xe) : ∀ (is : List IS) {ss : List Stmt}, chkSs c tb is ss = true → PSs X ss (tS G W (evSs tb is))
  | [], ss, h => by
    unfold chkSs at h; rw [evSs]
    split at h
    · exact S_nil
    · cases h
  | i :: is, ss, h => by
    unfold chkSs at h; rw [evSs]
    split at h
    · rw [Bool.and_eq_true] at h
      exact S_cons (st_ok ok tk po i h.1) (sts_ok ok tk po is h.2)
    · cases h
end
end
end Eg
set_option Elab.async false
set_option linter.all false
set_option maxRecDepth 100000
set_option maxHeartbeats 4000000
/-! The engine, part twenty-two: what the module holds, read off its heap; a def of the text; the law's end. -/
namespace Eg
open PySem PySem.Spec PyProof.Rows L2
theorem look_mem {A B : Type} [BEq A] [LawfulBEq A] : ∀ {l : List (A × B)} {k : A} {v : B}, l.lookup k = some v → (k, v) ∈ l
  | [], _, _, h => by cases h
  | (a, b) :: l, k, v, h => by
    rw [List.lookup_cons] at h
    cases e : k == a with
    | true =>
      rw [e] at h
      cases h
      rw [eq_of_beq e]
      exact List.mem_cons_self
    | false =>
      rw [e] at h
      exact List.mem_cons_of_mem _ (look_mem h)
/-! ### a def of the text, by its place -/
structure DX where
  ad : PySem.W.Frag → Addr
  name : Str
  qual : Str
  params : Arguments
  body : List Stmt
  scope : Scope
  dfl : List T := []
def DX.val (d : DX) : He.FnW := some (d.name, (d.qual, (d.params, (FuncBody.stmts d.body, (d.scope, (mainGlobals, ([], builtinsNs)))))))
def seen (K : PySem.W.Frag) (a : Addr) : He.FnW := match K.lookup a with
  | some ⟨_, _, .func g, _⟩ => some (g.name, (g.qualname, (g.params, (g.body, (g.scope, (g.globals, (g.closure, g.builtins)))))))
  | _ => none
def DX.fine (K : PySem.W.Frag) (d : DX) : Bool := PySem.W.keepIn K (.ref (d.ad K)) && (match K.lookup (d.ad K), kTs d.dfl with
  | some ⟨_, _, .func g, _⟩, some vs => PySem.W.codeIn K g.code d.qual && He.dflB K g.defaults vs
  | _, _ => false)
/-- what is known of it -/
def DX.Is (K : PySem.W.Frag) (d : DX) (fd : FuncData) : Prop := ∃ vs, kTs d.dfl = some vs ∧ FunD K d.name d.qual d.params d.body d.scope vs [] (d.ad K) fd
theorem DX.is_of {K : PySem.W.Frag} {d : DX} (e : seen K (d.ad K) = d.val) (c : d.fine K = true) : ∃ fd, d.Is K fd := by
  unfold DX.fine at c
  rw [Bool.and_eq_true] at c
  obtain ⟨kp, c2⟩ := c
  unfold seen at e
  cases q : K.lookup (d.ad K) with
  | none => rw [q] at c2; cases c2
  | some ob =>
    obtain ⟨oc, od, dt, sl⟩ := ob
    rw [q] at c2 e
    cases kd : kTs d.dfl with
    | none => rw [kd] at c2; cases dt <;> cases c2
    | some vs =>
      rw [kd] at c2
      cases dt with
      | func g =>
        obtain ⟨a1, a2, a3, a4, a5, a6, a7, a8, a9, b1, b2, b3, b4, b5, b6⟩ := g
        have e2 : (some (a1, (a2, (a3, (a4, (a5, (a6, (a7, b6))))))) : He.FnW) = some (d.name, (d.qual, (d.params, (FuncBody.stmts d.body, (d.scope, (mainGlobals, ([], builtinsNs))))))) := e
        simp only [Option.some.injEq, Prod.mk.injEq] at e2
        obtain ⟨h1, h2, h3, h4, h5, h6, h7, h8⟩ := e2
        subst h1 h2 h3 h4 h5 h6 h7 h8
        have c3 : (PySem.W.codeIn K b4 d.qual && He.dflB K a8 vs) = true := c2
        rw [Bool.and_eq_true] at c3
        exact ⟨_, vs, kd, ⟨oc, od, a8, a9, b1, b2, b3, b4, b5, sl, rfl, q, c3.1, He.dflB_ok c3.2, .inl rfl⟩, kp⟩
      | _ => cases c2
/-! ### the head's look -/
def obsX (fx : PySem.W.Frag → Bool) (fn : List DX) (K : PySem.W.Frag) : He.AlD := (fx K && fn.all fun d => d.fine K, fn.map fun d => seen K (d.ad K))
def SaysX (fx : PySem.W.Frag → Bool) (fn : List DX) (K : PySem.W.Frag) : Prop := obsX fx fn K = (true, fn.map DX.val)
def obsXG (n : Nat) (fx : PySem.W.Frag → Bool) (fn : List DX) (g : Addr → Option Obj) : He.AlD := obsX fx fn (He.frG g (He.asD g n))
def hookX (n : Nat) (fx : PySem.W.Frag → Bool) (fn : List DX) : PySem.W.Hook where
  α := He.AlD
  obs := fun s => obsXG n fx fn s.heap.get?
  val := fun _ => (true, fn.map DX.val)
  says := fun _ h => ∃ K : PySem.W.Frag, K.In h ∧ SaysX fx fn K
  of := fun _ _ z => ⟨_, He.frG_in, z⟩
  keeps := fun _ _ _ ⟨K, hin, c⟩ k => ⟨K, PySem.W.Frag.In.keeps hin k, c⟩
theorem obsXG_eq {n : Nat} {fx : PySem.W.Frag → Bool} {fn : List DX} {g : Addr → Option Obj} {s : Shared} (h : ∀ a, g a = s.heap.get? a) : obsXG n fx fn g = (hookX n fx fn).obs s := by
  have e : g = s.heap.get? := funext h
  subst e
  rfl
section
variable {fx : PySem.W.Frag → Bool} {fn : List DX} {K : PySem.W.Frag}
theorem SaysX.facts (c : SaysX fx fn K) : fx K = true := by
  have c1 : (fx K && fn.all fun d => d.fine K) = true := congrArg (fun z : He.AlD => z.1) c
  rw [Bool.and_eq_true] at c1
  exact c1.1
theorem SaysX.def_ (c : SaysX fx fn K) (i : Nat) {d : DX} (h : fn[i]? = some d := by rfl) : ∃ fd, d.Is K fd := by
  have c1 : (fx K && fn.all fun d => d.fine K) = true := congrArg (fun z : He.AlD => z.1) c
  rw [Bool.and_eq_true] at c1
  have e : (fn.map fun d => seen K (d.ad K)) = fn.map DX.val := congrArg (fun z : He.AlD => z.2) c
  have e2 : (fn.map fun d => seen K (d.ad K))[i]? = (fn.map DX.val)[i]? := by rw [e]
  rw [List.getElem?_map, List.getElem?_map, h] at e2
  exact DX.is_of (Option.some.inj e2) (List.all_eq_true.mp c1.2 d (List.mem_of_getElem? h))
end
/-! ### the module's own things -/
/-- a class: its name, fields, properties; called: it may be called -/
structure CS where
  name : Str
  fl : List Str
  props : List Str
  called : Bool
structure Sx where
  cons : List (Str × T)
  cs : List CS
  isi : List ((Ty × Tg) × Bool)
  tgs : List (Str × Tg)
/-- a property, its getter -/
def pgA (K : PySem.W.Frag) (C : Addr) (f : Str) : Addr := match PySem.W.recIn K (He.ma K C f) "property" with
  | some (.ref g :: _) => g
  | _ => 0
def gh (sx : Sx) (K : PySem.W.Frag) : Gh := ⟨K, fun c => He.ga K ((sx.cs[c]?.map (·.name)).getD ""), fun c => (sx.cs[c]?.map (·.fl)).getD []⟩
def isV (o : Option (Option Value)) (p : Value → Bool) : Bool := match o with
  | some (some u) => p u
  | _ => false
def propB (K : PySem.W.Frag) (C : Addr) (f : Str) : Bool := decide (PySem.W.findIn K (.ref C) f = some (some (.ref (He.ma K C f)))) && (decide (PySem.W.specialIn K (.ref (He.ma K C f)) "__get__" = some (some (.builtin "property.__get__"))) &&
  (decide (PySem.W.takesIn K (.ref (He.ma K C f)) = some true) && (match PySem.W.recIn K (He.ma K C f) "property" with
    | some (.ref _ :: _) => true
    | _ => false)))
def CS.fine (K : PySem.W.Frag) (c : CS) : Bool := He.Fa.ok K (.cls c.name) && (decide (PySem.W.findIn K (.ref (He.ga K c.name)) "__class__" = some (some (.builtin "object.__class__"))) && (decide (PySem.W.mroIn K (He.ga K c.name) (.type "object") = some true) &&
  ((c.fl.all fun f => He.Fa.ok K (.noat c.name f)) && ((c.props.all fun f => propB K (He.ga K c.name) f) && (!c.called || He.Fa.ok K (.mkr c.name))))))
def Sx.fine (sx : Sx) (K : PySem.W.Frag) : Bool :=
  (plainNames.all fun x => He.Fa.ok K (.free x)) && ((sx.cons.all fun p => match PySem.W.nsIn K mainGlobals p.1, kT p.2 with
    | some (some u), some v => He.relB v u
    | _, _ => false) && ((sx.cs.all fun c => c.fine K) && ((sx.isi.all fun e => decide (PySem.W.kitOne K (tyVal (gh sx K) e.1.1) (tgVal (gh sx K) e.1.2) = some e.2)) &&
    ((sx.tgs.all fun p => match p.2 with
      | .ty n => He.Fa.ok K (.free p.1) && decide (bootBuiltins p.1 = some (.type n))
      | .cls k => decide (PySem.W.nsIn K mainGlobals p.1 = some (some (.ref ((gh sx K).cl k)))) && decide (k < sx.cs.length)) &&
    (sx.cs.isEmpty || (decide (PySem.W.specialIn K (.builtin "object.__class__") "__get__" = some (some (.builtin "getset_descriptor.__get__"))) && decide (PySem.W.takesIn K (.builtin "object.__class__") = some true)))))))
/-- the classes: prs the properties' meanings, class by class -/
def Sx.cls (sx : Sx) (prs : List (List (Str × (List T → Sto → R T)))) : List Ci := sx.cs.mapIdx fun k c => ⟨c.fl, (prs[k]?).getD [], []⟩
/-- each of these is one of those -/
def SubL {A : Type} (xs ys : List A) : Prop := ∀ x, x ∈ xs → x ∈ ys
theorem sbn {A : Type} {ys : List A} : SubL [] ys := fun x h => by cases h
theorem sbc {A : Type} {x : A} {xs ys : List A} (i : Nat) (r : SubL xs ys) (h : ys[i]? = some x := by rfl) : SubL (x :: xs) ys := fun z hz => by
  rcases List.mem_cons.mp hz with rfl | hz
  · exact List.mem_of_getElem? h
  · exact r z hz
/-- what may be called by its name -/
def CalOk (P : Program) (w : World) (K : PySem.W.Frag) (mg : Str → Option Value) (base : Heap) (lv : Nat) (G : Gh) (fn : Fn) : Prop := ∃ f, mg fn.name = some (.ref f) ∧ PySem.W.keepIn K (.ref f) = true ∧ Cal P w K mg base lv G fn.ks fn.F f
section
variable {P : Program} {w : World} {K : PySem.W.Frag} {mg : Str → Option Value} {base : Heap} {lv j : Nat} {G : Gh} {sx : Sx} {h : Heap}
theorem CalOk.mono {fn : Fn} (c : CalOk P w K mg base j G fn) (hl : j ≤ lv) : CalOk P w K mg base lv G fn := let ⟨f, h1, h2, h3⟩ := c; ⟨f, h1, h2, h3.mono hl⟩
def FunsOk (P : Program) (w : World) (K : PySem.W.Frag) (mg : Str → Option Value) (base : Heap) (lv : Nat) (G : Gh) (l : List Fn) : Prop := ∀ fn, fn ∈ l → CalOk P w K mg base lv G fn
theorem fno : FunsOk P w K mg base lv G [] := fun fn h => by cases h
theorem fco {fn : Fn} {l : List Fn} (c : CalOk P w K mg base j G fn) (r : FunsOk P w K mg base lv G l) (hl : j ≤ lv := by decide) : FunsOk P w K mg base lv G (fn :: l) := fun g hg => by
  rcases List.mem_cons.mp hg with rfl | hg
  · exact c.mono hl
  · exact r g hg
def PropsOk (P : Program) (w : World) (K : PySem.W.Frag) (mg : Str → Option Value) (base : Heap) (lv : Nat) (sx : Sx) (prs : List (List (Str × (List T → Sto → R T)))) : Prop :=
  ∀ (k : Nat) c ps f F, sx.cs[k]? = some c → prs[k]? = some ps → ps.lookup f = some F → f ∈ c.props ∧ Cal P w K mg base lv (gh sx K) [] F (pgA K (He.ga K c.name) f)
theorem pno : PropsOk P w K mg base lv sx [] := fun k c ps f F h1 h2 => by simp at h2
theorem propB_ok {C : Addr} {f : Str} (hp : propB K C f = true) : PropOf K C f (He.ma K C f) (pgA K C f) := by
  unfold propB at hp
  simp only [Bool.and_eq_true, decide_eq_true_eq] at hp
  obtain ⟨h1, h2, h3, h4⟩ := hp
  refine ⟨h1, h2, h3, ?_⟩
  unfold pgA
  split at h4
  · rename_i g rest e; rw [e]; exact ⟨rest, rfl⟩
  · cases h4
theorem tab_ok (X : K.In h) (Gn : h.Ns mainGlobals mg) (fine : sx.fine K = true) (nd : ∀ c, c ∈ sx.cs → c.fl.Nodup ∧ c.fl.length < 1000) {tb : Tab} {prs : List (List (Str × (List T → Sto → R T)))} (hf : FunsOk P w K mg base lv (gh sx K) tb.funs) (hp : PropsOk P w K mg base lv sx prs)
    (sc : SubL tb.cons sx.cons) (si : SubL tb.isi sx.isi) (stg : SubL tb.tgs sx.tgs) (scl : tb.cls = [] ∨ tb.cls = sx.cls prs) : TabOk P w K mg base lv (gh sx K) tb := by
  unfold Sx.fine at fine
  simp only [Bool.and_eq_true] at fine
  obtain ⟨f1, f2, f3, f4, f5, f6⟩ := fine
  refine ⟨fun x hx => He.free_ok X Gn (List.all_eq_true.mp f1 x hx), fun j p e => ?_, fun j fn e => hf fn (List.mem_of_getElem? e), fun k ci e => ?_, fun ty g b e => ?_, fun x g e => ?_⟩
  · have := List.all_eq_true.mp f2 p (sc p (List.mem_of_getElem? e))
    split at this
    · rename_i u v e1 e2
      exact ⟨u, v, (PySem.W.mg_of X Gn e1), He.relB_ok this, e2⟩
    · cases this
  · have e : (sx.cls prs)[k]? = some ci := by
      rcases scl with z | z
      · rw [z] at e; simp at e
      · rw [← z]; exact e
    unfold Sx.cls at e
    rw [List.getElem?_mapIdx] at e
    cases ec : sx.cs[k]? with
    | none => rw [ec] at e; cases e
    | some c =>
      rw [ec] at e
      have e : (⟨c.fl, (prs[k]?).getD [], []⟩ : Ci) = ci := by simpa using e
      subst e
      have hc := List.all_eq_true.mp f3 c (List.mem_of_getElem? ec)
      unfold CS.fine at hc
      simp only [Bool.and_eq_true, decide_eq_true_eq] at hc
      obtain ⟨c1, c2, c3, c4, c5, c6⟩ := hc
      have ecl : (gh sx K).cl k = He.ga K c.name := by show He.ga K ((sx.cs[k]?.map (·.name)).getD "") = _; rw [ec]; rfl
      have efl : (gh sx K).fl k = c.fl := by show (sx.cs[k]?.map (·.fl)).getD [] = _; rw [ec]; rfl
      have hne : sx.cs.isEmpty = false := by cases hcs : sx.cs with
        | nil => rw [hcs] at ec; simp at ec
        | cons _ _ => rfl
      rw [hne, Bool.false_or] at f6
      simp only [Bool.and_eq_true, decide_eq_true_eq] at f6
      obtain ⟨n1, n2⟩ := nd c (List.mem_of_getElem? ec)
      refine ⟨efl, by rw [ecl]; exact He.cls_ok c1, by rw [ecl]; exact c2, f6.1, f6.2, by rw [ecl]; exact c3, fun f hf => by rw [ecl]; exact He.noat_ok (List.all_eq_true.mp c4 f hf), n1, n2, fun f F hl => ?_, fun f fn hl => by cases hl⟩
      have hl : ((prs[k]?).getD []).lookup f = some F := hl
      cases ep : prs[k]? with
      | none => rw [ep] at hl; cases hl
      | some ps =>
        rw [ep] at hl
        obtain ⟨h1, h2⟩ := hp k c ps f F ec ep hl
        exact ⟨_, _, by rw [ecl]; exact propB_ok (List.all_eq_true.mp c5 f h1), h2⟩
  · have := List.all_eq_true.mp f4 _ (si _ (look_mem e))
    simpa using this
  · have := List.all_eq_true.mp f5 _ (stg _ (look_mem e))
    cases g with
    | ty n =>
      simp only [Bool.and_eq_true, decide_eq_true_eq] at this
      exact .inl ⟨n, rfl, He.free_ok X Gn this.1, this.2⟩
    | cls k =>
      simp only [Bool.and_eq_true, decide_eq_true_eq] at this
      exact .inr ⟨k, rfl, PySem.W.mg_of X Gn this.1⟩
end
/-! ### a def of the text keeps its meaning -/
section
variable {P : Program} {w : World} {K : PySem.W.Frag} {mg : Str → Option Value} {base : Heap} {lv : Nat} {G : Gh}
def scB (N ps : List Str) (sc : Scope) : Bool := C8.scC N ps sc
theorem fun_ok {d : DX} {fd : FuncData} {N ps : List Str} {tb : Tab} {body : List IS} {md : Bool} (F : d.Is K fd) (hG : G.K = K) (tab : TabOk P w K mg base lv G tb) (kc : KnowC G tb.cls) (hs : scB N ps d.scope = true)
    (chk : chkSs ⟨N, d.scope, fun _ => true⟩ tb body d.body = true) : FnG P w K mg base (lv + 2) (d.ad K) fd ps (Spec G (den tb.cls md ps.length N.length (evSs tb body))) := by
  obtain ⟨vs, _, F⟩ := F
  obtain ⟨oc, od, dV, kV, doc, pm, an, cdv, ct, osl, rfl, lk, hcd, _⟩ := F.ex
  have S : FnScope N ps d.scope := C8.fnScope_by hs
  refine fnG_of (lv := lv + 1) kc lk hcd S fun A outer s H E room grd => ?_
  have ok : Okx (cxOf (L2.CX P w) P w K mg base N d.qual d.scope (d.ad K) cdv A outer s H E) ⟨N, d.scope, fun _ => true⟩ G tb lv := ⟨rfl, rfl, rfl, S.nd, hG.symm, rfl, room, grd, tab⟩
  exact sts_ok ok (takes_of rfl rfl rfl rfl) (passes_of rfl) body chk
/-- a def called by place -/
theorem cal_of {d : DX} {fd : FuncData} {ps : List Str} {n j : Nat} {F : List T → Sto → R T} {dts : List T} (D : d.Is K fd) (c : FnG P w K mg base lv (d.ad K) fd ps (Spec G F)) (hm : mg d.name = some (.ref (d.ad K))) (hdt : d.dfl.drop j = dts)
    (hb : ∀ vs, kTs d.dfl = some vs → FunD K d.name d.qual d.params d.body d.scope vs [] (d.ad K) fd → ∃ ds, Vals (vs.drop j) ds ∧ Binds K fd ps ds) (hn : n + dts.length = ps.length) : CalOk P w K mg base lv G ⟨d.name, [], padF n dts F⟩ := by
  obtain ⟨vs, hk, FD⟩ := D
  obtain ⟨ds, hd, hbb⟩ := hb vs hk FD
  refine ⟨d.ad K, hm, FD.kp, cal_pad c hbb hd ?_ hn⟩
  subst hdt
  have : ∀ {ts : List T} {vs : List V} (j : Nat), kTs ts = some vs → kTs (ts.drop j) = some (vs.drop j) := fun {ts} => by
    induction ts with
    | nil => intro vs j h; cases h; simp [kTs]
    | cons t ts ih =>
      intro vs j h
      cases j with
      | zero => simpa using h
      | succ j =>
        have h : (match kT t, kTs ts with
          | some v, some vs => some (v :: vs)
          | _, _ => none) = some vs := h
        cases e1 : kT t with
        | none => rw [e1] at h; cases h
        | some v =>
          cases e2 : kTs ts with
          | none => rw [e1, e2] at h; cases h
          | some r =>
            rw [e1, e2] at h
            cases h
            simpa using ih j e2
  exact this j hk
/-- no default stands in for a place -/
theorem cal_all {d : DX} {fd : FuncData} {ps : List Str} {F : List T → Sto → R T} (D : d.Is K fd) (c : FnG P w K mg base lv (d.ad K) fd ps (Spec G F)) (hm : mg d.name = some (.ref (d.ad K))) (hdt : d.dfl = [])
    (h : ∀ (kV doc pm : Value) (an : Option Addr) (cdv ct : Value) (us : List Value), us.length = ps.length → bindArgs (PySem.W.fnOf d.name d.qual d.params d.body d.scope .none kV doc pm an cdv ct) ⟨us, []⟩ = pure (ps.zip us)) : CalOk P w K mg base lv G ⟨d.name, [], padF ps.length [] F⟩ := by
  refine cal_of (j := 0) D c hm (by rw [hdt]; rfl) (fun vs hk FD => ?_) (by simp)
  rw [hdt] at hk
  cases hk
  exact ⟨[], .nil, FunD.bindsN FD h⟩
/-- a place of both rows -/
theorem pick_vals : ∀ {xs : List V} {us : List Value} (pi : List Nat), Vals xs us → Vals (pi.filterMap fun i => xs[i]?) (pi.filterMap fun i => us[i]?)
  | _, _, [], _ => .nil
  | xs, us, i :: pi, r => by
    rw [List.filterMap_cons, List.filterMap_cons]
    cases e : xs[i]? with
    | none =>
      have h : us[i]? = none := r.none_of e
      rw [h]
      exact pick_vals pi r
    | some x =>
      obtain ⟨u, hu, ru⟩ := r.get e
      rw [hu]
      exact .cons ru (pick_vals pi r)
theorem pick_rps {m : Mm} {H : Hp} : ∀ {ts : List T} {vs : List V} (pi : List Nat), Rps G m H ts vs → Rps G m H (pi.filterMap fun i => ts[i]?) (pi.filterMap fun i => vs[i]?)
  | _, _, [], _ => rfl
  | ts, vs, i :: pi, r => by
    rw [List.filterMap_cons, List.filterMap_cons]
    cases e : ts[i]? with
    | none =>
      have h : vs[i]? = none := List.getElem?_eq_none (by rw [← r.length]; exact List.getElem?_eq_none_iff.mp e)
      rw [h]
      exact pick_rps pi r
    | some x =>
      obtain ⟨v, hv, rv⟩ := r.get e
      rw [hv]
      exact ⟨v, _, rfl, rv, pick_rps pi r⟩
theorem pick_len {A : Type} : ∀ (pi : List Nat) {xs : List A}, (∀ i, i ∈ pi → i < xs.length) → (pi.filterMap fun i => xs[i]?).length = pi.length
  | [], _, _ => rfl
  | i :: pi, xs, h => by
    rw [List.filterMap_cons, List.getElem?_eq_getElem (h i List.mem_cons_self)]
    simp [pick_len pi fun j hj => h j (List.mem_cons_of_mem _ hj)]
/-- a def called with keywords, each place given -/
theorem cal_perm {d : DX} {fd : FuncData} {ps kn : List Str} {n : Nat} {F : List T → Sto → R T} (pi : List Nat) (D : d.Is K fd) (c : FnG P w K mg base lv (d.ad K) fd ps (Spec G F)) (hm : mg d.name = some (.ref (d.ad K)))
    (hb : ∀ (s : Shared) (us ws : List Value) (vs : List V), kTs d.dfl = some vs → FunD K d.name d.qual d.params d.body d.scope vs [] (d.ad K) fd → K.In s.heap → us.length = n → ws.length = kn.length → BindsTo s fd ⟨us, kn.zip ws⟩ (ps.zip (pi.filterMap fun i => (us ++ ws)[i]?)))
    (hpi : (pi.all fun i => decide (i < n + kn.length)) = true) (hn : pi.length = ps.length) : CalOk P w K mg base lv G ⟨d.name, kn, kwF n kn.length (fun ts => pi.filterMap fun i => ts[i]?) F⟩ := by
  obtain ⟨vs0, hk, FD⟩ := D
  refine ⟨d.ad K, hm, FD.kp, cal_kw c ⟨fun us ws => pi.filterMap fun i => (us ++ ws)[i]?, fun vs zs => pi.filterMap fun i => (vs ++ zs)[i]?, ⟨fun s us ws kin h1 h2 => hb s us ws vs0 hk FD kin h1 h2, fun r1 r2 => pick_vals pi (r1.append r2)⟩, fun us ws h1 h2 => ?_, fun G m H ts vs zs _ r => pick_rps pi r⟩⟩
  rw [← hn]
  refine pick_len pi fun i hi => ?_
  have := List.all_eq_true.mp hpi i hi
  rw [List.length_append, h1, h2]
  simpa using this
/-- a class called; its instance is frozen -/
theorem cal_cls {sx : Sx} {c : Nat} {C : CS} {cs : List Ci} {F : List T → Sto → R T} (hc : sx.cs[c]? = some C) (mk : He.Fa.ok K (.mkr C.name) = true) (hm : mg C.name = some (.ref (He.ga K C.name))) (kc : KnowC (gh sx K) cs)
    (cal : Cal P w K mg base lv (gh sx K) [] F (He.ma K (He.ga K C.name) "__init__")) : CalOk P w K mg base (lv + 1) (gh sx K) ⟨C.name, [], mkF cs c F⟩ := by
  have e : (gh sx K).cl c = He.ga K C.name := by show He.ga K ((sx.cs[c]?.map (·.name)).getD "") = _; rw [hc]; rfl
  have M := He.mkr_ok mk
  have z := cal_make (md := false) (c := c) (cs := cs) (f := He.ma K (He.ga K C.name) "__init__") (by rw [e]; exact M) kc cal
  rw [e] at z
  exact ⟨_, hm, M.kp, z⟩
theorem cal_clsL {sx : Sx} {c : Nat} {C : CS} {cs : List Ci} {F : List T → Sto → R T} (hc : sx.cs[c]? = some C) (mk : He.Fa.ok K (.mkr C.name) = true) (hm : mg C.name = some (.ref (He.ga K C.name))) (kc : KnowC (gh sx K) cs)
    (cal : Cal P w K mg base lv (gh sx K) [] F (He.ma K (He.ga K C.name) "__init__")) : CalOk P w K mg base (lv + 1) (gh sx K) ⟨C.name, [], mkL cs c F⟩ := by
  have e : (gh sx K).cl c = He.ga K C.name := by show He.ga K ((sx.cs[c]?.map (·.name)).getD "") = _; rw [hc]; rfl
  have M := He.mkr_ok mk
  have z := cal_make (md := true) (c := c) (cs := cs) (f := He.ma K (He.ga K C.name) "__init__") (by rw [e]; exact M) kc cal
  rw [e] at z
  exact ⟨_, hm, M.kp, z⟩
/-- the same, at its address alone (a getter, an __init__) -/
theorem cal_at {d : DX} {fd : FuncData} {ps : List Str} {F : List T → Sto → R T} (D : d.Is K fd) (c : FnG P w K mg base lv (d.ad K) fd ps (Spec G F)) (hdt : d.dfl = [])
    (h : ∀ (kV doc pm : Value) (an : Option Addr) (cdv ct : Value) (us : List Value), us.length = ps.length → bindArgs (PySem.W.fnOf d.name d.qual d.params d.body d.scope .none kV doc pm an cdv ct) ⟨us, []⟩ = pure (ps.zip us)) : Cal P w K mg base lv G [] (padF ps.length [] F) (d.ad K) := by
  obtain ⟨vs, hk, FD⟩ := D
  rw [hdt] at hk
  cases hk
  exact cal_pad c (FunD.bindsN FD h) .nil rfl (by simp)
/-- the fields are known -/
theorem know_tab {sx : Sx} {cl : List Ci} {prs : List (List (Str × (List T → Sto → R T)))} (scl : cl = [] ∨ cl = sx.cls prs) : KnowC (gh sx K) cl := fun c ci e => by
  rcases scl with z | z
  · rw [z] at e; simp at e
  · rw [z] at e
    unfold Sx.cls at e
    rw [List.getElem?_mapIdx] at e
    cases ec : sx.cs[c]? with
    | none => rw [ec] at e; cases e
    | some d =>
      rw [ec] at e
      have e : (⟨d.fl, (prs[c]?).getD [], []⟩ : Ci) = ci := by simpa using e
      subst e
      show (sx.cs[c]?.map (·.fl)).getD [] = _
      rw [ec]
      rfl
end
/-! ### what the printed texts use -/
theorem mkr_of {sx : Sx} {K : PySem.W.Frag} {C : CS} (fine : sx.fine K = true) (i : Nat) (h : sx.cs[i]? = some C) (hc : C.called = true) : He.Fa.ok K (.mkr C.name) = true := by
  unfold Sx.fine at fine
  simp only [Bool.and_eq_true] at fine
  have z := List.all_eq_true.mp fine.2.2.1 C (List.mem_of_getElem? h)
  unfold CS.fine at z
  simp only [Bool.and_eq_true] at z
  have z2 := z.2.2.2.2.2
  rw [hc] at z2
  simpa using z2
theorem look_cons {A B : Type} [BEq A] [LawfulBEq A] {a k : A} {b v : B} {l : List (A × B)} (h : ((a, b) :: l).lookup k = some v) : (k = a ∧ v = b) ∨ (k ≠ a ∧ l.lookup k = some v) := by
  rw [List.lookup_cons] at h
  cases e : k == a with
  | true => rw [e] at h; cases h; exact .inl ⟨eq_of_beq e, rfl⟩
  | false => rw [e] at h; exact .inr ⟨fun z => by rw [z] at e; simp at e, h⟩
theorem kwAll {K : PySem.W.Frag} {x qual : Str} {params : Arguments} {body : List Stmt} {scope : Scope} {f : Addr} {fd : FuncData} (F : FunD K x qual params body scope [] [] f fd) {s : Shared} {us : List Value} {kw : List (Str × Value)} {r : List (Str × Value)}
    (h : ∀ (kV doc pm : Value) (an : Option Addr) (cdv ct : Value), bindArgs (PySem.W.fnOf x qual params body scope .none kV doc pm an cdv ct) ⟨us, kw⟩ = pure r) : BindsTo s fd ⟨us, kw⟩ r := by
  obtain ⟨oc, od, dV, kV, doc, pm, an, cdv, ct, osl, rfl, lk, hcd, hD, hK⟩ := F.ex
  rcases hD with ⟨_, rfl⟩ | ⟨e, _⟩
  · exact .of_eq (h kV doc pm an cdv ct)
  · exact absurd rfl e
theorem fd_eq {K : PySem.W.Frag} {d : DX} {fd fd2 : FuncData} (a : d.Is K fd2) (b : d.Is K fd) : fd2 = fd := by
  obtain ⟨_, _, A⟩ := a
  obtain ⟨_, _, B⟩ := b
  obtain ⟨oc, od, dV, kV, doc, pm, an, cdv, ct, osl, e1, lk, _⟩ := A.ex
  obtain ⟨oc2, od2, dV2, kV2, doc2, pm2, an2, cdv2, ct2, osl2, e2, lk2, _⟩ := B.ex
  rw [lk] at lk2
  simp only [Option.some.injEq, Obj.mk.injEq, Data.func.injEq] at lk2
  exact lk2.2.2.1
/-! ### the law's end -/
/-- the law's own def gives True for every script -/
def Gives (n : Nat) (F : List T → Sto → R T) : Prop := ∀ ns : List Int, ns.length ≤ n → F [.scr ns] [] = .ok (.bl true) []
theorem end_law {P : Program} {w : World} {K : PySem.W.Frag} {mg mb : Str → Option Value} {k : Nat} {fa a : Addr} {fd : FuncData} {x : Str} {F : List T → Sto → R T} {G : Gh} {s₁ : Shared} {vs : List Value} {ns : List Int}
    (inH : K.In s₁.heap) (gl : s₁.heap.Ns mainGlobals mg) (bl : s₁.heap.Ns builtinsNs mb) (bb : ∀ x : Str, x ≠ "__name__" → mb x = bootBuiltins x) (nl : s₁.heap.NoLimit) (gs : s₁.gens = #[])
    (obj : s₁.heap.get? a = some { cls := .type "list", data := .seq vs.toArray }) (are : IntsAre vs ns) (small : ns.length ≤ sizeLine) (room : Room k callerA) (hG : G.K = K)
    (promise : ∀ ground : Heap, K.In ground → ground.Ns mainGlobals mg → FnG P w K mg ground k fa fd [x] (Spec G F)) (binds : ∀ (s : Shared) (u : Value), BindsTo s fd ⟨[u], []⟩ [(x, u)])
    (gives : F [.scr ns] [] = .ok (.bl true) []) :
    codeAny (model P w) callerA (.call (.ref fa) ⟨[.ref a], []⟩) (fun r s' => r = .ok (.ret (.bool true)) ∧ OldK s₁.heap s'.heap ∧ s'.os = s₁.os ∧ AllBare s'.gens) s₁ := by
  have vals := vals_ints are
  have same := are.length
  have go : ∀ Hs : Hp, Only Hs → SqL K Hs a (ns.map V.int) → HOk P w Hs s₁.heap → (∀ b, Hs b ≠ none → b = a) → (Hs a ≠ none → K.lookup a = none) →
      codeAny (model P w) callerA (.call (.ref fa) ⟨[.ref a], []⟩) (fun r s' => r = .ok (.ret (.bool true)) ∧ OldK s₁.heap s'.heap ∧ s'.os = s₁.os ∧ AllBare s'.gens) s₁ := by
    intro Hs only sq held alone apart
    have keep : ∀ {b : Addr} {u : Obj}, s₁.heap.get? b = some u → Hs b = none → (hidT s₁.heap Hs).get? b = some u := fun z n => hidT_get z n
    have isA : ∀ {b : Addr} {u : HO}, Hs b = some u → b = a := fun {b u} z => alone b (by rw [z]; exact nofun)
    have dictFree : ∀ {b : Addr} {u : Obj} {es : Array DictEntry} {ep : Nat}, s₁.heap.get? b = some u → u.data = .dict es ep → Hs b = none := fun {b u es ep} z dz => by
      cases q : Hs b with
      | none => rfl
      | some v =>
        have z2 := isA q
        subst z2
        rw [obj] at z
        cases z
        exact absurd dz (by simp)
    have nsG : ∀ {b : Addr} {m : Str → Option Value}, s₁.heap.Ns b m → (hidT s₁.heap Hs).Ns b m := fun {b m} ⟨u, es, ep, z, dz, more⟩ => ⟨u, es, ep, keep z (dictFree z dz), dz, more⟩
    have inG : K.In (hidT s₁.heap Hs) := fun b u z => keep (inH b u z) (by
      cases q : Hs b with
      | none => rfl
      | some v =>
        have z2 := isA q
        subst z2
        rw [apart (by rw [q]; exact nofun)] at z
        cases z)
    have md : Mod K mg (hidT s₁.heap Hs) := ⟨inG, nsG gl, ⟨mb, nsG bl, bb⟩, let ⟨mc, z1, z2⟩ := nl; ⟨mc, nsG z1, z2⟩⟩
    have start0 : Env0 P w K mg (hidT s₁.heap Hs) callerA [] s₁ Hs := ⟨rfl, md, fun b u z => of_hidT z, Nat.le_of_eq (hidT_size _ _), trivial, fun b hb => absurd (show b ∈ ([] : List Addr) from hb) List.not_mem_nil, held, .of_eq gs⟩
    have sp : Spec G F [.ref a] Hs (fun v _ => v = .bl true) (fun _ _ _ => False) := by
      refine ⟨⟨[], fun _ => False⟩, [], [.scr ns], ⟨⟨rfl, fun i t e => by simp at e⟩, ⟨List.nodup_nil, (fun a h => by cases h), rfl, (fun i a c h => by simp at h), fun a h => h.elim⟩⟩, ⟨.ref a, [], rfl, ⟨a, rfl, ?_⟩, rfl⟩, ?_⟩
      · rcases sq with sq | sq
        · exact .inl ⟨fun z => z.elim (fun z => by cases z) id, sq⟩
        · exact .inr (by rw [hG]; exact sq)
      · rw [gives]
        exact fun b H' m' _ _ r => r
    refine codeAny_mono ((promise _ inG (nsG gl)).go callerA [] s₁ Hs ⟨[.ref a], []⟩ [.ref a] [.ref a] _ _ room rfl start0 (binds s₁ (.ref a)) (.cons rfl .nil) rfl sp) fun r s2 z => ?_
    match r, z with
    | .error e, z =>
      obtain ⟨_, _, _, _, _, _, _, _, _, _, _, _, no⟩ := z
      exact no.elim
    | .ok .next, z => exact z.elim
    | .ok .brk, z => exact z.elim
    | .ok .cont, z => exact z.elim
    | .ok (.ret u), z =>
      obtain ⟨v, H2, os, bare, un, held2, rv, ev⟩ := z
      have ev : v = .bl true := ev
      subst ev
      obtain rfl : u = Value.bool true := rv
      refine ⟨rfl, OldK.of_keep fun b ob zb => ?_, os, bare⟩
      cases q : Hs b with
      | none => exact un.keep b ob zb q (fun y => absurd (show b ∈ ([] : List Addr) from y) List.not_mem_nil) List.not_mem_nil
      | some v =>
        rcases only b with y | ⟨o3, xs, y⟩
        · rw [q] at y; cases y
        · have y2 := un.frzs b o3 _ y
          obtain ⟨y3, _⟩ := held b _ y
          obtain ⟨y4, _⟩ := held2 b _ y2
          rw [zb] at y3
          cases y3
          exact y4
  cases known : K.lookup a with
  | some ob =>
    have z := inH a ob known
    rw [obj] at z
    cases z
    exact go (fun _ => none) (fun _ => .inl rfl) (.inr ⟨_, vs.toArray, _, known, rfl, rfl, rfl, by rw [List.size_toArray, same]; exact small, by simpa using vals⟩) (fun b u z => nomatch (show (none : Option HO) = some u from z)) (fun b z => absurd rfl z) fun z => absurd rfl z
  | none =>
    have at1 : ∀ b, (if b = a then some (HO.frz { cls := .type "list", data := .seq vs.toArray } (.lst (ns.map V.int))) else none) ≠ none → b = a := fun b z => by
      by_cases hb : b = a
      · exact hb
      · rw [if_neg hb] at z; exact absurd rfl z
    refine go (fun b => if b = a then some (.frz { cls := .type "list", data := .seq vs.toArray } (.lst (ns.map V.int))) else none) (fun b => ?_) (.inl (.inr ⟨_, if_pos rfl⟩)) (fun b u z => ?_) at1 fun _ => known
    · by_cases hb : b = a
      · exact .inr ⟨_, _, if_pos hb⟩
      · exact .inl (if_neg hb)
    · have hb := at1 b (fun no => by rw [show (if b = a then some (HO.frz { cls := .type "list", data := .seq vs.toArray } (.lst (ns.map V.int))) else none) = some u from z] at no; cases no)
      subst hb
      have z2 := (if_pos rfl).symm.trans z
      cases z2
      exact ⟨obj, by rw [List.length_map]; exact small, vs, _, vals, obj⟩
/-- THE END -/
theorem walk_end {l : PySem.W.OpenLaw} {n k : Nat} {q : Program} {loose : List Str} {XP : (Str → Option Value) → Heap → Prop} {YP : World → Heap → Prop} {d : DefRec} {x : Str} (most : l.most = some n) (mostS : n ≤ sizeLine) (nodf : d.params.defaults = []) (room : Room k callerA)
    {F : List T → Sto → R T} (gives : Gives n F)
    (all : ∀ (w : World) (mg : Str → Option Value) (fa : Addr) (h : Heap), YP w h → h.Ns mainGlobals mg → mg d.name = some (.ref fa) →
      ∃ (K : PySem.W.Frag) (fd : FuncData) (G : Gh), K.In h ∧ G.K = K ∧ (∀ (s : Shared) (u : Value), BindsTo s fd ⟨[u], []⟩ [(x, u)]) ∧ ∀ ground : Heap, K.In ground → ground.Ns mainGlobals mg → FnG l.prog w K mg ground k fa fd [x] (Spec G F)) :
    PySem.W.WalkO q loose XP YP l.row.toRowW d [] (fun f vs => PySem.call f vs) := by
  refine Att.attach_call most nodf fun w s₀ s₁ mg mb fa o pm cd doc a vs ns B Y _ _ _ found obj are len gs => ?_
  obtain ⟨K, fd, G, inH, hG, hb, hF⟩ := all w mg fa _ Y B.T.g found
  exact end_law inH B.T.g B.T.b B.T.builtins B.T.nolimit gs obj are (Nat.le_trans len mostS) room hG hF hb (gives ns len)
end Eg
set_option Elab.async false
set_option linter.all false
set_option maxRecDepth 100000
set_option maxHeartbeats 2000000
/-! The engine: a def whose new lists all stay in the store. -/
namespace Eg
open PySem PySem.Spec PyProof.Rows L2
def finA : O → R T
  | .nx _ st => .ok .non st
  | .rt t st => .ok t st
  | .exc e _ st => .exc e st
  | _ => .bad
def denA (k n : Nat) (f : Fs) : List T → Sto → R T := fun ts st => if ts.length = k then finA (f (env0 n ts) st) else .bad
section
variable {G : Gh} {m : Mm} {H : Hp}
theorem denA_imp {fb : Fs} {k : Nat} {N : List Str} {vs : List V} {Q : VK} {E : XK} (h : Spec G (denA k N.length fb) vs H Q E) :
    vs.length = k ∧ tS G (fun cls d _ H => E cls d H) fb { nx := fun _ H' => Q .non H', rt := Q } (L2.start N vs) H := by
  obtain ⟨m, st, ts, rs, r, q⟩ := h
  unfold denA at q
  by_cases hl : ts.length = k
  · rw [if_pos hl] at q
    refine ⟨r.length.symm.trans hl, m, env0 N.length ts, st, ⟨env0_ok r, rs.sto⟩, ?_⟩
    generalize fb (env0 N.length ts) st = o at q ⊢
    cases o with
    | nx env' st' => exact fun σ' H' m' rs' S => q .non H' m' ⟨⟨rfl, fun i t e => by simp at e⟩, rs'.sto⟩ S rfl
    | rt t st' => exact fun v H' m' s' S rv => q v H' m' ⟨⟨rfl, fun i t e => by simp at e⟩, s'⟩ S rv
    | bk env' st' => exact q.elim
    | ct env' st' => exact q.elim
    | bad => exact q.elim
    | exc e env' st' => exact fun cls d σ' H' m' rs' S re => q cls d H' m' ⟨⟨rfl, fun i t e => by simp at e⟩, rs'.sto⟩ S re
  · rw [if_neg hl] at q; exact q.elim
end
section
variable {P : Program} {w : World} {K : PySem.W.Frag} {mg : Str → Option Value} {base : Heap} {lv : Nat} {G : Gh}
/-- THE RULE for a def -/
theorem fnG_ofA {fp : Addr} {nm qual : Str} {prm : Arguments} {body : List Stmt} {sc : Scope} {dV kV doc pm cdv ct oc : Value} {an od : Option Addr} {osl : Array (Option Value)} {N ps : List Str} {fb : Fs}
    (look : K.lookup fp = some ⟨oc, od, .func (PySem.W.fnOf nm qual prm body sc dV kV doc pm an cdv ct), osl⟩) (code : PySem.W.codeIn K cdv qual = true) (S : FnScope N ps sc)
    (walk : ∀ (A : Around) (outer : List PySem.Env) (s : Shared) (H : Hp) (E : XK), Room lv (A.deeper (envOfC qual sc s.heap.objs.size fp cdv)) → A.guards = some [] →
      PSs (cxOf (L2.CX P w) P w K mg base N qual sc fp cdv A outer s H E) body (tS G (fun cls d _ H => E cls d H) fb)) :
    FnG P w K mg base (lv + 1) fp (PySem.W.fnOf nm qual prm body sc dV kV doc pm an cdv ct) ps (Spec G (denA ps.length N.length fb)) := by
  refine ⟨fun A outer s H args us vs Q E room grd e0 bnd rv lenv spec => ?_⟩
  obtain ⟨_, wish⟩ := denA_imp (N := N) spec
  have inH : K.In s.heap := e0.mod.kin.keeps fun b o z => (e0.bs b o z).1
  have unl : s.heap.NoLimit := e0.mod.nolimit.keeps fun b o z => (e0.bs b o z).1
  have kinds : ∀ y ∈ ps.zip us, sc.names.lookup y.1 = some .local ∨ (sc.names.lookup y.1 = some .cell ∧ ((cellsFrom (s.heap.objs.size + 1) sc.names []).lookup y.1).isSome = true) := fun y hy => by
    rcases S.par y.1 (List.of_mem_zip (a := y.1) (b := y.2) hy).1 with z | z
    · exact .inl z
    · exact .inr ⟨z, PySem.W.cellsFrom_some sc.names _ _ (.inl z)⟩
  refine codeAny_call_function room.depth (inH fp _ look) rfl S.co S.gen rfl (PySem.W.codeRec_of inH code) (bnd _ _ _ _ ?_)
  refine wpAny_newFunctionEnv_cells S.kind kinds fun env same s1 inC => ?_
  subst same
  refine ⟨unl.keeps inC.toInCall.keep, codeAny_func ?_⟩
  have J : Inv (cxOf (L2.CX P w) P w K mg base N qual sc fp cdv A outer s H E) [] (L2.start N vs) H s1 := inv_start S room.hd e0 lenv rv inC
  refine wpAny_mono ((walk A outer s H E (room.deeper _) grd).run [] s1 (L2.start N vs) H _ J wish) (fun fl s2 z => ?_) fun _ _ z => z
  have out : ∀ {σ2 : L2.St} {H2 : Hp} {v : V} {u : Value}, Inv (cxOf (L2.CX P w) P w K mg base N qual sc fp cdv A outer s H E) [] σ2 H2 s2 → RelV v u → Q v H2 → CE outer P w H s Q u s2 :=
    fun {σ2 H2 v u} J2 r2 q2 => ⟨v, H2, J2.os, J2.bare, J2.base, J2.hok, r2, q2⟩
  match fl, z with
  | .ret u, ⟨v, _, _, J2, r2, q2⟩ => exact out J2 r2 q2
  | .next, ⟨_, _, J2, q2⟩ => exact out (v := V.non) (u := Value.none) J2 rfl q2
  | .brk, ⟨_, _, _, q2⟩ => exact q2.elim
  | .cont, ⟨_, _, _, q2⟩ => exact q2.elim
theorem fun_okA {d : DX} {fd : FuncData} {N ps : List Str} {tb : Tab} {body : List IS} (F : d.Is K fd) (hG : G.K = K) (tab : TabOk P w K mg base lv G tb) (hs : scB N ps d.scope = true)
    (chk : chkSs ⟨N, d.scope, fun _ => true⟩ tb body d.body = true) : FnG P w K mg base (lv + 2) (d.ad K) fd ps (Spec G (denA ps.length N.length (evSs tb body))) := by
  obtain ⟨vs, _, F⟩ := F
  obtain ⟨oc, od, dV, kV, doc, pm, an, cdv, ct, osl, rfl, lk, hcd, _⟩ := F.ex
  have S : FnScope N ps d.scope := C8.fnScope_by hs
  refine fnG_ofA (lv := lv + 1) lk hcd S fun A outer s H E room grd => ?_
  have ok : Okx (cxOf (L2.CX P w) P w K mg base N d.qual d.scope (d.ad K) cdv A outer s H E) ⟨N, d.scope, fun _ => true⟩ G tb lv := ⟨rfl, rfl, rfl, S.nd, hG.symm, rfl, room, grd, tab⟩
  exact sts_ok ok (takes_of rfl rfl rfl rfl) (passes_of rfl) body chk
end
end Eg
set_option Elab.async false
set_option linter.all false
set_option maxRecDepth 100000
set_option maxHeartbeats 2000000
/-! The engine: the head's run, looked at in parts. -/
namespace Eg
open PySem PySem.Spec PyProof.Rows L2
/-- what one look behind the top gives -/
def RunOb (r : PySem.W.OpenRow) (M : Nat) (w : World) {A : Type} (f : PySem.W.SharedT → A) (v : A) : Prop :=
  ∀ os : OsState, (HandSHeadRun.endF (HandSHeadRun.stepQ (HandSHeadRun.denQ HandSHeadRun.tabQ) r.prog w) M r.prog w os).map f = some v
theorem RunOb.pair {r : PySem.W.OpenRow} {M : Nat} {w : World} {A B C : Type} {f : PySem.W.SharedT → A} {g : PySem.W.SharedT → B} {h : PySem.W.SharedT → C} {a : A} {b : B} {c : C} (k : A → B → C) (hk : ∀ s, h s = k (f s) (g s)) (e : k a b = c) (h1 : RunOb r M w f a) (h2 : RunOb r M w g b) : RunOb r M w h c := fun os => by
  have a1 := h1 os
  have a2 := h2 os
  generalize HandSHeadRun.endF (HandSHeadRun.stepQ (HandSHeadRun.denQ HandSHeadRun.tabQ) r.prog w) M r.prog w os = o at a1 a2 ⊢
  cases o with
  | none => cases a1
  | some s =>
    have b1 : f s = a := Option.some.inj a1
    have b2 : g s = b := Option.some.inj a2
    show some (h s) = some c
    rw [hk, b1, b2, e]
theorem run_join {r : PySem.W.OpenRow} {q : Program} {H : PySem.W.Hook} {ob : PySem.W.SharedT → H.α} {M : Nat} {loose : List PySem.Str} {w : World}
    (h1 : RunOb r M w (fun s => HandSHeadRun.looksF r.prog (PySem.W.boot_heap w.params) s.abs) true)
    (h2 : RunOb r M w (fun s => HandSHeadRun.seenQ q loose (importedModules r.prog.main.body) (fun s => PySem.W.xlAt q [] s && PySem.W.recOk r.toRowW.records s) s.abs) (PySem.W.openGood q loose))
    (h3 : RunOb r M w ob (H.val w)) : HandSHeadRun.RunEq r q H ob M loose w :=
  RunOb.pair (fun a b => (a, b)) (fun s => rfl) rfl h1 (RunOb.pair (fun a b => (a, b)) (fun s => rfl) rfl h2 h3)
theorem ob_app {r : PySem.W.OpenRow} {M n : Nat} {w : World} {fx : PySem.W.Frag → Bool} {fn1 fn2 : List DX}
    (h1 : RunOb r M w (fun s => obsXG n fx fn1 (HandSHeadRun.getT s)) (true, fn1.map DX.val)) (h2 : RunOb r M w (fun s => obsXG n (fun _ => true) fn2 (HandSHeadRun.getT s)) (true, fn2.map DX.val)) :
    RunOb r M w (fun s => obsXG n fx (fn1 ++ fn2) (HandSHeadRun.getT s)) (true, (fn1 ++ fn2).map DX.val) :=
  RunOb.pair (fun a b => (a.1 && b.1, a.2 ++ b.2)) (fun s => by
    unfold obsXG obsX
    simp only [Bool.true_and, List.all_append, List.map_append, Bool.and_assoc]) (by simp) h1 h2
/-! ### the heap's part by a walk that looks at each thing once -/
def addB : List Addr → Nat → List Addr → (Nat → List Addr → List Addr) → List Addr
  | [], m, f, k => k m f
  | a :: r, m, f, k => match Nat.beq (Nat.land (Nat.shiftRight m a) 1) 0 with
    | true => HandSHeadRun.frNat (Nat.lor m (Nat.shiftLeft 1 a)) fun m' => addB r m' (a :: f) k
    | false => addB r m f k
def goB (g : Addr → Option Obj) : Nat → List Addr → Nat → List Addr → List Addr
  | 0, _, _, all => all
  | n + 1, fr, m, all => addB (fr.flatMap fun a => match g a with
    | some o => He.refsD o
    | none => []) m [] fun m' f => goB g n f m' (f ++ all)
def adsB (g : Addr → Option Obj) (n : Nat) : List Addr := goB g n [mainGlobals] (Nat.shiftLeft 1 mainGlobals) [mainGlobals]
def obsBG (n : Nat) (fx : PySem.W.Frag → Bool) (fn : List DX) (g : Addr → Option Obj) : He.AlD := obsX fx fn (He.frG g (adsB g n))
def hookB (n : Nat) (fx : PySem.W.Frag → Bool) (fn : List DX) : PySem.W.Hook where
  α := He.AlD
  obs := fun s => obsBG n fx fn s.heap.get?
  val := fun _ => (true, fn.map DX.val)
  says := fun _ h => ∃ K : PySem.W.Frag, K.In h ∧ SaysX fx fn K
  of := fun _ _ z => ⟨_, He.frG_in, z⟩
  keeps := fun _ _ _ ⟨K, hin, c⟩ k => ⟨K, PySem.W.Frag.In.keeps hin k, c⟩
theorem obsBG_eq {n : Nat} {fx : PySem.W.Frag → Bool} {fn : List DX} {g : Addr → Option Obj} {s : Shared} (h : ∀ a, g a = s.heap.get? a) : obsBG n fx fn g = (hookB n fx fn).obs s := by
  have e : g = s.heap.get? := funext h
  subst e
  rfl
theorem obB_app {r : PySem.W.OpenRow} {M n : Nat} {w : World} {fx : PySem.W.Frag → Bool} {fn1 fn2 : List DX}
    (h1 : RunOb r M w (fun s => obsBG n fx fn1 (HandSHeadRun.getT s)) (true, fn1.map DX.val)) (h2 : RunOb r M w (fun s => obsBG n (fun _ => true) fn2 (HandSHeadRun.getT s)) (true, fn2.map DX.val)) :
    RunOb r M w (fun s => obsBG n fx (fn1 ++ fn2) (HandSHeadRun.getT s)) (true, (fn1 ++ fn2).map DX.val) :=
  RunOb.pair (fun a b => (a.1 && b.1, a.2 ++ b.2)) (fun s => by
    unfold obsBG obsX
    simp only [Bool.true_and, List.all_append, List.map_append, Bool.and_assoc]) (by simp) h1 h2
end Eg
set_option Elab.async false
set_option linter.all false
set_option maxRecDepth 100000
set_option maxHeartbeats 2000000
/-! The engine: a def in parts; what a part made is frozen behind it. -/
namespace Eg
open PySem PySem.Spec PyProof.Rows L2
theorem execs_app {env : PySem.Env} : ∀ (a b : List Stmt), execs (a ++ b) env = (do match ← execs a env with | .next => execs b env | f => pure f)
  | [], b => by
    rw [List.nil_append, execs_nil, pure_bind]
  | s :: a, b => by
    rw [List.cons_append, execs_cons, execs_cons, bind_assoc]
    congr 1
    funext f
    cases f with
    | next => exact execs_app a b
    | _ => rw [pure_bind]
section
variable {X : Cx} {G : Gh} {W : WX} {t u : TS} {a b : List Stmt}
theorem pss_app (h1 : PSs X a t) (h2 : PSs X b u) : PSs X (a ++ b) (tSeq t u) := by
  refine ⟨fun pins s σ H D I h => ?_⟩
  rw [execs_app]
  refine wpAny_bind (thn (h1.run pins s σ H { D with nx := u D } I h) fun f s1 q => ?_)
  cases f with
  | next =>
    obtain ⟨σ', H', I', q⟩ := q
    exact h2.run pins s1 σ' H' D I' q
  | ret v => exact wpAny_pure q
  | brk => exact wpAny_pure q
  | cont => exact wpAny_pure q
theorem S_app {f g : Fs} (h1 : PSs X a (tS G W f)) (h2 : PSs X b (tS G W g)) : PSs X (a ++ b) (tS G W fun env st => (f env st).seq g) :=
  PSs.imp (pss_app h1 h2) fun D σ H ⟨m, env, st, rs, h⟩ => ⟨m, env, st, rs, Out.seq h⟩
end
/-- a part: statements (what they made frozen behind them or not); a walk, what each turn made frozen behind it -/
inductive Bk where
  | ss (d : Bool) (l : List IS) | forD (g : IG) (it : II) (b : List IS)
noncomputable def Bk.ev (tb : Tab) : Bk → Fs
  | .ss d l => if d = true then fDrop tb.cls (evSs tb l) else evSs tb l
  | .forD g it b => fFor (it.ev tb) g (fDrop tb.cls (evSs tb b))
def Bk.n : Bk → Nat
  | .ss _ l => l.length
  | .forD _ _ _ => 1
def Bk.chk (c : CC) (tb : Tab) (k : Bk) (sts : List Stmt) : Bool := match k with
  | .ss _ l => chkSs c tb l sts
  | .forD g it b => match sts with
    | [s] => chkS c tb (.for_ g it b) s
    | _ => false
noncomputable def evBs (tb : Tab) : List Bk → Fs
  | [] => fNx
  | b :: bs => fun env st => (b.ev tb env st).seq (evBs tb bs)
def chkBs (c : CC) (tb : Tab) : List Bk → List Stmt → Bool
  | [], ss => ss.isEmpty
  | b :: bs, ss => b.chk c tb (ss.take b.n) && chkBs c tb bs (ss.drop b.n)
section
variable {X : Cx} {G : Gh} {W : WX} {c : CC} {tb : Tab} {lv : Nat}
theorem bk_ok (ok : Okx X c G tb lv) (tk : Takes X W) (po : PassesOwn (model X.prog X.w) X.A X.env X.xe) : ∀ (b : Bk) {ss : List Stmt}, b.chk c tb ss = true → PSs X ss (tS G W (b.ev tb))
  | .ss d l, ss, h => by
    have h1 := sts_ok ok tk po l (show chkSs c tb l ss = true from h)
    cases d with
    | false => exact h1
    | true => exact PSs.imp h1 fun D σ H q => drop_imp (fun k ci e => (ok.tab.cls k ci e).fl) q
  | .forD g it b, [], h => by cases (show false = true from h)
  | .forD g it b, _ :: _ :: _, h => by cases (show false = true from h)
  | .forD g it b, [s], h => by
    have h : chkS c tb (.for_ g it b) s = true := h
    unfold chkS at h
    split at h
    · rename_i tg iter body pos xx
      simp only [Bool.and_eq_true] at h
      obtain ⟨⟨⟨h1, h2⟩, h3⟩, h4⟩ := h
      have hs : ∀ x, foldedSetIterable iter X.env x = pure x := fun x => by cases iter <;> first | rfl | cases h1
      have hb := PSs.imp (sts_ok ok tk po b h4) fun D σ H q => drop_imp (fun k ci e => (ok.tab.cls k ci e).fl) q
      exact pss_one (S_for po ok.calm (i_ok it ok tk h2) (g_ok ok.hN ok.hs ok.hf ok.nd ok.hK ok.calm g tg h3) hb hs)
    · cases h
theorem bss_ok (ok : Okx X c G tb lv) (tk : Takes X W) (po : PassesOwn (model X.prog X.w) X.A X.env X.xe) : ∀ (bs : List Bk) {ss : List Stmt}, chkBs c tb bs ss = true → PSs X ss (tS G W (evBs tb bs))
  | [], ss, h => by
    unfold chkBs at h
    rw [evBs]
    cases ss with
    | nil => exact S_nil
    | cons _ _ => cases h
  | b :: bs, ss, h => by
    unfold chkBs at h
    rw [evBs]
    rw [Bool.and_eq_true] at h
    rw [← List.take_append_drop b.n ss]
    exact S_app (bk_ok ok tk po b h.1) (bss_ok ok tk po bs h.2)
end
section
variable {P : Program} {w : World} {K : PySem.W.Frag} {mg : Str → Option Value} {base : Heap} {lv : Nat} {G : Gh}
theorem fun_okB {d : DX} {fd : FuncData} {N ps : List Str} {tb : Tab} {body : List Bk} {md : Bool} (F : d.Is K fd) (hG : G.K = K) (tab : TabOk P w K mg base lv G tb) (kc : KnowC G tb.cls) (hs : scB N ps d.scope = true)
    (chk : chkBs ⟨N, d.scope, fun _ => true⟩ tb body d.body = true) : FnG P w K mg base (lv + 2) (d.ad K) fd ps (Spec G (den tb.cls md ps.length N.length (evBs tb body))) := by
  obtain ⟨vs, _, F⟩ := F
  obtain ⟨oc, od, dV, kV, doc, pm, an, cdv, ct, osl, rfl, lk, hcd, _⟩ := F.ex
  have S : FnScope N ps d.scope := C8.fnScope_by hs
  refine fnG_of (lv := lv + 1) kc lk hcd S fun A outer s H E room grd => ?_
  have ok : Okx (cxOf (L2.CX P w) P w K mg base N d.qual d.scope (d.ad K) cdv A outer s H E) ⟨N, d.scope, fun _ => true⟩ G tb lv := ⟨rfl, rfl, rfl, S.nd, hG.symm, rfl, room, grd, tab⟩
  exact bss_ok ok (takes_of rfl rfl rfl rfl) (passes_of rfl) body chk
end
end Eg
set_option Elab.async false
set_option linter.all false
set_option maxRecDepth 100000
set_option maxHeartbeats 4000000
/-! Plain laws: how meanings are reckoned with. -/
namespace Eg
/-! ### applied -/
abbrev IsiTb := List ((Ty × Tg) × Bool)
theorem ap_fNever (u1 : Env) (u2 : Sto) : fNever  u1 u2 = (.bad) := rfl
theorem ap_fK (c : T) (u1 : Env) (st : Sto) : fK c u1 st = (.ok c st) := rfl
theorem ap_fGl (tb : Tab) (j : Nat) (u1 : Env) (st : Sto) : fGl tb j u1 st = (match tb.cons[j]? with
  | some p => .ok p.2 st
  | none => .bad) := rfl
def k1_fBin (op : PySem.Operator) (x : T) (y : T) (st2 : Sto) : R T := R.opt (binT op x y) st2
def k2_fBin (op : PySem.Operator) (fb : Env → Sto → R T) (env : Env) (x : T) (st1 : Sto) : R T := (fb env st1).bnd (k1_fBin op x)
theorem ap_fBin (op : PySem.Operator) (fa fb : Env → Sto → R T) (env : Env) (st : Sto) : fBin op fa fb env st = ((fa env st).bnd (k2_fBin op fb env)) := rfl
def k1_fNeg  (x : T) (st1 : Sto) : R T := match x with
  | .int i => .ok (.int (-i)) st1
  | _ => .bad
theorem ap_fNeg (fa : Env → Sto → R T) (env : Env) (st : Sto) : fNeg fa env st = ((fa env st).bnd (k1_fNeg)) := rfl
def k1_fCmp (op : PySem.CmpOp) (x : T) (y : T) (st2 : Sto) : R T := R.opt ((cmpT st2 op x y).map .bl) st2
def k2_fCmp (op : PySem.CmpOp) (fb : Env → Sto → R T) (env : Env) (x : T) (st1 : Sto) : R T := (fb env st1).bnd (k1_fCmp op x)
theorem ap_fCmp (op : PySem.CmpOp) (fa fb : Env → Sto → R T) (env : Env) (st : Sto) : fCmp op fa fb env st = ((fa env st).bnd (k2_fCmp op fb env)) := rfl
def k1_fIsN (n : Bool) (x : T) (st1 : Sto) : R T := .ok (.bl (isNn n x)) st1
theorem ap_fIsN (n : Bool) (fa : Env → Sto → R T) (env : Env) (st : Sto) : fIsN n fa env st = ((fa env st).bnd (k1_fIsN n)) := rfl
def k1_fTup  (xs : List T) (st1 : Sto) : R T := if xs.length ≤ lim then .ok (.tup xs) st1 else .bad
theorem ap_fTup (fs : Env → Sto → R (List T)) (env : Env) (st : Sto) : fTup fs env st = ((fs env st).bnd (k1_fTup)) := rfl
def k1_fIx (x : T) (y : T) (st2 : Sto) : R T := R.opt (ixT st2 x y) st2
def k2_fIx (fb : Env → Sto → R T) (env : Env) (x : T) (st1 : Sto) : R T := (fb env st1).bnd (k1_fIx x)
theorem ap_fIx (fa fb : Env → Sto → R T) (env : Env) (st : Sto) : fIx fa fb env st = ((fa env st).bnd (k2_fIx fb env)) := rfl
def k1_fSl (x : T) (l : Option Int) (u : Option Int) (st3 : Sto) : R T := match x with
  | .tup xs => .ok (.tup (cut xs l u)) st3
  | _ => .bad
def k2_fSl (fh : Env → Sto → R (Option Int)) (env : Env) (x : T) (l : Option Int) (st2 : Sto) : R T := (fh env st2).bnd (k1_fSl x l)
def k3_fSl (fl : Env → Sto → R (Option Int)) (fh : Env → Sto → R (Option Int)) (env : Env) (x : T) (st1 : Sto) : R T := (fl env st1).bnd (k2_fSl fh env x)
theorem ap_fSl (fa : Env → Sto → R T) (fl fh : Env → Sto → R (Option Int)) (env : Env) (st : Sto) : fSl fa fl fh env st = ((fa env st).bnd (k3_fSl fl fh env)) := rfl
def k1_fFz  (xs : List T) (st1 : Sto) : R T := .ok (.lst xs) st1
theorem ap_fFz (fl : Env → Sto → R (List T)) (env : Env) (st : Sto) : fFz fl env st = ((fl env st).bnd (k1_fFz)) := rfl
theorem ap_fFn (o : Option Fn) (fs fk : Env → Sto → R (List T)) (env : Env) (st : Sto) : fFn o fs fk env st = (match o with
  | some fn => (fs env st).bnd fun xs st1 => (fk env st1).bnd fun ys st2 => if ys.length = fn.ks.length then fn.F (xs ++ ys) st2 else .bad
  | none => .bad) := rfl
def k1_fBi (b : Bi) (xs : List T) (st1 : Sto) : R T := R.opt (biT st1 b xs) st1
theorem ap_fBi (b : Bi) (fs : Env → Sto → R (List T)) (env : Env) (st : Sto) : fBi b fs env st = ((fs env st).bnd (k1_fBi b)) := rfl
theorem ap_fNil (u1 : Env) (st : Sto) : fNil  u1 st = (.ok [] st) := rfl
def k1_fCons (x : T) (xs : List T) (st2 : Sto) : R (List T) := .ok (x :: xs) st2
def k2_fCons (fs : Env → Sto → R (List T)) (env : Env) (x : T) (st1 : Sto) : R (List T) := (fs env st1).bnd (k1_fCons x)
theorem ap_fCons (fa : Env → Sto → R T) (fs : Env → Sto → R (List T)) (env : Env) (st : Sto) : fCons fa fs env st = ((fa env st).bnd (k2_fCons fs env)) := rfl
theorem ap_fNo0 (u1 : Env) (st : Sto) : fNo'  u1 st = (.ok none st) := rfl
def k1_fSo  (x : T) (st1 : Sto) : R (Option Int) := match x with
  | .int i => .ok (some i) st1
  | _ => .bad
theorem ap_fSo (fa : Env → Sto → R T) (env : Env) (st : Sto) : fSo fa env st = ((fa env st).bnd (k1_fSo)) := rfl
def k1_fNot  (x : T) (st1 : Sto) : R T := match x with
    | .bl b => .ok (.bl (!b)) st1
    | _ => .bad
theorem ap_fNot (fa : Env → Sto → R T) (env : Env) (st : Sto) : fNot fa env st = ((fa env st).bnd (k1_fNot)) := rfl
def k1_fChain (o1 : PySem.CmpOp) (o2 : PySem.CmpOp) (fc : Env → Sto → R T) (env : Env) (x : T) (y : T) (st2 : Sto) : R T := (R.opt (cmpT st2 o1 x y) st2).bnd fun k st3 =>
      if k = true then (fc env st3).bnd fun z st4 => R.opt ((cmpT st4 o2 y z).map .bl) st4 else .ok (.bl false) st3
def k2_fChain (o1 : PySem.CmpOp) (o2 : PySem.CmpOp) (fb : Env → Sto → R T) (fc : Env → Sto → R T) (env : Env) (x : T) (st1 : Sto) : R T := (fb env st1).bnd (k1_fChain o1 o2 fc env x)
theorem ap_fChain (o1 o2 : PySem.CmpOp) (fa fb fc : Env → Sto → R T) (env : Env) (st : Sto) : fChain o1 o2 fa fb fc env st = ((fa env st).bnd (k2_fChain o1 o2 fb fc env)) := rfl
def k1_fAnd (fb : Env → Sto → R T) (env : Env) (x : T) (st1 : Sto) : R T := match x with
    | .bl true => fBl fb env st1
    | .bl false => .ok (.bl false) st1
    | _ => .bad
theorem ap_fAnd (fa fb : Env → Sto → R T) (env : Env) (st : Sto) : fAnd fa fb env st = ((fa env st).bnd (k1_fAnd fb env)) := rfl
def k1_fOr (fb : Env → Sto → R T) (env : Env) (x : T) (st1 : Sto) : R T := match x with
    | .bl true => .ok (.bl true) st1
    | .bl false => fBl fb env st1
    | _ => .bad
theorem ap_fOr (fa fb : Env → Sto → R T) (env : Env) (st : Sto) : fOr fa fb env st = ((fa env st).bnd (k1_fOr fb env)) := rfl
def k1_fIte (fa : Env → Sto → R T) (fb : Env → Sto → R T) (env : Env) (x : T) (st1 : Sto) : R T := match x with
    | .bl true => fa env st1
    | .bl false => fb env st1
    | _ => .bad
theorem ap_fIte (fc fa fb : Env → Sto → R T) (env : Env) (st : Sto) : fIte fc fa fb env st = ((fc env st).bnd (k1_fIte fa fb env)) := rfl
def k1_fBl  (y : T) (st2 : Sto) : R T := match y with
      | .bl c => .ok (.bl c) st2
      | _ => .bad
theorem ap_fBl (fb : Env → Sto → R T) (env : Env) (st : Sto) : fBl fb env st = ((fb env st).bnd (k1_fBl)) := rfl
def k1_fNew  (xs : List T) (st1 : Sto) : R T := .ok (.loc st1.length) (st1 ++ [.lst xs])
theorem ap_fNew (fl : Env → Sto → R (List T)) (env : Env) (st : Sto) : fNew fl env st = ((fl env st).bnd (k1_fNew)) := rfl
def k1_fMu (o : Mu) (fs : Env → Sto → R (List T)) (env : Env) (x : T) (st1 : Sto) : R T := if (lstAt st1 x).isSome then (fs env st1).bnd fun ys st2 => match lstAt st2 x with
  | some (l, xs) => match muT o xs ys with
    | some (r, xs') => .ok r (st2.set l (.lst xs'))
    | none => .bad
  | none => .bad else .bad
theorem ap_fMu (o : Mu) (fa : Env → Sto → R T) (fs : Env → Sto → R (List T)) (env : Env) (st : Sto) : fMu o fa fs env st = ((fa env st).bnd (k1_fMu o fs env)) := rfl
def k1_fStr  (x : T) (st1 : Sto) : R T := R.opt (strT x) st1
theorem ap_fStr (fa : Env → Sto → R T) (env : Env) (st : Sto) : fStr fa env st = ((fa env st).bnd (k1_fStr)) := rfl
def k1_fRepr  (x : T) (st1 : Sto) : R T := R.opt (reprT st1 x) st1
theorem ap_fRepr (fa : Env → Sto → R T) (env : Env) (st : Sto) : fRepr fa env st = ((fa env st).bnd (k1_fRepr)) := rfl
def k1_fAttr (cs : List Ci) (f : PySem.Str) (x : T) (st1 : Sto) : R T := match insOf st1 x with
  | some (c, vs) => match cs[c]? with
    | some ci => match fldIx ci.fl f with
      | some i => R.opt vs[i]? st1
      | none => match ci.props.lookup f with
        | some F => (F [x] st1).nox
        | none => .bad
    | none => .bad
  | none => .bad
theorem ap_fAttr (cs : List Ci) (f : PySem.Str) (fa : Env → Sto → R T) (env : Env) (st : Sto) : fAttr cs f fa env st = ((fa env st).bnd (k1_fAttr cs f)) := rfl
def k1_fDl  (xs : List T) (st1 : Sto) : R (List T) := if xs.length ≤ lim then .ok xs st1 else .bad
theorem ap_fDl (fs : Env → Sto → R (List T)) (env : Env) (st : Sto) : fDl fs env st = ((fs env st).bnd (k1_fDl)) := rfl
theorem ap_fLc (own : List Nat) (fe : Env → Sto → R T) (g : IG) (fit : Env → Sto → R (List T)) (ft : Env → Sto → R Bool) (env : Env) (st : Sto) : fLc own fe g fit ft env st = ((fit env st).bnd fun xs st1 =>
    if xs.length ≤ lim then (each (fTurn own fe g ft env) xs st1).nox else .bad) := rfl
def k1_fCat (x : T) (y : T) (st2 : Sto) : R (List T) := match ownL st2 x, ownL st2 y with
    | some xs, some ys => if xs.length + ys.length ≤ lim then .ok (xs ++ ys) st2 else .bad
    | _, _ => .bad
def k2_fCat (fb : Env → Sto → R T) (env : Env) (x : T) (st1 : Sto) : R (List T) := (fb env st1).bnd (k1_fCat x)
theorem ap_fCat (fa fb : Env → Sto → R T) (env : Env) (st : Sto) : fCat fa fb env st = ((fa env st).bnd (k2_fCat fb env)) := rfl
def k1_fRep (x : T) (y : T) (st2 : Sto) : R (List T) := match ownL st2 x, y with
    | some xs, .int k => if -(2 ^ 62) ≤ k ∧ k < 2 ^ 62 ∧ xs.length * k.toNat ≤ lim then .ok (List.replicate k.toNat xs).flatten st2 else .bad
    | _, _ => .bad
def k2_fRep (fb : Env → Sto → R T) (env : Env) (x : T) (st1 : Sto) : R (List T) := (fb env st1).bnd (k1_fRep x)
theorem ap_fRep (fa fb : Env → Sto → R T) (env : Env) (st : Sto) : fRep fa fb env st = ((fa env st).bnd (k2_fRep fb env)) := rfl
def k1_fLi  (x : T) (st1 : Sto) : R (List T) := R.opt (seqOf st1 x) st1
theorem ap_fLi (fa : Env → Sto → R T) (env : Env) (st : Sto) : fLi fa env st = ((fa env st).bnd (k1_fLi)) := rfl
def k1_fSlL (x : T) (l : Option Int) (u : Option Int) (st3 : Sto) : R (List T) := match lstOf st3 x with
    | some xs => .ok (cut xs l u) st3
    | none => .bad
def k2_fSlL (fh : Env → Sto → R (Option Int)) (env : Env) (x : T) (l : Option Int) (st2 : Sto) : R (List T) := (fh env st2).bnd (k1_fSlL x l)
def k3_fSlL (fl : Env → Sto → R (Option Int)) (fh : Env → Sto → R (Option Int)) (env : Env) (x : T) (st1 : Sto) : R (List T) := (fl env st1).bnd (k2_fSlL fh env x)
theorem ap_fSlL (fa : Env → Sto → R T) (fl fh : Env → Sto → R (Option Int)) (env : Env) (st : Sto) : fSlL fa fl fh env st = ((fa env st).bnd (k3_fSlL fl fh env)) := rfl
def k1_fZ3 (x y u : T) (st3 : Sto) : R (List T) := match seqOf st3 x, seqOf st3 y, seqOf st3 u with
    | some xs, some ys, some us => if (z3l xs ys us).length ≤ lim then .ok ((z3l xs ys us).map T.tup) st3 else .bad
    | _, _, _ => .bad
def k2_fZ3 (fc : Env → Sto → R T) (env : Env) (x y : T) (st2 : Sto) : R (List T) := (fc env st2).bnd (k1_fZ3 x y)
def k3_fZ3 (fb fc : Env → Sto → R T) (env : Env) (x : T) (st1 : Sto) : R (List T) := (fb env st1).bnd (k2_fZ3 fc env x)
theorem ap_fZ3 (fa fb fc : Env → Sto → R T) (env : Env) (st : Sto) : fZ3 fa fb fc env st = ((fa env st).bnd (k3_fZ3 fb fc env)) := rfl
def k1_fSeq  (x : T) (st1 : Sto) : R (List T) := match x with
    | .lst xs => .ok xs st1
    | .tup xs => .ok xs st1
    | .scr ns => .ok (ns.map .int) st1
    | .str y => .ok (chars y) st1
    | _ => .bad
theorem ap_fSeq (fa : Env → Sto → R T) (env : Env) (st : Sto) : fSeq fa env st = ((fa env st).bnd (k1_fSeq)) := rfl
def k1_fEn  (x : T) (st1 : Sto) : R (List T) := match x with
    | .lst xs => .ok (numbered 0 xs) st1
    | .tup xs => .ok (numbered 0 xs) st1
    | _ => .bad
theorem ap_fEn (fa : Env → Sto → R T) (env : Env) (st : Sto) : fEn fa env st = ((fa env st).bnd (k1_fEn)) := rfl
def k1_fPr (x : T) (y : T) (st2 : Sto) : R (List T) := match x, y with
    | .lst xs, .lst ys => .ok (pairs xs ys) st2
    | .tup xs, .tup ys => .ok (pairs xs ys) st2
    | .lst xs, .tup ys => .ok (pairs xs ys) st2
    | .tup xs, .lst ys => .ok (pairs xs ys) st2
    | _, _ => .bad
def k2_fPr (fb : Env → Sto → R T) (env : Env) (x : T) (st1 : Sto) : R (List T) := (fb env st1).bnd (k1_fPr x)
theorem ap_fPr (fa fb : Env → Sto → R T) (env : Env) (st : Sto) : fPr fa fb env st = ((fa env st).bnd (k2_fPr fb env)) := rfl
def k1_fRg1  (x : T) (st1 : Sto) : R (List T) := match x with
    | .int j => if RgOk j then .ok (rangeT 0 j) st1 else .bad
    | _ => .bad
theorem ap_fRg1 (fa : Env → Sto → R T) (env : Env) (st : Sto) : fRg1 fa env st = ((fa env st).bnd (k1_fRg1)) := rfl
def k1_fRg2 (x : T) (y : T) (st2 : Sto) : R (List T) := match x, y with
    | .int i, .int j => if RgOk i ∧ RgOk j then .ok (rangeT i j) st2 else .bad
    | _, _ => .bad
def k2_fRg2 (fb : Env → Sto → R T) (env : Env) (x : T) (st1 : Sto) : R (List T) := (fb env st1).bnd (k1_fRg2 x)
theorem ap_fRg2 (fa fb : Env → Sto → R T) (env : Env) (st : Sto) : fRg2 fa fb env st = ((fa env st).bnd (k2_fRg2 fb env)) := rfl
def k1_fTst  (x : T) (st1 : Sto) : R Bool := R.opt (asBl x) st1
theorem ap_fTst (fa : Env → Sto → R T) (env : Env) (st : Sto) : fTst fa env st = ((fa env st).bnd (k1_fTst)) := rfl
theorem ap_fYes (u1 : Env) (st : Sto) : fYes  u1 st = (.ok true st) := rfl
theorem ap_fNx (env : Env) (st : Sto) : fNx  env st = (.nx env st) := rfl
def k1_fAsg (ft : Ft) (env : Env) (t : T) (st1 : Sto) : O := match ft t env st1 with
  | .nx env' st' => .nx env' st'
  | .exc e env' st' => .exc e env' st'
  | _ => .bad
theorem ap_fAsg (fa : Env → Sto → R T) (ft : Ft) (env : Env) (st : Sto) : fAsg fa ft env st = ((fa env st).go env (k1_fAsg ft env)) := rfl
def k1_fPar2 (i : Nat) (j : Nat) (env : Env) (ts : List T) (st1 : Sto) : O := match ts with
  | [t, u] => if i < env.length ∧ j < env.length then .nx ((env.set i (some t)).set j (some u)) st1 else .bad
  | _ => .bad
theorem ap_fPar2 (i j : Nat) (fs : Env → Sto → R (List T)) (env : Env) (st : Sto) : fPar2 i j fs env st = ((fs env st).go env (k1_fPar2 i j env)) := rfl
def k1_fPar3 (i : Nat) (j : Nat) (l : Nat) (env : Env) (ts : List T) (st1 : Sto) : O := match ts with
  | [t, u, w] => if i < env.length ∧ j < env.length ∧ l < env.length then .nx (((env.set i (some t)).set j (some u)).set l (some w)) st1 else .bad
  | _ => .bad
theorem ap_fPar3 (i j l : Nat) (fs : Env → Sto → R (List T)) (env : Env) (st : Sto) : fPar3 i j l fs env st = ((fs env st).go env (k1_fPar3 i j l env)) := rfl
def k1_fIf (f : Fs) (g : Fs) (env : Env) (t : T) (st1 : Sto) : O := match t with
  | .bl true => f env st1
  | .bl false => g env st1
  | _ => .bad
theorem ap_fIf (fc : Env → Sto → R T) (f g : Fs) (env : Env) (st : Sto) : fIf fc f g env st = ((fc env st).go env (k1_fIf f g env)) := rfl
def k1_fRet  (t : T) (st1 : Sto) : O := .rt t st1
theorem ap_fRet (fa : Env → Sto → R T) (env : Env) (st : Sto) : fRet fa env st = ((fa env st).go env (k1_fRet)) := rfl
def k1_fExp (env : Env) (u9 : T) (st1 : Sto) : O := .nx env st1
theorem ap_fExp (fa : Env → Sto → R T) (env : Env) (st : Sto) : fExp fa env st = ((fa env st).go env (k1_fExp env)) := rfl
def k1_fFor (g : IG) (f : Fs) (env : Env) (xs : List T) (st1 : Sto) : O := walkO g f xs env st1
theorem ap_fFor (fit : Env → Sto → R (List T)) (g : IG) (f : Fs) (env : Env) (st : Sto) : fFor fit g f env st = ((fit env st).go env (k1_fFor g f env)) := rfl
theorem ap_fG (g : IG) (t : T) (env : Env) (st : Sto) : fG g t env st = (match g.set t env with
  | some env' => .nx env' st
  | none => .bad) := rfl
def k1_fSub (t : T) (env : Env) (x : T) (y : T) (st2 : Sto) : O := match lstAt st2 x, y with
  | some (l, xs), .int k => match L2.ixN xs.length k with
    | some j => .nx env (st2.set l (.lst (xs.set j t)))
    | none => .bad
  | _, _ => .bad
def k2_fSub (fb : Env → Sto → R T) (t : T) (env : Env) (x : T) (st1 : Sto) : O := (fb env st1).go env (k1_fSub t env x)
theorem ap_fSub (fa fb : Env → Sto → R T) (t : T) (env : Env) (st : Sto) : fSub fa fb t env st = ((fa env st).go env (k2_fSub fb t env)) := rfl
theorem ap_fTu (n : Nat) (g : List T → Env → Sto → O) (t : T) (env : Env) (st : Sto) : fTu n g t env st = (match t with
  | .tup ts => if ts.length = n then g ts env st else .bad
  | _ => .bad) := rfl
theorem ap_fNo (ts : List T) (env : Env) (st : Sto) : fNo  ts env st = (match ts with
  | [] => .nx env st
  | _ => .bad) := rfl
theorem ap_fCo (f : Ft) (g : List T → Env → Sto → O) (ts : List T) (env : Env) (st : Sto) : fCo f g ts env st = (match ts with
  | t :: ts => (f t env st).seq fun env1 st1 => g ts env1 st1
  | [] => .bad) := rfl
def k1_fFld (cs : List Ci) (f : PySem.Str) (env : Env) (y : T) (x : T) (st2 : Sto) : O := match x with
  | .loc l => match putC cs f y st2 l with
    | some st3 => .nx env st3
    | none => .bad
  | _ => .bad
def k2_fFld (cs : List Ci) (f : PySem.Str) (fo : Env → Sto → R T) (env : Env) (y : T) (st1 : Sto) : O := (fo env st1).go env (k1_fFld cs f env y)
theorem ap_fFld (cs : List Ci) (f : PySem.Str) (fv fo : Env → Sto → R T) (env : Env) (st : Sto) : fFld cs f fv fo env st = ((fv env st).go env (k2_fFld cs f fo env)) := rfl
def k1_fIsi (n : Nat) (tb : IsiTb) (g : Tg) (x : T) (st1 : Sto) : R T := R.opt ((isiT n tb g st1 x).map .bl) st1
theorem ap_fIsi (n : Nat) (tb : IsiTb) (g : Tg) (fa : Env → Sto → R T) (env : Env) (st : Sto) : fIsi n tb g fa env st = ((fa env st).bnd (k1_fIsi n tb g)) := rfl
theorem ap_evSs (tb : Tab) (s : IS) (ss : List IS) (env : Env) (st : Sto) : evSs tb (s :: ss) env st = (s.ev tb env st).seq (evSs tb ss) := by rw [evSs]
theorem ap_evSs0 (tb : Tab) (env : Env) (st : Sto) : evSs tb [] env st = .nx env st := by rw [evSs]; rfl
/-- it ends well, and so -/
def Ev {A : Type} (r : R A) (Q : A → Sto → Prop) : Prop := ∃ a st, r = .ok a st ∧ Q a st
theorem Ev.ok {A : Type} {a : A} {st : Sto} {Q : A → Sto → Prop} (h : Q a st) : Ev (.ok a st) Q := ⟨a, st, rfl, h⟩
theorem Ev.bnd {A B : Type} {x : R A} {f : A → Sto → R B} {P : A → Sto → Prop} {Q : B → Sto → Prop} (h : Ev x P) (k : ∀ a st, P a st → Ev (f a st) Q) : Ev (x.bnd f) Q := by
  obtain ⟨a, st, e, p⟩ := h
  obtain ⟨b, st2, e2, q⟩ := k a st p
  exact ⟨b, st2, by rw [e]; exact e2, q⟩
theorem Ev.imp {A : Type} {x : R A} {P Q : A → Sto → Prop} (h : Ev x P) (k : ∀ a st, P a st → Q a st) : Ev x Q := let ⟨a, st, e, p⟩ := h; ⟨a, st, e, k a st p⟩
@[simp] theorem bnd_ok' {A B : Type} {a : A} {st : Sto} {f : A → Sto → R B} : (R.ok a st).bnd f = f a st := rfl
@[simp] theorem go_ok' {A : Type} {a : A} {st : Sto} {env : Env} {f : A → Sto → O} : (R.ok a st).go env f = f a st := rfl
@[simp] theorem seq_nx' {env : Env} {st : Sto} {f : Env → Sto → O} : (O.nx env st).seq f = f env st := rfl
@[simp] theorem seq_rt' {t : T} {st : Sto} {f : Env → Sto → O} : (O.rt t st).seq f = .rt t st := rfl
@[simp] theorem opt_some' {A : Type} {a : A} {st : Sto} : R.opt (some a) st = .ok a st := rfl
@[simp] theorem nox_ok' {A : Type} {a : A} {st : Sto} : (R.ok a st).nox = .ok a st := rfl
/-! ### no place of the store within -/
def Nl (t : T) : Prop := ∀ f, frzW f t = some t
def Nls (ts : List T) : Prop := ∀ f, frzWs f ts = some ts
/-- a store whose cells name places of this store alone -/
def NL (st : Sto) : Prop := ∀ f : Nat → Option T, (∀ i, i < st.length → f i = some (.loc i)) → frzCs f st = some st
theorem frzCs_all {f : Nat → Option T} : ∀ {st : Sto}, frzCs f st = some st ↔ ∀ c, c ∈ st → frzC f c = some c
  | [] => ⟨fun _ c hc => (by cases hc), fun _ => rfl⟩
  | c :: st => by
    have e : frzCs f (c :: st) = match frzC f c, frzCs f st with
      | some d, some ds => some (d :: ds)
      | _, _ => none := rfl
    rw [e]
    constructor
    · intro h
      cases e1 : frzC f c with
      | none => rw [e1] at h; cases h
      | some y =>
        cases e2 : frzCs f st with
        | none => rw [e1, e2] at h; cases h
        | some ys =>
          rw [e1, e2] at h
          simp only [Option.some.injEq, List.cons.injEq] at h
          intro d hd
          rcases List.mem_cons.mp hd with rfl | hd
          · rw [e1, h.1]
          · exact frzCs_all.mp (by rw [e2, h.2]) d hd
    · intro h
      rw [h c List.mem_cons_self, frzCs_all.mpr fun d hd => h d (List.mem_cons_of_mem _ hd)]
@[simp] theorem nl_non : Nl .non := fun _ => by rw [frzW]
@[simp] theorem nl_bl {b : Bool} : Nl (.bl b) := fun _ => by rw [frzW]
@[simp] theorem nl_int {b : Int} : Nl (.int b) := fun _ => by rw [frzW]
@[simp] theorem nl_str {b : PySem.Str} : Nl (.str b) := fun _ => by rw [frzW]
@[simp] theorem nl_scr {b : List Int} : Nl (.scr b) := fun _ => by rw [frzW]
@[simp] theorem nls_nil : Nls [] := fun _ => by rw [frzWs]
@[simp] theorem nls_cons {x : T} {xs : List T} : Nls (x :: xs) ↔ Nl x ∧ Nls xs := by
  constructor
  · intro h
    have key : ∀ f, frzW f x = some x ∧ frzWs f xs = some xs := fun f => by
      have := h f
      rw [frzWs] at this
      cases e1 : frzW f x with
      | none => rw [e1] at this; cases this
      | some y =>
        cases e2 : frzWs f xs with
        | none => rw [e1, e2] at this; cases this
        | some ys =>
          rw [e1, e2] at this
          simp only [Option.some.injEq, List.cons.injEq] at this
          exact ⟨by rw [this.1], by rw [this.2]⟩
    exact ⟨fun f => (key f).1, fun f => (key f).2⟩
  · rintro ⟨h1, h2⟩ f
    rw [frzWs, h1 f, h2 f]
theorem nls_of {xs : List T} (h : ∀ x, x ∈ xs → Nl x) : Nls xs := by
  induction xs with
  | nil => exact nls_nil
  | cons x xs ih => exact nls_cons.mpr ⟨h x List.mem_cons_self, ih fun y hy => h y (List.mem_cons_of_mem _ hy)⟩
theorem nls_mem {xs : List T} (h : Nls xs) : ∀ x, x ∈ xs → Nl x := by
  induction xs with
  | nil => intro x hx; cases hx
  | cons y ys ih =>
    obtain ⟨h1, h2⟩ := nls_cons.mp h
    intro x hx
    rcases List.mem_cons.mp hx with rfl | hx
    · exact h1
    · exact ih h2 x hx
@[simp] theorem nls_app {xs ys : List T} : Nls (xs ++ ys) ↔ Nls xs ∧ Nls ys := by
  constructor
  · intro h
    exact ⟨nls_of fun x hx => nls_mem h x (List.mem_append_left _ hx), nls_of fun x hx => nls_mem h x (List.mem_append_right _ hx)⟩
  · rintro ⟨h1, h2⟩
    exact nls_of fun x hx => (List.mem_append.mp hx).elim (nls_mem h1 x) (nls_mem h2 x)
@[simp] theorem nl_tup {xs : List T} : Nl (.tup xs) ↔ Nls xs := by
  constructor
  · intro h f
    have := h f
    rw [frzW] at this
    obtain ⟨ys, e1, e2⟩ := Option.map_eq_some_iff.mp this
    cases e2; exact e1
  · intro h f; rw [frzW, h f]; rfl
@[simp] theorem nl_lst {xs : List T} : Nl (.lst xs) ↔ Nls xs := by
  constructor
  · intro h f
    have := h f
    rw [frzW] at this
    obtain ⟨ys, e1, e2⟩ := Option.map_eq_some_iff.mp this
    cases e2; exact e1
  · intro h f; rw [frzW, h f]; rfl
@[simp] theorem nl_obj {c : Nat} {xs : List T} : Nl (.obj c xs) ↔ Nls xs := by
  constructor
  · intro h f
    have := h f
    rw [frzW] at this
    obtain ⟨ys, e1, e2⟩ := Option.map_eq_some_iff.mp this
    cases e2; exact e1
  · intro h f; rw [frzW, h f]; rfl
@[simp] theorem NL_nil : NL [] := fun _ _ => rfl
theorem NL_cons {c : Cell} {st : Sto} (h1 : ∀ f, frzC f c = some c) (h2 : NL st) : NL (c :: st) := fun f hf => frzCs_all.mpr fun d hd => by
  rcases List.mem_cons.mp hd with rfl | hd
  · exact h1 f
  · exact frzCs_all.mp (h2 f fun i hi => hf i (by rw [List.length_cons]; omega)) d hd
theorem NL_lst {xs : List T} {st : Sto} (h1 : Nls xs) (h2 : NL st) : NL (.lst xs :: st) := NL_cons (fun f => by show (frzWs f xs).map Cell.lst = _; rw [h1 f]; rfl) h2
/-- cells that name places of the store in front of them, or of their own -/
theorem NL_app' {st st2 : Sto} (h1 : NL st) (h2 : ∀ f : Nat → Option T, (∀ i, i < st.length + st2.length → f i = some (.loc i)) → ∀ c, c ∈ st2 → frzC f c = some c) : NL (st ++ st2) := fun f hf => frzCs_all.mpr fun d hd => by
  rw [List.length_append] at hf
  rcases List.mem_append.mp hd with hd | hd
  · exact frzCs_all.mp (h1 f fun i hi => hf i (by omega)) d hd
  · exact h2 f hf d hd
theorem NL_app {st st2 : Sto} (h1 : NL st) (h2 : NL st2) : NL (st ++ st2) := NL_app' h1 fun f hf c hc => frzCs_all.mp (h2 f fun i hi => hf i (by omega)) c hc
theorem frz_id {cs : List Ci} {st : Sto} {n i : Nat} {kp : Option Nat} (h : i < n) : frz cs st (ren n kp) i = some (.loc i) := by
  unfold frz frzL ren
  rw [if_pos h]
theorem kept_nl {md : Bool} {n : Nat} {t : T} (h : Nl t) : kept md n t = none := by
  cases t with
  | loc l => have := h (fun _ => none); rw [frzW] at this; cases this
  | _ => rfl
/-- a def's end, its own lists forgotten -/
theorem fin_nl {cs : List Ci} {md : Bool} {st loc : Sto} {t : T} (h : NL st) (ht : Nl t) : finR cs md st.length t (st ++ loc) = .ok t st := by
  unfold finR
  rw [kept_nl ht]
  simp only [more, List.append_nil, List.take_left']
  rw [h _ fun i hi => frz_id hi, ht _]
theorem fin_nl0 {cs : List Ci} {md : Bool} {st : Sto} {t : T} (h : NL st) (ht : Nl t) : finR cs md st.length t st = .ok t st := by
  have := fin_nl (cs := cs) (md := md) (loc := []) h ht
  rwa [List.append_nil] at this
theorem fin_nlN {cs : List Ci} {md : Bool} {n : Nat} {st loc : Sto} {t : T} (hn : n = st.length) (h : NL st) (ht : Nl t) : finR cs md n t (st ++ loc) = .ok t st := by subst hn; exact fin_nl h ht
/-- a list of its own goes out frozen -/
theorem fin_lst {cs : List Ci} {st loc : Sto} {l : Nat} {xs : List T} (h : NL st) (hl : (st ++ loc)[l]? = some (.lst xs)) (hge : st.length ≤ l) (hx : Nls xs) : finR cs false st.length (.loc l) (st ++ loc) = .ok (.lst xs) st := by
  unfold finR
  have hk : kept false st.length (.loc l) = none := by
    show (if false = true ∧ st.length ≤ l then some l else none) = none
    rw [if_neg (by simp)]
  rw [hk]
  simp only [more, List.append_nil, List.take_left']
  rw [h _ fun i hi => frz_id hi, frzW]
  have : frz cs (st ++ loc) (ren st.length none) l = some (.lst xs) := by
    unfold frz frzL ren
    rw [if_neg (by omega), if_neg (by simp)]
    simp only [hl]
    rw [hx _]
    rfl
  rw [this]
/-- .. as it is -/
theorem fin_keep {cs : List Ci} {st loc : Sto} {l : Nat} {c : Cell} (h : NL st) (hl : (st ++ loc)[l]? = some c) (hge : st.length ≤ l) (hc : ∀ f, frzC f c = some c) : finR cs true st.length (.loc l) (st ++ loc) = .ok (.loc st.length) (st ++ [c]) := by
  unfold finR
  have hk : kept true st.length (.loc l) = some l := by
    show (if true = true ∧ st.length ≤ l then some l else none) = some l
    rw [if_pos ⟨rfl, hge⟩]
  rw [hk]
  simp only [more, List.take_left', hl, Option.toList_some]
  rw [frzCs_all.mpr (fun d hd => by
    rcases List.mem_append.mp hd with hd | hd
    · exact frzCs_all.mp (h _ fun i hi => frz_id hi) d hd
    · rw [List.mem_singleton.mp hd]; exact hc _), frzW]
  have : frz cs (st ++ loc) (ren st.length (some l)) l = some (.loc st.length) := by
    unfold frz frzL ren
    rw [if_neg (by omega), if_pos rfl]
  rw [this]
@[simp] theorem finO_rt {cs : List Ci} {md : Bool} {n : Nat} {t : T} {st : Sto} : finO cs md n (.rt t st) = finR cs md n t st := rfl
@[simp] theorem finO_nx {cs : List Ci} {md : Bool} {n : Nat} {env : Env} {st : Sto} : finO cs md n (.nx env st) = finR cs false n .non st := rfl
/-! ### whole numbers -/
theorem log2_lt {n k : Nat} (h : n < 2 ^ k) (hk : 0 < k) : n.log2 < k := by
  by_cases h0 : n = 0
  · subst h0; simpa using hk
  · exact (Nat.log2_lt h0).mpr h
theorem mul_ok {i j : Int} (a b : Nat) (hi : i.natAbs < 2 ^ a) (hj : j.natAbs < 2 ^ b) (ha : 0 < a) (hb : 0 < b) (h : a + b ≤ 1000000) : MulOk i j := by
  unfold MulOk
  have := log2_lt hi ha
  have := log2_lt hj hb
  omega
theorem div_ok {j : Int} (h : 0 < j) (h2 : j < 2 ^ 64) : DivOk j := by
  refine ⟨h, ?_⟩
  have : j.natAbs < 2 ^ 64 := by
    have : (j.natAbs : Int) < 2 ^ 64 := by rw [Int.natAbs_of_nonneg (by omega)]; exact h2
    exact_mod_cast this
  have := log2_lt this (by decide)
  omega
/-! ### operations -/
section
variable {a b : Int} {st : Sto} {x y : T} {xs ys : List T} {s t : PySem.Str}
@[simp] theorem bin_add : binT .Add (.int a) (.int b) = some (.int (a + b)) := rfl
@[simp] theorem bin_sub : binT .Sub (.int a) (.int b) = some (.int (a - b)) := rfl
@[simp] theorem bin_mul (h : MulOk a b) : binT .Mult (.int a) (.int b) = some (.int (a * b)) := if_pos h
@[simp] theorem bin_div (h : DivOk b) : binT .FloorDiv (.int a) (.int b) = some (.int (a / b)) := if_pos h
@[simp] theorem bin_mod (h : 0 < b) : binT .Mod (.int a) (.int b) = some (.int (a % b)) := if_pos h
@[simp] theorem bin_pow (h : PowOk a b) : binT .Pow (.int a) (.int b) = some (.int (a ^ b.toNat)) := if_pos h
@[simp] theorem bin_tup (h : xs.length + ys.length ≤ lim) : binT .Add (.tup xs) (.tup ys) = some (.tup (xs ++ ys)) := if_pos h
@[simp] theorem bin_str (h : s.length + t.length ≤ lim) : binT .Add (.str s) (.str t) = some (.str (s ++ t)) := if_pos h
@[simp] theorem ix_tup' : ixT st (.tup xs) (.int a) = L2.atI xs a := rfl
@[simp] theorem ix_lst' : ixT st (.lst xs) (.int a) = L2.atI xs a := rfl
@[simp] theorem ix_scr' {ns : List Int} : ixT st (.scr ns) (.int a) = L2.atI (ns.map T.int) a := rfl
theorem ix_loc' {l : Nat} (h : st[l]? = some (.lst xs)) : ixT st (.loc l) (.int a) = L2.atI xs a := by
  show (match (match st[l]? with
    | some (.lst xs) => some xs
    | _ => none) with
    | some xs => L2.atI xs a
    | none => none) = _
  rw [h]
@[simp] theorem ix_loc0 : ixT (.lst xs :: st) (.loc 0) (.int a) = L2.atI xs a := rfl
@[simp] theorem cmp_lt : cmpT st .Lt (.int a) (.int b) = some (decide (a < b)) := rfl
@[simp] theorem cmp_le : cmpT st .LtE (.int a) (.int b) = some (decide (a ≤ b)) := rfl
@[simp] theorem cmp_gt : cmpT st .Gt (.int a) (.int b) = some (decide (b < a)) := rfl
@[simp] theorem cmp_ge : cmpT st .GtE (.int a) (.int b) = some (decide (b ≤ a)) := rfl
@[simp] theorem cmp_eq : cmpT st .Eq x y = eqT (frozen st x) (frozen st y) := rfl
@[simp] theorem cmp_ne : cmpT st .NotEq x y = (eqT (frozen st x) (frozen st y)).map (!·) := rfl
@[simp] theorem cmp_in : cmpT st .In x y = inT st x y := rfl
@[simp] theorem cmp_nin : cmpT st .NotIn x y = (inT st x y).map (!·) := rfl
@[simp] theorem fr_int : frozen st (.int a) = .int a := rfl
@[simp] theorem fr_non : frozen st .non = .non := rfl
@[simp] theorem fr_bl {k : Bool} : frozen st (.bl k) = .bl k := rfl
@[simp] theorem fr_str : frozen st (.str s) = .str s := rfl
@[simp] theorem fr_tup : frozen st (.tup xs) = .tup xs := rfl
@[simp] theorem fr_lst : frozen st (.lst xs) = .lst xs := rfl
theorem eqT_of {u v : T} (h1 : data u = true) (h2 : data v = true) (h3 : dep u ≤ 60) (h4 : dep v ≤ 60) : eqT u v = some (eqv u v) := by
  unfold eqT
  rw [h1, h2, decide_eq_true h3, decide_eq_true h4]
  rfl
@[simp] theorem eq_int : eqT (.int a) (.int b) = some (a == b) := by rw [eqT_of rfl rfl (by simp [dep]) (by simp [dep])]; simp [eqv]
@[simp] theorem len_tup : biT st .len [.tup xs] = some (.int xs.length) := rfl
@[simp] theorem len_lst : biT st .len [.lst xs] = some (.int xs.length) := rfl
@[simp] theorem len_scr {ns : List Int} : biT st .len [.scr ns] = some (.int ns.length) := by show some (T.int ((ns.map T.int).length : Nat)) = _; rw [List.length_map]
@[simp] theorem abs_int : biT st .abs [.int a] = some (.int (if a < 0 then -a else a)) := rfl
@[simp] theorem int_int : biT st .int [.int a] = some (.int a) := rfl
@[simp] theorem int_bl {k : Bool} : biT st .int [.bl k] = some (.int (if k then 1 else 0)) := rfl
@[simp] theorem max_2 : biT st .max [.int a, .int b] = some (.int (if b > a then b else a)) := rfl
@[simp] theorem min_2 : biT st .min [.int a, .int b] = some (.int (if b < a then b else a)) := rfl
@[simp] theorem tup_lst : biT st .tuple [.lst xs] = some (.tup xs) := rfl
@[simp] theorem tup_tup : biT st .tuple [.tup xs] = some (.tup xs) := rfl
@[simp] theorem dm_ok (h : DivOk b) : biT st .divmod [.int a, .int b] = some (.tup [.int (a / b), .int (a % b)]) := if_pos h
theorem ints_map (ns : List Int) : intsOf (ns.map T.int) = some ns := by
  induction ns with
  | nil => rfl
  | cons n ns ih => show (intsOf (ns.map T.int)).map (n :: ·) = _; rw [ih]; rfl
@[simp] theorem sum_lst {ns : List Int} : biT st .sum [.lst (ns.map T.int)] = some (.int ns.sum) := by
  show ((some (ns.map T.int)).bind intsOf).map (fun ns => T.int ns.sum) = _
  rw [Option.bind_some, ints_map]; rfl
theorem max_lst {ns : List Int} (h : ns ≠ []) : biT st .max [.lst (ns.map T.int)] = some (.int (maxI ns)) := by
  show ((some (ns.map T.int)).bind intsOf).bind (fun ns => if ns = [] then none else some (T.int (maxI ns))) = _
  rw [Option.bind_some, ints_map, Option.bind_some, if_neg h]
end
/-! ### slices -/
@[simp] theorem cut_take {A : Type} {xs : List A} {k : Nat} : cut xs none (some (k : Int)) = xs.take k := by
  unfold cut
  rw [HT.sIx_none, HT.sIx_nat, List.drop_zero, Nat.sub_zero, List.take_eq_take_iff]
  omega
@[simp] theorem cut_drop {A : Type} {xs : List A} {k : Nat} : cut xs (some (k : Int)) none = xs.drop k := by
  unfold cut
  rw [HT.sIx_none, HT.sIx_nat]
  by_cases h : k ≤ xs.length
  · rw [Nat.min_eq_left h, List.take_of_length_le (by rw [List.length_drop]; exact Nat.le_refl _)]
  · rw [Nat.min_eq_right (by omega), List.drop_eq_nil_of_le (Nat.le_refl _), List.drop_eq_nil_of_le (by omega)]
    simp
@[simp] theorem cut_take3 {A : Type} {xs : List A} : cut xs none (some 3) = xs.take 3 := cut_take (k := 3)
/-! ### walks -/
/-- turn by turn, with an invariant of the store -/
theorem each_inv {f : T → Sto → R (Option T)} {P : Nat → Sto → Prop} {Q : Nat → T → Prop} : ∀ {xs : List T} {n : Nat} {st : Sto}, P n st → (∀ i x st, xs[i]? = some x → P (n + i) st → Ev (f x st) fun o st' => (∃ y, o = some y ∧ Q (n + i) y) ∧ P (n + i + 1) st') →
    Ev (each f xs st) fun ys st' => ys.length = xs.length ∧ (∀ i y, ys[i]? = some y → Q (n + i) y) ∧ P (n + xs.length) st'
  | [], n, st, h, _ => Ev.ok ⟨rfl, fun i y e => by simp at e, h⟩
  | x :: xs, n, st, h, k => by
    unfold each
    refine Ev.bnd (k 0 x st rfl h) fun o st1 ⟨⟨y, ho, hq⟩, h1⟩ => ?_
    refine Ev.bnd (each_inv (xs := xs) (n := n + 1) (P := P) (Q := Q) h1 fun i z st2 hz hp => ?_) fun ys st2 ⟨l, q, p⟩ => ?_
    · have := k (i + 1) z st2 (by simpa using hz) (by rw [show n + (i + 1) = n + 1 + i by omega]; exact hp)
      rw [show n + (i + 1) = n + 1 + i by omega] at this
      exact this
    · subst ho
      refine Ev.ok ⟨by simp [l], fun i z e => ?_, by rw [show n + (x :: xs).length = n + 1 + xs.length by simp; omega]; exact p⟩
      cases i with
      | zero => simp at e; subst e; simpa using hq
      | succ i => have := q i z (by simpa using e); rw [show n + (i + 1) = n + 1 + i by omega]; exact this
/-- a pure turn -/
theorem each_map {f : T → Sto → R (Option T)} {g : T → T} {st : Sto} : ∀ {xs : List T}, (∀ x, x ∈ xs → f x st = .ok (some (g x)) st) → each f xs st = .ok (xs.map g) st
  | [], _ => rfl
  | x :: xs, h => by
    unfold each
    rw [h x List.mem_cons_self, bnd_ok', each_map (xs := xs) fun y hy => h y (List.mem_cons_of_mem _ hy)]
    rfl
/-- a pure turn that leaves some out -/
theorem each_filter {f : T → Sto → R (Option T)} {g : T → Option T} {st : Sto} : ∀ {xs : List T}, (∀ x, x ∈ xs → f x st = .ok (g x) st) → each f xs st = .ok (xs.filterMap g) st
  | [], _ => rfl
  | x :: xs, h => by
    unfold each
    rw [h x List.mem_cons_self, bnd_ok', each_filter (xs := xs) fun y hy => h y (List.mem_cons_of_mem _ hy), List.filterMap_cons]
    cases g x <;> rfl
/-- how a suite ends -/
def EvO (o : O) (Q : O → Prop) : Prop := Q o
/-- a walk of statements that goes on -/
theorem walk_inv {g : IG} {f : Fs} {P : Nat → Env → Sto → Prop} {Q : O → Prop} : ∀ {xs : List T} {n : Nat} {env : Env} {st : Sto}, P n env st →
    (∀ i x env st, xs[i]? = some x → P (n + i) env st → ∃ env1, g.set x env = some env1 ∧ ((∃ env2 st2, (f env1 st = .nx env2 st2 ∨ f env1 st = .ct env2 st2) ∧ P (n + i + 1) env2 st2) ∨ (∃ t s, f env1 st = .rt t s ∧ Q (.rt t s)))) →
    (∀ env st, P (n + xs.length) env st → Q (.nx env st)) → Q (walkO g f xs env st)
  | [], n, env, st, h, _, d => d env st h
  | x :: xs, n, env, st, h, k, d => by
    obtain ⟨env1, e1, hh⟩ := k 0 x env st rfl h
    unfold walkO
    rw [e1]
    rcases hh with ⟨env2, st2, e2, p⟩ | ⟨t, s, e2, q⟩
    · have go : Q (walkO g f xs env2 st2) := by
        refine walk_inv (P := P) (n := n + 1) p (fun i z env3 st3 hz hp => ?_) fun env3 st3 hp => d env3 st3 (by rw [show n + (x :: xs).length = n + 1 + xs.length by simp; omega]; exact hp)
        have := k (i + 1) z env3 st3 (by simpa using hz) (by rw [show n + (i + 1) = n + 1 + i by omega]; exact hp)
        rw [show n + (i + 1) + 1 = n + 1 + i + 1 by omega] at this
        exact this
      rcases e2 with e2 | e2
      · simp only [e2]; exact go
      · simp only [e2]; exact go
    · simp only [e2]; exact q
/-! ### comprehensions -/
section
variable {own : List Nat} {fe : Env → Sto → R T} {g : IG} {fit : Env → Sto → R (List T)} {ft : Env → Sto → R Bool} {env : Env} {st : Sto}
theorem lc_mapE {B : Type} {ys : List B} {emb h : B → T} (hit : fit env st = .ok (ys.map emb) st) (hl : ys.length ≤ 16777216) (ht : ∀ y, y ∈ ys → fTurn own fe g ft env (emb y) st = .ok (some (h y)) st) : fLc own fe g fit ft env st = .ok (ys.map h) st := by
  unfold fLc
  rw [hit, bnd_ok', if_pos (by rw [List.length_map]; exact hl)]
  have : each (fTurn own fe g ft env) (ys.map emb) st = .ok (ys.map h) st := by
    clear hit hl
    induction ys with
    | nil => rfl
    | cons y ys ih =>
      rw [List.map_cons, List.map_cons]
      unfold each
      rw [ht y List.mem_cons_self, bnd_ok', ih fun z hz => ht z (List.mem_cons_of_mem _ hz)]
      rfl
  rw [this]; rfl
theorem lc_filterE {B : Type} {ys : List B} {emb : B → T} {h : B → Option T} (hit : fit env st = .ok (ys.map emb) st) (hl : ys.length ≤ 16777216) (ht : ∀ y, y ∈ ys → fTurn own fe g ft env (emb y) st = .ok (h y) st) : fLc own fe g fit ft env st = .ok (ys.filterMap h) st := by
  unfold fLc
  rw [hit, bnd_ok', if_pos (by rw [List.length_map]; exact hl)]
  have : each (fTurn own fe g ft env) (ys.map emb) st = .ok (ys.filterMap h) st := by
    clear hit hl
    induction ys with
    | nil => rfl
    | cons y ys ih =>
      rw [List.map_cons, List.filterMap_cons]
      unfold each
      rw [ht y List.mem_cons_self, bnd_ok', ih fun z hz => ht z (List.mem_cons_of_mem _ hz)]
      cases h y <;> rfl
  rw [this]; rfl
theorem lc_inv {xs : List T} {st1 : Sto} {P : Nat → Sto → Prop} {Q : Nat → T → Prop} (hit : fit env st = .ok xs st1) (hl : xs.length ≤ 16777216) (h0 : P 0 st1)
    (step : ∀ i x st, xs[i]? = some x → P i st → Ev (fTurn own fe g ft env x st) fun o st' => (∃ y, o = some y ∧ Q i y) ∧ P (i + 1) st') : Ev (fLc own fe g fit ft env st) fun ys st' => ys.length = xs.length ∧ (∀ i y, ys[i]? = some y → Q i y) ∧ P xs.length st' := by
  unfold fLc
  rw [hit, bnd_ok', if_pos (show xs.length ≤ lim from hl)]
  obtain ⟨ys, s2, e, q1, q2, q3⟩ := each_inv (n := 0) (f := fTurn own fe g ft env) (P := P) (Q := Q) h0 fun i x st hx hp => by
    rw [Nat.zero_add] at hp ⊢
    exact step i x st hx hp
  rw [e]
  refine Ev.ok ⟨q1, fun i y hy => by simpa using q2 i y hy, by simpa using q3⟩
end
/-- range(n) -/
theorem range_emb (n : Nat) : rangeT 0 n = (List.range n).map fun (i : Nat) => T.int (i : Int) := by
  unfold rangeT
  simp
theorem rg_ok {k : Nat} (h : k ≤ 1000000) : RgOk (k : Int) := by
  have h2 : (k : Int) ≤ 1000000 := by omega
  have h3 : (0 : Int) ≤ k := Int.natCast_nonneg k
  unfold RgOk
  constructor
  · exact Int.le_trans (by decide) h3
  · exact Int.lt_of_le_of_lt h2 (by decide)
theorem rg1_eq {fa : Env → Sto → R T} {env : Env} {st st1 : Sto} {k : Nat} (h : fa env st = .ok (.int k) st1) (hk : k ≤ 1000000) : fRg1 fa env st = .ok ((List.range k).map fun (j : Nat) => T.int (j : Int)) st1 := by
  show (fa env st).bnd _ = _
  rw [h, bnd_ok', ← range_emb]
  exact if_pos (rg_ok hk)
@[simp] theorem get_last {st : Sto} {c : Cell} : (st ++ [c])[st.length]? = some c := by simp
@[simp] theorem set_last {st : Sto} {c d : Cell} : (st ++ [c]).set st.length d = st ++ [d] := by
  rw [List.set_append_right _ _ (Nat.le_refl _)]
  simp
theorem ceil_eq {a b : Int} (hb : 0 < b) : (a + b - 1) / b = -(-a / b) := by
  have h := Int.emod_add_mul_ediv (-a) b
  have r0 := Int.emod_nonneg (-a) (Int.ne_of_gt hb)
  have r1 := Int.emod_lt_of_pos (-a) hb
  have e : a + b - 1 = (b - 1 - -a % b) + b * (-(-a / b)) := by rw [Int.mul_neg]; omega
  rw [e, Int.add_mul_ediv_left _ _ (Int.ne_of_gt hb), Int.ediv_eq_zero_of_lt (by omega) (by omega), Int.zero_add]
end Eg
set_option Elab.async false
set_option linter.all false
set_option maxRecDepth 100000
namespace Eg
open PySem
theorem textFrom_le : ∀ (ts : List Str) (k : Nat) (acc : Str), (textFrom k acc ts).length ≤ acc.length + (ts.map fun t => t.length + 2).sum
  | [], k, acc => by show acc.length ≤ _; simp
  | t :: r, k, acc => by
    have h := textFrom_le r (k + 1) (acc ++ (if k > 0 then ", " else "" : String) ++ t)
    show (textFrom (k + 1) (acc ++ (if k > 0 then ", " else "" : String) ++ t) r).length ≤ _
    rw [strLen_append, strLen_append] at h
    have : ((if k > 0 then ", " else "" : String) : Str).length ≤ 2 := by split <;> decide
    simp only [List.map_cons, List.sum_cons]
    omega
theorem listText_le (ts : List Str) : (listText ts).length ≤ 2 + (ts.map fun t => t.length + 2).sum := by
  unfold listText
  rw [strLen_append]
  have h := textFrom_le ts 0 "["
  have h1 : (("[" : String) : Str).length = 1 := by decide
  have h2 : (("]" : String) : Str).length = 1 := by decide
  omega
theorem tupleText_le (ts : List Str) : (tupleText ts).length ≤ 3 + (ts.map fun t => t.length + 2).sum := by
  unfold tupleText
  rw [strLen_append, strLen_append]
  have h := StrLaws.join_length_le ", " ts
  have h1 : (("(" : String) : Str).length = 1 := by decide
  have h2 : ((if ts.length == 1 then ",)" else ")" : String) : Str).length ≤ 2 := by split <;> decide
  have h3 : ((", " : String) : Str).length = 2 := by decide
  rw [h3] at h
  have h4 : (ts.map fun t => t.length + 2).sum = (ts.map (·.length)).sum + ts.length * 2 := by
    clear h h1 h2 h3
    induction ts with
    | nil => rfl
    | cons t r ih => simp only [List.map_cons, List.sum_cons, List.length_cons, ih]; omega
  omega
mutual
/-- a bound of the length of the repr -/
def shB : T → Nat
  | .non => 4
  | .bl _ => 5
  | .int i => i.natAbs.log2 + 2
  | .str x => 10 * x.length + 2
  | .lst xs => 3 + shBs xs
  | .tup xs => 3 + shBs xs
  | _ => 0
def shBs : List T → Nat
  | [] => 0
  | x :: xs => shB x + 2 + shBs xs
end
mutual
/-- ints that are not too long -/
def shI : T → Bool
  | .int i => decide (i.natAbs.log2 < 1920)
  | .lst xs => shIs xs
  | .tup xs => shIs xs
  | _ => true
def shIs : List T → Bool
  | [] => true
  | x :: xs => shI x && shIs xs
end
theorem signs_ok {x : Str} (h : PyData.strOk x = true) : ∀ c ∈ x.cps.toList, c < 16 ^ 8 := fun c hc => by
  have h2 : x.cps.all (· < 0x110000) = true := h
  rw [← Array.all_toList, List.all_eq_true] at h2
  have := h2 c hc
  simp at this
  omega
theorem shown_sum : ∀ (xs : List T), ((PyData.shownAll (toDs xs)).map fun t => t.length + 2).sum = ((PyData.shownAll (toDs xs)).map (·.length)).sum + 2 * xs.length
  | [] => by simp [toDs, PyData.shownAll]
  | x :: xs => by
    have := shown_sum xs
    simp only [toDs, PyData.shownAll, List.map_cons, List.sum_cons, List.length_cons] at this ⊢
    omega
mutual
theorem shown_le : ∀ t : T, data t = true → (toD t).shown.length ≤ shB t
  | .non, _ => by simp only [toD, PyData.shown, shB]; decide
  | .bl b, _ => by cases b <;> simp only [toD, PyData.shown, shB] <;> decide
  | .int i, _ => by
    simp only [toD, PyData.shown, shB]
    rw [PyProof.Rows.ofString_len]
    exact int_text_length_le (k := i.natAbs.log2 + 1) (by omega) (by omega)
  | .str x, h => by
    simp only [toD, PyData.shown, shB]
    exact StrLaws.reprText_len x (signs_ok (by simpa [data] using h))
  | .tup xs, h => by
    simp only [toD, PyData.shown, shB]
    exact Nat.le_trans (tupleText_le _) (Nat.add_le_add_left (showns_le xs (by simpa [data] using h)) 3)
  | .lst xs, h => by
    simp only [toD, PyData.shown, shB]
    have h1 := listText_le (PyData.shownAll (toDs xs))
    have h2 := showns_le xs (by simpa [data] using h)
    omega
  | .obj _ _, h => by simp [data] at h
  | .exc _ _, h => by simp [data] at h
  | .loc _, h => by simp [data] at h
  | .scr _, h => by simp [data] at h
theorem showns_le : ∀ xs : List T, datas xs = true → ((PyData.shownAll (toDs xs)).map fun t => t.length + 2).sum ≤ shBs xs
  | [], _ => by simp [toDs, PyData.shownAll, shBs]
  | x :: xs, h => by
    simp only [datas, Bool.and_eq_true] at h
    have h1 := shown_le x h.1
    have h2 := showns_le xs h.2
    simp only [toDs, PyData.shownAll, List.map_cons, List.sum_cons, shBs]
    omega
end
mutual
theorem showable_ok : ∀ t : T, data t = true → shI t = true → (toD t).showable = true
  | .non, _, _ => by simp only [toD, PyData.showable]
  | .bl b, _, _ => by simp only [toD, PyData.showable]
  | .int i, _, h => by simpa only [toD, PyData.showable, shI] using h
  | .str x, _, _ => by simp only [toD, PyData.showable]
  | .tup xs, h, k => by
    simp only [toD, PyData.showable]
    exact showables_ok xs (by simpa [data] using h) (by simpa [shI] using k)
  | .lst xs, h, k => by
    simp only [toD, PyData.showable]
    exact showables_ok xs (by simpa [data] using h) (by simpa [shI] using k)
  | .obj _ _, h, _ => by simp [data] at h
  | .exc _ _, h, _ => by simp [data] at h
  | .loc _, h, _ => by simp [data] at h
  | .scr _, h, _ => by simp [data] at h
theorem showables_ok : ∀ xs : List T, datas xs = true → shIs xs = true → PyData.showableAll (toDs xs) = true
  | [], _, _ => by simp only [toDs, PyData.showableAll]
  | x :: xs, h, k => by
    simp only [datas, Bool.and_eq_true] at h
    simp only [shIs, Bool.and_eq_true] at k
    simp only [toDs, PyData.showableAll, Bool.and_eq_true]
    exact ⟨showable_ok x h.1 k.1, showables_ok xs h.2 k.2⟩
end
/-- the text of the repr -/
def sh (t : T) : Str := (toD t).shown
theorem okShow_of {t : T} (h1 : data t = true) (h2 : shI t = true) (h3 : dep t ≤ 60) (h4 : shB t ≤ 16777216) : okShow t = true := by
  unfold okShow
  simp only [Bool.and_eq_true, decide_eq_true_eq]
  exact ⟨⟨⟨h1, showable_ok t h1 h2⟩, h3⟩, Nat.le_trans (shown_le t h1) h4⟩
theorem repr_of {t : T} {st : Sto} (hf : frozen st t = t) (h1 : data t = true) (h2 : shI t = true) (h3 : dep t ≤ 60) (h4 : shB t ≤ 16777216) : reprT st t = some (.str (sh t)) := by
  unfold reprT
  rw [hf]
  exact if_pos (okShow_of h1 h2 h3 h4)
theorem so_iff {x : Str} : PyData.strOk x = true ↔ ∀ c ∈ x.cps.toList, c < 0x110000 := by
  unfold PyData.strOk
  rw [← Array.all_toList, List.all_eq_true]
  simp
theorem so_char (c : Char) : c.toNat < 0x110000 := by
  have := c.valid
  rcases this with h | h
  · have : c.toNat < 0xd800 := h
    omega
  · exact h.2
theorem so_ofString (s : String) : PyData.strOk (Str.ofString s) = true := so_iff.mpr fun c hc => by
  rw [Str.ofString_eq_toList] at hc
  obtain ⟨d, _, rfl⟩ := List.mem_map.mp (by simpa using hc)
  exact so_char d
theorem so_app {x y : Str} (h1 : PyData.strOk x = true) (h2 : PyData.strOk y = true) : PyData.strOk (x ++ y) = true := so_iff.mpr fun c hc => by
  rw [Str.cps_append, Array.toList_append] at hc
  rcases List.mem_append.mp hc with h | h
  · exact so_iff.mp h1 c h
  · exact so_iff.mp h2 c h
theorem so_reprChar {q c : Nat} (hc : c < 0x110000) : ∀ d ∈ Builtin.Str.reprChar q c, d < 0x110000 := fun d hd => by
  have hx : ∀ w : Nat, d ∈ (List.replicate (w - ((Nat.toDigits 16 c).map Char.toNat).length) 48 ++ (Nat.toDigits 16 c).map Char.toNat) → d < 0x110000 := fun w h => by
    rcases List.mem_append.mp h with h | h
    · rw [List.eq_of_mem_replicate h]; decide
    · obtain ⟨e, _, rfl⟩ := List.mem_map.mp h
      exact so_char e
  unfold Builtin.Str.reprChar at hd
  dsimp only at hd
  repeat' split at hd
  all_goals simp only [List.mem_append, List.mem_cons, List.not_mem_nil, or_false] at hd
  all_goals first
    | omega
    | (rcases hd with (h | h) | h
       · omega
       · omega
       · exact hx _ (List.mem_append.mpr h))
theorem so_fold {q : Nat} : ∀ (l : List Nat) (acc : Array Nat), (∀ c ∈ l, c < 0x110000) → (∀ c ∈ acc.toList, c < 0x110000) → ∀ c ∈ (l.foldl (fun out c => out ++ (Builtin.Str.reprChar q c).toArray) acc).toList, c < 0x110000
  | [], acc, _, h => h
  | c :: r, acc, h1, h2 => by
    rw [List.foldl_cons]
    refine so_fold r _ (fun d hd => h1 d (List.mem_cons_of_mem _ hd)) fun d hd => ?_
    rw [Array.toList_append] at hd
    rcases List.mem_append.mp hd with h | h
    · exact h2 d h
    · exact so_reprChar (h1 c List.mem_cons_self) d (by simpa using h)
theorem so_reprText {x : Str} (h : PyData.strOk x = true) : PyData.strOk (reprText x) = true := so_iff.mpr fun c hc => by
  have hq : reprQuote x < 0x110000 := by unfold reprQuote; split <;> decide
  unfold reprText at hc
  rw [Array.toList_push, ← Array.foldl_toList] at hc
  rcases List.mem_append.mp hc with h1 | h1
  · exact so_fold x.cps.toList _ (so_iff.mp h) (by intro c hc; simp at hc; omega) c h1
  · rw [List.mem_singleton.mp h1]; exact hq
theorem so_join {sep : Str} (hs : PyData.strOk sep = true) : ∀ ts : List Str, (∀ t ∈ ts, PyData.strOk t = true) → PyData.strOk (Str.join sep ts) = true
  | [], _ => so_iff.mpr fun c hc => by have : c ∈ (Str.empty).cps.toList := hc; simp [Str.empty] at this
  | [x], h => h x (by simp)
  | x :: y :: r, h => by
    show PyData.strOk (x ++ sep ++ Str.join sep (y :: r)) = true
    exact so_app (so_app (h x (by simp)) hs) (so_join hs (y :: r) fun t ht => h t (List.mem_cons_of_mem _ ht))
theorem so_textFrom : ∀ (ts : List Str) (k : Nat) (acc : Str), PyData.strOk acc = true → (∀ t ∈ ts, PyData.strOk t = true) → PyData.strOk (textFrom k acc ts) = true
  | [], _, _, h, _ => h
  | t :: r, k, acc, h, h2 => so_textFrom r (k + 1) _ (so_app (so_app h (by split <;> exact so_ofString _)) (h2 t (by simp))) fun t ht => h2 t (List.mem_cons_of_mem _ ht)
mutual
theorem so_shown : ∀ t : T, data t = true → PyData.strOk (toD t).shown = true
  | .non, _ => by simp only [toD, PyData.shown]; exact so_ofString _
  | .bl b, _ => by cases b <;> simp only [toD, PyData.shown] <;> exact so_ofString _
  | .int i, _ => by simp only [toD, PyData.shown]; exact so_ofString _
  | .str x, h => by simp only [toD, PyData.shown]; exact so_reprText (by simpa [data] using h)
  | .tup xs, h => by
    simp only [toD, PyData.shown]
    unfold tupleText
    exact so_app (so_app (so_ofString _) (so_join (so_ofString _) _ (so_showns xs (by simpa [data] using h)))) (by split <;> exact so_ofString _)
  | .lst xs, h => by
    simp only [toD, PyData.shown]
    unfold listText
    exact so_app (so_textFrom _ _ _ (so_ofString _) (so_showns xs (by simpa [data] using h))) (so_ofString _)
  | .obj _ _, h => by simp [data] at h
  | .exc _ _, h => by simp [data] at h
  | .loc _, h => by simp [data] at h
  | .scr _, h => by simp [data] at h
theorem so_showns : ∀ xs : List T, datas xs = true → ∀ t ∈ PyData.shownAll (toDs xs), PyData.strOk t = true
  | [], _ => by simp [toDs, PyData.shownAll]
  | x :: xs, h => by
    simp only [datas, Bool.and_eq_true] at h
    simp only [toDs, PyData.shownAll]
    intro t ht
    rcases List.mem_cons.mp ht with e | e
    · rw [e]; exact so_shown x h.1
    · exact so_showns xs h.2 t e
end
@[simp] theorem data_sh {t : T} (h : data t = true) : data (.str (sh t)) = true := by
  simp only [data]
  exact so_shown t h
end Eg
set_option Elab.async false
set_option linter.all false
set_option maxRecDepth 100000
set_option maxHeartbeats 0
namespace EgLaw
open PySem PySem.Spec PyProof.Rows L2 Eg
def cs_0 : CS := ⟨"Fair", ["givers", "takers", "places"], ["hosts", "guests", "tables", "names"], true⟩
def sx0 : Sx := ⟨[], [cs_0], [], []⟩
def b_is_integer : List IS := [(.ret (.and (.isi (.ty "int") (.v 0)) (.not (.isi (.ty "bool") (.v 0)))))]
noncomputable def tb_is_integer : Tab := ⟨[], [], [], [((.non, (.ty "bool")), false), ((.bl, (.ty "bool")), true), ((.int, (.ty "bool")), false), ((.str, (.ty "bool")), false), ((.tup, (.ty "bool")), false), ((.lst, (.ty "bool")), false), (((.cls 0), (.ty "bool")), false), ((.non, (.ty "int")), false), ((.bl, (.ty "int")), true), ((.int, (.ty "int")), true), ((.str, (.ty "int")), false), ((.tup, (.ty "int")), false), ((.lst, (.ty "int")), false), (((.cls 0), (.ty "int")), false)], [("bool", (.ty "bool")), ("int", (.ty "int"))]⟩
theorem tbf_of_is_integer : tb_is_integer.funs = ([] : List Fn) := rfl
theorem tbc_of_is_integer : tb_is_integer.cons = ([] : List (Str × T)) := rfl
theorem i0_of_is_integer {n : Nat} {st : Sto} : isiT n tb_is_integer.isi (.ty "bool") st .non = some false := by rfl
theorem i1_of_is_integer {n : Nat} {st : Sto} {a : Bool} : isiT n tb_is_integer.isi (.ty "bool") st (.bl a) = some true := by rfl
theorem i2_of_is_integer {n : Nat} {st : Sto} {a : Int} : isiT n tb_is_integer.isi (.ty "bool") st (.int a) = some false := by rfl
theorem i3_of_is_integer {n : Nat} {st : Sto} {a : Str} : isiT n tb_is_integer.isi (.ty "bool") st (.str a) = some false := by rfl
theorem i4_of_is_integer {n : Nat} {st : Sto} {a : List T} : isiT n tb_is_integer.isi (.ty "bool") st (.tup a) = some false := by rfl
theorem i5_of_is_integer {n : Nat} {st : Sto} {a : List T} : isiT n tb_is_integer.isi (.ty "bool") st (.lst a) = some false := by rfl
theorem i7_of_is_integer {n : Nat} {st : Sto} : isiT n tb_is_integer.isi (.ty "int") st .non = some false := by rfl
theorem i8_of_is_integer {n : Nat} {st : Sto} {a : Bool} : isiT n tb_is_integer.isi (.ty "int") st (.bl a) = some true := by rfl
theorem i9_of_is_integer {n : Nat} {st : Sto} {a : Int} : isiT n tb_is_integer.isi (.ty "int") st (.int a) = some true := by rfl
theorem i10_of_is_integer {n : Nat} {st : Sto} {a : Str} : isiT n tb_is_integer.isi (.ty "int") st (.str a) = some false := by rfl
theorem i11_of_is_integer {n : Nat} {st : Sto} {a : List T} : isiT n tb_is_integer.isi (.ty "int") st (.tup a) = some false := by rfl
theorem i12_of_is_integer {n : Nat} {st : Sto} {a : List T} : isiT n tb_is_integer.isi (.ty "int") st (.lst a) = some false := by rfl
noncomputable def F_is_integer : List T → Sto → R T := den tb_is_integer.cls false 1 1 (evSs tb_is_integer b_is_integer)
def b_is_within : List IS := [(.ret (.and (.call 0 (.cons (.v 0) .nil) .nil) (.chain .LtE .LtE (.v 1) (.v 0) (.v 2))))]
noncomputable def tb_is_within : Tab := ⟨[], [⟨"is_integer", [], (padF 1 [] F_is_integer)⟩], [], [], []⟩
theorem tbf_of_is_within : tb_is_within.funs = ([⟨"is_integer", [], (padF 1 [] F_is_integer)⟩] : List Fn) := rfl
theorem tbc_of_is_within : tb_is_within.cons = ([] : List (Str × T)) := rfl
noncomputable def F_is_within : List T → Sto → R T := den tb_is_within.cls false 3 3 (evSs tb_is_within b_is_within)
def e1_is_name : IE := (.or (.cmp .In (.v 1) (.g 2)) (.cmp .In (.v 1) (.g 1)))
def b_is_name : List IS := [(.cond (.or (.not (.isi (.ty "str") (.v 0))) (.not (.chain .LtE .LtE (.k (.int 1)) (.bi .len (.cons (.v 0) .nil)) (.g 0)))) [(.ret (.k (.bl false)))] []),
  (.ret (.and (.cmp .In (.ix (.v 0) (.k (.int 0))) (.g 2)) (.bi .all (.cons (.fz (.lc [1] e1_is_name (.name 1) (.seq (.v 0)) .none)) .nil))))]
noncomputable def tb_is_name : Tab := ⟨[("LONGEST_NAME", (.int 8)), ("DIGITS", (.str "0123456789")), ("LETTERS", (.str "abcdefghijklmnopqrstuvwxyz"))], [], [], [((.non, (.ty "str")), false), ((.bl, (.ty "str")), false), ((.int, (.ty "str")), false), ((.str, (.ty "str")), true), ((.tup, (.ty "str")), false), ((.lst, (.ty "str")), false), (((.cls 0), (.ty "str")), false)], [("str", (.ty "str"))]⟩
theorem tbf_of_is_name : tb_is_name.funs = ([] : List Fn) := rfl
theorem tbc_of_is_name : tb_is_name.cons = ([("LONGEST_NAME", (.int 8)), ("DIGITS", (.str "0123456789")), ("LETTERS", (.str "abcdefghijklmnopqrstuvwxyz"))] : List (Str × T)) := rfl
theorem i0_of_is_name {n : Nat} {st : Sto} : isiT n tb_is_name.isi (.ty "str") st .non = some false := by rfl
theorem i1_of_is_name {n : Nat} {st : Sto} {a : Bool} : isiT n tb_is_name.isi (.ty "str") st (.bl a) = some false := by rfl
theorem i2_of_is_name {n : Nat} {st : Sto} {a : Int} : isiT n tb_is_name.isi (.ty "str") st (.int a) = some false := by rfl
theorem i3_of_is_name {n : Nat} {st : Sto} {a : Str} : isiT n tb_is_name.isi (.ty "str") st (.str a) = some true := by rfl
theorem i4_of_is_name {n : Nat} {st : Sto} {a : List T} : isiT n tb_is_name.isi (.ty "str") st (.tup a) = some false := by rfl
theorem i5_of_is_name {n : Nat} {st : Sto} {a : List T} : isiT n tb_is_name.isi (.ty "str") st (.lst a) = some false := by rfl
noncomputable def F_is_name : List T → Sto → R T := den tb_is_name.cls false 1 2 (evSs tb_is_name b_is_name)
def e1_is_row : IE := (.call 0 (.cons (.v 3) (.cons (.k (.int 0)) (.cons (.v 2) .nil))) .nil)
def b_is_row : List IS := [(.ret (.and (.isi (.ty "tuple") (.v 0)) (.and (.cmp .Eq (.bi .len (.cons (.v 0) .nil)) (.v 1)) (.bi .all (.cons (.fz (.lc [3] e1_is_row (.name 3) (.seq (.v 0)) .none)) .nil)))))]
noncomputable def tb_is_row : Tab := ⟨[], [⟨"is_within", [], (padF 3 [] F_is_within)⟩], [], [((.non, (.ty "tuple")), false), ((.bl, (.ty "tuple")), false), ((.int, (.ty "tuple")), false), ((.str, (.ty "tuple")), false), ((.tup, (.ty "tuple")), true), ((.lst, (.ty "tuple")), false), (((.cls 0), (.ty "tuple")), false)], [("tuple", (.ty "tuple"))]⟩
theorem tbf_of_is_row : tb_is_row.funs = ([⟨"is_within", [], (padF 3 [] F_is_within)⟩] : List Fn) := rfl
theorem tbc_of_is_row : tb_is_row.cons = ([] : List (Str × T)) := rfl
theorem i0_of_is_row {n : Nat} {st : Sto} : isiT n tb_is_row.isi (.ty "tuple") st .non = some false := by rfl
theorem i1_of_is_row {n : Nat} {st : Sto} {a : Bool} : isiT n tb_is_row.isi (.ty "tuple") st (.bl a) = some false := by rfl
theorem i2_of_is_row {n : Nat} {st : Sto} {a : Int} : isiT n tb_is_row.isi (.ty "tuple") st (.int a) = some false := by rfl
theorem i3_of_is_row {n : Nat} {st : Sto} {a : Str} : isiT n tb_is_row.isi (.ty "tuple") st (.str a) = some false := by rfl
theorem i4_of_is_row {n : Nat} {st : Sto} {a : List T} : isiT n tb_is_row.isi (.ty "tuple") st (.tup a) = some true := by rfl
theorem i5_of_is_row {n : Nat} {st : Sto} {a : List T} : isiT n tb_is_row.isi (.ty "tuple") st (.lst a) = some false := by rfl
noncomputable def F_is_row : List T → Sto → R T := den tb_is_row.cls false 3 4 (evSs tb_is_row b_is_row)
def l1_wrong_row : List IS := [(.cond (.not (.call 0 (.cons (.v 4) (.cons (.v 1) (.cons (.v 2) .nil))) .nil)) [(.ret (.v 3))] [])]
def b_wrong_row : List IS := [(.for_ (.tup [(.name 3), (.name 4)]) (.enum (.v 0)) l1_wrong_row),
  (.ret (.k .non))]
noncomputable def tb_wrong_row : Tab := ⟨[], [⟨"is_row", [], (padF 3 [] F_is_row)⟩], [], [], []⟩
theorem tbf_of_wrong_row : tb_wrong_row.funs = ([⟨"is_row", [], (padF 3 [] F_is_row)⟩] : List Fn) := rfl
theorem tbc_of_wrong_row : tb_wrong_row.cons = ([] : List (Str × T)) := rfl
noncomputable def F_wrong_row : List T → Sto → R T := den tb_wrong_row.cls false 3 5 (evSs tb_wrong_row b_wrong_row)
def e1_row_sums : IE := (.bi .sum (.cons (.fz (.list (.v 1))) .nil))
def b_row_sums : List IS := [(.ret (.fz (.lc [1] e1_row_sums (.name 1) (.seq (.v 0)) .none)))]
noncomputable def tb_row_sums : Tab := ⟨[], [], [], [], []⟩
theorem tbf_of_row_sums : tb_row_sums.funs = ([] : List Fn) := rfl
theorem tbc_of_row_sums : tb_row_sums.cons = ([] : List (Str × T)) := rfl
noncomputable def F_row_sums : List T → Sto → R T := den tb_row_sums.cls false 1 2 (evSs tb_row_sums b_row_sums)
def e1_column_sums : IE := (.ix (.v 2) (.v 1))
def e2_column_sums : IE := (.bi .sum (.cons (.fz (.lc [2] e1_column_sums (.name 2) (.seq (.v 0)) .none)) .nil))
def b_column_sums : List IS := [(.ret (.fz (.lc [1] e2_column_sums (.name 1) (.rng1 (.bi .len (.cons (.ix (.v 0) (.k (.int 0))) .nil))) .none)))]
noncomputable def tb_column_sums : Tab := ⟨[], [], [], [], []⟩
theorem tbf_of_column_sums : tb_column_sums.funs = ([] : List Fn) := rfl
theorem tbc_of_column_sums : tb_column_sums.cons = ([] : List (Str × T)) := rfl
noncomputable def F_column_sums : List T → Sto → R T := den tb_column_sums.cls false 1 3 (evSs tb_column_sums b_column_sums)
def b_whole_sum : List IS := [(.ret (.bi .sum (.cons (.call 0 (.cons (.v 0) .nil) .nil) .nil)))]
noncomputable def tb_whole_sum : Tab := ⟨[], [⟨"row_sums", [], (padF 1 [] F_row_sums)⟩], [], [], []⟩
theorem tbf_of_whole_sum : tb_whole_sum.funs = ([⟨"row_sums", [], (padF 1 [] F_row_sums)⟩] : List Fn) := rfl
theorem tbc_of_whole_sum : tb_whole_sum.cons = ([] : List (Str × T)) := rfl
noncomputable def F_whole_sum : List T → Sto → R T := den tb_whole_sum.cls false 1 1 (evSs tb_whole_sum b_whole_sum)
def b_is_member : List IS := [(.cond (.or (.not (.isi (.ty "tuple") (.v 0))) (.or (.cmp .NotEq (.bi .len (.cons (.v 0) .nil)) (.k (.int 2))) (.not (.call 0 (.cons (.ix (.v 0) (.k (.int 0))) .nil) .nil)))) [(.ret (.k (.bl false)))] []),
  (.ret (.call 1 (.cons (.ix (.v 0) (.k (.int 1))) (.cons (.k (.int 1)) (.cons (.g 0) .nil))) .nil))]
noncomputable def tb_is_member : Tab := ⟨[("MOST_BOUND", (.int 4))], [⟨"is_name", [], (padF 1 [] F_is_name)⟩, ⟨"is_within", [], (padF 3 [] F_is_within)⟩], [], [((.non, (.ty "tuple")), false), ((.bl, (.ty "tuple")), false), ((.int, (.ty "tuple")), false), ((.str, (.ty "tuple")), false), ((.tup, (.ty "tuple")), true), ((.lst, (.ty "tuple")), false), (((.cls 0), (.ty "tuple")), false)], [("tuple", (.ty "tuple"))]⟩
theorem tbf_of_is_member : tb_is_member.funs = ([⟨"is_name", [], (padF 1 [] F_is_name)⟩, ⟨"is_within", [], (padF 3 [] F_is_within)⟩] : List Fn) := rfl
theorem tbc_of_is_member : tb_is_member.cons = ([("MOST_BOUND", (.int 4))] : List (Str × T)) := rfl
theorem i0_of_is_member {n : Nat} {st : Sto} : isiT n tb_is_member.isi (.ty "tuple") st .non = some false := by rfl
theorem i1_of_is_member {n : Nat} {st : Sto} {a : Bool} : isiT n tb_is_member.isi (.ty "tuple") st (.bl a) = some false := by rfl
theorem i2_of_is_member {n : Nat} {st : Sto} {a : Int} : isiT n tb_is_member.isi (.ty "tuple") st (.int a) = some false := by rfl
theorem i3_of_is_member {n : Nat} {st : Sto} {a : Str} : isiT n tb_is_member.isi (.ty "tuple") st (.str a) = some false := by rfl
theorem i4_of_is_member {n : Nat} {st : Sto} {a : List T} : isiT n tb_is_member.isi (.ty "tuple") st (.tup a) = some true := by rfl
theorem i5_of_is_member {n : Nat} {st : Sto} {a : List T} : isiT n tb_is_member.isi (.ty "tuple") st (.lst a) = some false := by rfl
noncomputable def F_is_member : List T → Sto → R T := den tb_is_member.cls false 1 1 (evSs tb_is_member b_is_member)
def e1_wrong_member : IE := (.ix (.v 4) (.k (.int 0)))
def l1_wrong_member : List IS := [(.cond (.or (.not (.call 0 (.cons (.v 3) .nil) .nil)) (.or (.cmp .GtE (.v 2) (.g 0)) (.cmp .In (.ix (.v 3) (.k (.int 0))) (.bin .Add (.v 1) (.bi .tuple (.cons (.fz (.lc [4] e1_wrong_member (.name 4) (.seq (.sl (.v 0) .none (.some (.v 2)))) .none)) .nil)))))) [(.ret (.v 2))] [])]
def b_wrong_member : List IS := [(.for_ (.tup [(.name 2), (.name 3)]) (.enum (.v 0)) l1_wrong_member),
  (.ret (.k .non))]
noncomputable def tb_wrong_member : Tab := ⟨[("MOST_SIDE", (.int 4))], [⟨"is_member", [], (padF 1 [] F_is_member)⟩], [], [], []⟩
theorem tbf_of_wrong_member : tb_wrong_member.funs = ([⟨"is_member", [], (padF 1 [] F_is_member)⟩] : List Fn) := rfl
theorem tbc_of_wrong_member : tb_wrong_member.cons = ([("MOST_SIDE", (.int 4))] : List (Str × T)) := rfl
noncomputable def F_wrong_member : List T → Sto → R T := den tb_wrong_member.cls false 2 5 (evSs tb_wrong_member b_wrong_member)
def b_is_tables : List IS := [(.ret (.or (.isN false (.v 0)) (.call 0 (.cons (.v 0) (.cons (.k (.int 1)) (.cons (.g 0) .nil))) .nil)))]
noncomputable def tb_is_tables : Tab := ⟨[("MOST_TABLES", (.int 12))], [⟨"is_within", [], (padF 3 [] F_is_within)⟩], [], [], []⟩
theorem tbf_of_is_tables : tb_is_tables.funs = ([⟨"is_within", [], (padF 3 [] F_is_within)⟩] : List Fn) := rfl
theorem tbc_of_is_tables : tb_is_tables.cons = ([("MOST_TABLES", (.int 12))] : List (Str × T)) := rfl
noncomputable def F_is_tables : List T → Sto → R T := den tb_is_tables.cls false 1 1 (evSs tb_is_tables b_is_tables)
def e1_check_sides : IE := (.ix (.v 3) (.k (.int 0)))
def b_check_sides : List IS := [(.cond (.or (.not (.isi (.ty "tuple") (.v 0))) (.cmp .Eq (.bi .len (.cons (.v 0) .nil)) (.k (.int 0)))) [.never] []),
  (.asg (.pl (.name 2)) (.call 0 (.cons (.v 0) (.cons (.tup .nil) .nil)) .nil)),
  (.cond (.isN true (.v 2)) [.never] []),
  (.cond (.or (.not (.isi (.ty "tuple") (.v 1))) (.cmp .Eq (.bi .len (.cons (.v 1) .nil)) (.k (.int 0)))) [.never] []),
  (.asg (.pl (.name 2)) (.call 0 (.cons (.v 1) (.cons (.bi .tuple (.cons (.fz (.lc [3] e1_check_sides (.name 3) (.seq (.v 0)) .none)) .nil)) .nil)) .nil)),
  (.cond (.isN true (.v 2)) [.never] [])]
noncomputable def tb_check_sides : Tab := ⟨[], [⟨"wrong_member", [], (padF 2 [] F_wrong_member)⟩], [], [((.non, (.ty "tuple")), false), ((.bl, (.ty "tuple")), false), ((.int, (.ty "tuple")), false), ((.str, (.ty "tuple")), false), ((.tup, (.ty "tuple")), true), ((.lst, (.ty "tuple")), false), (((.cls 0), (.ty "tuple")), false)], [("tuple", (.ty "tuple"))]⟩
theorem tbf_of_check_sides : tb_check_sides.funs = ([⟨"wrong_member", [], (padF 2 [] F_wrong_member)⟩] : List Fn) := rfl
theorem tbc_of_check_sides : tb_check_sides.cons = ([] : List (Str × T)) := rfl
theorem i0_of_check_sides {n : Nat} {st : Sto} : isiT n tb_check_sides.isi (.ty "tuple") st .non = some false := by rfl
theorem i1_of_check_sides {n : Nat} {st : Sto} {a : Bool} : isiT n tb_check_sides.isi (.ty "tuple") st (.bl a) = some false := by rfl
theorem i2_of_check_sides {n : Nat} {st : Sto} {a : Int} : isiT n tb_check_sides.isi (.ty "tuple") st (.int a) = some false := by rfl
theorem i3_of_check_sides {n : Nat} {st : Sto} {a : Str} : isiT n tb_check_sides.isi (.ty "tuple") st (.str a) = some false := by rfl
theorem i4_of_check_sides {n : Nat} {st : Sto} {a : List T} : isiT n tb_check_sides.isi (.ty "tuple") st (.tup a) = some true := by rfl
theorem i5_of_check_sides {n : Nat} {st : Sto} {a : List T} : isiT n tb_check_sides.isi (.ty "tuple") st (.lst a) = some false := by rfl
noncomputable def F_check_sides : List T → Sto → R T := den tb_check_sides.cls false 2 4 (evSs tb_check_sides b_check_sides)
def b_Fair_init : List IS := [(.exp (.call 0 (.cons (.v 1) (.cons (.v 2) .nil)) .nil)),
  (.cond (.not (.call 1 (.cons (.v 3) .nil) .nil)) [.never] []),
  (.fld (.v 0) "givers" (.v 1)),
  (.fld (.v 0) "takers" (.v 2)),
  (.fld (.v 0) "places" (.v 3))]
noncomputable def tb_Fair_init : Tab := ⟨[], [⟨"check_sides", [], (padF 2 [] F_check_sides)⟩, ⟨"is_tables", [], (padF 1 [] F_is_tables)⟩], sx0.cls [], [], []⟩
theorem tbf_of_Fair_init : tb_Fair_init.funs = ([⟨"check_sides", [], (padF 2 [] F_check_sides)⟩, ⟨"is_tables", [], (padF 1 [] F_is_tables)⟩] : List Fn) := rfl
theorem tbc_of_Fair_init : tb_Fair_init.cons = ([] : List (Str × T)) := rfl
theorem c0_of_Fair_init : tb_Fair_init.cls[0]? = some ⟨["givers", "takers", "places"], [], []⟩ := rfl
theorem a0givers_of_Fair_init : fldIx (["givers", "takers", "places"] : List Str) "givers" = some 0 := by rfl
theorem a0places_of_Fair_init : fldIx (["givers", "takers", "places"] : List Str) "places" = some 2 := by rfl
theorem a0takers_of_Fair_init : fldIx (["givers", "takers", "places"] : List Str) "takers" = some 1 := by rfl
theorem n_of_Fair_init : tb_Fair_init.cls.length = 1 := rfl
noncomputable def F_Fair_init : List T → Sto → R T := den tb_Fair_init.cls false 4 4 (evSs tb_Fair_init b_Fair_init)
def b_Fair_hosts : List IS := [(.ret (.attr "givers" (.v 0)))]
noncomputable def tb_Fair_hosts : Tab := ⟨[], [], sx0.cls [], [], []⟩
theorem tbf_of_Fair_hosts : tb_Fair_hosts.funs = ([] : List Fn) := rfl
theorem tbc_of_Fair_hosts : tb_Fair_hosts.cons = ([] : List (Str × T)) := rfl
theorem c0_of_Fair_hosts : tb_Fair_hosts.cls[0]? = some ⟨["givers", "takers", "places"], [], []⟩ := rfl
theorem a0givers_of_Fair_hosts : fldIx (["givers", "takers", "places"] : List Str) "givers" = some 0 := by rfl
theorem n_of_Fair_hosts : tb_Fair_hosts.cls.length = 1 := rfl
noncomputable def F_Fair_hosts : List T → Sto → R T := den tb_Fair_hosts.cls false 1 1 (evSs tb_Fair_hosts b_Fair_hosts)
def b_Fair_guests : List IS := [(.ret (.attr "takers" (.v 0)))]
noncomputable def tb_Fair_guests : Tab := ⟨[], [], sx0.cls [], [], []⟩
theorem tbf_of_Fair_guests : tb_Fair_guests.funs = ([] : List Fn) := rfl
theorem tbc_of_Fair_guests : tb_Fair_guests.cons = ([] : List (Str × T)) := rfl
theorem c0_of_Fair_guests : tb_Fair_guests.cls[0]? = some ⟨["givers", "takers", "places"], [], []⟩ := rfl
theorem a0takers_of_Fair_guests : fldIx (["givers", "takers", "places"] : List Str) "takers" = some 1 := by rfl
theorem n_of_Fair_guests : tb_Fair_guests.cls.length = 1 := rfl
noncomputable def F_Fair_guests : List T → Sto → R T := den tb_Fair_guests.cls false 1 1 (evSs tb_Fair_guests b_Fair_guests)
def b_Fair_tables : List IS := [(.ret (.attr "places" (.v 0)))]
noncomputable def tb_Fair_tables : Tab := ⟨[], [], sx0.cls [], [], []⟩
theorem tbf_of_Fair_tables : tb_Fair_tables.funs = ([] : List Fn) := rfl
theorem tbc_of_Fair_tables : tb_Fair_tables.cons = ([] : List (Str × T)) := rfl
theorem c0_of_Fair_tables : tb_Fair_tables.cls[0]? = some ⟨["givers", "takers", "places"], [], []⟩ := rfl
theorem a0places_of_Fair_tables : fldIx (["givers", "takers", "places"] : List Str) "places" = some 2 := by rfl
theorem n_of_Fair_tables : tb_Fair_tables.cls.length = 1 := rfl
noncomputable def F_Fair_tables : List T → Sto → R T := den tb_Fair_tables.cls false 1 1 (evSs tb_Fair_tables b_Fair_tables)
def e1_Fair_names : IE := (.ix (.v 1) (.k (.int 0)))
def b_Fair_names : List IS := [(.ret (.bi .tuple (.cons (.fz (.lc [1] e1_Fair_names (.name 1) (.seq (.bin .Add (.attr "givers" (.v 0)) (.attr "takers" (.v 0)))) .none)) .nil)))]
noncomputable def tb_Fair_names : Tab := ⟨[], [], sx0.cls [], [], []⟩
theorem tbf_of_Fair_names : tb_Fair_names.funs = ([] : List Fn) := rfl
theorem tbc_of_Fair_names : tb_Fair_names.cons = ([] : List (Str × T)) := rfl
theorem c0_of_Fair_names : tb_Fair_names.cls[0]? = some ⟨["givers", "takers", "places"], [], []⟩ := rfl
theorem a0givers_of_Fair_names : fldIx (["givers", "takers", "places"] : List Str) "givers" = some 0 := by rfl
theorem a0takers_of_Fair_names : fldIx (["givers", "takers", "places"] : List Str) "takers" = some 1 := by rfl
theorem n_of_Fair_names : tb_Fair_names.cls.length = 1 := rfl
noncomputable def F_Fair_names : List T → Sto → R T := den tb_Fair_names.cls false 1 2 (evSs tb_Fair_names b_Fair_names)
noncomputable def prs : List (List (Str × (List T → Sto → R T))) := [[("hosts", padF 1 [] F_Fair_hosts), ("guests", padF 1 [] F_Fair_guests), ("tables", padF 1 [] F_Fair_tables), ("names", padF 1 [] F_Fair_names)]]
noncomputable def cl : List Ci := sx0.cls prs
def b_check_fair : List IS := [(.cond (.not (.isi (.cls 0) (.v 0))) [.never] [])]
noncomputable def tb_check_fair : Tab := ⟨[], [], cl, [((.non, (.cls 0)), false), ((.bl, (.cls 0)), false), ((.int, (.cls 0)), false), ((.str, (.cls 0)), false), ((.tup, (.cls 0)), false), ((.lst, (.cls 0)), false), (((.cls 0), (.cls 0)), true)], [("Fair", (.cls 0))]⟩
theorem tbf_of_check_fair : tb_check_fair.funs = ([] : List Fn) := rfl
theorem tbc_of_check_fair : tb_check_fair.cons = ([] : List (Str × T)) := rfl
theorem i0_of_check_fair {n : Nat} {st : Sto} : isiT n tb_check_fair.isi (.cls 0) st .non = some false := by rfl
theorem i1_of_check_fair {n : Nat} {st : Sto} {a : Bool} : isiT n tb_check_fair.isi (.cls 0) st (.bl a) = some false := by rfl
theorem i2_of_check_fair {n : Nat} {st : Sto} {a : Int} : isiT n tb_check_fair.isi (.cls 0) st (.int a) = some false := by rfl
theorem i3_of_check_fair {n : Nat} {st : Sto} {a : Str} : isiT n tb_check_fair.isi (.cls 0) st (.str a) = some false := by rfl
theorem i4_of_check_fair {n : Nat} {st : Sto} {a : List T} : isiT n tb_check_fair.isi (.cls 0) st (.tup a) = some false := by rfl
theorem i5_of_check_fair {n : Nat} {st : Sto} {a : List T} : isiT n tb_check_fair.isi (.cls 0) st (.lst a) = some false := by rfl
theorem i6_of_check_fair {st : Sto} {a : List T} : isiT 1 tb_check_fair.isi (.cls 0) st (.obj 0 a) = some true := by rfl
theorem c0_of_check_fair : tb_check_fair.cls[0]? = some ⟨["givers", "takers", "places"], [("hosts", padF 1 [] F_Fair_hosts), ("guests", padF 1 [] F_Fair_guests), ("tables", padF 1 [] F_Fair_tables), ("names", padF 1 [] F_Fair_names)], []⟩ := rfl
theorem n_of_check_fair : tb_check_fair.cls.length = 1 := rfl
noncomputable def F_check_fair : List T → Sto → R T := den tb_check_fair.cls false 1 1 (evSs tb_check_fair b_check_fair)
def b_wrong_table : List IS := [(.cond (.or (.not (.isi (.ty "tuple") (.v 1))) (.cmp .NotEq (.bi .len (.cons (.v 1) .nil)) (.bi .len (.cons (.attr "hosts" (.v 0)) .nil)))) [(.ret (.tup (.cons (.k .non) .nil)))] []),
  (.asg (.pl (.name 3)) (.call 0 (.cons (.v 1) (.cons (.bi .len (.cons (.attr "guests" (.v 0)) .nil)) (.cons (.v 2) .nil))) .nil)),
  (.ret (.ite (.isN false (.v 3)) (.tup .nil) (.tup (.cons (.v 3) .nil))))]
noncomputable def tb_wrong_table : Tab := ⟨[], [⟨"wrong_row", [], (padF 3 [] F_wrong_row)⟩], cl, [((.non, (.ty "tuple")), false), ((.bl, (.ty "tuple")), false), ((.int, (.ty "tuple")), false), ((.str, (.ty "tuple")), false), ((.tup, (.ty "tuple")), true), ((.lst, (.ty "tuple")), false), (((.cls 0), (.ty "tuple")), false)], [("tuple", (.ty "tuple"))]⟩
theorem tbf_of_wrong_table : tb_wrong_table.funs = ([⟨"wrong_row", [], (padF 3 [] F_wrong_row)⟩] : List Fn) := rfl
theorem tbc_of_wrong_table : tb_wrong_table.cons = ([] : List (Str × T)) := rfl
theorem i0_of_wrong_table {n : Nat} {st : Sto} : isiT n tb_wrong_table.isi (.ty "tuple") st .non = some false := by rfl
theorem i1_of_wrong_table {n : Nat} {st : Sto} {a : Bool} : isiT n tb_wrong_table.isi (.ty "tuple") st (.bl a) = some false := by rfl
theorem i2_of_wrong_table {n : Nat} {st : Sto} {a : Int} : isiT n tb_wrong_table.isi (.ty "tuple") st (.int a) = some false := by rfl
theorem i3_of_wrong_table {n : Nat} {st : Sto} {a : Str} : isiT n tb_wrong_table.isi (.ty "tuple") st (.str a) = some false := by rfl
theorem i4_of_wrong_table {n : Nat} {st : Sto} {a : List T} : isiT n tb_wrong_table.isi (.ty "tuple") st (.tup a) = some true := by rfl
theorem i5_of_wrong_table {n : Nat} {st : Sto} {a : List T} : isiT n tb_wrong_table.isi (.ty "tuple") st (.lst a) = some false := by rfl
theorem i6_of_wrong_table {st : Sto} {a : List T} : isiT 1 tb_wrong_table.isi (.ty "tuple") st (.obj 0 a) = some false := by rfl
theorem c0_of_wrong_table : tb_wrong_table.cls[0]? = some ⟨["givers", "takers", "places"], [("hosts", padF 1 [] F_Fair_hosts), ("guests", padF 1 [] F_Fair_guests), ("tables", padF 1 [] F_Fair_tables), ("names", padF 1 [] F_Fair_names)], []⟩ := rfl
theorem a0guests_of_wrong_table : fldIx (["givers", "takers", "places"] : List Str) "guests" = none := by rfl
theorem p0guests_of_wrong_table : ([("hosts", padF 1 [] F_Fair_hosts), ("guests", padF 1 [] F_Fair_guests), ("tables", padF 1 [] F_Fair_tables), ("names", padF 1 [] F_Fair_names)] : List (Str × (List T → Sto → R T))).lookup ("guests" : Str) = some (padF 1 [] F_Fair_guests) := by rfl
theorem a0hosts_of_wrong_table : fldIx (["givers", "takers", "places"] : List Str) "hosts" = none := by rfl
theorem p0hosts_of_wrong_table : ([("hosts", padF 1 [] F_Fair_hosts), ("guests", padF 1 [] F_Fair_guests), ("tables", padF 1 [] F_Fair_tables), ("names", padF 1 [] F_Fair_names)] : List (Str × (List T → Sto → R T))).lookup ("hosts" : Str) = some (padF 1 [] F_Fair_hosts) := by rfl
theorem n_of_wrong_table : tb_wrong_table.cls.length = 1 := rfl
noncomputable def F_wrong_table : List T → Sto → R T := den tb_wrong_table.cls false 3 4 (evSs tb_wrong_table b_wrong_table)
def b_check_meetings : List IS := [(.asg (.pl (.name 3)) (.call 0 (.cons (.v 0) (.cons (.v 1) (.cons (.v 2) .nil))) .nil)),
  (.cond (.cmp .NotEq (.v 3) (.tup .nil)) [.never] [])]
noncomputable def tb_check_meetings : Tab := ⟨[], [⟨"wrong_table", [], (padF 3 [] F_wrong_table)⟩], [], [], []⟩
theorem tbf_of_check_meetings : tb_check_meetings.funs = ([⟨"wrong_table", [], (padF 3 [] F_wrong_table)⟩] : List Fn) := rfl
theorem tbc_of_check_meetings : tb_check_meetings.cons = ([] : List (Str × T)) := rfl
noncomputable def F_check_meetings : List T → Sto → R T := den tb_check_meetings.cls false 3 4 (evSs tb_check_meetings b_check_meetings)
def e1_bounds_of : IE := (.ix (.v 1) (.k (.int 1)))
def b_bounds_of : List IS := [(.ret (.fz (.lc [1] e1_bounds_of (.name 1) (.seq (.v 0)) .none)))]
noncomputable def tb_bounds_of : Tab := ⟨[], [], [], [], []⟩
theorem tbf_of_bounds_of : tb_bounds_of.funs = ([] : List Fn) := rfl
theorem tbc_of_bounds_of : tb_bounds_of.cons = ([] : List (Str × T)) := rfl
noncomputable def F_bounds_of : List T → Sto → R T := den tb_bounds_of.cls false 1 2 (evSs tb_bounds_of b_bounds_of)
def b_lines_with : List IS := [(.asg (.pl (.name 3)) (.fz (.cat (.call 0 (.cons (.attr "hosts" (.v 0)) .nil) .nil) (.call 0 (.cons (.attr "guests" (.v 0)) .nil) .nil)))),
  (.asg (.pl (.name 4)) (.fz (.cat (.call 1 (.cons (.v 1) .nil) .nil) (.call 2 (.cons (.v 1) .nil) .nil)))),
  (.asg (.pl (.name 5)) (.fz (.zip3 (.v 4) (.fz (.cat (.call 1 (.cons (.v 2) .nil) .nil) (.call 2 (.cons (.v 2) .nil) .nil))) (.v 3)))),
  (.ret (.ite (.isN false (.attr "tables" (.v 0))) (.v 5) (.fz (.cat (.v 5) (.fz (.lst (.cons (.tup (.cons (.call 3 (.cons (.v 1) .nil) .nil) (.cons (.call 3 (.cons (.v 2) .nil) .nil) (.cons (.attr "tables" (.v 0)) .nil)))) .nil)))))))]
noncomputable def tb_lines_with : Tab := ⟨[], [⟨"bounds_of", [], (padF 1 [] F_bounds_of)⟩, ⟨"row_sums", [], (padF 1 [] F_row_sums)⟩, ⟨"column_sums", [], (padF 1 [] F_column_sums)⟩, ⟨"whole_sum", [], (padF 1 [] F_whole_sum)⟩], cl, [], []⟩
theorem tbf_of_lines_with : tb_lines_with.funs = ([⟨"bounds_of", [], (padF 1 [] F_bounds_of)⟩, ⟨"row_sums", [], (padF 1 [] F_row_sums)⟩, ⟨"column_sums", [], (padF 1 [] F_column_sums)⟩, ⟨"whole_sum", [], (padF 1 [] F_whole_sum)⟩] : List Fn) := rfl
theorem tbc_of_lines_with : tb_lines_with.cons = ([] : List (Str × T)) := rfl
theorem c0_of_lines_with : tb_lines_with.cls[0]? = some ⟨["givers", "takers", "places"], [("hosts", padF 1 [] F_Fair_hosts), ("guests", padF 1 [] F_Fair_guests), ("tables", padF 1 [] F_Fair_tables), ("names", padF 1 [] F_Fair_names)], []⟩ := rfl
theorem a0guests_of_lines_with : fldIx (["givers", "takers", "places"] : List Str) "guests" = none := by rfl
theorem p0guests_of_lines_with : ([("hosts", padF 1 [] F_Fair_hosts), ("guests", padF 1 [] F_Fair_guests), ("tables", padF 1 [] F_Fair_tables), ("names", padF 1 [] F_Fair_names)] : List (Str × (List T → Sto → R T))).lookup ("guests" : Str) = some (padF 1 [] F_Fair_guests) := by rfl
theorem a0hosts_of_lines_with : fldIx (["givers", "takers", "places"] : List Str) "hosts" = none := by rfl
theorem p0hosts_of_lines_with : ([("hosts", padF 1 [] F_Fair_hosts), ("guests", padF 1 [] F_Fair_guests), ("tables", padF 1 [] F_Fair_tables), ("names", padF 1 [] F_Fair_names)] : List (Str × (List T → Sto → R T))).lookup ("hosts" : Str) = some (padF 1 [] F_Fair_hosts) := by rfl
theorem a0tables_of_lines_with : fldIx (["givers", "takers", "places"] : List Str) "tables" = none := by rfl
theorem p0tables_of_lines_with : ([("hosts", padF 1 [] F_Fair_hosts), ("guests", padF 1 [] F_Fair_guests), ("tables", padF 1 [] F_Fair_tables), ("names", padF 1 [] F_Fair_names)] : List (Str × (List T → Sto → R T))).lookup ("tables" : Str) = some (padF 1 [] F_Fair_tables) := by rfl
theorem n_of_lines_with : tb_lines_with.cls.length = 1 := rfl
noncomputable def F_lines_with : List T → Sto → R T := den tb_lines_with.cls false 3 6 (evSs tb_lines_with b_lines_with)
def l1_steepest : List IS := [(.cond (.cmp .Gt (.bin .Mult (.ix (.v 2) (.k (.int 1))) (.ix (.v 1) (.k (.int 2)))) (.bin .Mult (.ix (.v 1) (.k (.int 1))) (.ix (.v 2) (.k (.int 2))))) [(.asg (.pl (.name 1)) (.v 2))] [])]
def q1_steepest : IE := (.cmp .Eq (.bin .Mult (.ix (.v 2) (.k (.int 1))) (.ix (.v 1) (.k (.int 2)))) (.bin .Mult (.ix (.v 1) (.k (.int 1))) (.ix (.v 2) (.k (.int 2)))))
def e1_steepest : IE := (.v 2)
def b_steepest : List IS := [(.asg (.pl (.name 1)) (.ix (.v 0) (.k (.int 0)))),
  (.for_ (.name 2) (.seq (.v 0)) l1_steepest),
  (.ret (.fz (.lc [2] e1_steepest (.name 2) (.seq (.v 0)) (.some q1_steepest))))]
noncomputable def tb_steepest : Tab := ⟨[], [], [], [], []⟩
theorem tbf_of_steepest : tb_steepest.funs = ([] : List Fn) := rfl
theorem tbc_of_steepest : tb_steepest.cons = ([] : List (Str × T)) := rfl
noncomputable def F_steepest : List T → Sto → R T := den tb_steepest.cls false 1 3 (evSs tb_steepest b_steepest)
def e1_load_at : IE := (.neg (.bin .FloorDiv (.neg (.bin .Add (.v 2) (.bin .Mult (.v 3) (.v 1)))) (.v 4)))
def b_load_at : List IS := [(.ret (.bi .max (.cons (.fz (.lc [2, 3, 4] e1_load_at (.tup [(.name 2), (.name 3), (.name 4)]) (.seq (.v 0)) .none)) .nil)))]
noncomputable def tb_load_at : Tab := ⟨[], [], [], [], []⟩
theorem tbf_of_load_at : tb_load_at.funs = ([] : List Fn) := rfl
theorem tbc_of_load_at : tb_load_at.cons = ([] : List (Str × T)) := rfl
noncomputable def F_load_at : List T → Sto → R T := den tb_load_at.cls false 2 5 (evSs tb_load_at b_load_at)
def l1_settled_step : List IS := [(.asg (.pl (.name 6)) (.bin .Sub (.bin .Mult (.ix (.v 1) (.k (.int 1))) (.v 5)) (.bin .Mult (.v 4) (.ix (.v 1) (.k (.int 2)))))), (.cond (.cmp .Gt (.v 6) (.k (.int 0))) [(.asg (.pl (.name 2)) (.bi .max (.cons (.v 2) (.cons (.neg (.bin .FloorDiv (.neg (.bin .Sub (.bin .Mult (.v 3) (.ix (.v 1) (.k (.int 2)))) (.bin .Mult (.ix (.v 1) (.k (.int 0))) (.v 5)))) (.v 6))) .nil))))] [])]
def b_settled_step : List IS := [(.par2 1 2 (.cons (.ix (.call 0 (.cons (.v 0) .nil) .nil) (.k (.int 0))) (.cons (.k (.int 0)) .nil))),
  (.for_ (.tup [(.name 3), (.name 4), (.name 5)]) (.seq (.v 0)) l1_settled_step),
  (.ret (.v 2))]
noncomputable def tb_settled_step : Tab := ⟨[], [⟨"steepest", [], (padF 1 [] F_steepest)⟩], [], [], []⟩
theorem tbf_of_settled_step : tb_settled_step.funs = ([⟨"steepest", [], (padF 1 [] F_steepest)⟩] : List Fn) := rfl
theorem tbc_of_settled_step : tb_settled_step.cons = ([] : List (Str × T)) := rfl
noncomputable def F_settled_step : List T → Sto → R T := den tb_settled_step.cls false 1 7 (evSs tb_settled_step b_settled_step)
def q1_period_of : IE := (.cmp .Eq (.bin .Mod (.bin .Mult (.v 3) (.v 5)) (.v 4)) (.k (.int 0)))
def e1_period_of : IE := (.v 5)
def b_period_of : List IS := [(.asg (.pl (.tup [(.name 2), (.name 3), (.name 4)])) (.ix (.call 0 (.cons (.v 0) .nil) .nil) (.k (.int 0)))),
  (.asg (.pl (.name 1)) (.ix (.fz (.lc [5] e1_period_of (.name 5) (.rng2 (.k (.int 1)) (.bin .Add (.v 4) (.k (.int 1)))) (.some q1_period_of))) (.k (.int 0)))),
  (.ret (.tup (.cons (.v 1) (.cons (.bin .FloorDiv (.bin .Mult (.v 3) (.v 1)) (.v 4)) .nil))))]
noncomputable def tb_period_of : Tab := ⟨[], [⟨"steepest", [], (padF 1 [] F_steepest)⟩], [], [], []⟩
theorem tbf_of_period_of : tb_period_of.funs = ([⟨"steepest", [], (padF 1 [] F_steepest)⟩] : List Fn) := rfl
theorem tbc_of_period_of : tb_period_of.cons = ([] : List (Str × T)) := rfl
noncomputable def F_period_of : List T → Sto → R T := den tb_period_of.cls false 1 6 (evSs tb_period_of b_period_of)
def e1_form_of : IE := (.call 2 (.cons (.v 0) (.cons (.v 5) .nil)) .nil)
def q1_form_of : IE := (.cmp .NotEq (.ix (.v 1) (.bin .Add (.v 5) (.v 3))) (.bin .Add (.ix (.v 1) (.v 5)) (.v 4)))
def e2_form_of : IE := (.v 5)
def b_form_of : List IS := [(.asg (.pl (.tup [(.name 3), (.name 4)])) (.call 0 (.cons (.v 0) .nil) .nil)),
  (.asg (.pl (.name 1)) (.fz (.lc [5] e1_form_of (.name 5) (.rng1 (.bin .Add (.bin .Add (.call 1 (.cons (.v 0) .nil) .nil) (.bin .Mult (.k (.int 2)) (.v 3))) (.k (.int 1)))) .none))),
  (.asg (.pl (.name 2)) (.fz (.lc [5] e2_form_of (.name 5) (.rng1 (.bin .Sub (.bi .len (.cons (.v 1) .nil)) (.v 3))) (.some q1_form_of)))),
  (.ret (.tup (.cons (.bi .tuple (.cons (.fz (.sl (.v 1) .none (.some (.ite (.cmp .NotEq (.v 2) (.fz (.lst .nil))) (.bin .Add (.bin .Add (.ix (.v 2) (.neg (.k (.int 1)))) (.k (.int 1))) (.v 3)) (.v 3))))) .nil)) (.cons (.v 3) (.cons (.v 4) .nil)))))]
noncomputable def tb_form_of : Tab := ⟨[], [⟨"period_of", [], (padF 1 [] F_period_of)⟩, ⟨"settled_step", [], (padF 1 [] F_settled_step)⟩, ⟨"load_at", [], (padF 2 [] F_load_at)⟩], [], [], []⟩
theorem tbf_of_form_of : tb_form_of.funs = ([⟨"period_of", [], (padF 1 [] F_period_of)⟩, ⟨"settled_step", [], (padF 1 [] F_settled_step)⟩, ⟨"load_at", [], (padF 2 [] F_load_at)⟩] : List Fn) := rfl
theorem tbc_of_form_of : tb_form_of.cons = ([] : List (Str × T)) := rfl
noncomputable def F_form_of : List T → Sto → R T := den tb_form_of.cls false 1 6 (evSs tb_form_of b_form_of)
def b_check_growing : List IS := [(.exp (.call 0 (.cons (.v 0) .nil) .nil)),
  (.exp (.call 1 (.cons (.v 0) (.cons (.v 1) (.cons (.g 0) .nil))) .nil)),
  (.asg (.pl (.name 3)) (.call 2 (.cons (.v 0) (.cons (.v 2) (.cons (.g 1) .nil))) .nil)),
  (.cond (.cmp .NotEq (.v 3) (.tup .nil)) [.never] [])]
noncomputable def tb_check_growing : Tab := ⟨[("MOST_START", (.int 9)), ("MOST_GROWTH", (.int 3))], [⟨"check_fair", [], (padF 1 [] F_check_fair)⟩, ⟨"check_meetings", [], (padF 3 [] F_check_meetings)⟩, ⟨"wrong_table", [], (padF 3 [] F_wrong_table)⟩], [], [], []⟩
theorem tbf_of_check_growing : tb_check_growing.funs = ([⟨"check_fair", [], (padF 1 [] F_check_fair)⟩, ⟨"check_meetings", [], (padF 3 [] F_check_meetings)⟩, ⟨"wrong_table", [], (padF 3 [] F_wrong_table)⟩] : List Fn) := rfl
theorem tbc_of_check_growing : tb_check_growing.cons = ([("MOST_START", (.int 9)), ("MOST_GROWTH", (.int 3))] : List (Str × T)) := rfl
noncomputable def F_check_growing : List T → Sto → R T := den tb_check_growing.cls false 3 4 (evSs tb_check_growing b_check_growing)
def b_grown : List IS := [(.exp (.call 0 (.cons (.v 0) (.cons (.v 1) (.cons (.v 2) .nil))) .nil)),
  (.ret (.call 1 (.cons (.call 2 (.cons (.v 0) (.cons (.v 1) (.cons (.v 2) .nil))) .nil) .nil) .nil))]
noncomputable def tb_grown : Tab := ⟨[], [⟨"check_growing", [], (padF 3 [] F_check_growing)⟩, ⟨"form_of", [], (padF 1 [] F_form_of)⟩, ⟨"lines_with", [], (padF 3 [] F_lines_with)⟩], [], [], []⟩
theorem tbf_of_grown : tb_grown.funs = ([⟨"check_growing", [], (padF 3 [] F_check_growing)⟩, ⟨"form_of", [], (padF 1 [] F_form_of)⟩, ⟨"lines_with", [], (padF 3 [] F_lines_with)⟩] : List Fn) := rfl
theorem tbc_of_grown : tb_grown.cons = ([] : List (Str × T)) := rfl
noncomputable def F_grown : List T → Sto → R T := den tb_grown.cls false 3 3 (evSs tb_grown b_grown)
def l1_law_jug : List IS := [(.asg (.pl (.name 3)) (.bin .Add (.bin .Mult (.v 3) (.k (.int 2862933555777941757))) (.bin .Mod (.bi .int (.cons (.v 4) .nil)) (.k (.int 9223372036854775337))))), (.asg (.pl (.name 3)) (.bin .Mod (.bi .int (.cons (.bin .Add (.v 3) (.k (.int 5))) .nil)) (.k (.int 9223372036854775783))))]
def b_law_jug : List IS := [(.asg (.pl (.name 2)) (.ite (.cmp .Lt (.v 1) (.bi .len (.cons (.v 0) .nil))) (.ix (.v 0) (.v 1)) (.bin .Add (.k (.int 40)) (.v 1)))),
  (.asg (.pl (.name 3)) (.bin .Mult (.k (.int 1299709)) (.bin .Add (.v 1) (.k (.int 2))))),
  (.for_ (.name 4) (.seq (.fz (.cat (.fz (.sl (.v 0) .none (.some (.k (.int 3))))) (.fz (.lst (.cons (.v 2) .nil)))))) l1_law_jug),
  (.ret (.new (.lst (.cons (.ite (.cmp .GtE (.bi .abs (.cons (.v 2) .nil)) (.bin .Pow (.k (.int 10)) (.k (.int 18)))) (.bi .abs (.cons (.v 2) .nil)) (.k (.int 0))) (.cons (.v 3) (.cons (.k (.int 0)) .nil))))))]
noncomputable def tb_law_jug : Tab := ⟨[], [], [], [], []⟩
theorem tbf_of_law_jug : tb_law_jug.funs = ([] : List Fn) := rfl
theorem tbc_of_law_jug : tb_law_jug.cons = ([] : List (Str × T)) := rfl
noncomputable def F_law_jug : List T → Sto → R T := den tb_law_jug.cls true 2 5 (evSs tb_law_jug b_law_jug)
def b_law_pour : List IS := [(.cond (.cmp .Gt (.ix (.v 0) (.k (.int 0))) (.k (.int 0))) [(.asg (.tup [(.sub (.v 0) (.k (.int 0))), (.pl (.name 3))]) (.bi .divmod (.cons (.ix (.v 0) (.k (.int 0))) (.cons (.v 1) .nil)))), (.ret (.v 3))] []),
  (.asg (.sub (.v 0) (.k (.int 2))) (.bin .Add (.ix (.v 0) (.k (.int 2))) (.k (.int 1)))),
  (.asg (.pl (.name 2)) (.bin .Add (.bin .Mult (.ix (.v 0) (.k (.int 1))) (.k (.int 3202034522624059733))) (.bin .Mult (.bin .Mult (.k (.int 104395301)) (.ix (.v 0) (.k (.int 2)))) (.ix (.v 0) (.k (.int 2)))))),
  (.asg (.sub (.v 0) (.k (.int 1))) (.bin .Mod (.bi .int (.cons (.bin .Add (.v 2) (.k (.int 1))) .nil)) (.k (.int 9223372036854775783)))),
  (.ret (.bin .Mod (.bi .int (.cons (.bin .FloorDiv (.ix (.v 0) (.k (.int 1))) (.k (.int 16777216))) .nil)) (.v 1)))]
noncomputable def tb_law_pour : Tab := ⟨[], [], [], [], []⟩
theorem tbf_of_law_pour : tb_law_pour.funs = ([] : List Fn) := rfl
theorem tbc_of_law_pour : tb_law_pour.cons = ([] : List (Str × T)) := rfl
noncomputable def F_law_pour : List T → Sto → R T := den tb_law_pour.cls false 2 4 (evSs tb_law_pour b_law_pour)
def l1_law_word : List IS := [(.asg (.pl (.name 1)) (.bin .Add (.v 1) (.ix (.v 3) (.call 0 (.cons (.v 0) (.cons (.k (.int 36)) .nil)) .nil))))]
def b_law_word : List IS := [(.par2 3 4 (.cons (.k (.str "abcdefghijklmnopqrstuvwxyz0123456789")) (.cons (.fz (.lst (.cons (.k (.str "host")) (.cons (.k (.str "guest")) (.cons (.k (.str "tables")) (.cons (.k (.str "tables1")) (.cons (.k (.str "a")) (.cons (.k (.str "ab")) (.cons (.k (.str "z9")) (.cons (.k (.str "x")) .nil)))))))))) .nil))),
  (.cond (.cmp .Eq (.call 0 (.cons (.v 0) (.cons (.k (.int 4)) .nil)) .nil) (.k (.int 0))) [(.ret (.ix (.v 4) (.call 0 (.cons (.v 0) (.cons (.k (.int 8)) .nil)) .nil)))] []),
  (.asg (.pl (.name 1)) (.ix (.v 3) (.call 0 (.cons (.v 0) (.cons (.k (.int 26)) .nil)) .nil))),
  (.for_ (.name 2) (.rng1 (.ix (.fz (.lst (.cons (.k (.int 0)) (.cons (.k (.int 1)) (.cons (.k (.int 2)) (.cons (.k (.int 7)) .nil)))))) (.call 0 (.cons (.v 0) (.cons (.k (.int 4)) .nil)) .nil))) l1_law_word),
  (.ret (.v 1))]
noncomputable def tb_law_word : Tab := ⟨[], [⟨"_law_pour", [], (padF 2 [] F_law_pour)⟩], [], [], []⟩
theorem tbf_of_law_word : tb_law_word.funs = ([⟨"_law_pour", [], (padF 2 [] F_law_pour)⟩] : List Fn) := rfl
theorem tbc_of_law_word : tb_law_word.cons = ([] : List (Str × T)) := rfl
noncomputable def F_law_word : List T → Sto → R T := den tb_law_word.cls false 1 5 (evSs tb_law_word b_law_word)
def e1_law_words : IE := (.bin .Add (.k (.str "q")) (.str (.v 6)))
def q1_law_words : IE := (.cmp .NotIn (.v 5) (.v 2))
def e2_law_words : IE := (.v 5)
def l1_law_words : List IS := [(.asg (.pl (.name 4)) (.call 0 (.cons (.v 0) .nil) .nil)), (.cond (.cmp .In (.v 4) (.v 2)) [(.asg (.pl (.name 4)) (.ix (.fz (.lc [5] e2_law_words (.name 5) (.seq (.fz (.lc [6] e1_law_words (.name 6) (.rng1 (.v 1)) .none))) (.some q1_law_words))) (.k (.int 0))))] []), (.exp (.mu .append (.v 2) (.cons (.v 4) .nil)))]
def b_law_words : List IS := [(.asg (.pl (.name 2)) (.new (.lst .nil))),
  (.for_ (.name 3) (.rng1 (.v 1)) l1_law_words),
  (.ret (.v 2))]
noncomputable def tb_law_words : Tab := ⟨[], [⟨"_law_word", [], (padF 1 [] F_law_word)⟩], [], [], []⟩
theorem tbf_of_law_words : tb_law_words.funs = ([⟨"_law_word", [], (padF 1 [] F_law_word)⟩] : List Fn) := rfl
theorem tbc_of_law_words : tb_law_words.cons = ([] : List (Str × T)) := rfl
noncomputable def F_law_words : List T → Sto → R T := den tb_law_words.cls false 2 7 (evSs tb_law_words b_law_words)
def e1_law_parts : IE := (.tup (.cons (.v 7) (.cons (.bin .Add (.k (.int 1)) (.call 0 (.cons (.v 0) (.cons (.k (.int 4)) .nil)) .nil)) .nil)))
def b_law_parts : List IS := [(.par2 5 6 (.cons (.bin .Add (.k (.int 1)) (.call 0 (.cons (.v 0) (.cons (.v 1) .nil)) .nil)) (.cons (.bin .Add (.k (.int 1)) (.call 0 (.cons (.v 0) (.cons (.v 2) .nil)) .nil)) .nil))),
  (.asg (.pl (.name 3)) (.fz (.lc [7] e1_law_parts (.name 7) (.seq (.call 1 (.cons (.v 0) (.cons (.bin .Add (.v 5) (.v 6)) .nil)) .nil)) .none))),
  (.asg (.pl (.name 4)) (.ite (.cmp .Eq (.call 0 (.cons (.v 0) (.cons (.k (.int 3)) .nil)) .nil) (.k (.int 0))) (.k .non) (.bin .Add (.k (.int 1)) (.call 0 (.cons (.v 0) (.cons (.k (.int 12)) .nil)) .nil)))),
  (.ret (.tup (.cons (.bi .tuple (.cons (.fz (.sl (.v 3) .none (.some (.v 5)))) .nil)) (.cons (.bi .tuple (.cons (.fz (.sl (.v 3) (.some (.v 5)) .none)) .nil)) (.cons (.v 4) .nil)))))]
noncomputable def tb_law_parts : Tab := ⟨[], [⟨"_law_pour", [], (padF 2 [] F_law_pour)⟩, ⟨"_law_words", [], (padF 2 [] F_law_words)⟩], [], [], []⟩
theorem tbf_of_law_parts : tb_law_parts.funs = ([⟨"_law_pour", [], (padF 2 [] F_law_pour)⟩, ⟨"_law_words", [], (padF 2 [] F_law_words)⟩] : List Fn) := rfl
theorem tbc_of_law_parts : tb_law_parts.cons = ([] : List (Str × T)) := rfl
noncomputable def F_law_parts : List T → Sto → R T := den tb_law_parts.cls false 3 8 (evSs tb_law_parts b_law_parts)
def b_law_fair : List IS := [(.ret (.call 0 (.cons (.ix (.v 0) (.k (.int 0))) (.cons (.ix (.v 0) (.k (.int 1))) (.cons (.ix (.v 0) (.k (.int 2))) .nil))) .nil))]
noncomputable def tb_law_fair : Tab := ⟨[], [⟨"Fair", [], mkF (sx0.cls []) 0 (padF 4 [] F_Fair_init)⟩], cl, [], []⟩
theorem tbf_of_law_fair : tb_law_fair.funs = ([⟨"Fair", [], mkF (sx0.cls []) 0 (padF 4 [] F_Fair_init)⟩] : List Fn) := rfl
theorem tbc_of_law_fair : tb_law_fair.cons = ([] : List (Str × T)) := rfl
theorem c0_of_law_fair : tb_law_fair.cls[0]? = some ⟨["givers", "takers", "places"], [("hosts", padF 1 [] F_Fair_hosts), ("guests", padF 1 [] F_Fair_guests), ("tables", padF 1 [] F_Fair_tables), ("names", padF 1 [] F_Fair_names)], []⟩ := rfl
theorem n_of_law_fair : tb_law_fair.cls.length = 1 := rfl
noncomputable def F_law_fair : List T → Sto → R T := den tb_law_fair.cls false 1 1 (evSs tb_law_fair b_law_fair)
def e1_law_in_rows : IE := (.bi .sum (.cons (.fz (.list (.v 1))) .nil))
def b_law_in_rows : List IS := [(.ret (.fz (.lc [1] e1_law_in_rows (.name 1) (.seq (.v 0)) .none)))]
noncomputable def tb_law_in_rows : Tab := ⟨[], [], [], [], []⟩
theorem tbf_of_law_in_rows : tb_law_in_rows.funs = ([] : List Fn) := rfl
theorem tbc_of_law_in_rows : tb_law_in_rows.cons = ([] : List (Str × T)) := rfl
noncomputable def F_law_in_rows : List T → Sto → R T := den tb_law_in_rows.cls false 1 2 (evSs tb_law_in_rows b_law_in_rows)
def e1_law_in_columns : IE := (.ix (.v 2) (.v 1))
def e2_law_in_columns : IE := (.bi .sum (.cons (.fz (.lc [2] e1_law_in_columns (.name 2) (.seq (.v 0)) .none)) .nil))
def b_law_in_columns : List IS := [(.ret (.fz (.lc [1] e2_law_in_columns (.name 1) (.rng1 (.bi .len (.cons (.ix (.v 0) (.k (.int 0))) .nil))) .none)))]
noncomputable def tb_law_in_columns : Tab := ⟨[], [], [], [], []⟩
theorem tbf_of_law_in_columns : tb_law_in_columns.funs = ([] : List Fn) := rfl
theorem tbc_of_law_in_columns : tb_law_in_columns.cons = ([] : List (Str × T)) := rfl
noncomputable def F_law_in_columns : List T → Sto → R T := den tb_law_in_columns.cls false 1 3 (evSs tb_law_in_columns b_law_in_columns)
def e1_law_growing : IE := (.ite (.or (.cmp .Eq (.v 5) (.k (.int 0))) (.cmp .Gt (.call 0 (.cons (.v 0) (.cons (.k (.int 3)) .nil)) .nil) (.k (.int 0)))) (.call 0 (.cons (.v 0) (.cons (.v 3) .nil)) .nil) (.k (.int 0)))
def l1_law_growing : List IS := [(.exp (.mu .append (.v 7) (.cons (.bi .tuple (.cons (.fz (.lc [9] e1_law_growing (.name 9) (.seq (.ix (.v 4) (.k (.int 1)))) .none)) .nil)) .nil)))]
def l2_law_growing : List IS := [(.asg (.pl (.name 7)) (.new (.lst .nil))), (.for_ (.name 8) (.seq (.ix (.v 4) (.k (.int 0)))) l1_law_growing), (.exp (.mu .append (.v 6) (.cons (.bi .tuple (.cons (.v 7) .nil)) .nil)))]
def b_law_growing : List IS := [(.asg (.pl (.tup [(.name 4), (.name 5), (.name 6)])) (.tup (.cons (.call 1 (.cons (.v 0) (.cons (.v 1) (.cons (.v 2) .nil))) .nil) (.cons (.call 0 (.cons (.v 0) (.cons (.k (.int 3)) .nil)) .nil) (.cons (.new (.lst .nil)) .nil))))),
  (.for_ (.name 3) (.seq (.fz (.lst (.cons (.k (.int 10)) (.cons (.k (.int 4)) .nil))))) l2_law_growing),
  (.ret (.tup (.cons (.v 4) (.cons (.ix (.v 6) (.k (.int 0))) (.cons (.ix (.v 6) (.k (.int 1))) .nil)))))]
noncomputable def tb_law_growing : Tab := ⟨[], [⟨"_law_pour", [], (padF 2 [] F_law_pour)⟩, ⟨"_law_parts", [], (padF 3 [] F_law_parts)⟩], [], [], []⟩
theorem tbf_of_law_growing : tb_law_growing.funs = ([⟨"_law_pour", [], (padF 2 [] F_law_pour)⟩, ⟨"_law_parts", [], (padF 3 [] F_law_parts)⟩] : List Fn) := rfl
theorem tbc_of_law_growing : tb_law_growing.cons = ([] : List (Str × T)) := rfl
noncomputable def F_law_growing : List T → Sto → R T := den tb_law_growing.cls false 3 10 (evSs tb_law_growing b_law_growing)
def l1_law_lines : List IS := [(.exp (.mu .append (.v 7) (.cons (.fz (.cat (.call 0 (.cons (.v 3) .nil) .nil) (.call 1 (.cons (.v 3) .nil) .nil))) .nil)))]
def l2_law_lines : List IS := [(.exp (.mu .append (.v 6) (.cons (.tup (.cons (.ix (.ix (.v 7) (.k (.int 0))) (.v 5)) (.cons (.ix (.ix (.v 7) (.k (.int 1))) (.v 5)) (.cons (.ix (.ix (.v 4) (.v 5)) (.k (.int 1))) .nil)))) .nil)))]
def b_law_lines : List IS := [(.par2 6 7 (.cons (.new (.lst .nil)) (.cons (.new (.lst .nil)) .nil))),
  (.for_ (.name 3) (.seq (.fz (.lst (.cons (.v 1) (.cons (.v 2) .nil))))) l1_law_lines),
  (.asg (.pl (.name 4)) (.bin .Add (.ix (.v 0) (.k (.int 0))) (.ix (.v 0) (.k (.int 1))))),
  (.for_ (.name 5) (.rng1 (.bi .len (.cons (.v 4) .nil))) l2_law_lines),
  (.cond (.isN true (.ix (.v 0) (.k (.int 2)))) [(.exp (.mu .append (.v 6) (.cons (.tup (.cons (.bi .sum (.cons (.call 0 (.cons (.v 1) .nil) .nil) .nil)) (.cons (.bi .sum (.cons (.call 0 (.cons (.v 2) .nil) .nil) .nil)) (.cons (.ix (.v 0) (.k (.int 2))) .nil)))) .nil)))] []),
  (.ret (.v 6))]
noncomputable def tb_law_lines : Tab := ⟨[], [⟨"_law_in_rows", [], (padF 1 [] F_law_in_rows)⟩, ⟨"_law_in_columns", [], (padF 1 [] F_law_in_columns)⟩], [], [], []⟩
theorem tbf_of_law_lines : tb_law_lines.funs = ([⟨"_law_in_rows", [], (padF 1 [] F_law_in_rows)⟩, ⟨"_law_in_columns", [], (padF 1 [] F_law_in_columns)⟩] : List Fn) := rfl
theorem tbc_of_law_lines : tb_law_lines.cons = ([] : List (Str × T)) := rfl
noncomputable def F_law_lines : List T → Sto → R T := den tb_law_lines.cls false 3 8 (evSs tb_law_lines b_law_lines)
def e1_law_loads_up_to : IE := (.bin .FloorDiv (.bin .Sub (.bin .Add (.bin .Add (.v 6) (.bin .Mult (.v 5) (.v 7))) (.v 8)) (.k (.int 1))) (.v 8))
def e2_law_loads_up_to : IE := (.bi .max (.cons (.fz (.lc [6, 7, 8] e1_law_loads_up_to (.tup [(.name 6), (.name 7), (.name 8)]) (.seq (.v 4)) .none)) .nil))
def b_law_loads_up_to : List IS := [(.asg (.pl (.name 4)) (.call 0 (.cons (.v 0) (.cons (.v 1) (.cons (.v 2) .nil))) .nil)),
  (.ret (.fz (.lc [5] e2_law_loads_up_to (.name 5) (.rng1 (.v 3)) .none)))]
noncomputable def tb_law_loads_up_to : Tab := ⟨[], [⟨"_law_lines", [], (padF 3 [] F_law_lines)⟩], [], [], []⟩
theorem tbf_of_law_loads_up_to : tb_law_loads_up_to.funs = ([⟨"_law_lines", [], (padF 3 [] F_law_lines)⟩] : List Fn) := rfl
theorem tbc_of_law_loads_up_to : tb_law_loads_up_to.cons = ([] : List (Str × T)) := rfl
noncomputable def F_law_loads_up_to : List T → Sto → R T := den tb_law_loads_up_to.cls false 4 9 (evSs tb_law_loads_up_to b_law_loads_up_to)
def l1_law_triple : List IS := [(.cond (.cmp .NotEq (.ix (.v 0) (.bin .Add (.v 3) (.v 2))) (.bin .Add (.ix (.v 0) (.v 3)) (.v 4))) [(.asg (.pl (.name 5)) (.bin .Add (.v 3) (.k (.int 1))))] [])]
def l2_law_triple : List IS := [(.par2 4 5 (.cons (.bin .Sub (.ix (.v 0) (.v 1)) (.ix (.v 0) (.bin .Sub (.v 1) (.v 2)))) (.cons (.k (.int 0)) .nil))), (.for_ (.name 3) (.rng1 (.bin .Add (.bin .Sub (.v 1) (.v 2)) (.k (.int 1)))) l1_law_triple), (.cond (.cmp .Lt (.v 5) (.bin .Sub (.v 1) (.k (.int 60)))) [(.ret (.tup (.cons (.bi .tuple (.cons (.fz (.sl (.v 0) .none (.some (.bin .Add (.v 5) (.v 2))))) .nil)) (.cons (.v 2) (.cons (.v 4) .nil)))))] [])]
def b_law_triple : List IS := [(.asg (.pl (.name 1)) (.bin .Sub (.bi .len (.cons (.v 0) .nil)) (.k (.int 1)))),
  (.for_ (.name 2) (.rng2 (.k (.int 1)) (.k (.int 13))) l2_law_triple),
  (.ret (.k .non))]
noncomputable def tb_law_triple : Tab := ⟨[], [], [], [], []⟩
theorem tbf_of_law_triple : tb_law_triple.funs = ([] : List Fn) := rfl
theorem tbc_of_law_triple : tb_law_triple.cons = ([] : List (Str × T)) := rfl
noncomputable def F_law_triple : List T → Sto → R T := den tb_law_triple.cls false 1 6 (evSs tb_law_triple b_law_triple)
def b_law_right_k48 : List IS := [(.asg (.pl (.tup [(.name 1), (.name 2), (.name 3)])) (.call 0 (.cons (.v 0) (.cons (.k (.int 4)) (.cons (.k (.int 4)) .nil))) .nil)),
  (.par2 4 5 (.cons (.call 3 (.cons (.v 1) .nil) .nil) (.cons (.call 1 (.cons (.call 2 (.cons (.v 1) (.cons (.v 2) (.cons (.v 3) (.cons (.k (.int 720)) .nil)))) .nil) .nil) .nil) .nil))),
  (.ret (.cmp .Eq (.repr (.fz (.lst (.cons (.call 5 (.cons (.v 4) (.cons (.v 2) (.cons (.v 3) .nil))) .nil) (.cons (.call 4 .nil (.cons (.v 3) (.cons (.v 2) (.cons (.v 4) .nil)))) .nil))))) (.repr (.fz (.lst (.cons (.v 5) (.cons (.v 5) .nil)))))))]
noncomputable def tb_law_right_k48 : Tab := ⟨[], [⟨"_law_growing", [], (padF 3 [] F_law_growing)⟩, ⟨"_law_triple", [], (padF 1 [] F_law_triple)⟩, ⟨"_law_loads_up_to", [], (padF 4 [] F_law_loads_up_to)⟩, ⟨"_law_fair", [], (padF 1 [] F_law_fair)⟩, ⟨"grown", ["growth", "start", "fair"], kwF 0 3 (fun ts => [2, 1, 0].filterMap fun i => ts[i]?) F_grown⟩, ⟨"grown", [], (padF 3 [] F_grown)⟩], [], [], []⟩
theorem tbf_of_law_right_k48 : tb_law_right_k48.funs = ([⟨"_law_growing", [], (padF 3 [] F_law_growing)⟩, ⟨"_law_triple", [], (padF 1 [] F_law_triple)⟩, ⟨"_law_loads_up_to", [], (padF 4 [] F_law_loads_up_to)⟩, ⟨"_law_fair", [], (padF 1 [] F_law_fair)⟩, ⟨"grown", ["growth", "start", "fair"], kwF 0 3 (fun ts => [2, 1, 0].filterMap fun i => ts[i]?) F_grown⟩, ⟨"grown", [], (padF 3 [] F_grown)⟩] : List Fn) := rfl
theorem tbc_of_law_right_k48 : tb_law_right_k48.cons = ([] : List (Str × T)) := rfl
noncomputable def F_law_right_k48 : List T → Sto → R T := den tb_law_right_k48.cls false 1 6 (evSs tb_law_right_k48 b_law_right_k48)
def l1_law_k48 : List IS := [(.drop (.cond (.not (.call 0 (.cons (.call 1 (.cons (.v 0) (.cons (.v 1) .nil)) .nil) .nil) .nil)) [(.ret (.k (.bl false)))] []))]
def b_law_k48 : List IS := [(.for_ (.name 1) (.rng1 (.bi .max (.cons (.k (.int 2)) (.cons (.bi .min (.cons (.bi .len (.cons (.v 0) .nil)) (.cons (.k (.int 2)) .nil))) .nil)))) l1_law_k48),
  (.ret (.k (.bl true)))]
noncomputable def tb_law_k48 : Tab := ⟨[], [⟨"_law_right", [], (padF 1 [] F_law_right_k48)⟩, ⟨"_law_jug", [], (padF 2 [] F_law_jug)⟩], [], [], []⟩
theorem tbf_of_law_k48 : tb_law_k48.funs = ([⟨"_law_right", [], (padF 1 [] F_law_right_k48)⟩, ⟨"_law_jug", [], (padF 2 [] F_law_jug)⟩] : List Fn) := rfl
theorem tbc_of_law_k48 : tb_law_k48.cons = ([] : List (Str × T)) := rfl
noncomputable def F_law_k48 : List T → Sto → R T := den tb_law_k48.cls false 1 2 (evSs tb_law_k48 b_law_k48)
end EgLaw
set_option maxHeartbeats 4000000
namespace EgLaw
open Eg
def JC (n : Nat) (c : Cell) : Prop := ∃ g m k : Int, c = .lst [.int g, .int m, .int k] ∧ 0 ≤ g ∧ 0 ≤ m ∧ m < 2 ^ 64 ∧ 0 ≤ k ∧ k ≤ n
theorem JC.nl {n : Nat} {c : Cell} (h : JC n c) : ∀ f, frzC f c = some c := by
  obtain ⟨g, m, k, rfl, _⟩ := h
  intro f
  show (frzWs f [.int g, .int m, .int k]).map Cell.lst = _
  rw [show frzWs f [.int g, .int m, .int k] = some [.int g, .int m, .int k] from (by simp : Nls [.int g, .int m, .int k]) f]
  rfl
theorem JC.mono {n m : Nat} {c : Cell} (h : JC n c) (hl : n ≤ m) : JC m c := by
  obtain ⟨g, a, k, rfl, h1, h2, h3, h4, h5⟩ := h
  exact ⟨g, a, k, rfl, h1, h2, h3, h4, by omega⟩
theorem nat_lt {i : Int} {k : Nat} (h0 : 0 ≤ i) (h : i < 2 ^ k) : i.natAbs < 2 ^ k := by
  have : (i.natAbs : Int) < 2 ^ k := by rw [Int.natAbs_of_nonneg h0]; exact h
  exact_mod_cast this
theorem pour_ok {n : Nat} {J : Cell} {rest : Sto} {k : Int} (hJ : JC n J) (hn : n < 10 ^ 9) (hk : 0 < k) (hk2 : k < 2 ^ 64) (hr : NL rest) :
    Ev (F_law_pour [.loc 0, .int k] (J :: rest)) fun t st => ∃ d J', t = .int d ∧ 0 ≤ d ∧ d < k ∧ st = J' :: rest ∧ JC (n + 1) J' := by
  obtain ⟨g, m, c, rfl, h1, h2, h3, h4, h5⟩ := hJ
  by_cases hg : 0 < g
  · simp [F_law_pour, tbf_of_law_pour, tbc_of_law_pour, b_law_pour, den, ap_evSs, ap_evSs0, IS.ev, IE.ev, IL.ev, IEs.ev, IO.ev, II.ev, IO.test, IA.ev, IA.ev.evs, ap_fNever, ap_fK, ap_fGl, ap_fBin, ap_fNeg, ap_fCmp, ap_fIsN, ap_fTup, ap_fIx, ap_fSl, ap_fFz, ap_fFn, ap_fBi, ap_fNil, ap_fCons, ap_fNo0, ap_fSo, ap_fNot, ap_fChain, ap_fAnd, ap_fOr, ap_fIte, ap_fBl, ap_fNew, ap_fMu, ap_fStr, ap_fRepr, ap_fAttr, ap_fDl, ap_fCat, ap_fRep, ap_fLi, ap_fZ3, ap_fSlL, ap_fSeq, ap_fEn, ap_fPr, ap_fRg1, ap_fRg2, ap_fTst, ap_fYes, ap_fNx, ap_fAsg, ap_fPar2, ap_fPar3, ap_fIf, ap_fRet, ap_fExp, ap_fG, ap_fSub, ap_fTu, ap_fNo, ap_fCo, ap_fFld, ap_fIsi, k1_fBin, k2_fBin, k1_fNeg, k1_fCmp, k2_fCmp, k1_fIsN, k1_fTup, k1_fIx, k2_fIx, k1_fSl, k2_fSl, k3_fSl, k1_fFz, k1_fBi, k1_fCons, k2_fCons, k1_fSo, k1_fNot, k1_fChain, k2_fChain, k1_fAnd, k1_fOr, k1_fIte, k1_fBl, k1_fNew, k1_fMu, k1_fStr, k1_fRepr, k1_fAttr, k1_fDl, k1_fCat, k2_fCat, k1_fRep, k2_fRep, k1_fLi, k1_fZ3, k2_fZ3, k3_fZ3, k1_fSlL, k2_fSlL, k3_fSlL, k1_fSeq, k1_fEn, k1_fPr, k2_fPr, k1_fRg1, k1_fRg2, k2_fRg2, k1_fTst, k1_fAsg, k1_fPar2, k1_fPar3, k1_fIf, k1_fRet, k1_fExp, k1_fFor, k1_fSub, k2_fSub, k1_fFld, k2_fFld, k1_fIsi, IG.set, IG.set.sets, evV, env0, isNn, strT, muT, lstAt, ownL, lstOf, seqOf, L2.atI, L2.ixN, lim, bnd_ok', go_ok', seq_nx', seq_rt', opt_some', nox_ok', finO_rt, finO_nx, padF, kwF, insOf, hg, div_ok hk hk2]
    rw [show List.length rest + 1 = (Cell.lst [T.int (g / k), T.int m, T.int c] :: rest).length from rfl]
    have J' : JC (n + 1) (.lst [T.int (g / k), T.int m, T.int c]) := ⟨_, _, _, rfl, Int.ediv_nonneg h1 (by omega), h2, h3, h4, by omega⟩
    rw [fin_nl0 (NL_cons J'.nl hr) (by simp)]
    exact Ev.ok ⟨_, rfl, Int.emod_nonneg _ (by omega), Int.emod_lt_of_pos _ hk, _, rfl, J'⟩
  · have m1 : MulOk m 3202034522624059733 := mul_ok 64 64 (nat_lt h2 h3) (by decide) (by decide) (by decide) (by decide)
    have m2 : MulOk 104395301 (c + 1) := mul_ok 64 64 (by decide) (nat_lt (by omega) (by omega)) (by decide) (by decide) (by decide)
    have m3 : MulOk (104395301 * (c + 1)) (c + 1) := mul_ok 128 64 (nat_lt (by omega) (by omega)) (nat_lt (by omega) (by omega)) (by decide) (by decide) (by decide)
    have d1 : DivOk 16777216 := div_ok (by decide) (by decide)
    simp [F_law_pour, tbf_of_law_pour, tbc_of_law_pour, b_law_pour, den, ap_evSs, ap_evSs0, IS.ev, IE.ev, IL.ev, IEs.ev, IO.ev, II.ev, IO.test, IA.ev, IA.ev.evs, ap_fNever, ap_fK, ap_fGl, ap_fBin, ap_fNeg, ap_fCmp, ap_fIsN, ap_fTup, ap_fIx, ap_fSl, ap_fFz, ap_fFn, ap_fBi, ap_fNil, ap_fCons, ap_fNo0, ap_fSo, ap_fNot, ap_fChain, ap_fAnd, ap_fOr, ap_fIte, ap_fBl, ap_fNew, ap_fMu, ap_fStr, ap_fRepr, ap_fAttr, ap_fDl, ap_fCat, ap_fRep, ap_fLi, ap_fZ3, ap_fSlL, ap_fSeq, ap_fEn, ap_fPr, ap_fRg1, ap_fRg2, ap_fTst, ap_fYes, ap_fNx, ap_fAsg, ap_fPar2, ap_fPar3, ap_fIf, ap_fRet, ap_fExp, ap_fG, ap_fSub, ap_fTu, ap_fNo, ap_fCo, ap_fFld, ap_fIsi, k1_fBin, k2_fBin, k1_fNeg, k1_fCmp, k2_fCmp, k1_fIsN, k1_fTup, k1_fIx, k2_fIx, k1_fSl, k2_fSl, k3_fSl, k1_fFz, k1_fBi, k1_fCons, k2_fCons, k1_fSo, k1_fNot, k1_fChain, k2_fChain, k1_fAnd, k1_fOr, k1_fIte, k1_fBl, k1_fNew, k1_fMu, k1_fStr, k1_fRepr, k1_fAttr, k1_fDl, k1_fCat, k2_fCat, k1_fRep, k2_fRep, k1_fLi, k1_fZ3, k2_fZ3, k3_fZ3, k1_fSlL, k2_fSlL, k3_fSlL, k1_fSeq, k1_fEn, k1_fPr, k2_fPr, k1_fRg1, k1_fRg2, k2_fRg2, k1_fTst, k1_fAsg, k1_fPar2, k1_fPar3, k1_fIf, k1_fRet, k1_fExp, k1_fFor, k1_fSub, k2_fSub, k1_fFld, k2_fFld, k1_fIsi, IG.set, IG.set.sets, evV, env0, isNn, strT, muT, lstAt, ownL, lstOf, seqOf, L2.atI, L2.ixN, lim, bnd_ok', go_ok', seq_nx', seq_rt', opt_some', nox_ok', finO_rt, finO_nx, padF, kwF, insOf, hg, m1, m2, m3, d1, hk]
    generalize hq : (m * 3202034522624059733 + 104395301 * (c + 1) * (c + 1) + 1) % 9223372036854775783 = q
    have q1 : 0 ≤ q := by rw [← hq]; exact Int.emod_nonneg _ (by decide)
    have q2 : q < 9223372036854775783 := by rw [← hq]; exact Int.emod_lt_of_pos _ (by decide)
    rw [show List.length rest + 1 = (Cell.lst [T.int g, T.int q, T.int (c + 1)] :: rest).length from rfl]
    have J' : JC (n + 1) (.lst [T.int g, T.int q, T.int (c + 1)]) := ⟨_, _, _, rfl, h1, q1, by omega, by omega, by omega⟩
    rw [fin_nl0 (NL_cons J'.nl hr) (by simp)]
    exact Ev.ok ⟨_, rfl, Int.emod_nonneg _ (by omega), Int.emod_lt_of_pos _ hk, _, rfl, J'⟩
/-- the jug of a script -/
theorem jug_loop {a b c : Option T} {st : Sto} : ∀ (xs : List Int) (m : Int) (e : Option T), 0 ≤ m → m < 2 ^ 64 → ∃ m' e', walkO (.name 4) (evSs tb_law_jug l1_law_jug) (xs.map T.int) [a, b, c, some (.int m), e] st = .nx [a, b, c, some (.int m'), e'] st ∧ 0 ≤ m' ∧ m' < 2 ^ 64
  | [], m, e, h0, h1 => ⟨m, e, rfl, h0, h1⟩
  | x :: xs, m, e, h0, h1 => by
    have m1 : MulOk m 2862933555777941757 := mul_ok 64 64 (nat_lt h0 h1) (by decide) (by decide) (by decide) (by decide)
    obtain ⟨m', e', h2, h3⟩ := jug_loop (a := a) (b := b) (c := c) (st := st) xs ((m * 2862933555777941757 + x % 9223372036854775337 + 5) % 9223372036854775783) (some (.int x)) (Int.emod_nonneg _ (by decide)) (Int.lt_trans (Int.emod_lt_of_pos _ (by decide)) (by decide))
    refine ⟨m', e', ?_, h3⟩
    rw [← h2]
    simp [walkO, l1_law_jug, tbf_of_law_jug, tbc_of_law_jug, den, ap_evSs, ap_evSs0, IS.ev, IE.ev, IL.ev, IEs.ev, IO.ev, II.ev, IO.test, IA.ev, IA.ev.evs, ap_fNever, ap_fK, ap_fGl, ap_fBin, ap_fNeg, ap_fCmp, ap_fIsN, ap_fTup, ap_fIx, ap_fSl, ap_fFz, ap_fFn, ap_fBi, ap_fNil, ap_fCons, ap_fNo0, ap_fSo, ap_fNot, ap_fChain, ap_fAnd, ap_fOr, ap_fIte, ap_fBl, ap_fNew, ap_fMu, ap_fStr, ap_fRepr, ap_fAttr, ap_fDl, ap_fCat, ap_fRep, ap_fLi, ap_fZ3, ap_fSlL, ap_fSeq, ap_fEn, ap_fPr, ap_fRg1, ap_fRg2, ap_fTst, ap_fYes, ap_fNx, ap_fAsg, ap_fPar2, ap_fPar3, ap_fIf, ap_fRet, ap_fExp, ap_fG, ap_fSub, ap_fTu, ap_fNo, ap_fCo, ap_fFld, ap_fIsi, k1_fBin, k2_fBin, k1_fNeg, k1_fCmp, k2_fCmp, k1_fIsN, k1_fTup, k1_fIx, k2_fIx, k1_fSl, k2_fSl, k3_fSl, k1_fFz, k1_fBi, k1_fCons, k2_fCons, k1_fSo, k1_fNot, k1_fChain, k2_fChain, k1_fAnd, k1_fOr, k1_fIte, k1_fBl, k1_fNew, k1_fMu, k1_fStr, k1_fRepr, k1_fAttr, k1_fDl, k1_fCat, k2_fCat, k1_fRep, k2_fRep, k1_fLi, k1_fZ3, k2_fZ3, k3_fZ3, k1_fSlL, k2_fSlL, k3_fSlL, k1_fSeq, k1_fEn, k1_fPr, k2_fPr, k1_fRg1, k1_fRg2, k2_fRg2, k1_fTst, k1_fAsg, k1_fPar2, k1_fPar3, k1_fIf, k1_fRet, k1_fExp, k1_fFor, k1_fSub, k2_fSub, k1_fFld, k2_fFld, k1_fIsi, IG.set, IG.set.sets, evV, env0, isNn, strT, muT, lstAt, ownL, lstOf, seqOf, L2.atI, L2.ixN, lim, bnd_ok', go_ok', seq_nx', seq_rt', opt_some', nox_ok', finO_rt, finO_nx, padF, kwF, insOf, m1]
theorem jug_ok {ns : List Int} {i : Nat} {st : Sto} (hl : ns.length ≤ 63) (hi : i < 10) (hr : NL st) :
    Ev (F_law_jug [.scr ns, .int i] st) fun t s => t = .loc st.length ∧ ∃ J, s = st ++ [J] ∧ JC 0 J := by
  have key : ∀ own : Int, ∃ m' e', walkO (.name 4) (evSs tb_law_jug l1_law_jug) ((ns.take 3 ++ [own]).map T.int) [some (.scr ns), some (.int i), some (.int own), some (.int (1299709 * (i + 2))), none] st = .nx [some (.scr ns), some (.int i), some (.int own), some (.int m'), e'] st ∧ 0 ≤ m' ∧ m' < 2 ^ 64 :=
    fun own => jug_loop _ _ _ (by omega) (by omega)
  have m0 : MulOk 1299709 ((i : Int) + 2) := mul_ok 64 64 (by decide) (nat_lt (by omega) (by omega)) (by decide) (by decide) (by decide)
  have p0 : PowOk 10 18 := by decide
  have l1 : min 3 ns.length + 1 ≤ lim := by unfold lim; omega
  have fin : ∀ (g m' : Int), 0 ≤ g → 0 ≤ m' → m' < 2 ^ 64 → Ev (finR tb_law_jug.cls true st.length (.loc st.length) (st ++ [.lst [.int g, .int m', .int 0]])) fun t s => t = .loc st.length ∧ ∃ J, s = st ++ [J] ∧ JC 0 J := fun g m' h0 h1 h2 => by
    have J : JC 0 (.lst [.int g, .int m', .int 0]) := ⟨_, _, _, rfl, h0, h1, h2, by omega, by omega⟩
    rw [fin_keep hr (by simp) (Nat.le_refl _) J.nl]
    exact Ev.ok ⟨rfl, _, rfl, J⟩
  have ht : ∀ own : Int, (ns.take 3 ++ [own]).map T.int = (ns.map T.int).take 3 ++ [.int own] := fun own => by rw [List.map_append, List.map_take]; rfl
  have l2 : min 3 ns.length + 1 ≤ 16777216 := by omega
  by_cases h : i < ns.length
  · obtain ⟨m', e', h1, h2, h3⟩ := key ns[i]
    rw [ht] at h1
    by_cases hg : 1000000000000000000 ≤ (if ns[i] < 0 then -ns[i] else ns[i])
    · have z := fin (if ns[i] < 0 then -ns[i] else ns[i]) m' (by omega) h2 h3
      simp [F_law_jug, tbf_of_law_jug, tbc_of_law_jug, b_law_jug, den, ap_evSs, ap_evSs0, IS.ev, IE.ev, IL.ev, IEs.ev, IO.ev, II.ev, IO.test, IA.ev, IA.ev.evs, ap_fNever, ap_fK, ap_fGl, ap_fBin, ap_fNeg, ap_fCmp, ap_fIsN, ap_fTup, ap_fIx, ap_fSl, ap_fFz, ap_fFn, ap_fBi, ap_fNil, ap_fCons, ap_fNo0, ap_fSo, ap_fNot, ap_fChain, ap_fAnd, ap_fOr, ap_fIte, ap_fBl, ap_fNew, ap_fMu, ap_fStr, ap_fRepr, ap_fAttr, ap_fDl, ap_fCat, ap_fRep, ap_fLi, ap_fZ3, ap_fSlL, ap_fSeq, ap_fEn, ap_fPr, ap_fRg1, ap_fRg2, ap_fTst, ap_fYes, ap_fNx, ap_fAsg, ap_fPar2, ap_fPar3, ap_fIf, ap_fRet, ap_fExp, ap_fG, ap_fSub, ap_fTu, ap_fNo, ap_fCo, ap_fFld, ap_fIsi, k1_fBin, k2_fBin, k1_fNeg, k1_fCmp, k2_fCmp, k1_fIsN, k1_fTup, k1_fIx, k2_fIx, k1_fSl, k2_fSl, k3_fSl, k1_fFz, k1_fBi, k1_fCons, k2_fCons, k1_fSo, k1_fNot, k1_fChain, k2_fChain, k1_fAnd, k1_fOr, k1_fIte, k1_fBl, k1_fNew, k1_fMu, k1_fStr, k1_fRepr, k1_fAttr, k1_fDl, k1_fCat, k2_fCat, k1_fRep, k2_fRep, k1_fLi, k1_fZ3, k2_fZ3, k3_fZ3, k1_fSlL, k2_fSlL, k3_fSlL, k1_fSeq, k1_fEn, k1_fPr, k2_fPr, k1_fRg1, k1_fRg2, k2_fRg2, k1_fTst, k1_fAsg, k1_fPar2, k1_fPar3, k1_fIf, k1_fRet, k1_fExp, k1_fFor, k1_fSub, k2_fSub, k1_fFld, k2_fFld, k1_fIsi, IG.set, IG.set.sets, evV, env0, isNn, strT, muT, lstAt, ownL, lstOf, seqOf, L2.atI, L2.ixN, lim, bnd_ok', go_ok', seq_nx', seq_rt', opt_some', nox_ok', finO_rt, finO_nx, padF, kwF, insOf, h, m0, p0, ap_fFor, l2, h1, hg] at z ⊢
      exact z
    · have z := fin 0 m' (by omega) h2 h3
      simp [F_law_jug, tbf_of_law_jug, tbc_of_law_jug, b_law_jug, den, ap_evSs, ap_evSs0, IS.ev, IE.ev, IL.ev, IEs.ev, IO.ev, II.ev, IO.test, IA.ev, IA.ev.evs, ap_fNever, ap_fK, ap_fGl, ap_fBin, ap_fNeg, ap_fCmp, ap_fIsN, ap_fTup, ap_fIx, ap_fSl, ap_fFz, ap_fFn, ap_fBi, ap_fNil, ap_fCons, ap_fNo0, ap_fSo, ap_fNot, ap_fChain, ap_fAnd, ap_fOr, ap_fIte, ap_fBl, ap_fNew, ap_fMu, ap_fStr, ap_fRepr, ap_fAttr, ap_fDl, ap_fCat, ap_fRep, ap_fLi, ap_fZ3, ap_fSlL, ap_fSeq, ap_fEn, ap_fPr, ap_fRg1, ap_fRg2, ap_fTst, ap_fYes, ap_fNx, ap_fAsg, ap_fPar2, ap_fPar3, ap_fIf, ap_fRet, ap_fExp, ap_fG, ap_fSub, ap_fTu, ap_fNo, ap_fCo, ap_fFld, ap_fIsi, k1_fBin, k2_fBin, k1_fNeg, k1_fCmp, k2_fCmp, k1_fIsN, k1_fTup, k1_fIx, k2_fIx, k1_fSl, k2_fSl, k3_fSl, k1_fFz, k1_fBi, k1_fCons, k2_fCons, k1_fSo, k1_fNot, k1_fChain, k2_fChain, k1_fAnd, k1_fOr, k1_fIte, k1_fBl, k1_fNew, k1_fMu, k1_fStr, k1_fRepr, k1_fAttr, k1_fDl, k1_fCat, k2_fCat, k1_fRep, k2_fRep, k1_fLi, k1_fZ3, k2_fZ3, k3_fZ3, k1_fSlL, k2_fSlL, k3_fSlL, k1_fSeq, k1_fEn, k1_fPr, k2_fPr, k1_fRg1, k1_fRg2, k2_fRg2, k1_fTst, k1_fAsg, k1_fPar2, k1_fPar3, k1_fIf, k1_fRet, k1_fExp, k1_fFor, k1_fSub, k2_fSub, k1_fFld, k2_fFld, k1_fIsi, IG.set, IG.set.sets, evV, env0, isNn, strT, muT, lstAt, ownL, lstOf, seqOf, L2.atI, L2.ixN, lim, bnd_ok', go_ok', seq_nx', seq_rt', opt_some', nox_ok', finO_rt, finO_nx, padF, kwF, insOf, h, m0, p0, ap_fFor, l2, h1, hg] at z ⊢
      exact z
  · obtain ⟨m', e', h1, h2, h3⟩ := key (40 + i)
    rw [ht] at h1
    have n1 : ¬ (40 + (i : Int) < 0) := by omega
    have n2 : ¬ (1000000000000000000 ≤ 40 + (i : Int)) := by omega
    have z := fin 0 m' (by omega) h2 h3
    simp [F_law_jug, tbf_of_law_jug, tbc_of_law_jug, b_law_jug, den, ap_evSs, ap_evSs0, IS.ev, IE.ev, IL.ev, IEs.ev, IO.ev, II.ev, IO.test, IA.ev, IA.ev.evs, ap_fNever, ap_fK, ap_fGl, ap_fBin, ap_fNeg, ap_fCmp, ap_fIsN, ap_fTup, ap_fIx, ap_fSl, ap_fFz, ap_fFn, ap_fBi, ap_fNil, ap_fCons, ap_fNo0, ap_fSo, ap_fNot, ap_fChain, ap_fAnd, ap_fOr, ap_fIte, ap_fBl, ap_fNew, ap_fMu, ap_fStr, ap_fRepr, ap_fAttr, ap_fDl, ap_fCat, ap_fRep, ap_fLi, ap_fZ3, ap_fSlL, ap_fSeq, ap_fEn, ap_fPr, ap_fRg1, ap_fRg2, ap_fTst, ap_fYes, ap_fNx, ap_fAsg, ap_fPar2, ap_fPar3, ap_fIf, ap_fRet, ap_fExp, ap_fG, ap_fSub, ap_fTu, ap_fNo, ap_fCo, ap_fFld, ap_fIsi, k1_fBin, k2_fBin, k1_fNeg, k1_fCmp, k2_fCmp, k1_fIsN, k1_fTup, k1_fIx, k2_fIx, k1_fSl, k2_fSl, k3_fSl, k1_fFz, k1_fBi, k1_fCons, k2_fCons, k1_fSo, k1_fNot, k1_fChain, k2_fChain, k1_fAnd, k1_fOr, k1_fIte, k1_fBl, k1_fNew, k1_fMu, k1_fStr, k1_fRepr, k1_fAttr, k1_fDl, k1_fCat, k2_fCat, k1_fRep, k2_fRep, k1_fLi, k1_fZ3, k2_fZ3, k3_fZ3, k1_fSlL, k2_fSlL, k3_fSlL, k1_fSeq, k1_fEn, k1_fPr, k2_fPr, k1_fRg1, k1_fRg2, k2_fRg2, k1_fTst, k1_fAsg, k1_fPar2, k1_fPar3, k1_fIf, k1_fRet, k1_fExp, k1_fFor, k1_fSub, k2_fSub, k1_fFld, k2_fFld, k1_fIsi, IG.set, IG.set.sets, evV, env0, isNn, strT, muT, lstAt, ownL, lstOf, seqOf, L2.atI, L2.ixN, lim, bnd_ok', go_ok', seq_nx', seq_rt', opt_some', nox_ok', finO_rt, finO_nx, padF, kwF, insOf, h, m0, p0, ap_fFor, l2, h1, n1, n2] at z ⊢
    exact z
theorem is_integer_ok {a : Int} {st : Sto} (hs : NL st) : F_is_integer [.int a] st = .ok (.bl true) st := by
  simp [F_is_integer, tbf_of_is_integer, tbc_of_is_integer, i0_of_is_integer, i1_of_is_integer, i2_of_is_integer, i3_of_is_integer, i4_of_is_integer, i5_of_is_integer, i7_of_is_integer, i8_of_is_integer, i9_of_is_integer, i10_of_is_integer, i11_of_is_integer, i12_of_is_integer, b_is_integer, den, ap_evSs, ap_evSs0, IS.ev, IE.ev, IL.ev, IEs.ev, IO.ev, II.ev, IO.test, IA.ev, IA.ev.evs, ap_fNever, ap_fK, ap_fGl, ap_fBin, ap_fNeg, ap_fCmp, ap_fIsN, ap_fTup, ap_fIx, ap_fSl, ap_fFz, ap_fFn, ap_fBi, ap_fNil, ap_fCons, ap_fNo0, ap_fSo, ap_fNot, ap_fChain, ap_fAnd, ap_fOr, ap_fIte, ap_fBl, ap_fNew, ap_fMu, ap_fStr, ap_fRepr, ap_fAttr, ap_fDl, ap_fCat, ap_fRep, ap_fLi, ap_fZ3, ap_fSlL, ap_fSeq, ap_fEn, ap_fPr, ap_fRg1, ap_fRg2, ap_fTst, ap_fYes, ap_fNx, ap_fAsg, ap_fPar2, ap_fPar3, ap_fIf, ap_fRet, ap_fExp, ap_fG, ap_fSub, ap_fTu, ap_fNo, ap_fCo, ap_fFld, ap_fIsi, k1_fBin, k2_fBin, k1_fNeg, k1_fCmp, k2_fCmp, k1_fIsN, k1_fTup, k1_fIx, k2_fIx, k1_fSl, k2_fSl, k3_fSl, k1_fFz, k1_fBi, k1_fCons, k2_fCons, k1_fSo, k1_fNot, k1_fChain, k2_fChain, k1_fAnd, k1_fOr, k1_fIte, k1_fBl, k1_fNew, k1_fMu, k1_fStr, k1_fRepr, k1_fAttr, k1_fDl, k1_fCat, k2_fCat, k1_fRep, k2_fRep, k1_fLi, k1_fZ3, k2_fZ3, k3_fZ3, k1_fSlL, k2_fSlL, k3_fSlL, k1_fSeq, k1_fEn, k1_fPr, k2_fPr, k1_fRg1, k1_fRg2, k2_fRg2, k1_fTst, k1_fAsg, k1_fPar2, k1_fPar3, k1_fIf, k1_fRet, k1_fExp, k1_fFor, k1_fSub, k2_fSub, k1_fFld, k2_fFld, k1_fIsi, IG.set, IG.set.sets, evV, env0, isNn, strT, muT, lstAt, ownL, lstOf, seqOf, L2.atI, L2.ixN, lim, bnd_ok', go_ok', seq_nx', seq_rt', opt_some', nox_ok', finO_rt, finO_nx, padF, kwF, insOf]
  exact fin_nl0 hs (by simp)
theorem is_within_ok {a lo hi : Int} {st : Sto} (hs : NL st) : F_is_within [.int a, .int lo, .int hi] st = .ok (.bl (decide (lo ≤ a) && decide (a ≤ hi))) st := by
  by_cases h : lo ≤ a
  · simp [F_is_within, tbf_of_is_within, tbc_of_is_within, b_is_within, den, ap_evSs, ap_evSs0, IS.ev, IE.ev, IL.ev, IEs.ev, IO.ev, II.ev, IO.test, IA.ev, IA.ev.evs, ap_fNever, ap_fK, ap_fGl, ap_fBin, ap_fNeg, ap_fCmp, ap_fIsN, ap_fTup, ap_fIx, ap_fSl, ap_fFz, ap_fFn, ap_fBi, ap_fNil, ap_fCons, ap_fNo0, ap_fSo, ap_fNot, ap_fChain, ap_fAnd, ap_fOr, ap_fIte, ap_fBl, ap_fNew, ap_fMu, ap_fStr, ap_fRepr, ap_fAttr, ap_fDl, ap_fCat, ap_fRep, ap_fLi, ap_fZ3, ap_fSlL, ap_fSeq, ap_fEn, ap_fPr, ap_fRg1, ap_fRg2, ap_fTst, ap_fYes, ap_fNx, ap_fAsg, ap_fPar2, ap_fPar3, ap_fIf, ap_fRet, ap_fExp, ap_fG, ap_fSub, ap_fTu, ap_fNo, ap_fCo, ap_fFld, ap_fIsi, k1_fBin, k2_fBin, k1_fNeg, k1_fCmp, k2_fCmp, k1_fIsN, k1_fTup, k1_fIx, k2_fIx, k1_fSl, k2_fSl, k3_fSl, k1_fFz, k1_fBi, k1_fCons, k2_fCons, k1_fSo, k1_fNot, k1_fChain, k2_fChain, k1_fAnd, k1_fOr, k1_fIte, k1_fBl, k1_fNew, k1_fMu, k1_fStr, k1_fRepr, k1_fAttr, k1_fDl, k1_fCat, k2_fCat, k1_fRep, k2_fRep, k1_fLi, k1_fZ3, k2_fZ3, k3_fZ3, k1_fSlL, k2_fSlL, k3_fSlL, k1_fSeq, k1_fEn, k1_fPr, k2_fPr, k1_fRg1, k1_fRg2, k2_fRg2, k1_fTst, k1_fAsg, k1_fPar2, k1_fPar3, k1_fIf, k1_fRet, k1_fExp, k1_fFor, k1_fSub, k2_fSub, k1_fFld, k2_fFld, k1_fIsi, IG.set, IG.set.sets, evV, env0, isNn, strT, muT, lstAt, ownL, lstOf, seqOf, L2.atI, L2.ixN, lim, bnd_ok', go_ok', seq_nx', seq_rt', opt_some', nox_ok', finO_rt, finO_nx, padF, kwF, insOf, is_integer_ok hs, h]
    exact fin_nl0 hs (by simp)
  · simp [F_is_within, tbf_of_is_within, tbc_of_is_within, b_is_within, den, ap_evSs, ap_evSs0, IS.ev, IE.ev, IL.ev, IEs.ev, IO.ev, II.ev, IO.test, IA.ev, IA.ev.evs, ap_fNever, ap_fK, ap_fGl, ap_fBin, ap_fNeg, ap_fCmp, ap_fIsN, ap_fTup, ap_fIx, ap_fSl, ap_fFz, ap_fFn, ap_fBi, ap_fNil, ap_fCons, ap_fNo0, ap_fSo, ap_fNot, ap_fChain, ap_fAnd, ap_fOr, ap_fIte, ap_fBl, ap_fNew, ap_fMu, ap_fStr, ap_fRepr, ap_fAttr, ap_fDl, ap_fCat, ap_fRep, ap_fLi, ap_fZ3, ap_fSlL, ap_fSeq, ap_fEn, ap_fPr, ap_fRg1, ap_fRg2, ap_fTst, ap_fYes, ap_fNx, ap_fAsg, ap_fPar2, ap_fPar3, ap_fIf, ap_fRet, ap_fExp, ap_fG, ap_fSub, ap_fTu, ap_fNo, ap_fCo, ap_fFld, ap_fIsi, k1_fBin, k2_fBin, k1_fNeg, k1_fCmp, k2_fCmp, k1_fIsN, k1_fTup, k1_fIx, k2_fIx, k1_fSl, k2_fSl, k3_fSl, k1_fFz, k1_fBi, k1_fCons, k2_fCons, k1_fSo, k1_fNot, k1_fChain, k2_fChain, k1_fAnd, k1_fOr, k1_fIte, k1_fBl, k1_fNew, k1_fMu, k1_fStr, k1_fRepr, k1_fAttr, k1_fDl, k1_fCat, k2_fCat, k1_fRep, k2_fRep, k1_fLi, k1_fZ3, k2_fZ3, k3_fZ3, k1_fSlL, k2_fSlL, k3_fSlL, k1_fSeq, k1_fEn, k1_fPr, k2_fPr, k1_fRg1, k1_fRg2, k2_fRg2, k1_fTst, k1_fAsg, k1_fPar2, k1_fPar3, k1_fIf, k1_fRet, k1_fExp, k1_fFor, k1_fSub, k2_fSub, k1_fFld, k2_fFld, k1_fIsi, IG.set, IG.set.sets, evV, env0, isNn, strT, muT, lstAt, ownL, lstOf, seqOf, L2.atI, L2.ixN, lim, bnd_ok', go_ok', seq_nx', seq_rt', opt_some', nox_ok', finO_rt, finO_nx, padF, kwF, insOf, is_integer_ok hs, h]
    exact fin_nl0 hs (by simp)
def rT (r : List Int) : T := .tup (r.map .int)
def gT (g : List (List Int)) : T := .tup (g.map rT)
theorem row_sums_ok {g : List (List Int)} {st : Sto} (hs : NL st) (hl : g.length ≤ 100) (hr : ∀ r, r ∈ g → r.length ≤ 100) : F_row_sums [gT g] st = .ok (.lst (g.map fun r => .int r.sum)) st := by
  have h : fLc [1] (e1_row_sums.ev tb_row_sums) (.name 1) (fSeq (evV 0)) fYes [some (gT g), none] st = .ok (g.map fun r => T.int r.sum) st := by
    refine lc_mapE (emb := rT) (by simp [den, ap_evSs, ap_evSs0, IS.ev, IE.ev, IL.ev, IEs.ev, IO.ev, II.ev, IO.test, IA.ev, IA.ev.evs, ap_fNever, ap_fK, ap_fGl, ap_fBin, ap_fNeg, ap_fCmp, ap_fIsN, ap_fTup, ap_fIx, ap_fSl, ap_fFz, ap_fFn, ap_fBi, ap_fNil, ap_fCons, ap_fNo0, ap_fSo, ap_fNot, ap_fChain, ap_fAnd, ap_fOr, ap_fIte, ap_fBl, ap_fNew, ap_fMu, ap_fStr, ap_fRepr, ap_fAttr, ap_fDl, ap_fCat, ap_fRep, ap_fLi, ap_fZ3, ap_fSlL, ap_fSeq, ap_fEn, ap_fPr, ap_fRg1, ap_fRg2, ap_fTst, ap_fYes, ap_fNx, ap_fAsg, ap_fPar2, ap_fPar3, ap_fIf, ap_fRet, ap_fExp, ap_fG, ap_fSub, ap_fTu, ap_fNo, ap_fCo, ap_fFld, ap_fIsi, k1_fBin, k2_fBin, k1_fNeg, k1_fCmp, k2_fCmp, k1_fIsN, k1_fTup, k1_fIx, k2_fIx, k1_fSl, k2_fSl, k3_fSl, k1_fFz, k1_fBi, k1_fCons, k2_fCons, k1_fSo, k1_fNot, k1_fChain, k2_fChain, k1_fAnd, k1_fOr, k1_fIte, k1_fBl, k1_fNew, k1_fMu, k1_fStr, k1_fRepr, k1_fAttr, k1_fDl, k1_fCat, k2_fCat, k1_fRep, k2_fRep, k1_fLi, k1_fZ3, k2_fZ3, k3_fZ3, k1_fSlL, k2_fSlL, k3_fSlL, k1_fSeq, k1_fEn, k1_fPr, k2_fPr, k1_fRg1, k1_fRg2, k2_fRg2, k1_fTst, k1_fAsg, k1_fPar2, k1_fPar3, k1_fIf, k1_fRet, k1_fExp, k1_fFor, k1_fSub, k2_fSub, k1_fFld, k2_fFld, k1_fIsi, IG.set, IG.set.sets, evV, env0, isNn, strT, muT, lstAt, ownL, lstOf, seqOf, L2.atI, L2.ixN, lim, bnd_ok', go_ok', seq_nx', seq_rt', opt_some', nox_ok', finO_rt, finO_nx, padF, kwF, insOf, gT]) (by omega) fun r hrm => ?_
    simp [fTurn, wipeE, e1_row_sums, den, ap_evSs, ap_evSs0, IS.ev, IE.ev, IL.ev, IEs.ev, IO.ev, II.ev, IO.test, IA.ev, IA.ev.evs, ap_fNever, ap_fK, ap_fGl, ap_fBin, ap_fNeg, ap_fCmp, ap_fIsN, ap_fTup, ap_fIx, ap_fSl, ap_fFz, ap_fFn, ap_fBi, ap_fNil, ap_fCons, ap_fNo0, ap_fSo, ap_fNot, ap_fChain, ap_fAnd, ap_fOr, ap_fIte, ap_fBl, ap_fNew, ap_fMu, ap_fStr, ap_fRepr, ap_fAttr, ap_fDl, ap_fCat, ap_fRep, ap_fLi, ap_fZ3, ap_fSlL, ap_fSeq, ap_fEn, ap_fPr, ap_fRg1, ap_fRg2, ap_fTst, ap_fYes, ap_fNx, ap_fAsg, ap_fPar2, ap_fPar3, ap_fIf, ap_fRet, ap_fExp, ap_fG, ap_fSub, ap_fTu, ap_fNo, ap_fCo, ap_fFld, ap_fIsi, k1_fBin, k2_fBin, k1_fNeg, k1_fCmp, k2_fCmp, k1_fIsN, k1_fTup, k1_fIx, k2_fIx, k1_fSl, k2_fSl, k3_fSl, k1_fFz, k1_fBi, k1_fCons, k2_fCons, k1_fSo, k1_fNot, k1_fChain, k2_fChain, k1_fAnd, k1_fOr, k1_fIte, k1_fBl, k1_fNew, k1_fMu, k1_fStr, k1_fRepr, k1_fAttr, k1_fDl, k1_fCat, k2_fCat, k1_fRep, k2_fRep, k1_fLi, k1_fZ3, k2_fZ3, k3_fZ3, k1_fSlL, k2_fSlL, k3_fSlL, k1_fSeq, k1_fEn, k1_fPr, k2_fPr, k1_fRg1, k1_fRg2, k2_fRg2, k1_fTst, k1_fAsg, k1_fPar2, k1_fPar3, k1_fIf, k1_fRet, k1_fExp, k1_fFor, k1_fSub, k2_fSub, k1_fFld, k2_fFld, k1_fIsi, IG.set, IG.set.sets, evV, env0, isNn, strT, muT, lstAt, ownL, lstOf, seqOf, L2.atI, L2.ixN, lim, bnd_ok', go_ok', seq_nx', seq_rt', opt_some', nox_ok', finO_rt, finO_nx, padF, kwF, insOf, rT]
  simp [F_row_sums, tbf_of_row_sums, tbc_of_row_sums, b_row_sums, den, ap_evSs, ap_evSs0, IS.ev, IE.ev, IL.ev, IEs.ev, IO.ev, II.ev, IO.test, IA.ev, IA.ev.evs, ap_fNever, ap_fK, ap_fGl, ap_fBin, ap_fNeg, ap_fCmp, ap_fIsN, ap_fTup, ap_fIx, ap_fSl, ap_fFz, ap_fFn, ap_fBi, ap_fNil, ap_fCons, ap_fNo0, ap_fSo, ap_fNot, ap_fChain, ap_fAnd, ap_fOr, ap_fIte, ap_fBl, ap_fNew, ap_fMu, ap_fStr, ap_fRepr, ap_fAttr, ap_fDl, ap_fCat, ap_fRep, ap_fLi, ap_fZ3, ap_fSlL, ap_fSeq, ap_fEn, ap_fPr, ap_fRg1, ap_fRg2, ap_fTst, ap_fYes, ap_fNx, ap_fAsg, ap_fPar2, ap_fPar3, ap_fIf, ap_fRet, ap_fExp, ap_fG, ap_fSub, ap_fTu, ap_fNo, ap_fCo, ap_fFld, ap_fIsi, k1_fBin, k2_fBin, k1_fNeg, k1_fCmp, k2_fCmp, k1_fIsN, k1_fTup, k1_fIx, k2_fIx, k1_fSl, k2_fSl, k3_fSl, k1_fFz, k1_fBi, k1_fCons, k2_fCons, k1_fSo, k1_fNot, k1_fChain, k2_fChain, k1_fAnd, k1_fOr, k1_fIte, k1_fBl, k1_fNew, k1_fMu, k1_fStr, k1_fRepr, k1_fAttr, k1_fDl, k1_fCat, k2_fCat, k1_fRep, k2_fRep, k1_fLi, k1_fZ3, k2_fZ3, k3_fZ3, k1_fSlL, k2_fSlL, k3_fSlL, k1_fSeq, k1_fEn, k1_fPr, k2_fPr, k1_fRg1, k1_fRg2, k2_fRg2, k1_fTst, k1_fAsg, k1_fPar2, k1_fPar3, k1_fIf, k1_fRet, k1_fExp, k1_fFor, k1_fSub, k2_fSub, k1_fFld, k2_fFld, k1_fIsi, IG.set, IG.set.sets, evV, env0, isNn, strT, muT, lstAt, ownL, lstOf, seqOf, L2.atI, L2.ixN, lim, bnd_ok', go_ok', seq_nx', seq_rt', opt_some', nox_ok', finO_rt, finO_nx, padF, kwF, insOf, h]
  exact fin_nl0 hs (by simp; exact nls_of (by simp))
def colS (g : List (List Int)) (j : Nat) : Int := (g.map fun r => r.getD j 0).sum
theorem column_sums_ok {g : List (List Int)} {k : Nat} {st : Sto} (hs : NL st) (hl : g.length ≤ 100) (hne : g ≠ []) (hk : k ≤ 100) (hr : ∀ r, r ∈ g → r.length = k) : F_column_sums [gT g] st = .ok (.lst ((List.range k).map fun j => .int (colS g j))) st := by
  have hpos : 0 < g.length := List.length_pos_iff.mpr hne
  have hk0 : (g[0]'hpos).length = k := hr _ (List.getElem_mem hpos)
  have h1 : ∀ j : Nat, j < k → fLc [2] (e1_column_sums.ev tb_column_sums) (.name 2) (fSeq (evV 0)) fYes [some (gT g), some (.int j), none] st = .ok ((g.map fun r => r.getD j 0).map T.int) st := fun j hj => by
    rw [List.map_map]
    refine lc_mapE (emb := rT) (by simp [den, ap_evSs, ap_evSs0, IS.ev, IE.ev, IL.ev, IEs.ev, IO.ev, II.ev, IO.test, IA.ev, IA.ev.evs, ap_fNever, ap_fK, ap_fGl, ap_fBin, ap_fNeg, ap_fCmp, ap_fIsN, ap_fTup, ap_fIx, ap_fSl, ap_fFz, ap_fFn, ap_fBi, ap_fNil, ap_fCons, ap_fNo0, ap_fSo, ap_fNot, ap_fChain, ap_fAnd, ap_fOr, ap_fIte, ap_fBl, ap_fNew, ap_fMu, ap_fStr, ap_fRepr, ap_fAttr, ap_fDl, ap_fCat, ap_fRep, ap_fLi, ap_fZ3, ap_fSlL, ap_fSeq, ap_fEn, ap_fPr, ap_fRg1, ap_fRg2, ap_fTst, ap_fYes, ap_fNx, ap_fAsg, ap_fPar2, ap_fPar3, ap_fIf, ap_fRet, ap_fExp, ap_fG, ap_fSub, ap_fTu, ap_fNo, ap_fCo, ap_fFld, ap_fIsi, k1_fBin, k2_fBin, k1_fNeg, k1_fCmp, k2_fCmp, k1_fIsN, k1_fTup, k1_fIx, k2_fIx, k1_fSl, k2_fSl, k3_fSl, k1_fFz, k1_fBi, k1_fCons, k2_fCons, k1_fSo, k1_fNot, k1_fChain, k2_fChain, k1_fAnd, k1_fOr, k1_fIte, k1_fBl, k1_fNew, k1_fMu, k1_fStr, k1_fRepr, k1_fAttr, k1_fDl, k1_fCat, k2_fCat, k1_fRep, k2_fRep, k1_fLi, k1_fZ3, k2_fZ3, k3_fZ3, k1_fSlL, k2_fSlL, k3_fSlL, k1_fSeq, k1_fEn, k1_fPr, k2_fPr, k1_fRg1, k1_fRg2, k2_fRg2, k1_fTst, k1_fAsg, k1_fPar2, k1_fPar3, k1_fIf, k1_fRet, k1_fExp, k1_fFor, k1_fSub, k2_fSub, k1_fFld, k2_fFld, k1_fIsi, IG.set, IG.set.sets, evV, env0, isNn, strT, muT, lstAt, ownL, lstOf, seqOf, L2.atI, L2.ixN, lim, bnd_ok', go_ok', seq_nx', seq_rt', opt_some', nox_ok', finO_rt, finO_nx, padF, kwF, insOf, gT]) (by omega) fun r hrm => ?_
    have hlen := hr r hrm
    have hj2 : j < r.length := by omega
    simp [fTurn, wipeE, e1_column_sums, den, ap_evSs, ap_evSs0, IS.ev, IE.ev, IL.ev, IEs.ev, IO.ev, II.ev, IO.test, IA.ev, IA.ev.evs, ap_fNever, ap_fK, ap_fGl, ap_fBin, ap_fNeg, ap_fCmp, ap_fIsN, ap_fTup, ap_fIx, ap_fSl, ap_fFz, ap_fFn, ap_fBi, ap_fNil, ap_fCons, ap_fNo0, ap_fSo, ap_fNot, ap_fChain, ap_fAnd, ap_fOr, ap_fIte, ap_fBl, ap_fNew, ap_fMu, ap_fStr, ap_fRepr, ap_fAttr, ap_fDl, ap_fCat, ap_fRep, ap_fLi, ap_fZ3, ap_fSlL, ap_fSeq, ap_fEn, ap_fPr, ap_fRg1, ap_fRg2, ap_fTst, ap_fYes, ap_fNx, ap_fAsg, ap_fPar2, ap_fPar3, ap_fIf, ap_fRet, ap_fExp, ap_fG, ap_fSub, ap_fTu, ap_fNo, ap_fCo, ap_fFld, ap_fIsi, k1_fBin, k2_fBin, k1_fNeg, k1_fCmp, k2_fCmp, k1_fIsN, k1_fTup, k1_fIx, k2_fIx, k1_fSl, k2_fSl, k3_fSl, k1_fFz, k1_fBi, k1_fCons, k2_fCons, k1_fSo, k1_fNot, k1_fChain, k2_fChain, k1_fAnd, k1_fOr, k1_fIte, k1_fBl, k1_fNew, k1_fMu, k1_fStr, k1_fRepr, k1_fAttr, k1_fDl, k1_fCat, k2_fCat, k1_fRep, k2_fRep, k1_fLi, k1_fZ3, k2_fZ3, k3_fZ3, k1_fSlL, k2_fSlL, k3_fSlL, k1_fSeq, k1_fEn, k1_fPr, k2_fPr, k1_fRg1, k1_fRg2, k2_fRg2, k1_fTst, k1_fAsg, k1_fPar2, k1_fPar3, k1_fIf, k1_fRet, k1_fExp, k1_fFor, k1_fSub, k2_fSub, k1_fFld, k2_fFld, k1_fIsi, IG.set, IG.set.sets, evV, env0, isNn, strT, muT, lstAt, ownL, lstOf, seqOf, L2.atI, L2.ixN, lim, bnd_ok', go_ok', seq_nx', seq_rt', opt_some', nox_ok', finO_rt, finO_nx, padF, kwF, insOf, rT, hj2]
  have h2 : fLc [1] (e2_column_sums.ev tb_column_sums) (.name 1) (fRg1 (fBi .len (fCons (fIx (evV 0) (fK (.int 0))) fNil))) fYes [some (gT g), none, none] st = .ok ((List.range k).map fun j => T.int (colS g j)) st := by
    refine lc_mapE (emb := fun j : Nat => T.int j) (rg1_eq ?_ (by omega)) (by simp; omega) fun j hj => ?_
    · simp [den, ap_evSs, ap_evSs0, IS.ev, IE.ev, IL.ev, IEs.ev, IO.ev, II.ev, IO.test, IA.ev, IA.ev.evs, ap_fNever, ap_fK, ap_fGl, ap_fBin, ap_fNeg, ap_fCmp, ap_fIsN, ap_fTup, ap_fIx, ap_fSl, ap_fFz, ap_fFn, ap_fBi, ap_fNil, ap_fCons, ap_fNo0, ap_fSo, ap_fNot, ap_fChain, ap_fAnd, ap_fOr, ap_fIte, ap_fBl, ap_fNew, ap_fMu, ap_fStr, ap_fRepr, ap_fAttr, ap_fDl, ap_fCat, ap_fRep, ap_fLi, ap_fZ3, ap_fSlL, ap_fSeq, ap_fEn, ap_fPr, ap_fRg1, ap_fRg2, ap_fTst, ap_fYes, ap_fNx, ap_fAsg, ap_fPar2, ap_fPar3, ap_fIf, ap_fRet, ap_fExp, ap_fG, ap_fSub, ap_fTu, ap_fNo, ap_fCo, ap_fFld, ap_fIsi, k1_fBin, k2_fBin, k1_fNeg, k1_fCmp, k2_fCmp, k1_fIsN, k1_fTup, k1_fIx, k2_fIx, k1_fSl, k2_fSl, k3_fSl, k1_fFz, k1_fBi, k1_fCons, k2_fCons, k1_fSo, k1_fNot, k1_fChain, k2_fChain, k1_fAnd, k1_fOr, k1_fIte, k1_fBl, k1_fNew, k1_fMu, k1_fStr, k1_fRepr, k1_fAttr, k1_fDl, k1_fCat, k2_fCat, k1_fRep, k2_fRep, k1_fLi, k1_fZ3, k2_fZ3, k3_fZ3, k1_fSlL, k2_fSlL, k3_fSlL, k1_fSeq, k1_fEn, k1_fPr, k2_fPr, k1_fRg1, k1_fRg2, k2_fRg2, k1_fTst, k1_fAsg, k1_fPar2, k1_fPar3, k1_fIf, k1_fRet, k1_fExp, k1_fFor, k1_fSub, k2_fSub, k1_fFld, k2_fFld, k1_fIsi, IG.set, IG.set.sets, evV, env0, isNn, strT, muT, lstAt, ownL, lstOf, seqOf, L2.atI, L2.ixN, lim, bnd_ok', go_ok', seq_nx', seq_rt', opt_some', nox_ok', finO_rt, finO_nx, padF, kwF, insOf, gT, rT, hpos, hk0]
    · have hj : j < k := by simpa using hj
      simp [fTurn, wipeE, e2_column_sums, den, ap_evSs, ap_evSs0, IS.ev, IE.ev, IL.ev, IEs.ev, IO.ev, II.ev, IO.test, IA.ev, IA.ev.evs, ap_fNever, ap_fK, ap_fGl, ap_fBin, ap_fNeg, ap_fCmp, ap_fIsN, ap_fTup, ap_fIx, ap_fSl, ap_fFz, ap_fFn, ap_fBi, ap_fNil, ap_fCons, ap_fNo0, ap_fSo, ap_fNot, ap_fChain, ap_fAnd, ap_fOr, ap_fIte, ap_fBl, ap_fNew, ap_fMu, ap_fStr, ap_fRepr, ap_fAttr, ap_fDl, ap_fCat, ap_fRep, ap_fLi, ap_fZ3, ap_fSlL, ap_fSeq, ap_fEn, ap_fPr, ap_fRg1, ap_fRg2, ap_fTst, ap_fYes, ap_fNx, ap_fAsg, ap_fPar2, ap_fPar3, ap_fIf, ap_fRet, ap_fExp, ap_fG, ap_fSub, ap_fTu, ap_fNo, ap_fCo, ap_fFld, ap_fIsi, k1_fBin, k2_fBin, k1_fNeg, k1_fCmp, k2_fCmp, k1_fIsN, k1_fTup, k1_fIx, k2_fIx, k1_fSl, k2_fSl, k3_fSl, k1_fFz, k1_fBi, k1_fCons, k2_fCons, k1_fSo, k1_fNot, k1_fChain, k2_fChain, k1_fAnd, k1_fOr, k1_fIte, k1_fBl, k1_fNew, k1_fMu, k1_fStr, k1_fRepr, k1_fAttr, k1_fDl, k1_fCat, k2_fCat, k1_fRep, k2_fRep, k1_fLi, k1_fZ3, k2_fZ3, k3_fZ3, k1_fSlL, k2_fSlL, k3_fSlL, k1_fSeq, k1_fEn, k1_fPr, k2_fPr, k1_fRg1, k1_fRg2, k2_fRg2, k1_fTst, k1_fAsg, k1_fPar2, k1_fPar3, k1_fIf, k1_fRet, k1_fExp, k1_fFor, k1_fSub, k2_fSub, k1_fFld, k2_fFld, k1_fIsi, IG.set, IG.set.sets, evV, env0, isNn, strT, muT, lstAt, ownL, lstOf, seqOf, L2.atI, L2.ixN, lim, bnd_ok', go_ok', seq_nx', seq_rt', opt_some', nox_ok', finO_rt, finO_nx, padF, kwF, insOf, -List.map_map, h1 j hj, colS]
  simp [F_column_sums, tbf_of_column_sums, tbc_of_column_sums, b_column_sums, den, ap_evSs, ap_evSs0, IS.ev, IE.ev, IL.ev, IEs.ev, IO.ev, II.ev, IO.test, IA.ev, IA.ev.evs, ap_fNever, ap_fK, ap_fGl, ap_fBin, ap_fNeg, ap_fCmp, ap_fIsN, ap_fTup, ap_fIx, ap_fSl, ap_fFz, ap_fFn, ap_fBi, ap_fNil, ap_fCons, ap_fNo0, ap_fSo, ap_fNot, ap_fChain, ap_fAnd, ap_fOr, ap_fIte, ap_fBl, ap_fNew, ap_fMu, ap_fStr, ap_fRepr, ap_fAttr, ap_fDl, ap_fCat, ap_fRep, ap_fLi, ap_fZ3, ap_fSlL, ap_fSeq, ap_fEn, ap_fPr, ap_fRg1, ap_fRg2, ap_fTst, ap_fYes, ap_fNx, ap_fAsg, ap_fPar2, ap_fPar3, ap_fIf, ap_fRet, ap_fExp, ap_fG, ap_fSub, ap_fTu, ap_fNo, ap_fCo, ap_fFld, ap_fIsi, k1_fBin, k2_fBin, k1_fNeg, k1_fCmp, k2_fCmp, k1_fIsN, k1_fTup, k1_fIx, k2_fIx, k1_fSl, k2_fSl, k3_fSl, k1_fFz, k1_fBi, k1_fCons, k2_fCons, k1_fSo, k1_fNot, k1_fChain, k2_fChain, k1_fAnd, k1_fOr, k1_fIte, k1_fBl, k1_fNew, k1_fMu, k1_fStr, k1_fRepr, k1_fAttr, k1_fDl, k1_fCat, k2_fCat, k1_fRep, k2_fRep, k1_fLi, k1_fZ3, k2_fZ3, k3_fZ3, k1_fSlL, k2_fSlL, k3_fSlL, k1_fSeq, k1_fEn, k1_fPr, k2_fPr, k1_fRg1, k1_fRg2, k2_fRg2, k1_fTst, k1_fAsg, k1_fPar2, k1_fPar3, k1_fIf, k1_fRet, k1_fExp, k1_fFor, k1_fSub, k2_fSub, k1_fFld, k2_fFld, k1_fIsi, IG.set, IG.set.sets, evV, env0, isNn, strT, muT, lstAt, ownL, lstOf, seqOf, L2.atI, L2.ixN, lim, bnd_ok', go_ok', seq_nx', seq_rt', opt_some', nox_ok', finO_rt, finO_nx, padF, kwF, insOf, h2]
  exact fin_nl0 hs (by simp; exact nls_of (by simp))
theorem whole_sum_ok {g : List (List Int)} {st : Sto} (hs : NL st) (hl : g.length ≤ 100) (hr : ∀ r, r ∈ g → r.length ≤ 100) : F_whole_sum [gT g] st = .ok (.int (g.map List.sum).sum) st := by
  have h := row_sums_ok hs hl hr
  rw [show (g.map fun r => T.int r.sum) = (g.map List.sum).map T.int from by rw [List.map_map]; rfl] at h
  simp [F_whole_sum, tbf_of_whole_sum, tbc_of_whole_sum, b_whole_sum, den, ap_evSs, ap_evSs0, IS.ev, IE.ev, IL.ev, IEs.ev, IO.ev, II.ev, IO.test, IA.ev, IA.ev.evs, ap_fNever, ap_fK, ap_fGl, ap_fBin, ap_fNeg, ap_fCmp, ap_fIsN, ap_fTup, ap_fIx, ap_fSl, ap_fFz, ap_fFn, ap_fBi, ap_fNil, ap_fCons, ap_fNo0, ap_fSo, ap_fNot, ap_fChain, ap_fAnd, ap_fOr, ap_fIte, ap_fBl, ap_fNew, ap_fMu, ap_fStr, ap_fRepr, ap_fAttr, ap_fDl, ap_fCat, ap_fRep, ap_fLi, ap_fZ3, ap_fSlL, ap_fSeq, ap_fEn, ap_fPr, ap_fRg1, ap_fRg2, ap_fTst, ap_fYes, ap_fNx, ap_fAsg, ap_fPar2, ap_fPar3, ap_fIf, ap_fRet, ap_fExp, ap_fG, ap_fSub, ap_fTu, ap_fNo, ap_fCo, ap_fFld, ap_fIsi, k1_fBin, k2_fBin, k1_fNeg, k1_fCmp, k2_fCmp, k1_fIsN, k1_fTup, k1_fIx, k2_fIx, k1_fSl, k2_fSl, k3_fSl, k1_fFz, k1_fBi, k1_fCons, k2_fCons, k1_fSo, k1_fNot, k1_fChain, k2_fChain, k1_fAnd, k1_fOr, k1_fIte, k1_fBl, k1_fNew, k1_fMu, k1_fStr, k1_fRepr, k1_fAttr, k1_fDl, k1_fCat, k2_fCat, k1_fRep, k2_fRep, k1_fLi, k1_fZ3, k2_fZ3, k3_fZ3, k1_fSlL, k2_fSlL, k3_fSlL, k1_fSeq, k1_fEn, k1_fPr, k2_fPr, k1_fRg1, k1_fRg2, k2_fRg2, k1_fTst, k1_fAsg, k1_fPar2, k1_fPar3, k1_fIf, k1_fRet, k1_fExp, k1_fFor, k1_fSub, k2_fSub, k1_fFld, k2_fFld, k1_fIsi, IG.set, IG.set.sets, evV, env0, isNn, strT, muT, lstAt, ownL, lstOf, seqOf, L2.atI, L2.ixN, lim, bnd_ok', go_ok', seq_nx', seq_rt', opt_some', nox_ok', finO_rt, finO_nx, padF, kwF, insOf, -List.map_map, h]
  exact fin_nl0 hs (by simp)
def rowB (r : List Int) (k : Nat) (hi : Int) : Prop := r.length = k ∧ ∀ x, x ∈ r → 0 ≤ x ∧ x ≤ hi
theorem is_row_ok {r : List Int} {k : Nat} {hi : Int} {st : Sto} (hs : NL st) (hl : k ≤ 100) (h : rowB r k hi) : F_is_row [rT r, .int k, .int hi] st = .ok (.bl true) st := by
  obtain ⟨h1, h2⟩ := h
  have h3 : fLc [3] (e1_is_row.ev tb_is_row) (.name 3) (fSeq (evV 0)) fYes [some (rT r), some (.int k), some (.int hi), none] st = .ok (r.map fun _ => T.bl true) st := by
    refine lc_mapE (emb := T.int) (by simp [den, ap_evSs, ap_evSs0, IS.ev, IE.ev, IL.ev, IEs.ev, IO.ev, II.ev, IO.test, IA.ev, IA.ev.evs, ap_fNever, ap_fK, ap_fGl, ap_fBin, ap_fNeg, ap_fCmp, ap_fIsN, ap_fTup, ap_fIx, ap_fSl, ap_fFz, ap_fFn, ap_fBi, ap_fNil, ap_fCons, ap_fNo0, ap_fSo, ap_fNot, ap_fChain, ap_fAnd, ap_fOr, ap_fIte, ap_fBl, ap_fNew, ap_fMu, ap_fStr, ap_fRepr, ap_fAttr, ap_fDl, ap_fCat, ap_fRep, ap_fLi, ap_fZ3, ap_fSlL, ap_fSeq, ap_fEn, ap_fPr, ap_fRg1, ap_fRg2, ap_fTst, ap_fYes, ap_fNx, ap_fAsg, ap_fPar2, ap_fPar3, ap_fIf, ap_fRet, ap_fExp, ap_fG, ap_fSub, ap_fTu, ap_fNo, ap_fCo, ap_fFld, ap_fIsi, k1_fBin, k2_fBin, k1_fNeg, k1_fCmp, k2_fCmp, k1_fIsN, k1_fTup, k1_fIx, k2_fIx, k1_fSl, k2_fSl, k3_fSl, k1_fFz, k1_fBi, k1_fCons, k2_fCons, k1_fSo, k1_fNot, k1_fChain, k2_fChain, k1_fAnd, k1_fOr, k1_fIte, k1_fBl, k1_fNew, k1_fMu, k1_fStr, k1_fRepr, k1_fAttr, k1_fDl, k1_fCat, k2_fCat, k1_fRep, k2_fRep, k1_fLi, k1_fZ3, k2_fZ3, k3_fZ3, k1_fSlL, k2_fSlL, k3_fSlL, k1_fSeq, k1_fEn, k1_fPr, k2_fPr, k1_fRg1, k1_fRg2, k2_fRg2, k1_fTst, k1_fAsg, k1_fPar2, k1_fPar3, k1_fIf, k1_fRet, k1_fExp, k1_fFor, k1_fSub, k2_fSub, k1_fFld, k2_fFld, k1_fIsi, IG.set, IG.set.sets, evV, env0, isNn, strT, muT, lstAt, ownL, lstOf, seqOf, L2.atI, L2.ixN, lim, bnd_ok', go_ok', seq_nx', seq_rt', opt_some', nox_ok', finO_rt, finO_nx, padF, kwF, insOf, rT]) (by omega) fun x hx => ?_
    have := h2 x hx
    simp [fTurn, wipeE, e1_is_row, tbf_of_is_row, tbc_of_is_row, i0_of_is_row, i1_of_is_row, i2_of_is_row, i3_of_is_row, i4_of_is_row, i5_of_is_row, den, ap_evSs, ap_evSs0, IS.ev, IE.ev, IL.ev, IEs.ev, IO.ev, II.ev, IO.test, IA.ev, IA.ev.evs, ap_fNever, ap_fK, ap_fGl, ap_fBin, ap_fNeg, ap_fCmp, ap_fIsN, ap_fTup, ap_fIx, ap_fSl, ap_fFz, ap_fFn, ap_fBi, ap_fNil, ap_fCons, ap_fNo0, ap_fSo, ap_fNot, ap_fChain, ap_fAnd, ap_fOr, ap_fIte, ap_fBl, ap_fNew, ap_fMu, ap_fStr, ap_fRepr, ap_fAttr, ap_fDl, ap_fCat, ap_fRep, ap_fLi, ap_fZ3, ap_fSlL, ap_fSeq, ap_fEn, ap_fPr, ap_fRg1, ap_fRg2, ap_fTst, ap_fYes, ap_fNx, ap_fAsg, ap_fPar2, ap_fPar3, ap_fIf, ap_fRet, ap_fExp, ap_fG, ap_fSub, ap_fTu, ap_fNo, ap_fCo, ap_fFld, ap_fIsi, k1_fBin, k2_fBin, k1_fNeg, k1_fCmp, k2_fCmp, k1_fIsN, k1_fTup, k1_fIx, k2_fIx, k1_fSl, k2_fSl, k3_fSl, k1_fFz, k1_fBi, k1_fCons, k2_fCons, k1_fSo, k1_fNot, k1_fChain, k2_fChain, k1_fAnd, k1_fOr, k1_fIte, k1_fBl, k1_fNew, k1_fMu, k1_fStr, k1_fRepr, k1_fAttr, k1_fDl, k1_fCat, k2_fCat, k1_fRep, k2_fRep, k1_fLi, k1_fZ3, k2_fZ3, k3_fZ3, k1_fSlL, k2_fSlL, k3_fSlL, k1_fSeq, k1_fEn, k1_fPr, k2_fPr, k1_fRg1, k1_fRg2, k2_fRg2, k1_fTst, k1_fAsg, k1_fPar2, k1_fPar3, k1_fIf, k1_fRet, k1_fExp, k1_fFor, k1_fSub, k2_fSub, k1_fFld, k2_fFld, k1_fIsi, IG.set, IG.set.sets, evV, env0, isNn, strT, muT, lstAt, ownL, lstOf, seqOf, L2.atI, L2.ixN, lim, bnd_ok', go_ok', seq_nx', seq_rt', opt_some', nox_ok', finO_rt, finO_nx, padF, kwF, insOf, is_within_ok hs, this]
  have h4 : biT st .all [.lst (r.map fun _ => T.bl true)] = some (.bl true) := by
    have : ∀ xs : List Int, blsOf (xs.map fun _ => T.bl true) = some (xs.map fun _ => true) := fun xs => by
      induction xs with
      | nil => rfl
      | cons x xs ih => show (blsOf (xs.map fun _ => T.bl true)).map (true :: ·) = _; rw [ih]; rfl
    show ((some (r.map fun _ => T.bl true)).bind blsOf).map (fun bs => T.bl (bs.all id)) = _
    rw [Option.bind_some, this]
    simp
  simp only [rT] at h3 ⊢
  simp [F_is_row, tbf_of_is_row, tbc_of_is_row, i0_of_is_row, i1_of_is_row, i2_of_is_row, i3_of_is_row, i4_of_is_row, i5_of_is_row, b_is_row, den, ap_evSs, ap_evSs0, IS.ev, IE.ev, IL.ev, IEs.ev, IO.ev, II.ev, IO.test, IA.ev, IA.ev.evs, ap_fNever, ap_fK, ap_fGl, ap_fBin, ap_fNeg, ap_fCmp, ap_fIsN, ap_fTup, ap_fIx, ap_fSl, ap_fFz, ap_fFn, ap_fBi, ap_fNil, ap_fCons, ap_fNo0, ap_fSo, ap_fNot, ap_fChain, ap_fAnd, ap_fOr, ap_fIte, ap_fBl, ap_fNew, ap_fMu, ap_fStr, ap_fRepr, ap_fAttr, ap_fDl, ap_fCat, ap_fRep, ap_fLi, ap_fZ3, ap_fSlL, ap_fSeq, ap_fEn, ap_fPr, ap_fRg1, ap_fRg2, ap_fTst, ap_fYes, ap_fNx, ap_fAsg, ap_fPar2, ap_fPar3, ap_fIf, ap_fRet, ap_fExp, ap_fG, ap_fSub, ap_fTu, ap_fNo, ap_fCo, ap_fFld, ap_fIsi, k1_fBin, k2_fBin, k1_fNeg, k1_fCmp, k2_fCmp, k1_fIsN, k1_fTup, k1_fIx, k2_fIx, k1_fSl, k2_fSl, k3_fSl, k1_fFz, k1_fBi, k1_fCons, k2_fCons, k1_fSo, k1_fNot, k1_fChain, k2_fChain, k1_fAnd, k1_fOr, k1_fIte, k1_fBl, k1_fNew, k1_fMu, k1_fStr, k1_fRepr, k1_fAttr, k1_fDl, k1_fCat, k2_fCat, k1_fRep, k2_fRep, k1_fLi, k1_fZ3, k2_fZ3, k3_fZ3, k1_fSlL, k2_fSlL, k3_fSlL, k1_fSeq, k1_fEn, k1_fPr, k2_fPr, k1_fRg1, k1_fRg2, k2_fRg2, k1_fTst, k1_fAsg, k1_fPar2, k1_fPar3, k1_fIf, k1_fRet, k1_fExp, k1_fFor, k1_fSub, k2_fSub, k1_fFld, k2_fFld, k1_fIsi, IG.set, IG.set.sets, evV, env0, isNn, strT, muT, lstAt, ownL, lstOf, seqOf, L2.atI, L2.ixN, lim, bnd_ok', go_ok', seq_nx', seq_rt', opt_some', nox_ok', finO_rt, finO_nx, padF, kwF, insOf, h1, h3, h4]
  exact fin_nl0 hs (by simp)
theorem wrong_row_ok {g : List (List Int)} {k : Nat} {hi : Int} {st : Sto} (hs : NL st) (hl : k ≤ 100) (h : ∀ r, r ∈ g → rowB r k hi) : F_wrong_row [gT g, .int k, .int hi] st = .ok .non st := by
  have key : ∀ (xs : List (List Int)) (n : Nat) (e1 e2 : Option T), (∀ r, r ∈ xs → rowB r k hi) → ∃ f1 f2, walkO (.tup [.name 3, .name 4]) (evSs tb_wrong_row l1_wrong_row) (numbered n (xs.map rT)) [some (gT g), some (.int k), some (.int hi), e1, e2] st = .nx [some (gT g), some (.int k), some (.int hi), f1, f2] st := by
    intro xs
    induction xs with
    | nil => intro n e1 e2 _; exact ⟨e1, e2, rfl⟩
    | cons r xs ih =>
      intro n e1 e2 hx
      obtain ⟨f1, f2, e⟩ := ih (n + 1) (some (.int n)) (some (rT r)) fun q hq => hx q (List.mem_cons_of_mem _ hq)
      refine ⟨f1, f2, ?_⟩
      rw [← e]
      simp [numbered, walkO, l1_wrong_row, tbf_of_wrong_row, tbc_of_wrong_row, den, ap_evSs, ap_evSs0, IS.ev, IE.ev, IL.ev, IEs.ev, IO.ev, II.ev, IO.test, IA.ev, IA.ev.evs, ap_fNever, ap_fK, ap_fGl, ap_fBin, ap_fNeg, ap_fCmp, ap_fIsN, ap_fTup, ap_fIx, ap_fSl, ap_fFz, ap_fFn, ap_fBi, ap_fNil, ap_fCons, ap_fNo0, ap_fSo, ap_fNot, ap_fChain, ap_fAnd, ap_fOr, ap_fIte, ap_fBl, ap_fNew, ap_fMu, ap_fStr, ap_fRepr, ap_fAttr, ap_fDl, ap_fCat, ap_fRep, ap_fLi, ap_fZ3, ap_fSlL, ap_fSeq, ap_fEn, ap_fPr, ap_fRg1, ap_fRg2, ap_fTst, ap_fYes, ap_fNx, ap_fAsg, ap_fPar2, ap_fPar3, ap_fIf, ap_fRet, ap_fExp, ap_fG, ap_fSub, ap_fTu, ap_fNo, ap_fCo, ap_fFld, ap_fIsi, k1_fBin, k2_fBin, k1_fNeg, k1_fCmp, k2_fCmp, k1_fIsN, k1_fTup, k1_fIx, k2_fIx, k1_fSl, k2_fSl, k3_fSl, k1_fFz, k1_fBi, k1_fCons, k2_fCons, k1_fSo, k1_fNot, k1_fChain, k2_fChain, k1_fAnd, k1_fOr, k1_fIte, k1_fBl, k1_fNew, k1_fMu, k1_fStr, k1_fRepr, k1_fAttr, k1_fDl, k1_fCat, k2_fCat, k1_fRep, k2_fRep, k1_fLi, k1_fZ3, k2_fZ3, k3_fZ3, k1_fSlL, k2_fSlL, k3_fSlL, k1_fSeq, k1_fEn, k1_fPr, k2_fPr, k1_fRg1, k1_fRg2, k2_fRg2, k1_fTst, k1_fAsg, k1_fPar2, k1_fPar3, k1_fIf, k1_fRet, k1_fExp, k1_fFor, k1_fSub, k2_fSub, k1_fFld, k2_fFld, k1_fIsi, IG.set, IG.set.sets, evV, env0, isNn, strT, muT, lstAt, ownL, lstOf, seqOf, L2.atI, L2.ixN, lim, bnd_ok', go_ok', seq_nx', seq_rt', opt_some', nox_ok', finO_rt, finO_nx, padF, kwF, insOf, is_row_ok hs hl (hx r List.mem_cons_self)]
  obtain ⟨f1, f2, e⟩ := key g 0 none none h
  simp only [gT] at e ⊢
  simp [F_wrong_row, tbf_of_wrong_row, tbc_of_wrong_row, b_wrong_row, den, ap_evSs, ap_evSs0, IS.ev, IE.ev, IL.ev, IEs.ev, IO.ev, II.ev, IO.test, IA.ev, IA.ev.evs, ap_fNever, ap_fK, ap_fGl, ap_fBin, ap_fNeg, ap_fCmp, ap_fIsN, ap_fTup, ap_fIx, ap_fSl, ap_fFz, ap_fFn, ap_fBi, ap_fNil, ap_fCons, ap_fNo0, ap_fSo, ap_fNot, ap_fChain, ap_fAnd, ap_fOr, ap_fIte, ap_fBl, ap_fNew, ap_fMu, ap_fStr, ap_fRepr, ap_fAttr, ap_fDl, ap_fCat, ap_fRep, ap_fLi, ap_fZ3, ap_fSlL, ap_fSeq, ap_fEn, ap_fPr, ap_fRg1, ap_fRg2, ap_fTst, ap_fYes, ap_fNx, ap_fAsg, ap_fPar2, ap_fPar3, ap_fIf, ap_fRet, ap_fExp, ap_fG, ap_fSub, ap_fTu, ap_fNo, ap_fCo, ap_fFld, ap_fIsi, k1_fBin, k2_fBin, k1_fNeg, k1_fCmp, k2_fCmp, k1_fIsN, k1_fTup, k1_fIx, k2_fIx, k1_fSl, k2_fSl, k3_fSl, k1_fFz, k1_fBi, k1_fCons, k2_fCons, k1_fSo, k1_fNot, k1_fChain, k2_fChain, k1_fAnd, k1_fOr, k1_fIte, k1_fBl, k1_fNew, k1_fMu, k1_fStr, k1_fRepr, k1_fAttr, k1_fDl, k1_fCat, k2_fCat, k1_fRep, k2_fRep, k1_fLi, k1_fZ3, k2_fZ3, k3_fZ3, k1_fSlL, k2_fSlL, k3_fSlL, k1_fSeq, k1_fEn, k1_fPr, k2_fPr, k1_fRg1, k1_fRg2, k2_fRg2, k1_fTst, k1_fAsg, k1_fPar2, k1_fPar3, k1_fIf, k1_fRet, k1_fExp, k1_fFor, k1_fSub, k2_fSub, k1_fFld, k2_fFld, k1_fIsi, IG.set, IG.set.sets, evV, env0, isNn, strT, muT, lstAt, ownL, lstOf, seqOf, L2.atI, L2.ixN, lim, bnd_ok', go_ok', seq_nx', seq_rt', opt_some', nox_ok', finO_rt, finO_nx, padF, kwF, insOf, ap_fFor, e]
  exact fin_nl0 hs (by simp)
def W (w : List Nat) : PySem.Str := ⟨w.toArray⟩
def mT (m : List Nat × Int) : T := .tup [.str (W m.1), .int m.2]
def sT (s : List (List Nat × Int)) : T := .tup (s.map mT)
def dT : Option Int → T
  | none => .non
  | some d => .int d
structure Pa where
  h : List (List Nat × Int)
  g : List (List Nat × Int)
  d : Option Int
def fairT (p : Pa) : T := .obj 0 [sT p.h, sT p.g, dT p.d]
def partsT (p : Pa) : T := .tup [sT p.h, sT p.g, dT p.d]
@[simp] theorem parts0 {p : Pa} {st : Sto} : ixT st (partsT p) (.int 0) = some (sT p.h) := rfl
@[simp] theorem parts1 {p : Pa} {st : Sto} : ixT st (partsT p) (.int 1) = some (sT p.g) := rfl
@[simp] theorem parts2 {p : Pa} {st : Sto} : ixT st (partsT p) (.int 2) = some (dT p.d) := rfl
@[simp] theorem len_sT {s : List (List Nat × Int)} {st : Sto} : biT st .len [sT s] = some (.int s.length) := by
  show some (T.int ((s.map mT).length : Nat)) = _
  rw [List.length_map]
@[simp] theorem len_gT {g : List (List Int)} {st : Sto} : biT st .len [gT g] = some (.int g.length) := by
  show some (T.int ((g.map rT).length : Nat)) = _
  rw [List.length_map]
theorem nl_mT {m : List Nat × Int} : Nl (mT m) := by unfold mT; simp
theorem nl_sT {s : List (List Nat × Int)} : Nl (sT s) := by
  unfold sT
  rw [nl_tup]
  exact nls_of fun x hx => by obtain ⟨m, _, rfl⟩ := List.mem_map.mp hx; exact nl_mT
theorem nl_dT {d : Option Int} : Nl (dT d) := by cases d <;> simp [dT]
theorem hosts_ok {p : Pa} {st : Sto} (hs : NL st) : F_Fair_hosts [fairT p] st = .ok (sT p.h) st := by
  simp [F_Fair_hosts, tbf_of_Fair_hosts, tbc_of_Fair_hosts, c0_of_Fair_hosts, a0givers_of_Fair_hosts, n_of_Fair_hosts, b_Fair_hosts, den, ap_evSs, ap_evSs0, IS.ev, IE.ev, IL.ev, IEs.ev, IO.ev, II.ev, IO.test, IA.ev, IA.ev.evs, ap_fNever, ap_fK, ap_fGl, ap_fBin, ap_fNeg, ap_fCmp, ap_fIsN, ap_fTup, ap_fIx, ap_fSl, ap_fFz, ap_fFn, ap_fBi, ap_fNil, ap_fCons, ap_fNo0, ap_fSo, ap_fNot, ap_fChain, ap_fAnd, ap_fOr, ap_fIte, ap_fBl, ap_fNew, ap_fMu, ap_fStr, ap_fRepr, ap_fAttr, ap_fDl, ap_fCat, ap_fRep, ap_fLi, ap_fZ3, ap_fSlL, ap_fSeq, ap_fEn, ap_fPr, ap_fRg1, ap_fRg2, ap_fTst, ap_fYes, ap_fNx, ap_fAsg, ap_fPar2, ap_fPar3, ap_fIf, ap_fRet, ap_fExp, ap_fG, ap_fSub, ap_fTu, ap_fNo, ap_fCo, ap_fFld, ap_fIsi, k1_fBin, k2_fBin, k1_fNeg, k1_fCmp, k2_fCmp, k1_fIsN, k1_fTup, k1_fIx, k2_fIx, k1_fSl, k2_fSl, k3_fSl, k1_fFz, k1_fBi, k1_fCons, k2_fCons, k1_fSo, k1_fNot, k1_fChain, k2_fChain, k1_fAnd, k1_fOr, k1_fIte, k1_fBl, k1_fNew, k1_fMu, k1_fStr, k1_fRepr, k1_fAttr, k1_fDl, k1_fCat, k2_fCat, k1_fRep, k2_fRep, k1_fLi, k1_fZ3, k2_fZ3, k3_fZ3, k1_fSlL, k2_fSlL, k3_fSlL, k1_fSeq, k1_fEn, k1_fPr, k2_fPr, k1_fRg1, k1_fRg2, k2_fRg2, k1_fTst, k1_fAsg, k1_fPar2, k1_fPar3, k1_fIf, k1_fRet, k1_fExp, k1_fFor, k1_fSub, k2_fSub, k1_fFld, k2_fFld, k1_fIsi, IG.set, IG.set.sets, evV, env0, isNn, strT, muT, lstAt, ownL, lstOf, seqOf, L2.atI, L2.ixN, lim, bnd_ok', go_ok', seq_nx', seq_rt', opt_some', nox_ok', finO_rt, finO_nx, padF, kwF, insOf, fairT]
  exact fin_nl0 hs nl_sT
theorem guests_ok {p : Pa} {st : Sto} (hs : NL st) : F_Fair_guests [fairT p] st = .ok (sT p.g) st := by
  simp [F_Fair_guests, tbf_of_Fair_guests, tbc_of_Fair_guests, c0_of_Fair_guests, a0takers_of_Fair_guests, n_of_Fair_guests, b_Fair_guests, den, ap_evSs, ap_evSs0, IS.ev, IE.ev, IL.ev, IEs.ev, IO.ev, II.ev, IO.test, IA.ev, IA.ev.evs, ap_fNever, ap_fK, ap_fGl, ap_fBin, ap_fNeg, ap_fCmp, ap_fIsN, ap_fTup, ap_fIx, ap_fSl, ap_fFz, ap_fFn, ap_fBi, ap_fNil, ap_fCons, ap_fNo0, ap_fSo, ap_fNot, ap_fChain, ap_fAnd, ap_fOr, ap_fIte, ap_fBl, ap_fNew, ap_fMu, ap_fStr, ap_fRepr, ap_fAttr, ap_fDl, ap_fCat, ap_fRep, ap_fLi, ap_fZ3, ap_fSlL, ap_fSeq, ap_fEn, ap_fPr, ap_fRg1, ap_fRg2, ap_fTst, ap_fYes, ap_fNx, ap_fAsg, ap_fPar2, ap_fPar3, ap_fIf, ap_fRet, ap_fExp, ap_fG, ap_fSub, ap_fTu, ap_fNo, ap_fCo, ap_fFld, ap_fIsi, k1_fBin, k2_fBin, k1_fNeg, k1_fCmp, k2_fCmp, k1_fIsN, k1_fTup, k1_fIx, k2_fIx, k1_fSl, k2_fSl, k3_fSl, k1_fFz, k1_fBi, k1_fCons, k2_fCons, k1_fSo, k1_fNot, k1_fChain, k2_fChain, k1_fAnd, k1_fOr, k1_fIte, k1_fBl, k1_fNew, k1_fMu, k1_fStr, k1_fRepr, k1_fAttr, k1_fDl, k1_fCat, k2_fCat, k1_fRep, k2_fRep, k1_fLi, k1_fZ3, k2_fZ3, k3_fZ3, k1_fSlL, k2_fSlL, k3_fSlL, k1_fSeq, k1_fEn, k1_fPr, k2_fPr, k1_fRg1, k1_fRg2, k2_fRg2, k1_fTst, k1_fAsg, k1_fPar2, k1_fPar3, k1_fIf, k1_fRet, k1_fExp, k1_fFor, k1_fSub, k2_fSub, k1_fFld, k2_fFld, k1_fIsi, IG.set, IG.set.sets, evV, env0, isNn, strT, muT, lstAt, ownL, lstOf, seqOf, L2.atI, L2.ixN, lim, bnd_ok', go_ok', seq_nx', seq_rt', opt_some', nox_ok', finO_rt, finO_nx, padF, kwF, insOf, fairT]
  exact fin_nl0 hs nl_sT
theorem tables_ok {p : Pa} {st : Sto} (hs : NL st) : F_Fair_tables [fairT p] st = .ok (dT p.d) st := by
  simp [F_Fair_tables, tbf_of_Fair_tables, tbc_of_Fair_tables, c0_of_Fair_tables, a0places_of_Fair_tables, n_of_Fair_tables, b_Fair_tables, den, ap_evSs, ap_evSs0, IS.ev, IE.ev, IL.ev, IEs.ev, IO.ev, II.ev, IO.test, IA.ev, IA.ev.evs, ap_fNever, ap_fK, ap_fGl, ap_fBin, ap_fNeg, ap_fCmp, ap_fIsN, ap_fTup, ap_fIx, ap_fSl, ap_fFz, ap_fFn, ap_fBi, ap_fNil, ap_fCons, ap_fNo0, ap_fSo, ap_fNot, ap_fChain, ap_fAnd, ap_fOr, ap_fIte, ap_fBl, ap_fNew, ap_fMu, ap_fStr, ap_fRepr, ap_fAttr, ap_fDl, ap_fCat, ap_fRep, ap_fLi, ap_fZ3, ap_fSlL, ap_fSeq, ap_fEn, ap_fPr, ap_fRg1, ap_fRg2, ap_fTst, ap_fYes, ap_fNx, ap_fAsg, ap_fPar2, ap_fPar3, ap_fIf, ap_fRet, ap_fExp, ap_fG, ap_fSub, ap_fTu, ap_fNo, ap_fCo, ap_fFld, ap_fIsi, k1_fBin, k2_fBin, k1_fNeg, k1_fCmp, k2_fCmp, k1_fIsN, k1_fTup, k1_fIx, k2_fIx, k1_fSl, k2_fSl, k3_fSl, k1_fFz, k1_fBi, k1_fCons, k2_fCons, k1_fSo, k1_fNot, k1_fChain, k2_fChain, k1_fAnd, k1_fOr, k1_fIte, k1_fBl, k1_fNew, k1_fMu, k1_fStr, k1_fRepr, k1_fAttr, k1_fDl, k1_fCat, k2_fCat, k1_fRep, k2_fRep, k1_fLi, k1_fZ3, k2_fZ3, k3_fZ3, k1_fSlL, k2_fSlL, k3_fSlL, k1_fSeq, k1_fEn, k1_fPr, k2_fPr, k1_fRg1, k1_fRg2, k2_fRg2, k1_fTst, k1_fAsg, k1_fPar2, k1_fPar3, k1_fIf, k1_fRet, k1_fExp, k1_fFor, k1_fSub, k2_fSub, k1_fFld, k2_fFld, k1_fIsi, IG.set, IG.set.sets, evV, env0, isNn, strT, muT, lstAt, ownL, lstOf, seqOf, L2.atI, L2.ixN, lim, bnd_ok', go_ok', seq_nx', seq_rt', opt_some', nox_ok', finO_rt, finO_nx, padF, kwF, insOf, fairT]
  exact fin_nl0 hs nl_dT
theorem check_fair_ok {p : Pa} {st : Sto} (hs : NL st) : F_check_fair [fairT p] st = .ok .non st := by
  simp [F_check_fair, tbf_of_check_fair, tbc_of_check_fair, i0_of_check_fair, i1_of_check_fair, i2_of_check_fair, i3_of_check_fair, i4_of_check_fair, i5_of_check_fair, i6_of_check_fair, c0_of_check_fair, n_of_check_fair, b_check_fair, den, ap_evSs, ap_evSs0, IS.ev, IE.ev, IL.ev, IEs.ev, IO.ev, II.ev, IO.test, IA.ev, IA.ev.evs, ap_fNever, ap_fK, ap_fGl, ap_fBin, ap_fNeg, ap_fCmp, ap_fIsN, ap_fTup, ap_fIx, ap_fSl, ap_fFz, ap_fFn, ap_fBi, ap_fNil, ap_fCons, ap_fNo0, ap_fSo, ap_fNot, ap_fChain, ap_fAnd, ap_fOr, ap_fIte, ap_fBl, ap_fNew, ap_fMu, ap_fStr, ap_fRepr, ap_fAttr, ap_fDl, ap_fCat, ap_fRep, ap_fLi, ap_fZ3, ap_fSlL, ap_fSeq, ap_fEn, ap_fPr, ap_fRg1, ap_fRg2, ap_fTst, ap_fYes, ap_fNx, ap_fAsg, ap_fPar2, ap_fPar3, ap_fIf, ap_fRet, ap_fExp, ap_fG, ap_fSub, ap_fTu, ap_fNo, ap_fCo, ap_fFld, ap_fIsi, k1_fBin, k2_fBin, k1_fNeg, k1_fCmp, k2_fCmp, k1_fIsN, k1_fTup, k1_fIx, k2_fIx, k1_fSl, k2_fSl, k3_fSl, k1_fFz, k1_fBi, k1_fCons, k2_fCons, k1_fSo, k1_fNot, k1_fChain, k2_fChain, k1_fAnd, k1_fOr, k1_fIte, k1_fBl, k1_fNew, k1_fMu, k1_fStr, k1_fRepr, k1_fAttr, k1_fDl, k1_fCat, k2_fCat, k1_fRep, k2_fRep, k1_fLi, k1_fZ3, k2_fZ3, k3_fZ3, k1_fSlL, k2_fSlL, k3_fSlL, k1_fSeq, k1_fEn, k1_fPr, k2_fPr, k1_fRg1, k1_fRg2, k2_fRg2, k1_fTst, k1_fAsg, k1_fPar2, k1_fPar3, k1_fIf, k1_fRet, k1_fExp, k1_fFor, k1_fSub, k2_fSub, k1_fFld, k2_fFld, k1_fIsi, IG.set, IG.set.sets, evV, env0, isNn, strT, muT, lstAt, ownL, lstOf, seqOf, L2.atI, L2.ixN, lim, bnd_ok', go_ok', seq_nx', seq_rt', opt_some', nox_ok', finO_rt, finO_nx, padF, kwF, insOf, fairT]
  exact fin_nl0 hs (by simp)
structure POk (p : Pa) : Prop where
  h1 : p.h ≠ []
  h2 : p.h.length ≤ 4
  g1 : p.g ≠ []
  g2 : p.g.length ≤ 4
  hb : ∀ m, m ∈ p.h → 1 ≤ m.2 ∧ m.2 ≤ 4
  gb : ∀ m, m ∈ p.g → 1 ≤ m.2 ∧ m.2 ≤ 4
  d : ∀ d, p.d = some d → 1 ≤ d ∧ d ≤ 12
def eT (q : Int × T) : T := .tup [.int q.1, q.2]
theorem fm_if {A B : Type} {p : A → Bool} {f : A → B} : ∀ {xs : List A}, (xs.filterMap fun q => if p q = true then some (f q) else none) = (xs.filter p).map f
  | [] => rfl
  | x :: xs => by
    rw [List.filterMap_cons, List.filter_cons]
    cases h : p x with
    | true => rw [if_pos rfl, if_pos rfl]; simp only [List.map_cons]; rw [fm_if]
    | false => rw [if_neg (by decide), if_neg (by decide)]; exact fm_if
theorem in_rows_ok {g : List (List Int)} {st : Sto} (hs : NL st) (hl : g.length ≤ 100) (hr : ∀ r, r ∈ g → r.length ≤ 100) : F_law_in_rows [gT g] st = .ok (.lst (g.map fun r => .int r.sum)) st := by
  have h : fLc [1] (e1_law_in_rows.ev tb_law_in_rows) (.name 1) (fSeq (evV 0)) fYes [some (gT g), none] st = .ok (g.map fun r => T.int r.sum) st := by
    refine lc_mapE (emb := rT) (by simp [den, ap_evSs, ap_evSs0, IS.ev, IE.ev, IL.ev, IEs.ev, IO.ev, II.ev, IO.test, IA.ev, IA.ev.evs, ap_fNever, ap_fK, ap_fGl, ap_fBin, ap_fNeg, ap_fCmp, ap_fIsN, ap_fTup, ap_fIx, ap_fSl, ap_fFz, ap_fFn, ap_fBi, ap_fNil, ap_fCons, ap_fNo0, ap_fSo, ap_fNot, ap_fChain, ap_fAnd, ap_fOr, ap_fIte, ap_fBl, ap_fNew, ap_fMu, ap_fStr, ap_fRepr, ap_fAttr, ap_fDl, ap_fCat, ap_fRep, ap_fLi, ap_fZ3, ap_fSlL, ap_fSeq, ap_fEn, ap_fPr, ap_fRg1, ap_fRg2, ap_fTst, ap_fYes, ap_fNx, ap_fAsg, ap_fPar2, ap_fPar3, ap_fIf, ap_fRet, ap_fExp, ap_fG, ap_fSub, ap_fTu, ap_fNo, ap_fCo, ap_fFld, ap_fIsi, k1_fBin, k2_fBin, k1_fNeg, k1_fCmp, k2_fCmp, k1_fIsN, k1_fTup, k1_fIx, k2_fIx, k1_fSl, k2_fSl, k3_fSl, k1_fFz, k1_fBi, k1_fCons, k2_fCons, k1_fSo, k1_fNot, k1_fChain, k2_fChain, k1_fAnd, k1_fOr, k1_fIte, k1_fBl, k1_fNew, k1_fMu, k1_fStr, k1_fRepr, k1_fAttr, k1_fDl, k1_fCat, k2_fCat, k1_fRep, k2_fRep, k1_fLi, k1_fZ3, k2_fZ3, k3_fZ3, k1_fSlL, k2_fSlL, k3_fSlL, k1_fSeq, k1_fEn, k1_fPr, k2_fPr, k1_fRg1, k1_fRg2, k2_fRg2, k1_fTst, k1_fAsg, k1_fPar2, k1_fPar3, k1_fIf, k1_fRet, k1_fExp, k1_fFor, k1_fSub, k2_fSub, k1_fFld, k2_fFld, k1_fIsi, IG.set, IG.set.sets, evV, env0, isNn, strT, muT, lstAt, ownL, lstOf, seqOf, L2.atI, L2.ixN, lim, bnd_ok', go_ok', seq_nx', seq_rt', opt_some', nox_ok', finO_rt, finO_nx, padF, kwF, insOf, gT]) (by omega) fun r hrm => ?_
    simp [fTurn, wipeE, e1_law_in_rows, den, ap_evSs, ap_evSs0, IS.ev, IE.ev, IL.ev, IEs.ev, IO.ev, II.ev, IO.test, IA.ev, IA.ev.evs, ap_fNever, ap_fK, ap_fGl, ap_fBin, ap_fNeg, ap_fCmp, ap_fIsN, ap_fTup, ap_fIx, ap_fSl, ap_fFz, ap_fFn, ap_fBi, ap_fNil, ap_fCons, ap_fNo0, ap_fSo, ap_fNot, ap_fChain, ap_fAnd, ap_fOr, ap_fIte, ap_fBl, ap_fNew, ap_fMu, ap_fStr, ap_fRepr, ap_fAttr, ap_fDl, ap_fCat, ap_fRep, ap_fLi, ap_fZ3, ap_fSlL, ap_fSeq, ap_fEn, ap_fPr, ap_fRg1, ap_fRg2, ap_fTst, ap_fYes, ap_fNx, ap_fAsg, ap_fPar2, ap_fPar3, ap_fIf, ap_fRet, ap_fExp, ap_fG, ap_fSub, ap_fTu, ap_fNo, ap_fCo, ap_fFld, ap_fIsi, k1_fBin, k2_fBin, k1_fNeg, k1_fCmp, k2_fCmp, k1_fIsN, k1_fTup, k1_fIx, k2_fIx, k1_fSl, k2_fSl, k3_fSl, k1_fFz, k1_fBi, k1_fCons, k2_fCons, k1_fSo, k1_fNot, k1_fChain, k2_fChain, k1_fAnd, k1_fOr, k1_fIte, k1_fBl, k1_fNew, k1_fMu, k1_fStr, k1_fRepr, k1_fAttr, k1_fDl, k1_fCat, k2_fCat, k1_fRep, k2_fRep, k1_fLi, k1_fZ3, k2_fZ3, k3_fZ3, k1_fSlL, k2_fSlL, k3_fSlL, k1_fSeq, k1_fEn, k1_fPr, k2_fPr, k1_fRg1, k1_fRg2, k2_fRg2, k1_fTst, k1_fAsg, k1_fPar2, k1_fPar3, k1_fIf, k1_fRet, k1_fExp, k1_fFor, k1_fSub, k2_fSub, k1_fFld, k2_fFld, k1_fIsi, IG.set, IG.set.sets, evV, env0, isNn, strT, muT, lstAt, ownL, lstOf, seqOf, L2.atI, L2.ixN, lim, bnd_ok', go_ok', seq_nx', seq_rt', opt_some', nox_ok', finO_rt, finO_nx, padF, kwF, insOf, rT]
  simp [F_law_in_rows, tbf_of_law_in_rows, tbc_of_law_in_rows, b_law_in_rows, den, ap_evSs, ap_evSs0, IS.ev, IE.ev, IL.ev, IEs.ev, IO.ev, II.ev, IO.test, IA.ev, IA.ev.evs, ap_fNever, ap_fK, ap_fGl, ap_fBin, ap_fNeg, ap_fCmp, ap_fIsN, ap_fTup, ap_fIx, ap_fSl, ap_fFz, ap_fFn, ap_fBi, ap_fNil, ap_fCons, ap_fNo0, ap_fSo, ap_fNot, ap_fChain, ap_fAnd, ap_fOr, ap_fIte, ap_fBl, ap_fNew, ap_fMu, ap_fStr, ap_fRepr, ap_fAttr, ap_fDl, ap_fCat, ap_fRep, ap_fLi, ap_fZ3, ap_fSlL, ap_fSeq, ap_fEn, ap_fPr, ap_fRg1, ap_fRg2, ap_fTst, ap_fYes, ap_fNx, ap_fAsg, ap_fPar2, ap_fPar3, ap_fIf, ap_fRet, ap_fExp, ap_fG, ap_fSub, ap_fTu, ap_fNo, ap_fCo, ap_fFld, ap_fIsi, k1_fBin, k2_fBin, k1_fNeg, k1_fCmp, k2_fCmp, k1_fIsN, k1_fTup, k1_fIx, k2_fIx, k1_fSl, k2_fSl, k3_fSl, k1_fFz, k1_fBi, k1_fCons, k2_fCons, k1_fSo, k1_fNot, k1_fChain, k2_fChain, k1_fAnd, k1_fOr, k1_fIte, k1_fBl, k1_fNew, k1_fMu, k1_fStr, k1_fRepr, k1_fAttr, k1_fDl, k1_fCat, k2_fCat, k1_fRep, k2_fRep, k1_fLi, k1_fZ3, k2_fZ3, k3_fZ3, k1_fSlL, k2_fSlL, k3_fSlL, k1_fSeq, k1_fEn, k1_fPr, k2_fPr, k1_fRg1, k1_fRg2, k2_fRg2, k1_fTst, k1_fAsg, k1_fPar2, k1_fPar3, k1_fIf, k1_fRet, k1_fExp, k1_fFor, k1_fSub, k2_fSub, k1_fFld, k2_fFld, k1_fIsi, IG.set, IG.set.sets, evV, env0, isNn, strT, muT, lstAt, ownL, lstOf, seqOf, L2.atI, L2.ixN, lim, bnd_ok', go_ok', seq_nx', seq_rt', opt_some', nox_ok', finO_rt, finO_nx, padF, kwF, insOf, h]
  exact fin_nl0 hs (by simp; exact nls_of (by simp))
theorem in_columns_ok {g : List (List Int)} {k : Nat} {st : Sto} (hs : NL st) (hl : g.length ≤ 100) (hne : g ≠ []) (hk : k ≤ 100) (hr : ∀ r, r ∈ g → r.length = k) : F_law_in_columns [gT g] st = .ok (.lst ((List.range k).map fun j => .int (colS g j))) st := by
  have hpos : 0 < g.length := List.length_pos_iff.mpr hne
  have hk0 : (g[0]'hpos).length = k := hr _ (List.getElem_mem hpos)
  have h1 : ∀ j : Nat, j < k → fLc [2] (e1_law_in_columns.ev tb_law_in_columns) (.name 2) (fSeq (evV 0)) fYes [some (gT g), some (.int j), none] st = .ok ((g.map fun r => r.getD j 0).map T.int) st := fun j hj => by
    rw [List.map_map]
    refine lc_mapE (emb := rT) (by simp [den, ap_evSs, ap_evSs0, IS.ev, IE.ev, IL.ev, IEs.ev, IO.ev, II.ev, IO.test, IA.ev, IA.ev.evs, ap_fNever, ap_fK, ap_fGl, ap_fBin, ap_fNeg, ap_fCmp, ap_fIsN, ap_fTup, ap_fIx, ap_fSl, ap_fFz, ap_fFn, ap_fBi, ap_fNil, ap_fCons, ap_fNo0, ap_fSo, ap_fNot, ap_fChain, ap_fAnd, ap_fOr, ap_fIte, ap_fBl, ap_fNew, ap_fMu, ap_fStr, ap_fRepr, ap_fAttr, ap_fDl, ap_fCat, ap_fRep, ap_fLi, ap_fZ3, ap_fSlL, ap_fSeq, ap_fEn, ap_fPr, ap_fRg1, ap_fRg2, ap_fTst, ap_fYes, ap_fNx, ap_fAsg, ap_fPar2, ap_fPar3, ap_fIf, ap_fRet, ap_fExp, ap_fG, ap_fSub, ap_fTu, ap_fNo, ap_fCo, ap_fFld, ap_fIsi, k1_fBin, k2_fBin, k1_fNeg, k1_fCmp, k2_fCmp, k1_fIsN, k1_fTup, k1_fIx, k2_fIx, k1_fSl, k2_fSl, k3_fSl, k1_fFz, k1_fBi, k1_fCons, k2_fCons, k1_fSo, k1_fNot, k1_fChain, k2_fChain, k1_fAnd, k1_fOr, k1_fIte, k1_fBl, k1_fNew, k1_fMu, k1_fStr, k1_fRepr, k1_fAttr, k1_fDl, k1_fCat, k2_fCat, k1_fRep, k2_fRep, k1_fLi, k1_fZ3, k2_fZ3, k3_fZ3, k1_fSlL, k2_fSlL, k3_fSlL, k1_fSeq, k1_fEn, k1_fPr, k2_fPr, k1_fRg1, k1_fRg2, k2_fRg2, k1_fTst, k1_fAsg, k1_fPar2, k1_fPar3, k1_fIf, k1_fRet, k1_fExp, k1_fFor, k1_fSub, k2_fSub, k1_fFld, k2_fFld, k1_fIsi, IG.set, IG.set.sets, evV, env0, isNn, strT, muT, lstAt, ownL, lstOf, seqOf, L2.atI, L2.ixN, lim, bnd_ok', go_ok', seq_nx', seq_rt', opt_some', nox_ok', finO_rt, finO_nx, padF, kwF, insOf, gT]) (by omega) fun r hrm => ?_
    have hlen := hr r hrm
    have hj2 : j < r.length := by omega
    simp [fTurn, wipeE, e1_law_in_columns, den, ap_evSs, ap_evSs0, IS.ev, IE.ev, IL.ev, IEs.ev, IO.ev, II.ev, IO.test, IA.ev, IA.ev.evs, ap_fNever, ap_fK, ap_fGl, ap_fBin, ap_fNeg, ap_fCmp, ap_fIsN, ap_fTup, ap_fIx, ap_fSl, ap_fFz, ap_fFn, ap_fBi, ap_fNil, ap_fCons, ap_fNo0, ap_fSo, ap_fNot, ap_fChain, ap_fAnd, ap_fOr, ap_fIte, ap_fBl, ap_fNew, ap_fMu, ap_fStr, ap_fRepr, ap_fAttr, ap_fDl, ap_fCat, ap_fRep, ap_fLi, ap_fZ3, ap_fSlL, ap_fSeq, ap_fEn, ap_fPr, ap_fRg1, ap_fRg2, ap_fTst, ap_fYes, ap_fNx, ap_fAsg, ap_fPar2, ap_fPar3, ap_fIf, ap_fRet, ap_fExp, ap_fG, ap_fSub, ap_fTu, ap_fNo, ap_fCo, ap_fFld, ap_fIsi, k1_fBin, k2_fBin, k1_fNeg, k1_fCmp, k2_fCmp, k1_fIsN, k1_fTup, k1_fIx, k2_fIx, k1_fSl, k2_fSl, k3_fSl, k1_fFz, k1_fBi, k1_fCons, k2_fCons, k1_fSo, k1_fNot, k1_fChain, k2_fChain, k1_fAnd, k1_fOr, k1_fIte, k1_fBl, k1_fNew, k1_fMu, k1_fStr, k1_fRepr, k1_fAttr, k1_fDl, k1_fCat, k2_fCat, k1_fRep, k2_fRep, k1_fLi, k1_fZ3, k2_fZ3, k3_fZ3, k1_fSlL, k2_fSlL, k3_fSlL, k1_fSeq, k1_fEn, k1_fPr, k2_fPr, k1_fRg1, k1_fRg2, k2_fRg2, k1_fTst, k1_fAsg, k1_fPar2, k1_fPar3, k1_fIf, k1_fRet, k1_fExp, k1_fFor, k1_fSub, k2_fSub, k1_fFld, k2_fFld, k1_fIsi, IG.set, IG.set.sets, evV, env0, isNn, strT, muT, lstAt, ownL, lstOf, seqOf, L2.atI, L2.ixN, lim, bnd_ok', go_ok', seq_nx', seq_rt', opt_some', nox_ok', finO_rt, finO_nx, padF, kwF, insOf, rT, hj2]
  have h2 : fLc [1] (e2_law_in_columns.ev tb_law_in_columns) (.name 1) (fRg1 (fBi .len (fCons (fIx (evV 0) (fK (.int 0))) fNil))) fYes [some (gT g), none, none] st = .ok ((List.range k).map fun j => T.int (colS g j)) st := by
    refine lc_mapE (emb := fun j : Nat => T.int j) (rg1_eq ?_ (by omega)) (by simp; omega) fun j hj => ?_
    · simp [den, ap_evSs, ap_evSs0, IS.ev, IE.ev, IL.ev, IEs.ev, IO.ev, II.ev, IO.test, IA.ev, IA.ev.evs, ap_fNever, ap_fK, ap_fGl, ap_fBin, ap_fNeg, ap_fCmp, ap_fIsN, ap_fTup, ap_fIx, ap_fSl, ap_fFz, ap_fFn, ap_fBi, ap_fNil, ap_fCons, ap_fNo0, ap_fSo, ap_fNot, ap_fChain, ap_fAnd, ap_fOr, ap_fIte, ap_fBl, ap_fNew, ap_fMu, ap_fStr, ap_fRepr, ap_fAttr, ap_fDl, ap_fCat, ap_fRep, ap_fLi, ap_fZ3, ap_fSlL, ap_fSeq, ap_fEn, ap_fPr, ap_fRg1, ap_fRg2, ap_fTst, ap_fYes, ap_fNx, ap_fAsg, ap_fPar2, ap_fPar3, ap_fIf, ap_fRet, ap_fExp, ap_fG, ap_fSub, ap_fTu, ap_fNo, ap_fCo, ap_fFld, ap_fIsi, k1_fBin, k2_fBin, k1_fNeg, k1_fCmp, k2_fCmp, k1_fIsN, k1_fTup, k1_fIx, k2_fIx, k1_fSl, k2_fSl, k3_fSl, k1_fFz, k1_fBi, k1_fCons, k2_fCons, k1_fSo, k1_fNot, k1_fChain, k2_fChain, k1_fAnd, k1_fOr, k1_fIte, k1_fBl, k1_fNew, k1_fMu, k1_fStr, k1_fRepr, k1_fAttr, k1_fDl, k1_fCat, k2_fCat, k1_fRep, k2_fRep, k1_fLi, k1_fZ3, k2_fZ3, k3_fZ3, k1_fSlL, k2_fSlL, k3_fSlL, k1_fSeq, k1_fEn, k1_fPr, k2_fPr, k1_fRg1, k1_fRg2, k2_fRg2, k1_fTst, k1_fAsg, k1_fPar2, k1_fPar3, k1_fIf, k1_fRet, k1_fExp, k1_fFor, k1_fSub, k2_fSub, k1_fFld, k2_fFld, k1_fIsi, IG.set, IG.set.sets, evV, env0, isNn, strT, muT, lstAt, ownL, lstOf, seqOf, L2.atI, L2.ixN, lim, bnd_ok', go_ok', seq_nx', seq_rt', opt_some', nox_ok', finO_rt, finO_nx, padF, kwF, insOf, gT, rT, hpos, hk0]
    · have hj : j < k := by simpa using hj
      simp [fTurn, wipeE, e2_law_in_columns, den, ap_evSs, ap_evSs0, IS.ev, IE.ev, IL.ev, IEs.ev, IO.ev, II.ev, IO.test, IA.ev, IA.ev.evs, ap_fNever, ap_fK, ap_fGl, ap_fBin, ap_fNeg, ap_fCmp, ap_fIsN, ap_fTup, ap_fIx, ap_fSl, ap_fFz, ap_fFn, ap_fBi, ap_fNil, ap_fCons, ap_fNo0, ap_fSo, ap_fNot, ap_fChain, ap_fAnd, ap_fOr, ap_fIte, ap_fBl, ap_fNew, ap_fMu, ap_fStr, ap_fRepr, ap_fAttr, ap_fDl, ap_fCat, ap_fRep, ap_fLi, ap_fZ3, ap_fSlL, ap_fSeq, ap_fEn, ap_fPr, ap_fRg1, ap_fRg2, ap_fTst, ap_fYes, ap_fNx, ap_fAsg, ap_fPar2, ap_fPar3, ap_fIf, ap_fRet, ap_fExp, ap_fG, ap_fSub, ap_fTu, ap_fNo, ap_fCo, ap_fFld, ap_fIsi, k1_fBin, k2_fBin, k1_fNeg, k1_fCmp, k2_fCmp, k1_fIsN, k1_fTup, k1_fIx, k2_fIx, k1_fSl, k2_fSl, k3_fSl, k1_fFz, k1_fBi, k1_fCons, k2_fCons, k1_fSo, k1_fNot, k1_fChain, k2_fChain, k1_fAnd, k1_fOr, k1_fIte, k1_fBl, k1_fNew, k1_fMu, k1_fStr, k1_fRepr, k1_fAttr, k1_fDl, k1_fCat, k2_fCat, k1_fRep, k2_fRep, k1_fLi, k1_fZ3, k2_fZ3, k3_fZ3, k1_fSlL, k2_fSlL, k3_fSlL, k1_fSeq, k1_fEn, k1_fPr, k2_fPr, k1_fRg1, k1_fRg2, k2_fRg2, k1_fTst, k1_fAsg, k1_fPar2, k1_fPar3, k1_fIf, k1_fRet, k1_fExp, k1_fFor, k1_fSub, k2_fSub, k1_fFld, k2_fFld, k1_fIsi, IG.set, IG.set.sets, evV, env0, isNn, strT, muT, lstAt, ownL, lstOf, seqOf, L2.atI, L2.ixN, lim, bnd_ok', go_ok', seq_nx', seq_rt', opt_some', nox_ok', finO_rt, finO_nx, padF, kwF, insOf, -List.map_map, h1 j hj, colS]
  simp [F_law_in_columns, tbf_of_law_in_columns, tbc_of_law_in_columns, b_law_in_columns, den, ap_evSs, ap_evSs0, IS.ev, IE.ev, IL.ev, IEs.ev, IO.ev, II.ev, IO.test, IA.ev, IA.ev.evs, ap_fNever, ap_fK, ap_fGl, ap_fBin, ap_fNeg, ap_fCmp, ap_fIsN, ap_fTup, ap_fIx, ap_fSl, ap_fFz, ap_fFn, ap_fBi, ap_fNil, ap_fCons, ap_fNo0, ap_fSo, ap_fNot, ap_fChain, ap_fAnd, ap_fOr, ap_fIte, ap_fBl, ap_fNew, ap_fMu, ap_fStr, ap_fRepr, ap_fAttr, ap_fDl, ap_fCat, ap_fRep, ap_fLi, ap_fZ3, ap_fSlL, ap_fSeq, ap_fEn, ap_fPr, ap_fRg1, ap_fRg2, ap_fTst, ap_fYes, ap_fNx, ap_fAsg, ap_fPar2, ap_fPar3, ap_fIf, ap_fRet, ap_fExp, ap_fG, ap_fSub, ap_fTu, ap_fNo, ap_fCo, ap_fFld, ap_fIsi, k1_fBin, k2_fBin, k1_fNeg, k1_fCmp, k2_fCmp, k1_fIsN, k1_fTup, k1_fIx, k2_fIx, k1_fSl, k2_fSl, k3_fSl, k1_fFz, k1_fBi, k1_fCons, k2_fCons, k1_fSo, k1_fNot, k1_fChain, k2_fChain, k1_fAnd, k1_fOr, k1_fIte, k1_fBl, k1_fNew, k1_fMu, k1_fStr, k1_fRepr, k1_fAttr, k1_fDl, k1_fCat, k2_fCat, k1_fRep, k2_fRep, k1_fLi, k1_fZ3, k2_fZ3, k3_fZ3, k1_fSlL, k2_fSlL, k3_fSlL, k1_fSeq, k1_fEn, k1_fPr, k2_fPr, k1_fRg1, k1_fRg2, k2_fRg2, k1_fTst, k1_fAsg, k1_fPar2, k1_fPar3, k1_fIf, k1_fRet, k1_fExp, k1_fFor, k1_fSub, k2_fSub, k1_fFld, k2_fFld, k1_fIsi, IG.set, IG.set.sets, evV, env0, isNn, strT, muT, lstAt, ownL, lstOf, seqOf, L2.atI, L2.ixN, lim, bnd_ok', go_ok', seq_nx', seq_rt', opt_some', nox_ok', finO_rt, finO_nx, padF, kwF, insOf, h2]
  exact fin_nl0 hs (by simp; exact nls_of (by simp))
theorem len_W {w : List Nat} : (W w).length = w.length := by simp [W, PySem.Str.length]
theorem eqv_str {x y : PySem.Str} : eqv (.str x) (.str y) = (x == y) := by simp [eqv]
theorem pour_eq2 {n : Nat} {J : Cell} {rest : Sto} {k : Int} (hJ : JC n J) (hn : n < 10 ^ 9) (hk : 0 < k) (hk2 : k < 2 ^ 64) (hr : NL rest) :
    ∃ d J', F_law_pour [.loc 0, .int k] (J :: rest) = .ok (.int d) (J' :: rest) ∧ 0 ≤ d ∧ d < k ∧ JC (n + 1) J' := by
  obtain ⟨_, _, e, d, J1, rfl, h0, h1, rfl, hJ1⟩ := pour_ok hJ hn hk hk2 hr
  exact ⟨d, J1, e, h0, h1, hJ1⟩
theorem fin_jug {cs : List Ci} {md : Bool} {J : Cell} {rest : Sto} {n : Nat} {t : T} (hJ : JC n J) (hr : NL rest) (ht : Nl t) : finR cs md (rest.length + 1) t (J :: rest) = .ok t (J :: rest) := by
  rw [show List.length rest + 1 = (J :: rest).length from rfl]
  exact fin_nl0 (NL_cons hJ.nl hr) ht
theorem lst_choose {B : Type} {f : B → T} {P : B → Prop} : ∀ {ys : List T}, (∀ (i : Nat) y, ys[i]? = some y → ∃ d, y = f d ∧ P d) → ∃ r : List B, ys = r.map f ∧ ∀ d, d ∈ r → P d
  | [], _ => ⟨[], rfl, by simp⟩
  | y :: ys, h => by
    obtain ⟨d, rfl, hd⟩ := h 0 y rfl
    obtain ⟨r, rfl, hr⟩ := lst_choose (ys := ys) fun i y hy => h (i + 1) y (by simpa using hy)
    exact ⟨d :: r, rfl, fun e he => (List.mem_cons.mp he).elim (fun h => h ▸ hd) (hr e)⟩
/-- the signs of a word: letters and figures, a letter first -/
def Lt (c : Nat) : Prop := 97 ≤ c ∧ c ≤ 122
def Sg (c : Nat) : Prop := Lt c ∨ 48 ≤ c ∧ c ≤ 57
def WdOk (w : List Nat) : Prop := 1 ≤ w.length ∧ w.length ≤ 8 ∧ (∀ c, c ∈ w → Sg c) ∧ ∀ c, w[0]? = some c → Lt c
def signs : List Nat := [97, 98, 99, 100, 101, 102, 103, 104, 105, 106, 107, 108, 109, 110, 111, 112, 113, 114, 115, 116, 117, 118, 119, 120, 121, 122, 48, 49, 50, 51, 52, 53, 54, 55, 56, 57]
theorem signs_eq : ("abcdefghijklmnopqrstuvwxyz0123456789" : PySem.Str) = W signs := by decide +kernel
theorem sign_at {i : Nat} {st : Sto} (h : i < 36) : ∃ c, ixT st (.str (W signs)) (.int i) = some (.str (W [c])) ∧ Sg c ∧ (i < 26 → Lt c) := by
  have hl : (W signs).length ≤ lim := by decide
  have hi : i < signs.length := h
  refine ⟨signs[i], ?_, ?_, ?_⟩
  · have e : L2.atI (W signs).cps.toList (i : Int) = some signs[i] := by
      have : (W signs).cps.toList = signs := by simp [W]
      rw [this]
      generalize signs = L at hi
      simp [L2.atI, L2.ixN, hi]
    show (if (W signs).length ≤ lim then (L2.atI (W signs).cps.toList (i : Int)).map fun c => T.str ⟨#[c]⟩ else none) = _
    rw [if_pos hl, e]
    rfl
  · have : ∀ i : Fin 36, Sg (signs[i.val]'i.isLt) := by unfold Sg Lt; decide
    exact this ⟨i, h⟩
  · intro h2
    have : ∀ i : Fin 26, Lt (signs[i.val]'(Nat.lt_trans i.isLt (by decide))) := by unfold Lt; decide
    exact this ⟨i, h2⟩
def wds : List (List Nat) := [[104, 111, 115, 116], [103, 117, 101, 115, 116], [116, 97, 98, 108, 101, 115], [116, 97, 98, 108, 101, 115, 49], [97], [97, 98], [122, 57], [120]]
theorem wds_ok : ∀ w, w ∈ wds → WdOk w := by
  intro w hw
  simp only [wds, List.mem_cons, List.not_mem_nil, or_false] at hw
  rcases hw with rfl | rfl | rfl | rfl | rfl | rfl | rfl | rfl <;> (unfold WdOk Sg Lt; decide)
theorem word_a {J J1 J2 : Cell} {rest : Sto} {d : Int} (e1 : F_law_pour [.loc 0, .int 4] (J :: rest) = .ok (.int 0) (J1 :: rest)) (e2 : F_law_pour [.loc 0, .int 8] (J1 :: rest) = .ok (.int d) (J2 :: rest)) (h0 : 0 ≤ d) (h1 : d < 8) :
    ∃ w, w ∈ wds ∧ F_law_word [.loc 0] (J :: rest) = finR tb_law_word.cls false (rest.length + 1) (.str (W w)) (J2 :: rest) := by
  have : d = 0 ∨ d = 1 ∨ d = 2 ∨ d = 3 ∨ d = 4 ∨ d = 5 ∨ d = 6 ∨ d = 7 := by omega
  have l0 : ("host" : PySem.Str) = W [104, 111, 115, 116] := by decide +kernel
  have l1 : ("guest" : PySem.Str) = W [103, 117, 101, 115, 116] := by decide +kernel
  have l2 : ("tables" : PySem.Str) = W [116, 97, 98, 108, 101, 115] := by decide +kernel
  have l3 : ("tables1" : PySem.Str) = W [116, 97, 98, 108, 101, 115, 49] := by decide +kernel
  have l4 : ("a" : PySem.Str) = W [97] := by decide +kernel
  have l5 : ("ab" : PySem.Str) = W [97, 98] := by decide +kernel
  have l6 : ("z9" : PySem.Str) = W [122, 57] := by decide +kernel
  have l7 : ("x" : PySem.Str) = W [120] := by decide +kernel
  rcases this with rfl | rfl | rfl | rfl | rfl | rfl | rfl | rfl
  · exact ⟨[104, 111, 115, 116], by decide, by rw [← l0]; simp [F_law_word, tbf_of_law_word, tbc_of_law_word, b_law_word, den, ap_evSs, ap_evSs0, IS.ev, IE.ev, IL.ev, IEs.ev, IO.ev, II.ev, IO.test, IA.ev, IA.ev.evs, ap_fNever, ap_fK, ap_fGl, ap_fBin, ap_fNeg, ap_fCmp, ap_fIsN, ap_fTup, ap_fIx, ap_fSl, ap_fFz, ap_fFn, ap_fBi, ap_fNil, ap_fCons, ap_fNo0, ap_fSo, ap_fNot, ap_fChain, ap_fAnd, ap_fOr, ap_fIte, ap_fBl, ap_fNew, ap_fMu, ap_fStr, ap_fRepr, ap_fAttr, ap_fDl, ap_fCat, ap_fRep, ap_fLi, ap_fZ3, ap_fSlL, ap_fSeq, ap_fEn, ap_fPr, ap_fRg2, ap_fTst, ap_fYes, ap_fNx, ap_fAsg, ap_fPar2, ap_fPar3, ap_fIf, ap_fRet, ap_fExp, ap_fG, ap_fSub, ap_fTu, ap_fNo, ap_fCo, ap_fFld, ap_fIsi, k1_fBin, k2_fBin, k1_fNeg, k1_fCmp, k2_fCmp, k1_fIsN, k1_fTup, k1_fIx, k2_fIx, k1_fSl, k2_fSl, k3_fSl, k1_fFz, k1_fBi, k1_fCons, k2_fCons, k1_fSo, k1_fNot, k1_fChain, k2_fChain, k1_fAnd, k1_fOr, k1_fIte, k1_fBl, k1_fNew, k1_fMu, k1_fStr, k1_fRepr, k1_fAttr, k1_fDl, k1_fCat, k2_fCat, k1_fRep, k2_fRep, k1_fLi, k1_fZ3, k2_fZ3, k3_fZ3, k1_fSlL, k2_fSlL, k3_fSlL, k1_fSeq, k1_fEn, k1_fPr, k2_fPr, k1_fRg2, k2_fRg2, k1_fTst, k1_fAsg, k1_fPar2, k1_fPar3, k1_fIf, k1_fRet, k1_fExp, k1_fFor, k1_fSub, k2_fSub, k1_fFld, k2_fFld, k1_fIsi, IG.set, IG.set.sets, evV, env0, isNn, strT, muT, lstAt, ownL, lstOf, seqOf, L2.atI, L2.ixN, lim, bnd_ok', go_ok', seq_nx', seq_rt', opt_some', nox_ok', finO_rt, finO_nx, padF, kwF, insOf, e1, e2]⟩
  · exact ⟨[103, 117, 101, 115, 116], by decide, by rw [← l1]; simp [F_law_word, tbf_of_law_word, tbc_of_law_word, b_law_word, den, ap_evSs, ap_evSs0, IS.ev, IE.ev, IL.ev, IEs.ev, IO.ev, II.ev, IO.test, IA.ev, IA.ev.evs, ap_fNever, ap_fK, ap_fGl, ap_fBin, ap_fNeg, ap_fCmp, ap_fIsN, ap_fTup, ap_fIx, ap_fSl, ap_fFz, ap_fFn, ap_fBi, ap_fNil, ap_fCons, ap_fNo0, ap_fSo, ap_fNot, ap_fChain, ap_fAnd, ap_fOr, ap_fIte, ap_fBl, ap_fNew, ap_fMu, ap_fStr, ap_fRepr, ap_fAttr, ap_fDl, ap_fCat, ap_fRep, ap_fLi, ap_fZ3, ap_fSlL, ap_fSeq, ap_fEn, ap_fPr, ap_fRg2, ap_fTst, ap_fYes, ap_fNx, ap_fAsg, ap_fPar2, ap_fPar3, ap_fIf, ap_fRet, ap_fExp, ap_fG, ap_fSub, ap_fTu, ap_fNo, ap_fCo, ap_fFld, ap_fIsi, k1_fBin, k2_fBin, k1_fNeg, k1_fCmp, k2_fCmp, k1_fIsN, k1_fTup, k1_fIx, k2_fIx, k1_fSl, k2_fSl, k3_fSl, k1_fFz, k1_fBi, k1_fCons, k2_fCons, k1_fSo, k1_fNot, k1_fChain, k2_fChain, k1_fAnd, k1_fOr, k1_fIte, k1_fBl, k1_fNew, k1_fMu, k1_fStr, k1_fRepr, k1_fAttr, k1_fDl, k1_fCat, k2_fCat, k1_fRep, k2_fRep, k1_fLi, k1_fZ3, k2_fZ3, k3_fZ3, k1_fSlL, k2_fSlL, k3_fSlL, k1_fSeq, k1_fEn, k1_fPr, k2_fPr, k1_fRg2, k2_fRg2, k1_fTst, k1_fAsg, k1_fPar2, k1_fPar3, k1_fIf, k1_fRet, k1_fExp, k1_fFor, k1_fSub, k2_fSub, k1_fFld, k2_fFld, k1_fIsi, IG.set, IG.set.sets, evV, env0, isNn, strT, muT, lstAt, ownL, lstOf, seqOf, L2.atI, L2.ixN, lim, bnd_ok', go_ok', seq_nx', seq_rt', opt_some', nox_ok', finO_rt, finO_nx, padF, kwF, insOf, e1, e2]⟩
  · exact ⟨[116, 97, 98, 108, 101, 115], by decide, by rw [← l2]; simp [F_law_word, tbf_of_law_word, tbc_of_law_word, b_law_word, den, ap_evSs, ap_evSs0, IS.ev, IE.ev, IL.ev, IEs.ev, IO.ev, II.ev, IO.test, IA.ev, IA.ev.evs, ap_fNever, ap_fK, ap_fGl, ap_fBin, ap_fNeg, ap_fCmp, ap_fIsN, ap_fTup, ap_fIx, ap_fSl, ap_fFz, ap_fFn, ap_fBi, ap_fNil, ap_fCons, ap_fNo0, ap_fSo, ap_fNot, ap_fChain, ap_fAnd, ap_fOr, ap_fIte, ap_fBl, ap_fNew, ap_fMu, ap_fStr, ap_fRepr, ap_fAttr, ap_fDl, ap_fCat, ap_fRep, ap_fLi, ap_fZ3, ap_fSlL, ap_fSeq, ap_fEn, ap_fPr, ap_fRg2, ap_fTst, ap_fYes, ap_fNx, ap_fAsg, ap_fPar2, ap_fPar3, ap_fIf, ap_fRet, ap_fExp, ap_fG, ap_fSub, ap_fTu, ap_fNo, ap_fCo, ap_fFld, ap_fIsi, k1_fBin, k2_fBin, k1_fNeg, k1_fCmp, k2_fCmp, k1_fIsN, k1_fTup, k1_fIx, k2_fIx, k1_fSl, k2_fSl, k3_fSl, k1_fFz, k1_fBi, k1_fCons, k2_fCons, k1_fSo, k1_fNot, k1_fChain, k2_fChain, k1_fAnd, k1_fOr, k1_fIte, k1_fBl, k1_fNew, k1_fMu, k1_fStr, k1_fRepr, k1_fAttr, k1_fDl, k1_fCat, k2_fCat, k1_fRep, k2_fRep, k1_fLi, k1_fZ3, k2_fZ3, k3_fZ3, k1_fSlL, k2_fSlL, k3_fSlL, k1_fSeq, k1_fEn, k1_fPr, k2_fPr, k1_fRg2, k2_fRg2, k1_fTst, k1_fAsg, k1_fPar2, k1_fPar3, k1_fIf, k1_fRet, k1_fExp, k1_fFor, k1_fSub, k2_fSub, k1_fFld, k2_fFld, k1_fIsi, IG.set, IG.set.sets, evV, env0, isNn, strT, muT, lstAt, ownL, lstOf, seqOf, L2.atI, L2.ixN, lim, bnd_ok', go_ok', seq_nx', seq_rt', opt_some', nox_ok', finO_rt, finO_nx, padF, kwF, insOf, e1, e2]⟩
  · exact ⟨[116, 97, 98, 108, 101, 115, 49], by decide, by rw [← l3]; simp [F_law_word, tbf_of_law_word, tbc_of_law_word, b_law_word, den, ap_evSs, ap_evSs0, IS.ev, IE.ev, IL.ev, IEs.ev, IO.ev, II.ev, IO.test, IA.ev, IA.ev.evs, ap_fNever, ap_fK, ap_fGl, ap_fBin, ap_fNeg, ap_fCmp, ap_fIsN, ap_fTup, ap_fIx, ap_fSl, ap_fFz, ap_fFn, ap_fBi, ap_fNil, ap_fCons, ap_fNo0, ap_fSo, ap_fNot, ap_fChain, ap_fAnd, ap_fOr, ap_fIte, ap_fBl, ap_fNew, ap_fMu, ap_fStr, ap_fRepr, ap_fAttr, ap_fDl, ap_fCat, ap_fRep, ap_fLi, ap_fZ3, ap_fSlL, ap_fSeq, ap_fEn, ap_fPr, ap_fRg2, ap_fTst, ap_fYes, ap_fNx, ap_fAsg, ap_fPar2, ap_fPar3, ap_fIf, ap_fRet, ap_fExp, ap_fG, ap_fSub, ap_fTu, ap_fNo, ap_fCo, ap_fFld, ap_fIsi, k1_fBin, k2_fBin, k1_fNeg, k1_fCmp, k2_fCmp, k1_fIsN, k1_fTup, k1_fIx, k2_fIx, k1_fSl, k2_fSl, k3_fSl, k1_fFz, k1_fBi, k1_fCons, k2_fCons, k1_fSo, k1_fNot, k1_fChain, k2_fChain, k1_fAnd, k1_fOr, k1_fIte, k1_fBl, k1_fNew, k1_fMu, k1_fStr, k1_fRepr, k1_fAttr, k1_fDl, k1_fCat, k2_fCat, k1_fRep, k2_fRep, k1_fLi, k1_fZ3, k2_fZ3, k3_fZ3, k1_fSlL, k2_fSlL, k3_fSlL, k1_fSeq, k1_fEn, k1_fPr, k2_fPr, k1_fRg2, k2_fRg2, k1_fTst, k1_fAsg, k1_fPar2, k1_fPar3, k1_fIf, k1_fRet, k1_fExp, k1_fFor, k1_fSub, k2_fSub, k1_fFld, k2_fFld, k1_fIsi, IG.set, IG.set.sets, evV, env0, isNn, strT, muT, lstAt, ownL, lstOf, seqOf, L2.atI, L2.ixN, lim, bnd_ok', go_ok', seq_nx', seq_rt', opt_some', nox_ok', finO_rt, finO_nx, padF, kwF, insOf, e1, e2]⟩
  · exact ⟨[97], by decide, by rw [← l4]; simp [F_law_word, tbf_of_law_word, tbc_of_law_word, b_law_word, den, ap_evSs, ap_evSs0, IS.ev, IE.ev, IL.ev, IEs.ev, IO.ev, II.ev, IO.test, IA.ev, IA.ev.evs, ap_fNever, ap_fK, ap_fGl, ap_fBin, ap_fNeg, ap_fCmp, ap_fIsN, ap_fTup, ap_fIx, ap_fSl, ap_fFz, ap_fFn, ap_fBi, ap_fNil, ap_fCons, ap_fNo0, ap_fSo, ap_fNot, ap_fChain, ap_fAnd, ap_fOr, ap_fIte, ap_fBl, ap_fNew, ap_fMu, ap_fStr, ap_fRepr, ap_fAttr, ap_fDl, ap_fCat, ap_fRep, ap_fLi, ap_fZ3, ap_fSlL, ap_fSeq, ap_fEn, ap_fPr, ap_fRg2, ap_fTst, ap_fYes, ap_fNx, ap_fAsg, ap_fPar2, ap_fPar3, ap_fIf, ap_fRet, ap_fExp, ap_fG, ap_fSub, ap_fTu, ap_fNo, ap_fCo, ap_fFld, ap_fIsi, k1_fBin, k2_fBin, k1_fNeg, k1_fCmp, k2_fCmp, k1_fIsN, k1_fTup, k1_fIx, k2_fIx, k1_fSl, k2_fSl, k3_fSl, k1_fFz, k1_fBi, k1_fCons, k2_fCons, k1_fSo, k1_fNot, k1_fChain, k2_fChain, k1_fAnd, k1_fOr, k1_fIte, k1_fBl, k1_fNew, k1_fMu, k1_fStr, k1_fRepr, k1_fAttr, k1_fDl, k1_fCat, k2_fCat, k1_fRep, k2_fRep, k1_fLi, k1_fZ3, k2_fZ3, k3_fZ3, k1_fSlL, k2_fSlL, k3_fSlL, k1_fSeq, k1_fEn, k1_fPr, k2_fPr, k1_fRg2, k2_fRg2, k1_fTst, k1_fAsg, k1_fPar2, k1_fPar3, k1_fIf, k1_fRet, k1_fExp, k1_fFor, k1_fSub, k2_fSub, k1_fFld, k2_fFld, k1_fIsi, IG.set, IG.set.sets, evV, env0, isNn, strT, muT, lstAt, ownL, lstOf, seqOf, L2.atI, L2.ixN, lim, bnd_ok', go_ok', seq_nx', seq_rt', opt_some', nox_ok', finO_rt, finO_nx, padF, kwF, insOf, e1, e2]⟩
  · exact ⟨[97, 98], by decide, by rw [← l5]; simp [F_law_word, tbf_of_law_word, tbc_of_law_word, b_law_word, den, ap_evSs, ap_evSs0, IS.ev, IE.ev, IL.ev, IEs.ev, IO.ev, II.ev, IO.test, IA.ev, IA.ev.evs, ap_fNever, ap_fK, ap_fGl, ap_fBin, ap_fNeg, ap_fCmp, ap_fIsN, ap_fTup, ap_fIx, ap_fSl, ap_fFz, ap_fFn, ap_fBi, ap_fNil, ap_fCons, ap_fNo0, ap_fSo, ap_fNot, ap_fChain, ap_fAnd, ap_fOr, ap_fIte, ap_fBl, ap_fNew, ap_fMu, ap_fStr, ap_fRepr, ap_fAttr, ap_fDl, ap_fCat, ap_fRep, ap_fLi, ap_fZ3, ap_fSlL, ap_fSeq, ap_fEn, ap_fPr, ap_fRg2, ap_fTst, ap_fYes, ap_fNx, ap_fAsg, ap_fPar2, ap_fPar3, ap_fIf, ap_fRet, ap_fExp, ap_fG, ap_fSub, ap_fTu, ap_fNo, ap_fCo, ap_fFld, ap_fIsi, k1_fBin, k2_fBin, k1_fNeg, k1_fCmp, k2_fCmp, k1_fIsN, k1_fTup, k1_fIx, k2_fIx, k1_fSl, k2_fSl, k3_fSl, k1_fFz, k1_fBi, k1_fCons, k2_fCons, k1_fSo, k1_fNot, k1_fChain, k2_fChain, k1_fAnd, k1_fOr, k1_fIte, k1_fBl, k1_fNew, k1_fMu, k1_fStr, k1_fRepr, k1_fAttr, k1_fDl, k1_fCat, k2_fCat, k1_fRep, k2_fRep, k1_fLi, k1_fZ3, k2_fZ3, k3_fZ3, k1_fSlL, k2_fSlL, k3_fSlL, k1_fSeq, k1_fEn, k1_fPr, k2_fPr, k1_fRg2, k2_fRg2, k1_fTst, k1_fAsg, k1_fPar2, k1_fPar3, k1_fIf, k1_fRet, k1_fExp, k1_fFor, k1_fSub, k2_fSub, k1_fFld, k2_fFld, k1_fIsi, IG.set, IG.set.sets, evV, env0, isNn, strT, muT, lstAt, ownL, lstOf, seqOf, L2.atI, L2.ixN, lim, bnd_ok', go_ok', seq_nx', seq_rt', opt_some', nox_ok', finO_rt, finO_nx, padF, kwF, insOf, e1, e2]⟩
  · exact ⟨[122, 57], by decide, by rw [← l6]; simp [F_law_word, tbf_of_law_word, tbc_of_law_word, b_law_word, den, ap_evSs, ap_evSs0, IS.ev, IE.ev, IL.ev, IEs.ev, IO.ev, II.ev, IO.test, IA.ev, IA.ev.evs, ap_fNever, ap_fK, ap_fGl, ap_fBin, ap_fNeg, ap_fCmp, ap_fIsN, ap_fTup, ap_fIx, ap_fSl, ap_fFz, ap_fFn, ap_fBi, ap_fNil, ap_fCons, ap_fNo0, ap_fSo, ap_fNot, ap_fChain, ap_fAnd, ap_fOr, ap_fIte, ap_fBl, ap_fNew, ap_fMu, ap_fStr, ap_fRepr, ap_fAttr, ap_fDl, ap_fCat, ap_fRep, ap_fLi, ap_fZ3, ap_fSlL, ap_fSeq, ap_fEn, ap_fPr, ap_fRg2, ap_fTst, ap_fYes, ap_fNx, ap_fAsg, ap_fPar2, ap_fPar3, ap_fIf, ap_fRet, ap_fExp, ap_fG, ap_fSub, ap_fTu, ap_fNo, ap_fCo, ap_fFld, ap_fIsi, k1_fBin, k2_fBin, k1_fNeg, k1_fCmp, k2_fCmp, k1_fIsN, k1_fTup, k1_fIx, k2_fIx, k1_fSl, k2_fSl, k3_fSl, k1_fFz, k1_fBi, k1_fCons, k2_fCons, k1_fSo, k1_fNot, k1_fChain, k2_fChain, k1_fAnd, k1_fOr, k1_fIte, k1_fBl, k1_fNew, k1_fMu, k1_fStr, k1_fRepr, k1_fAttr, k1_fDl, k1_fCat, k2_fCat, k1_fRep, k2_fRep, k1_fLi, k1_fZ3, k2_fZ3, k3_fZ3, k1_fSlL, k2_fSlL, k3_fSlL, k1_fSeq, k1_fEn, k1_fPr, k2_fPr, k1_fRg2, k2_fRg2, k1_fTst, k1_fAsg, k1_fPar2, k1_fPar3, k1_fIf, k1_fRet, k1_fExp, k1_fFor, k1_fSub, k2_fSub, k1_fFld, k2_fFld, k1_fIsi, IG.set, IG.set.sets, evV, env0, isNn, strT, muT, lstAt, ownL, lstOf, seqOf, L2.atI, L2.ixN, lim, bnd_ok', go_ok', seq_nx', seq_rt', opt_some', nox_ok', finO_rt, finO_nx, padF, kwF, insOf, e1, e2]⟩
  · exact ⟨[120], by decide, by rw [← l7]; simp [F_law_word, tbf_of_law_word, tbc_of_law_word, b_law_word, den, ap_evSs, ap_evSs0, IS.ev, IE.ev, IL.ev, IEs.ev, IO.ev, II.ev, IO.test, IA.ev, IA.ev.evs, ap_fNever, ap_fK, ap_fGl, ap_fBin, ap_fNeg, ap_fCmp, ap_fIsN, ap_fTup, ap_fIx, ap_fSl, ap_fFz, ap_fFn, ap_fBi, ap_fNil, ap_fCons, ap_fNo0, ap_fSo, ap_fNot, ap_fChain, ap_fAnd, ap_fOr, ap_fIte, ap_fBl, ap_fNew, ap_fMu, ap_fStr, ap_fRepr, ap_fAttr, ap_fDl, ap_fCat, ap_fRep, ap_fLi, ap_fZ3, ap_fSlL, ap_fSeq, ap_fEn, ap_fPr, ap_fRg2, ap_fTst, ap_fYes, ap_fNx, ap_fAsg, ap_fPar2, ap_fPar3, ap_fIf, ap_fRet, ap_fExp, ap_fG, ap_fSub, ap_fTu, ap_fNo, ap_fCo, ap_fFld, ap_fIsi, k1_fBin, k2_fBin, k1_fNeg, k1_fCmp, k2_fCmp, k1_fIsN, k1_fTup, k1_fIx, k2_fIx, k1_fSl, k2_fSl, k3_fSl, k1_fFz, k1_fBi, k1_fCons, k2_fCons, k1_fSo, k1_fNot, k1_fChain, k2_fChain, k1_fAnd, k1_fOr, k1_fIte, k1_fBl, k1_fNew, k1_fMu, k1_fStr, k1_fRepr, k1_fAttr, k1_fDl, k1_fCat, k2_fCat, k1_fRep, k2_fRep, k1_fLi, k1_fZ3, k2_fZ3, k3_fZ3, k1_fSlL, k2_fSlL, k3_fSlL, k1_fSeq, k1_fEn, k1_fPr, k2_fPr, k1_fRg2, k2_fRg2, k1_fTst, k1_fAsg, k1_fPar2, k1_fPar3, k1_fIf, k1_fRet, k1_fExp, k1_fFor, k1_fSub, k2_fSub, k1_fFld, k2_fFld, k1_fIsi, IG.set, IG.set.sets, evV, env0, isNn, strT, muT, lstAt, ownL, lstOf, seqOf, L2.atI, L2.ixN, lim, bnd_ok', go_ok', seq_nx', seq_rt', opt_some', nox_ok', finO_rt, finO_nx, padF, kwF, insOf, e1, e2]⟩
theorem word_b {J J1 J2 J3 J4 : Cell} {rest : Sto} {d1 d2 : Int} {x y : PySem.Str} {rng : List T} {f2 : Option T} (e1 : F_law_pour [.loc 0, .int 4] (J :: rest) = .ok (.int d1) (J1 :: rest)) (h1 : (d1 == 0) = false) (e2 : F_law_pour [.loc 0, .int 26] (J1 :: rest) = .ok (.int d2) (J2 :: rest))
    (ix : ∀ st, ixT st (.str "abcdefghijklmnopqrstuvwxyz0123456789") (.int d2) = some (.str x))
    (hrg : fRg1 (fIx (fFz (fDl (fCons (fK (T.int 0)) (fCons (fK (T.int 1)) (fCons (fK (T.int 2)) (fCons (fK (T.int 7)) fNil)))))) (fFn (some ⟨"_law_pour", [], padF 2 [] F_law_pour⟩) (fCons (evV 0) (fCons (fK (T.int 4)) fNil)) fNil)) [some (.loc 0), some (.str x), none, some (.str "abcdefghijklmnopqrstuvwxyz0123456789"), some (.lst [.str "host", .str "guest", .str "tables", .str "tables1", .str "a", .str "ab", .str "z9", .str "x"])] (J2 :: rest) = .ok rng (J3 :: rest))
    (hw : walkO (.name 2) (evSs tb_law_word l1_law_word) rng [some (.loc 0), some (.str x), none, some (.str "abcdefghijklmnopqrstuvwxyz0123456789"), some (.lst [.str "host", .str "guest", .str "tables", .str "tables1", .str "a", .str "ab", .str "z9", .str "x"])] (J3 :: rest) = .nx [some (.loc 0), some (.str y), f2, some (.str "abcdefghijklmnopqrstuvwxyz0123456789"), some (.lst [.str "host", .str "guest", .str "tables", .str "tables1", .str "a", .str "ab", .str "z9", .str "x"])] (J4 :: rest)) :
    F_law_word [.loc 0] (J :: rest) = finR tb_law_word.cls false (rest.length + 1) (.str y) (J4 :: rest) := by
  simp [F_law_word, tbf_of_law_word, tbc_of_law_word, b_law_word, den, ap_evSs, ap_evSs0, IS.ev, IE.ev, IL.ev, IEs.ev, IO.ev, II.ev, IO.test, IA.ev, IA.ev.evs, ap_fNever, ap_fK, ap_fGl, ap_fBin, ap_fNeg, ap_fCmp, ap_fIsN, ap_fTup, ap_fIx, ap_fSl, ap_fFz, ap_fFn, ap_fBi, ap_fNil, ap_fCons, ap_fNo0, ap_fSo, ap_fNot, ap_fChain, ap_fAnd, ap_fOr, ap_fIte, ap_fBl, ap_fNew, ap_fMu, ap_fStr, ap_fRepr, ap_fAttr, ap_fDl, ap_fCat, ap_fRep, ap_fLi, ap_fZ3, ap_fSlL, ap_fSeq, ap_fEn, ap_fPr, ap_fRg2, ap_fTst, ap_fYes, ap_fNx, ap_fAsg, ap_fPar2, ap_fPar3, ap_fIf, ap_fRet, ap_fExp, ap_fG, ap_fSub, ap_fTu, ap_fNo, ap_fCo, ap_fFld, ap_fIsi, k1_fBin, k2_fBin, k1_fNeg, k1_fCmp, k2_fCmp, k1_fIsN, k1_fTup, k1_fIx, k2_fIx, k1_fSl, k2_fSl, k3_fSl, k1_fFz, k1_fBi, k1_fCons, k2_fCons, k1_fSo, k1_fNot, k1_fChain, k2_fChain, k1_fAnd, k1_fOr, k1_fIte, k1_fBl, k1_fNew, k1_fMu, k1_fStr, k1_fRepr, k1_fAttr, k1_fDl, k1_fCat, k2_fCat, k1_fRep, k2_fRep, k1_fLi, k1_fZ3, k2_fZ3, k3_fZ3, k1_fSlL, k2_fSlL, k3_fSlL, k1_fSeq, k1_fEn, k1_fPr, k2_fPr, k1_fRg2, k2_fRg2, k1_fTst, k1_fAsg, k1_fPar2, k1_fPar3, k1_fIf, k1_fRet, k1_fExp, k1_fFor, k1_fSub, k2_fSub, k1_fFld, k2_fFld, k1_fIsi, IG.set, IG.set.sets, evV, env0, isNn, strT, muT, lstAt, ownL, lstOf, seqOf, L2.atI, L2.ixN, lim, bnd_ok', go_ok', seq_nx', seq_rt', opt_some', nox_ok', finO_rt, finO_nx, padF, kwF, insOf, e1, h1, e2, ix, ap_fFor, hrg, hw]
theorem W_app {a b : List Nat} : W a ++ W b = W (a ++ b) := by
  show PySem.Str.mk (a.toArray ++ b.toArray) = PySem.Str.mk (a ++ b).toArray
  simp
theorem word_step {J J1 : Cell} {rest : Sto} {d : Int} {w : List Nat} {c : Nat} {e2 e4 : Option T} (e : F_law_pour [.loc 0, .int 36] (J :: rest) = .ok (.int d) (J1 :: rest)) (ix : ∀ st, ixT st (.str "abcdefghijklmnopqrstuvwxyz0123456789") (.int d) = some (.str (W [c]))) (hl : w.length ≤ 100) :
    evSs tb_law_word l1_law_word [some (.loc 0), some (.str (W w)), e2, some (.str "abcdefghijklmnopqrstuvwxyz0123456789"), e4] (J :: rest) = .nx [some (.loc 0), some (.str (W (w ++ [c]))), e2, some (.str "abcdefghijklmnopqrstuvwxyz0123456789"), e4] (J1 :: rest) := by
  have b : binT .Add (.str (W w)) (.str (W [c])) = some (.str (W (w ++ [c]))) := by
    show (if (W w).length + (W [c]).length ≤ lim then some (T.str (W w ++ W [c])) else none) = _
    rw [if_pos (by rw [len_W, len_W]; simp [lim]; omega), W_app]
  simp [l1_law_word, tbf_of_law_word, tbc_of_law_word, den, ap_evSs, ap_evSs0, IS.ev, IE.ev, IL.ev, IEs.ev, IO.ev, II.ev, IO.test, IA.ev, IA.ev.evs, ap_fNever, ap_fK, ap_fGl, ap_fBin, ap_fNeg, ap_fCmp, ap_fIsN, ap_fTup, ap_fIx, ap_fSl, ap_fFz, ap_fFn, ap_fBi, ap_fNil, ap_fCons, ap_fNo0, ap_fSo, ap_fNot, ap_fChain, ap_fAnd, ap_fOr, ap_fIte, ap_fBl, ap_fNew, ap_fMu, ap_fStr, ap_fRepr, ap_fAttr, ap_fDl, ap_fCat, ap_fRep, ap_fLi, ap_fZ3, ap_fSlL, ap_fSeq, ap_fEn, ap_fPr, ap_fRg2, ap_fTst, ap_fYes, ap_fNx, ap_fAsg, ap_fPar2, ap_fPar3, ap_fIf, ap_fRet, ap_fExp, ap_fG, ap_fSub, ap_fTu, ap_fNo, ap_fCo, ap_fFld, ap_fIsi, k1_fBin, k2_fBin, k1_fNeg, k1_fCmp, k2_fCmp, k1_fIsN, k1_fTup, k1_fIx, k2_fIx, k1_fSl, k2_fSl, k3_fSl, k1_fFz, k1_fBi, k1_fCons, k2_fCons, k1_fSo, k1_fNot, k1_fChain, k2_fChain, k1_fAnd, k1_fOr, k1_fIte, k1_fBl, k1_fNew, k1_fMu, k1_fStr, k1_fRepr, k1_fAttr, k1_fDl, k1_fCat, k2_fCat, k1_fRep, k2_fRep, k1_fLi, k1_fZ3, k2_fZ3, k3_fZ3, k1_fSlL, k2_fSlL, k3_fSlL, k1_fSeq, k1_fEn, k1_fPr, k2_fPr, k1_fRg2, k2_fRg2, k1_fTst, k1_fAsg, k1_fPar2, k1_fPar3, k1_fIf, k1_fRet, k1_fExp, k1_fFor, k1_fSub, k2_fSub, k1_fFld, k2_fFld, k1_fIsi, IG.set, IG.set.sets, evV, env0, isNn, strT, muT, lstAt, ownL, lstOf, seqOf, L2.atI, L2.ixN, lim, bnd_ok', go_ok', seq_nx', seq_rt', opt_some', nox_ok', finO_rt, finO_nx, padF, kwF, insOf, e, ix, b]
theorem word_loop {rest : Sto} {e4 : Option T} (hr : NL rest) : ∀ (k i n : Nat) (J : Cell) (w : List Nat) (e2 : Option T), JC n J → n + k < 10 ^ 9 → w.length + k ≤ 8 → WdOk w →
    ∃ (w' : List Nat) (J' : Cell) (f2 : Option T), walkO (.name 2) (evSs tb_law_word l1_law_word) ((List.range' i k).map fun (j : Nat) => T.int (j : Int)) [some (.loc 0), some (.str (W w)), e2, some (.str "abcdefghijklmnopqrstuvwxyz0123456789"), e4] (J :: rest) = .nx [some (.loc 0), some (.str (W w')), f2, some (.str "abcdefghijklmnopqrstuvwxyz0123456789"), e4] (J' :: rest) ∧ WdOk w' ∧ JC (n + k) J'
  | 0, i, n, J, w, e2, hJ, _, _, hw => ⟨w, J, e2, by simp [walkO], hw, hJ⟩
  | k + 1, i, n, J, w, e2, hJ, hn, hl, hw => by
    obtain ⟨d, J1, e, h0, h1, hJ1⟩ := pour_eq2 (k := 36) hJ (by omega) (by decide) (by decide) hr
    obtain ⟨d, rfl⟩ := Int.eq_ofNat_of_zero_le h0
    have hd : d < 36 := by omega
    have hix := fun st => sign_at (st := st) hd
    obtain ⟨c, hc, sc, _⟩ := hix []
    have ix : ∀ st, ixT st (.str "abcdefghijklmnopqrstuvwxyz0123456789") (.int d) = some (.str (W [c])) := fun st => by rw [signs_eq]; exact hc
    have hw2 : WdOk (w ++ [c]) := by
      obtain ⟨a1, a2, a3, a4⟩ := hw
      refine ⟨by simp, by simp; omega, fun x hx => ?_, fun x hx => a4 x ?_⟩
      · rcases List.mem_append.mp hx with h | h
        · exact a3 x h
        · rw [List.mem_singleton.mp h]; exact sc
      · rw [List.getElem?_append_left (by omega)] at hx; exact hx
    obtain ⟨w', J', f2, h2, h3, h4⟩ := word_loop hr k (i + 1) (n + 1) J1 (w ++ [c]) (some (.int i)) hJ1 (by omega) (by simp; omega) hw2
    refine ⟨w', J', f2, ?_, h3, by rw [show n + (k + 1) = n + 1 + k from by omega]; exact h4⟩
    rw [← h2, List.range'_succ, List.map_cons, walkO]
    simp only [IG.set, List.length_cons, List.length_nil]
    rw [if_pos (by decide)]
    simp only [List.set]
    rw [word_step e ix (by omega)]
theorem word_rg {J2 J3 : Cell} {rest : Sto} {d : Int} {m : Nat} {x : T} {a b c : Option T} (e : F_law_pour [.loc 0, .int 4] (J2 :: rest) = .ok (.int d) (J3 :: rest)) (h : L2.atI [T.int 0, .int 1, .int 2, .int 7] d = some (.int m)) (hm : m ≤ 10) :
    fRg1 (fIx (fFz (fDl (fCons (fK (T.int 0)) (fCons (fK (T.int 1)) (fCons (fK (T.int 2)) (fCons (fK (T.int 7)) fNil)))))) (fFn (some ⟨"_law_pour", [], padF 2 [] F_law_pour⟩) (fCons (evV 0) (fCons (fK (T.int 4)) fNil)) fNil)) [some (.loc 0), some x, a, b, c] (J2 :: rest) = .ok ((List.range m).map fun (j : Nat) => T.int (j : Int)) (J3 :: rest) := by
  refine rg1_eq ?_ (by omega)
  have : d = 0 ∨ d = 1 ∨ d = 2 ∨ d = 3 ∨ ¬ (0 ≤ d ∧ d < 4) := by omega
  have hx : ∀ st, ixT st (.lst [T.int 0, .int 1, .int 2, .int 7]) (.int d) = some (.int m) := fun st => h
  simp [den, ap_evSs, ap_evSs0, IS.ev, IE.ev, IL.ev, IEs.ev, IO.ev, II.ev, IO.test, IA.ev, IA.ev.evs, ap_fNever, ap_fK, ap_fGl, ap_fBin, ap_fNeg, ap_fCmp, ap_fIsN, ap_fTup, ap_fIx, ap_fSl, ap_fFz, ap_fFn, ap_fBi, ap_fNil, ap_fCons, ap_fNo0, ap_fSo, ap_fNot, ap_fChain, ap_fAnd, ap_fOr, ap_fIte, ap_fBl, ap_fNew, ap_fMu, ap_fStr, ap_fRepr, ap_fAttr, ap_fDl, ap_fCat, ap_fRep, ap_fLi, ap_fZ3, ap_fSlL, ap_fSeq, ap_fEn, ap_fPr, ap_fRg2, ap_fTst, ap_fYes, ap_fNx, ap_fAsg, ap_fPar2, ap_fPar3, ap_fIf, ap_fRet, ap_fExp, ap_fG, ap_fSub, ap_fTu, ap_fNo, ap_fCo, ap_fFld, ap_fIsi, k1_fBin, k2_fBin, k1_fNeg, k1_fCmp, k2_fCmp, k1_fIsN, k1_fTup, k1_fIx, k2_fIx, k1_fSl, k2_fSl, k3_fSl, k1_fFz, k1_fBi, k1_fCons, k2_fCons, k1_fSo, k1_fNot, k1_fChain, k2_fChain, k1_fAnd, k1_fOr, k1_fIte, k1_fBl, k1_fNew, k1_fMu, k1_fStr, k1_fRepr, k1_fAttr, k1_fDl, k1_fCat, k2_fCat, k1_fRep, k2_fRep, k1_fLi, k1_fZ3, k2_fZ3, k3_fZ3, k1_fSlL, k2_fSlL, k3_fSlL, k1_fSeq, k1_fEn, k1_fPr, k2_fPr, k1_fRg2, k2_fRg2, k1_fTst, k1_fAsg, k1_fPar2, k1_fPar3, k1_fIf, k1_fRet, k1_fExp, k1_fFor, k1_fSub, k2_fSub, k1_fFld, k2_fFld, k1_fIsi, IG.set, IG.set.sets, evV, env0, isNn, strT, muT, lstAt, ownL, lstOf, seqOf, L2.atI, L2.ixN, lim, bnd_ok', go_ok', seq_nx', seq_rt', opt_some', nox_ok', finO_rt, finO_nx, padF, kwF, insOf, -L2.atI, -ix_lst', e, hx]
theorem word_ok {n : Nat} {J : Cell} {rest : Sto} (hJ : JC n J) (hn : n + 20 < 10 ^ 9) (hr : NL rest) :
    ∃ (w : List Nat) (J' : Cell), F_law_word [.loc 0] (J :: rest) = .ok (.str (W w)) (J' :: rest) ∧ WdOk w ∧ JC (n + 10) J' := by
  obtain ⟨d1, J1, e1, h10, h11, hJ1⟩ := pour_eq2 (k := 4) hJ (by omega) (by decide) (by decide) hr
  by_cases h1 : d1 = 0
  · subst h1
    obtain ⟨d2, J2, e2, h20, h21, hJ2⟩ := pour_eq2 (k := 8) hJ1 (by omega) (by decide) (by decide) hr
    obtain ⟨w, hw, h⟩ := word_a e1 e2 h20 h21
    exact ⟨w, J2, h.trans (fin_jug hJ2 hr (by simp)), wds_ok w hw, hJ2.mono (by omega)⟩
  · obtain ⟨d2, J2, e2, h20, h21, hJ2⟩ := pour_eq2 (k := 26) hJ1 (by omega) (by decide) (by decide) hr
    obtain ⟨d3, J3, e3, h30, h31, hJ3⟩ := pour_eq2 (k := 4) hJ2 (by omega) (by decide) (by decide) hr
    obtain ⟨d2, rfl⟩ := Int.eq_ofNat_of_zero_le h20
    have hd2 : d2 < 36 := by omega
    obtain ⟨c, hc, sc, lc⟩ := sign_at (st := []) hd2
    have ix : ∀ st, ixT st (.str "abcdefghijklmnopqrstuvwxyz0123456789") (.int d2) = some (.str (W [c])) := fun st => by rw [signs_eq]; exact hc
    have hm : ∃ m : Nat, m ≤ 7 ∧ L2.atI [T.int 0, .int 1, .int 2, .int 7] d3 = some (.int m) := by
      have : d3 = 0 ∨ d3 = 1 ∨ d3 = 2 ∨ d3 = 3 := by omega
      rcases this with rfl | rfl | rfl | rfl
      · exact ⟨0, by decide, rfl⟩
      · exact ⟨1, by decide, rfl⟩
      · exact ⟨2, by decide, rfl⟩
      · exact ⟨7, by decide, rfl⟩
    obtain ⟨m, hm7, hm⟩ := hm
    have w0 : WdOk [c] := ⟨by simp, by simp, fun x hx => by rw [List.mem_singleton.mp hx]; exact sc, fun x hx => by cases hx; exact lc (by omega)⟩
    obtain ⟨w', J', f2, h2, h3, h4⟩ := word_loop (e4 := some (.lst [.str "host", .str "guest", .str "tables", .str "tables1", .str "a", .str "ab", .str "z9", .str "x"])) hr m 0 (n + 3) J3 [c] none hJ3 (by omega) (by simp; omega) w0
    rw [← List.range_eq_range'] at h2
    refine ⟨w', J', ?_, h3, h4.mono (by omega)⟩
    exact (word_b e1 (beq_false_of_ne h1) e2 ix (word_rg e3 hm (by omega)) h2).trans (fin_jug h4 hr (by simp))
def sW (w : List Nat) : T := .str (W w)
def qw (n : Nat) : List Nat := [113, 48 + n]
theorem qw_ok {n : Nat} (h : n < 8) : WdOk (qw n) := by
  refine ⟨by simp [qw], by simp [qw], fun c hc => ?_, fun c hc => ?_⟩
  · simp [qw] at hc
    rcases hc with rfl | rfl
    · exact .inl (by unfold Lt; omega)
    · exact .inr (by omega)
  · simp [qw] at hc; unfold Lt; omega
theorem qw_shown : ∀ n : Fin 8, PySem.Str.ofString (toString ((n.val : Nat) : Int)) = W [48 + n.val] := by decide +kernel
theorem q_is : ("q" : PySem.Str) = W [113] := by decide +kernel
theorem qw_text {n : Nat} (h : n < 8) : strT (.int n) = some (.str (W [48 + n])) ∧ binT .Add (.str "q") (.str (W [48 + n])) = some (sW (qw n)) := by
  constructor
  · show (if (n : Int).natAbs.log2 < 1920 then some (T.str (toString (n : Int))) else none) = _
    have hl : (n : Int).natAbs.log2 < 1920 := by
      have : n.log2 ≤ n := Nat.log2_le_self n
      rw [Int.natAbs_natCast]
      omega
    rw [if_pos hl, qw_shown ⟨n, h⟩]
  · rw [q_is]
    show (if (W [113]).length + (W [48 + n]).length ≤ lim then some (T.str (W [113] ++ W [48 + n])) else none) = _
    rw [if_pos (by rw [len_W, len_W]; simp [lim]), W_app]
    rfl
theorem W_inj {a b : List Nat} (h : W a = W b) : a = b := by
  have := congrArg (fun s : PySem.Str => s.cps.toList) h
  simpa [W] using this
theorem in_words {ws : List (List Nat)} {w : List Nat} {st : Sto} {l : Nat} (h : st[l]? = some (.lst (ws.map sW))) (hw : WdOk w) (hws : ∀ x, x ∈ ws → WdOk x) : inT st (sW w) (.loc l) = some (decide (w ∈ ws)) := by
  have so : ∀ x, WdOk x → PySem.PyData.strOk (W x) = true := fun x hx => so_iff.mpr fun c hc => by
    have := hx.2.2.1 c (by simpa [W] using hc)
    unfold Sg Lt at this
    omega
  have d1 : datas (ws.map sW) = true := by
    clear h
    induction ws with
    | nil => rfl
    | cons x xs ih =>
      simp only [List.map_cons, datas, sW, data, Bool.and_eq_true]
      exact ⟨so x (hws x (by simp)), ih fun y hy => hws y (List.mem_cons_of_mem _ hy)⟩
  have d2 : deps (ws.map sW) = 0 := by
    clear h d1 hws
    induction ws with
    | nil => rfl
    | cons x xs ih => simp only [List.map_cons, deps, sW, dep] at ih ⊢; rw [ih]; rfl
  have key : (ws.map sW).any (fun y => eqv y (sW w)) = decide (w ∈ ws) := by
    rw [Bool.eq_iff_iff, List.any_eq_true, decide_eq_true_iff]
    constructor
    · rintro ⟨y, hy, e⟩
      obtain ⟨x, hx, rfl⟩ := List.mem_map.mp hy
      unfold sW at e
      rw [eqv_str, beq_iff_eq] at e
      rw [← W_inj e]; exact hx
    · intro hm
      exact ⟨_, List.mem_map.mpr ⟨w, hm, rfl⟩, by unfold sW; rw [eqv_str]; simp⟩
  show (match seqOf st (.loc l) with
    | some ys => if data (sW w) && datas ys && decide (dep (sW w) ≤ 60) && decide (deps ys ≤ 60) then some (ys.any fun y => eqv y (sW w)) else none
    | none => none) = _
  have hs : seqOf st (.loc l) = some (ws.map sW) := by simp [seqOf, lstOf, h]
  rw [hs]
  show (if _ then _ else _) = _
  rw [if_pos (by rw [d1, d2]; simp [sW, data, so w hw, dep]), key]
/-- some q-word is free -/
theorem nodup_qw (m : Nat) (hm : m ≤ 8) : ((List.range m).map qw).Nodup := by
  have : ∀ m : Fin 9, ((List.range m.val).map qw).Nodup := by decide
  exact this ⟨m, by omega⟩
theorem free_qw {ws : List (List Nat)} {m : Nat} (hl : ws.length < m) (hm : m ≤ 8) : ((List.range m).map qw).filter (fun w => decide (w ∉ ws)) ≠ [] := fun z => by
  have hsub : ∀ w, w ∈ (List.range m).map qw → w ∈ ws := fun w hw => by
    cases hd : decide (w ∈ ws) with
    | true => exact of_decide_eq_true hd
    | false =>
      have : w ∈ ((List.range m).map qw).filter (fun w => decide (w ∉ ws)) := List.mem_filter.mpr ⟨hw, decide_eq_true (of_decide_eq_false hd)⟩
      rw [z] at this
      cases this
  have := List.Nodup.length_le_of_subset (nodup_qw m hm) hsub
  simp at this
  omega
/-- a turn with a fresh word -/
theorem words_a {J J1 : Cell} {rest : Sto} {S : List T} {m : T} {w : T} {x3 x4 x5 x6 : Option T} (e : F_law_word [.loc 0] (J :: (rest ++ [.lst S])) = .ok w (J1 :: (rest ++ [.lst S])))
    (hin : inT (J1 :: (rest ++ [.lst S])) w (.loc (rest.length + 1)) = some false) (hl : S.length < 16777216) (hg : (J1 :: (rest ++ [Cell.lst S]))[rest.length + 1]? = some (.lst S)) (hset : (J1 :: (rest ++ [Cell.lst S])).set (rest.length + 1) (.lst (S ++ [w])) = J1 :: (rest ++ [.lst (S ++ [w])])) :
    evSs tb_law_words l1_law_words [some (.loc 0), some m, some (.loc (rest.length + 1)), x3, x4, x5, x6] (J :: (rest ++ [.lst S])) = .nx [some (.loc 0), some m, some (.loc (rest.length + 1)), x3, some w, x5, x6] (J1 :: (rest ++ [.lst (S ++ [w])])) := by
  simp [l1_law_words, tbf_of_law_words, tbc_of_law_words, den, ap_evSs, ap_evSs0, IS.ev, IE.ev, IL.ev, IEs.ev, IO.ev, II.ev, IO.test, IA.ev, IA.ev.evs, ap_fNever, ap_fK, ap_fGl, ap_fBin, ap_fNeg, ap_fCmp, ap_fIsN, ap_fTup, ap_fIx, ap_fSl, ap_fFz, ap_fFn, ap_fBi, ap_fNil, ap_fCons, ap_fNo0, ap_fSo, ap_fNot, ap_fChain, ap_fAnd, ap_fOr, ap_fIte, ap_fBl, ap_fNew, ap_fMu, ap_fStr, ap_fRepr, ap_fAttr, ap_fDl, ap_fCat, ap_fRep, ap_fLi, ap_fZ3, ap_fSlL, ap_fSeq, ap_fEn, ap_fPr, ap_fRg2, ap_fTst, ap_fYes, ap_fNx, ap_fAsg, ap_fPar2, ap_fPar3, ap_fIf, ap_fRet, ap_fExp, ap_fG, ap_fSub, ap_fTu, ap_fNo, ap_fCo, ap_fFld, ap_fIsi, k1_fBin, k2_fBin, k1_fNeg, k1_fCmp, k2_fCmp, k1_fIsN, k1_fTup, k1_fIx, k2_fIx, k1_fSl, k2_fSl, k3_fSl, k1_fFz, k1_fBi, k1_fCons, k2_fCons, k1_fSo, k1_fNot, k1_fChain, k2_fChain, k1_fAnd, k1_fOr, k1_fIte, k1_fBl, k1_fNew, k1_fMu, k1_fStr, k1_fRepr, k1_fAttr, k1_fDl, k1_fCat, k2_fCat, k1_fRep, k2_fRep, k1_fLi, k1_fZ3, k2_fZ3, k3_fZ3, k1_fSlL, k2_fSlL, k3_fSlL, k1_fSeq, k1_fEn, k1_fPr, k2_fPr, k1_fRg2, k2_fRg2, k1_fTst, k1_fAsg, k1_fPar2, k1_fPar3, k1_fIf, k1_fRet, k1_fExp, k1_fFor, k1_fSub, k2_fSub, k1_fFld, k2_fFld, k1_fIsi, IG.set, IG.set.sets, evV, env0, isNn, strT, muT, lstAt, ownL, lstOf, seqOf, L2.atI, L2.ixN, lim, bnd_ok', go_ok', seq_nx', seq_rt', opt_some', nox_ok', finO_rt, finO_nx, padF, kwF, insOf, e, cmpT, hin, hg, hl, hset]
theorem words_c1 {st : Sto} {m : Nat} {a b c d e f : Option T} (hm : m ≤ 8) : fLc [6] (e1_law_words.ev tb_law_words) (.name 6) (fRg1 (evV 1)) fYes [a, some (.int m), b, c, d, e, f] st = .ok ((List.range m).map fun (n : Nat) => sW (qw n)) st := by
  refine lc_mapE (emb := fun (n : Nat) => T.int (n : Int)) (rg1_eq rfl (by omega)) (by simp; omega) fun n hn => ?_
  have hn : n < m := by simpa using hn
  have h := qw_text (n := n) (by omega)
  simp [fTurn, wipeE, e1_law_words, den, ap_evSs, ap_evSs0, IS.ev, IE.ev, IL.ev, IEs.ev, IO.ev, II.ev, IO.test, IA.ev, IA.ev.evs, ap_fNever, ap_fK, ap_fGl, ap_fBin, ap_fNeg, ap_fCmp, ap_fIsN, ap_fTup, ap_fIx, ap_fSl, ap_fFz, ap_fFn, ap_fBi, ap_fNil, ap_fCons, ap_fNo0, ap_fSo, ap_fNot, ap_fChain, ap_fAnd, ap_fOr, ap_fIte, ap_fBl, ap_fNew, ap_fMu, ap_fStr, ap_fRepr, ap_fAttr, ap_fDl, ap_fCat, ap_fRep, ap_fLi, ap_fZ3, ap_fSlL, ap_fSeq, ap_fEn, ap_fPr, ap_fRg2, ap_fTst, ap_fYes, ap_fNx, ap_fAsg, ap_fPar2, ap_fPar3, ap_fIf, ap_fRet, ap_fExp, ap_fG, ap_fSub, ap_fTu, ap_fNo, ap_fCo, ap_fFld, ap_fIsi, k1_fBin, k2_fBin, k1_fNeg, k1_fCmp, k2_fCmp, k1_fIsN, k1_fTup, k1_fIx, k2_fIx, k1_fSl, k2_fSl, k3_fSl, k1_fFz, k1_fBi, k1_fCons, k2_fCons, k1_fSo, k1_fNot, k1_fChain, k2_fChain, k1_fAnd, k1_fOr, k1_fIte, k1_fBl, k1_fNew, k1_fMu, k1_fStr, k1_fRepr, k1_fAttr, k1_fDl, k1_fCat, k2_fCat, k1_fRep, k2_fRep, k1_fLi, k1_fZ3, k2_fZ3, k3_fZ3, k1_fSlL, k2_fSlL, k3_fSlL, k1_fSeq, k1_fEn, k1_fPr, k2_fPr, k1_fRg2, k2_fRg2, k1_fTst, k1_fAsg, k1_fPar2, k1_fPar3, k1_fIf, k1_fRet, k1_fExp, k1_fFor, k1_fSub, k2_fSub, k1_fFld, k2_fFld, k1_fIsi, IG.set, IG.set.sets, evV, env0, isNn, strT, muT, lstAt, ownL, lstOf, seqOf, L2.atI, L2.ixN, lim, bnd_ok', go_ok', seq_nx', seq_rt', opt_some', nox_ok', finO_rt, finO_nx, padF, kwF, insOf, -strT, h.1, h.2]
theorem words_c2 {st : Sto} {m l : Nat} {ws : List (List Nat)} {a d e f : Option T} (hm : m ≤ 8) (hl : st[l]? = some (.lst (ws.map sW))) (hws : ∀ x, x ∈ ws → WdOk x) : fLc [5] (e2_law_words.ev tb_law_words) (.name 5) (fSeq (fFz (fLc [6] (e1_law_words.ev tb_law_words) (.name 6) (fRg1 (evV 1)) fYes))) (fTst (q1_law_words.ev tb_law_words)) [a, some (.int m), some (.loc l), d, e, none, none] st =
    .ok ((((List.range m).map qw).filter fun w => decide (w ∉ ws)).map sW) st := by
  have fe : (((List.range m).map qw).filterMap fun w => if decide (w ∉ ws) = true then some (sW w) else none) = (((List.range m).map qw).filter fun w => decide (w ∉ ws)).map sW := fm_if (p := fun w => decide (w ∉ ws)) (f := sW)
  rw [← fe]
  refine lc_filterE (emb := sW) ?_ (by simp; omega) fun w hw => ?_
  · have h1 := words_c1 (st := st) (m := m) (a := a) (b := some (.loc l)) (c := d) (d := e) (e := none) (f := none) hm
    have hlen : m ≤ 16777216 := by omega
    simp [den, ap_evSs, ap_evSs0, IS.ev, IE.ev, IL.ev, IEs.ev, IO.ev, II.ev, IO.test, IA.ev, IA.ev.evs, ap_fNever, ap_fK, ap_fGl, ap_fBin, ap_fNeg, ap_fCmp, ap_fIsN, ap_fTup, ap_fIx, ap_fSl, ap_fFz, ap_fFn, ap_fBi, ap_fNil, ap_fCons, ap_fNo0, ap_fSo, ap_fNot, ap_fChain, ap_fAnd, ap_fOr, ap_fIte, ap_fBl, ap_fNew, ap_fMu, ap_fStr, ap_fRepr, ap_fAttr, ap_fDl, ap_fCat, ap_fRep, ap_fLi, ap_fZ3, ap_fSlL, ap_fSeq, ap_fEn, ap_fPr, ap_fRg2, ap_fTst, ap_fYes, ap_fNx, ap_fAsg, ap_fPar2, ap_fPar3, ap_fIf, ap_fRet, ap_fExp, ap_fG, ap_fSub, ap_fTu, ap_fNo, ap_fCo, ap_fFld, ap_fIsi, k1_fBin, k2_fBin, k1_fNeg, k1_fCmp, k2_fCmp, k1_fIsN, k1_fTup, k1_fIx, k2_fIx, k1_fSl, k2_fSl, k3_fSl, k1_fFz, k1_fBi, k1_fCons, k2_fCons, k1_fSo, k1_fNot, k1_fChain, k2_fChain, k1_fAnd, k1_fOr, k1_fIte, k1_fBl, k1_fNew, k1_fMu, k1_fStr, k1_fRepr, k1_fAttr, k1_fDl, k1_fCat, k2_fCat, k1_fRep, k2_fRep, k1_fLi, k1_fZ3, k2_fZ3, k3_fZ3, k1_fSlL, k2_fSlL, k3_fSlL, k1_fSeq, k1_fEn, k1_fPr, k2_fPr, k1_fRg2, k2_fRg2, k1_fTst, k1_fAsg, k1_fPar2, k1_fPar3, k1_fIf, k1_fRet, k1_fExp, k1_fFor, k1_fSub, k2_fSub, k1_fFld, k2_fFld, k1_fIsi, IG.set, IG.set.sets, evV, env0, isNn, strT, muT, lstAt, ownL, lstOf, seqOf, L2.atI, L2.ixN, lim, bnd_ok', go_ok', seq_nx', seq_rt', opt_some', nox_ok', finO_rt, finO_nx, padF, kwF, insOf, h1, hlen, List.map_map, Function.comp_def]
  · obtain ⟨n, hn, rfl⟩ := List.mem_map.mp hw
    have hn : n < m := by simpa using hn
    have hi := in_words (w := qw n) hl (qw_ok (by omega)) hws
    by_cases h : qw n ∈ ws
    · simp [fTurn, wipeE, e2_law_words, q1_law_words, den, ap_evSs, ap_evSs0, IS.ev, IE.ev, IL.ev, IEs.ev, IO.ev, II.ev, IO.test, IA.ev, IA.ev.evs, ap_fNever, ap_fK, ap_fGl, ap_fBin, ap_fNeg, ap_fCmp, ap_fIsN, ap_fTup, ap_fIx, ap_fSl, ap_fFz, ap_fFn, ap_fBi, ap_fNil, ap_fCons, ap_fNo0, ap_fSo, ap_fNot, ap_fChain, ap_fAnd, ap_fOr, ap_fIte, ap_fBl, ap_fNew, ap_fMu, ap_fStr, ap_fRepr, ap_fAttr, ap_fDl, ap_fCat, ap_fRep, ap_fLi, ap_fZ3, ap_fSlL, ap_fSeq, ap_fEn, ap_fPr, ap_fRg2, ap_fTst, ap_fYes, ap_fNx, ap_fAsg, ap_fPar2, ap_fPar3, ap_fIf, ap_fRet, ap_fExp, ap_fG, ap_fSub, ap_fTu, ap_fNo, ap_fCo, ap_fFld, ap_fIsi, k1_fBin, k2_fBin, k1_fNeg, k1_fCmp, k2_fCmp, k1_fIsN, k1_fTup, k1_fIx, k2_fIx, k1_fSl, k2_fSl, k3_fSl, k1_fFz, k1_fBi, k1_fCons, k2_fCons, k1_fSo, k1_fNot, k1_fChain, k2_fChain, k1_fAnd, k1_fOr, k1_fIte, k1_fBl, k1_fNew, k1_fMu, k1_fStr, k1_fRepr, k1_fAttr, k1_fDl, k1_fCat, k2_fCat, k1_fRep, k2_fRep, k1_fLi, k1_fZ3, k2_fZ3, k3_fZ3, k1_fSlL, k2_fSlL, k3_fSlL, k1_fSeq, k1_fEn, k1_fPr, k2_fPr, k1_fRg2, k2_fRg2, k1_fTst, k1_fAsg, k1_fPar2, k1_fPar3, k1_fIf, k1_fRet, k1_fExp, k1_fFor, k1_fSub, k2_fSub, k1_fFld, k2_fFld, k1_fIsi, IG.set, IG.set.sets, evV, env0, isNn, strT, muT, lstAt, ownL, lstOf, seqOf, L2.atI, L2.ixN, lim, bnd_ok', go_ok', seq_nx', seq_rt', opt_some', nox_ok', finO_rt, finO_nx, padF, kwF, insOf, cmpT, hi, h, asBl]
    · simp [fTurn, wipeE, e2_law_words, q1_law_words, den, ap_evSs, ap_evSs0, IS.ev, IE.ev, IL.ev, IEs.ev, IO.ev, II.ev, IO.test, IA.ev, IA.ev.evs, ap_fNever, ap_fK, ap_fGl, ap_fBin, ap_fNeg, ap_fCmp, ap_fIsN, ap_fTup, ap_fIx, ap_fSl, ap_fFz, ap_fFn, ap_fBi, ap_fNil, ap_fCons, ap_fNo0, ap_fSo, ap_fNot, ap_fChain, ap_fAnd, ap_fOr, ap_fIte, ap_fBl, ap_fNew, ap_fMu, ap_fStr, ap_fRepr, ap_fAttr, ap_fDl, ap_fCat, ap_fRep, ap_fLi, ap_fZ3, ap_fSlL, ap_fSeq, ap_fEn, ap_fPr, ap_fRg2, ap_fTst, ap_fYes, ap_fNx, ap_fAsg, ap_fPar2, ap_fPar3, ap_fIf, ap_fRet, ap_fExp, ap_fG, ap_fSub, ap_fTu, ap_fNo, ap_fCo, ap_fFld, ap_fIsi, k1_fBin, k2_fBin, k1_fNeg, k1_fCmp, k2_fCmp, k1_fIsN, k1_fTup, k1_fIx, k2_fIx, k1_fSl, k2_fSl, k3_fSl, k1_fFz, k1_fBi, k1_fCons, k2_fCons, k1_fSo, k1_fNot, k1_fChain, k2_fChain, k1_fAnd, k1_fOr, k1_fIte, k1_fBl, k1_fNew, k1_fMu, k1_fStr, k1_fRepr, k1_fAttr, k1_fDl, k1_fCat, k2_fCat, k1_fRep, k2_fRep, k1_fLi, k1_fZ3, k2_fZ3, k3_fZ3, k1_fSlL, k2_fSlL, k3_fSlL, k1_fSeq, k1_fEn, k1_fPr, k2_fPr, k1_fRg2, k2_fRg2, k1_fTst, k1_fAsg, k1_fPar2, k1_fPar3, k1_fIf, k1_fRet, k1_fExp, k1_fFor, k1_fSub, k2_fSub, k1_fFld, k2_fFld, k1_fIsi, IG.set, IG.set.sets, evV, env0, isNn, strT, muT, lstAt, ownL, lstOf, seqOf, L2.atI, L2.ixN, lim, bnd_ok', go_ok', seq_nx', seq_rt', opt_some', nox_ok', finO_rt, finO_nx, padF, kwF, insOf, cmpT, hi, h, asBl]
/-- a turn with a word that is there already -/
theorem words_b {J J1 : Cell} {rest : Sto} {S F : List T} {m : T} {w v : T} {x3 x4 : Option T} (e : F_law_word [.loc 0] (J :: (rest ++ [.lst S])) = .ok w (J1 :: (rest ++ [.lst S])))
    (hin : inT (J1 :: (rest ++ [.lst S])) w (.loc (rest.length + 1)) = some true) (hl : S.length < 16777216) (hg : (J1 :: (rest ++ [Cell.lst S]))[rest.length + 1]? = some (.lst S)) (hset : (J1 :: (rest ++ [Cell.lst S])).set (rest.length + 1) (.lst (S ++ [v])) = J1 :: (rest ++ [.lst (S ++ [v])]))
    (c : fLc [5] (e2_law_words.ev tb_law_words) (.name 5) (fSeq (fFz (fLc [6] (e1_law_words.ev tb_law_words) (.name 6) (fRg1 (evV 1)) fYes))) (fTst (q1_law_words.ev tb_law_words)) [some (.loc 0), some m, some (.loc (rest.length + 1)), x3, some w, none, none] (J1 :: (rest ++ [.lst S])) = .ok (v :: F) (J1 :: (rest ++ [.lst S]))) (hF : F.length ≤ 100) :
    evSs tb_law_words l1_law_words [some (.loc 0), some m, some (.loc (rest.length + 1)), x3, x4, none, none] (J :: (rest ++ [.lst S])) = .nx [some (.loc 0), some m, some (.loc (rest.length + 1)), x3, some v, none, none] (J1 :: (rest ++ [.lst (S ++ [v])])) := by
  have hF2 : F.length + 1 ≤ 16777216 := by omega
  simp [l1_law_words, tbf_of_law_words, tbc_of_law_words, den, ap_evSs, ap_evSs0, IS.ev, IE.ev, IL.ev, IEs.ev, IO.ev, II.ev, IO.test, IA.ev, IA.ev.evs, ap_fNever, ap_fK, ap_fGl, ap_fBin, ap_fNeg, ap_fCmp, ap_fIsN, ap_fTup, ap_fIx, ap_fSl, ap_fFz, ap_fFn, ap_fBi, ap_fNil, ap_fCons, ap_fNo0, ap_fSo, ap_fNot, ap_fChain, ap_fAnd, ap_fOr, ap_fIte, ap_fBl, ap_fNew, ap_fMu, ap_fStr, ap_fRepr, ap_fAttr, ap_fDl, ap_fCat, ap_fRep, ap_fLi, ap_fZ3, ap_fSlL, ap_fSeq, ap_fEn, ap_fPr, ap_fRg2, ap_fTst, ap_fYes, ap_fNx, ap_fAsg, ap_fPar2, ap_fPar3, ap_fIf, ap_fRet, ap_fExp, ap_fG, ap_fSub, ap_fTu, ap_fNo, ap_fCo, ap_fFld, ap_fIsi, k1_fBin, k2_fBin, k1_fNeg, k1_fCmp, k2_fCmp, k1_fIsN, k1_fTup, k1_fIx, k2_fIx, k1_fSl, k2_fSl, k3_fSl, k1_fFz, k1_fBi, k1_fCons, k2_fCons, k1_fSo, k1_fNot, k1_fChain, k2_fChain, k1_fAnd, k1_fOr, k1_fIte, k1_fBl, k1_fNew, k1_fMu, k1_fStr, k1_fRepr, k1_fAttr, k1_fDl, k1_fCat, k2_fCat, k1_fRep, k2_fRep, k1_fLi, k1_fZ3, k2_fZ3, k3_fZ3, k1_fSlL, k2_fSlL, k3_fSlL, k1_fSeq, k1_fEn, k1_fPr, k2_fPr, k1_fRg2, k2_fRg2, k1_fTst, k1_fAsg, k1_fPar2, k1_fPar3, k1_fIf, k1_fRet, k1_fExp, k1_fFor, k1_fSub, k2_fSub, k1_fFld, k2_fFld, k1_fIsi, IG.set, IG.set.sets, evV, env0, isNn, strT, muT, lstAt, ownL, lstOf, seqOf, L2.atI, L2.ixN, lim, bnd_ok', go_ok', seq_nx', seq_rt', opt_some', nox_ok', finO_rt, finO_nx, padF, kwF, insOf, e, cmpT, hin, hg, hl, hset, c, hF2]
theorem nls_words {ws : List (List Nat)} : Nls (ws.map sW) := nls_of fun x hx => by obtain ⟨w, _, rfl⟩ := List.mem_map.mp hx; unfold sW; simp
theorem words_turn {n m : Nat} {J : Cell} {rest : Sto} {ws : List (List Nat)} {x3 x4 : Option T} (hJ : JC n J) (hn : n + 20 < 10 ^ 9) (hr : NL rest) (hl : ws.length < m) (hm : m ≤ 8) (hd : ws.Nodup) (hws : ∀ x, x ∈ ws → WdOk x) :
    ∃ (v : List Nat) (J1 : Cell) (f4 : Option T), evSs tb_law_words l1_law_words [some (.loc 0), some (.int m), some (.loc (rest.length + 1)), x3, x4, none, none] (J :: (rest ++ [.lst (ws.map sW)])) = .nx [some (.loc 0), some (.int m), some (.loc (rest.length + 1)), x3, f4, none, none] (J1 :: (rest ++ [.lst ((ws ++ [v]).map sW)])) ∧ WdOk v ∧ v ∉ ws ∧ JC (n + 10) J1 := by
  obtain ⟨w, J1, e, hw, hJ1⟩ := word_ok (rest := rest ++ [.lst (ws.map sW)]) hJ hn (NL_app hr (NL_lst nls_words NL_nil))
  have hg : ∀ (J : Cell) (S : List T), (J :: (rest ++ [Cell.lst S]))[rest.length + 1]? = some (.lst S) := fun J S => by simp
  have hset : ∀ (S S' : List T), (J1 :: (rest ++ [Cell.lst S])).set (rest.length + 1) (.lst S') = J1 :: (rest ++ [.lst S']) := fun S S' => by simp
  have hi := in_words (w := w) (hg J1 (ws.map sW)) hw hws
  have hmap : ∀ v, (ws ++ [v]).map sW = ws.map sW ++ [sW v] := fun v => by simp
  by_cases h : w ∈ ws
  · have hf := free_qw (ws := ws) hl hm
    cases hF : ((List.range m).map qw).filter (fun w => decide (w ∉ ws)) with
    | nil => exact absurd hF hf
    | cons v F =>
      have hv : v ∈ ((List.range m).map qw).filter (fun w => decide (w ∉ ws)) := by rw [hF]; exact List.mem_cons_self
      obtain ⟨hv1, hv2⟩ := List.mem_filter.mp hv
      obtain ⟨k, hk, rfl⟩ := List.mem_map.mp hv1
      have hk : k < m := by simpa using hk
      have hFl : F.length ≤ 100 := by
        have h1 := List.length_filter_le (fun w => decide (w ∉ ws)) ((List.range m).map qw)
        rw [hF] at h1
        simp at h1
        omega
      have c := words_c2 (st := J1 :: (rest ++ [.lst (ws.map sW)])) (a := some (.loc 0)) (d := x3) (e := some (sW w)) (f := none) hm (hg J1 _) hws
      rw [hF, List.map_cons] at c
      refine ⟨qw k, J1, some (sW (qw k)), ?_, qw_ok (by omega), of_decide_eq_true hv2, hJ1⟩
      rw [hmap]
      exact words_b e (by rw [show T.str (W w) = sW w from rfl, hi]; simp [h]) (by simp; omega) (hg J1 _) (hset _ _) c (by simpa using hFl)
  · refine ⟨w, J1, some (sW w), ?_, hw, h, hJ1⟩
    rw [hmap]
    exact words_a e (by rw [hi]; simp [h]) (by simp; omega) (hg J1 _) (hset _ _)
theorem words_loop {m : Nat} {rest : Sto} (hr : NL rest) (hm : m ≤ 8) : ∀ (k i n : Nat) (J : Cell) (ws : List (List Nat)) (x3 x4 : Option T), JC n J → n + 10 * k + 100 < 10 ^ 9 → ws.length + k = m → ws.Nodup → (∀ x, x ∈ ws → WdOk x) →
    ∃ (vs : List (List Nat)) (J' : Cell) (f3 f4 : Option T), walkO (.name 3) (evSs tb_law_words l1_law_words) ((List.range' i k).map fun (j : Nat) => T.int (j : Int)) [some (.loc 0), some (.int m), some (.loc (rest.length + 1)), x3, x4, none, none] (J :: (rest ++ [.lst (ws.map sW)])) = .nx [some (.loc 0), some (.int m), some (.loc (rest.length + 1)), f3, f4, none, none] (J' :: (rest ++ [.lst (vs.map sW)])) ∧ vs.length = m ∧ vs.Nodup ∧ (∀ x, x ∈ vs → WdOk x) ∧ JC (n + 10 * k) J'
  | 0, i, n, J, ws, x3, x4, hJ, _, hl, hd, hw => ⟨ws, J, x3, x4, by simp [walkO], by omega, hd, hw, hJ⟩
  | k + 1, i, n, J, ws, x3, x4, hJ, hn, hl, hd, hw => by
    obtain ⟨v, J1, f4, h1, h2, h3, h4⟩ := words_turn (x3 := some (.int i)) (x4 := x4) hJ (by omega) hr (by omega) hm hd hw
    obtain ⟨vs, J', g3, g4, k1, k2, k3, k4, k5⟩ := words_loop hr hm k (i + 1) (n + 10) J1 (ws ++ [v]) (some (.int i)) f4 h4 (by omega) (by simp; omega) (List.nodup_append.mpr ⟨hd, by simp, fun a ha b hb => by rw [List.mem_singleton.mp hb]; exact fun e => h3 (e ▸ ha)⟩) (fun x hx => by
      rcases List.mem_append.mp hx with h | h
      · exact hw x h
      · rw [List.mem_singleton.mp h]; exact h2)
    refine ⟨vs, J', g3, g4, ?_, k2, k3, k4, by rw [show n + 10 * (k + 1) = n + 10 + 10 * k from by omega]; exact k5⟩
    rw [← k1, List.range'_succ, List.map_cons, walkO]
    simp only [IG.set, List.length_cons, List.length_nil]
    rw [if_pos (by decide)]
    simp only [List.set]
    rw [h1]
theorem words_walk {J J' : Cell} {rest : Sto} {m : T} {rng xs : List T} {f3 f4 : Option T} (rg : ∀ st, fRg1 (evV 1) [some (.loc 0), some m, some (.loc (rest.length + 1)), none, none, none, none] st = .ok rng st)
    (hw : walkO (.name 3) (evSs tb_law_words l1_law_words) rng [some (.loc 0), some m, some (.loc (rest.length + 1)), none, none, none, none] (J :: (rest ++ [.lst []])) = .nx [some (.loc 0), some m, some (.loc (rest.length + 1)), f3, f4, none, none] (J' :: (rest ++ [.lst xs]))) :
    F_law_words [.loc 0, m] (J :: rest) = finR tb_law_words.cls false (rest.length + 1) (.loc (rest.length + 1)) (J' :: (rest ++ [.lst xs])) := by
  simp [F_law_words, tbf_of_law_words, tbc_of_law_words, b_law_words, den, ap_evSs, ap_evSs0, IS.ev, IE.ev, IL.ev, IEs.ev, IO.ev, II.ev, IO.test, IA.ev, IA.ev.evs, ap_fNever, ap_fK, ap_fGl, ap_fBin, ap_fNeg, ap_fCmp, ap_fIsN, ap_fTup, ap_fIx, ap_fSl, ap_fFz, ap_fFn, ap_fBi, ap_fNil, ap_fCons, ap_fNo0, ap_fSo, ap_fNot, ap_fChain, ap_fAnd, ap_fOr, ap_fIte, ap_fBl, ap_fNew, ap_fMu, ap_fStr, ap_fRepr, ap_fAttr, ap_fDl, ap_fCat, ap_fRep, ap_fLi, ap_fZ3, ap_fSlL, ap_fSeq, ap_fEn, ap_fPr, ap_fRg2, ap_fTst, ap_fYes, ap_fNx, ap_fAsg, ap_fPar2, ap_fPar3, ap_fIf, ap_fRet, ap_fExp, ap_fG, ap_fSub, ap_fTu, ap_fNo, ap_fCo, ap_fFld, ap_fIsi, k1_fBin, k2_fBin, k1_fNeg, k1_fCmp, k2_fCmp, k1_fIsN, k1_fTup, k1_fIx, k2_fIx, k1_fSl, k2_fSl, k3_fSl, k1_fFz, k1_fBi, k1_fCons, k2_fCons, k1_fSo, k1_fNot, k1_fChain, k2_fChain, k1_fAnd, k1_fOr, k1_fIte, k1_fBl, k1_fNew, k1_fMu, k1_fStr, k1_fRepr, k1_fAttr, k1_fDl, k1_fCat, k2_fCat, k1_fRep, k2_fRep, k1_fLi, k1_fZ3, k2_fZ3, k3_fZ3, k1_fSlL, k2_fSlL, k3_fSlL, k1_fSeq, k1_fEn, k1_fPr, k2_fPr, k1_fRg2, k2_fRg2, k1_fTst, k1_fAsg, k1_fPar2, k1_fPar3, k1_fIf, k1_fRet, k1_fExp, k1_fFor, k1_fSub, k2_fSub, k1_fFld, k2_fFld, k1_fIsi, IG.set, IG.set.sets, evV, env0, isNn, strT, muT, lstAt, ownL, lstOf, seqOf, L2.atI, L2.ixN, lim, bnd_ok', go_ok', seq_nx', seq_rt', opt_some', nox_ok', finO_rt, finO_nx, padF, kwF, insOf, ap_fFor, rg, hw]
theorem words_ok {n m : Nat} {J : Cell} {rest : Sto} (hJ : JC n J) (hn : n + 200 < 10 ^ 9) (hm : m ≤ 8) (hr : NL rest) :
    ∃ (ws : List (List Nat)) (J' : Cell), F_law_words [.loc 0, .int m] (J :: rest) = .ok (.lst (ws.map sW)) (J' :: rest) ∧ ws.length = m ∧ ws.Nodup ∧ (∀ x, x ∈ ws → WdOk x) ∧ JC (n + 10 * m) J' := by
  obtain ⟨ws, J', f3, f4, h1, h2, h3, h4, h5⟩ := words_loop hr hm m 0 n J [] none none hJ (by omega) (by simp) (by simp) (by simp)
  rw [← List.range_eq_range'] at h1
  refine ⟨ws, J', (words_walk (fun st => rg1_eq rfl (by omega)) h1).trans ?_, h2, h3, h4, h5⟩
  exact fin_lst (st := J' :: rest) (loc := [.lst (ws.map sW)]) (NL_cons h5.nl hr) (by simp) (Nat.le_refl _) nls_words
theorem zip_choose {Q : Int → Prop} : ∀ {ws : List (List Nat)} {ys : List T}, ys.length = ws.length → (∀ (i : Nat) y, ys[i]? = some y → ∃ (w : List Nat) (b : Int), ws[i]? = some w ∧ y = mT (w, b) ∧ Q b) → ∃ ps : List (List Nat × Int), ys = ps.map mT ∧ ps.map (·.1) = ws ∧ ∀ p, p ∈ ps → Q p.2
  | [], [], _, _ => ⟨[], rfl, rfl, by simp⟩
  | [], y :: ys, h, _ => by simp at h
  | w :: ws, [], h, _ => by simp at h
  | w :: ws, y :: ys, h, k => by
    obtain ⟨w', b, e1, rfl, q⟩ := k 0 y rfl
    cases e1
    obtain ⟨ps, rfl, h2, h3⟩ := zip_choose (Q := Q) (ws := ws) (ys := ys) (by simpa using h) fun i y hy => by simpa using k (i + 1) y (by simpa using hy)
    exact ⟨(w, b) :: ps, rfl, by simp [h2], fun p hp => (List.mem_cons.mp hp).elim (fun e => e ▸ q) (h3 p)⟩
def BdOk (b : Int) : Prop := 1 ≤ b ∧ b ≤ 4
theorem pairs_hit {st st1 : Sto} {x1 x2 x3 x4 x7 : Option T} {h g m : Int} {xs : List T} (hs : h + g = m) (e : F_law_words [.loc 0, .int m] st = .ok (.lst xs) st1) :
    fSeq (fFn (some ⟨"_law_words", [], padF 2 [] F_law_words⟩) (fCons (evV 0) (fCons (fBin .Add (evV 5) (evV 6)) fNil)) fNil) [some (.loc 0), x1, x2, x3, x4, some (.int h), some (.int g), x7] st = .ok xs st1 := by
  simp [den, ap_evSs, ap_evSs0, IS.ev, IE.ev, IL.ev, IEs.ev, IO.ev, II.ev, IO.test, IA.ev, IA.ev.evs, ap_fNever, ap_fK, ap_fGl, ap_fBin, ap_fNeg, ap_fCmp, ap_fIsN, ap_fTup, ap_fIx, ap_fSl, ap_fFz, ap_fFn, ap_fBi, ap_fNil, ap_fCons, ap_fNo0, ap_fSo, ap_fNot, ap_fChain, ap_fAnd, ap_fOr, ap_fIte, ap_fBl, ap_fNew, ap_fMu, ap_fStr, ap_fRepr, ap_fAttr, ap_fDl, ap_fCat, ap_fRep, ap_fLi, ap_fZ3, ap_fSlL, ap_fSeq, ap_fEn, ap_fPr, ap_fRg2, ap_fTst, ap_fYes, ap_fNx, ap_fAsg, ap_fPar2, ap_fPar3, ap_fIf, ap_fRet, ap_fExp, ap_fG, ap_fSub, ap_fTu, ap_fNo, ap_fCo, ap_fFld, ap_fIsi, k1_fBin, k2_fBin, k1_fNeg, k1_fCmp, k2_fCmp, k1_fIsN, k1_fTup, k1_fIx, k2_fIx, k1_fSl, k2_fSl, k3_fSl, k1_fFz, k1_fBi, k1_fCons, k2_fCons, k1_fSo, k1_fNot, k1_fChain, k2_fChain, k1_fAnd, k1_fOr, k1_fIte, k1_fBl, k1_fNew, k1_fMu, k1_fStr, k1_fRepr, k1_fAttr, k1_fDl, k1_fCat, k2_fCat, k1_fRep, k2_fRep, k1_fLi, k1_fZ3, k2_fZ3, k3_fZ3, k1_fSlL, k2_fSlL, k3_fSlL, k1_fSeq, k1_fEn, k1_fPr, k2_fPr, k1_fRg2, k2_fRg2, k1_fTst, k1_fAsg, k1_fPar2, k1_fPar3, k1_fIf, k1_fRet, k1_fExp, k1_fFor, k1_fSub, k2_fSub, k1_fFld, k2_fFld, k1_fIsi, IG.set, IG.set.sets, evV, env0, isNn, strT, muT, lstAt, ownL, lstOf, seqOf, L2.atI, L2.ixN, lim, bnd_ok', go_ok', seq_nx', seq_rt', opt_some', nox_ok', finO_rt, finO_nx, padF, kwF, insOf, hs, e]
theorem pairs_turn {st st1 : Sto} {x1 x2 x3 x4 x5 x6 x7 : Option T} {d : Int} {w : T} (e : F_law_pour [.loc 0, .int 4] st = .ok (.int d) st1) :
    fTurn [7] (e1_law_parts.ev tb_law_parts) (.name 7) fYes [some (.loc 0), x1, x2, x3, x4, x5, x6, x7] w st = .ok (some (.tup [w, .int (1 + d)])) st1 := by
  simp [fTurn, wipeE, e1_law_parts, den, ap_evSs, ap_evSs0, IS.ev, IE.ev, IL.ev, IEs.ev, IO.ev, II.ev, IO.test, IA.ev, IA.ev.evs, ap_fNever, ap_fK, ap_fGl, ap_fBin, ap_fNeg, ap_fCmp, ap_fIsN, ap_fTup, ap_fIx, ap_fSl, ap_fFz, ap_fFn, ap_fBi, ap_fNil, ap_fCons, ap_fNo0, ap_fSo, ap_fNot, ap_fChain, ap_fAnd, ap_fOr, ap_fIte, ap_fBl, ap_fNew, ap_fMu, ap_fStr, ap_fRepr, ap_fAttr, ap_fDl, ap_fCat, ap_fRep, ap_fLi, ap_fZ3, ap_fSlL, ap_fSeq, ap_fEn, ap_fPr, ap_fRg2, ap_fTst, ap_fYes, ap_fNx, ap_fAsg, ap_fPar2, ap_fPar3, ap_fIf, ap_fRet, ap_fExp, ap_fG, ap_fSub, ap_fTu, ap_fNo, ap_fCo, ap_fFld, ap_fIsi, k1_fBin, k2_fBin, k1_fNeg, k1_fCmp, k2_fCmp, k1_fIsN, k1_fTup, k1_fIx, k2_fIx, k1_fSl, k2_fSl, k3_fSl, k1_fFz, k1_fBi, k1_fCons, k2_fCons, k1_fSo, k1_fNot, k1_fChain, k2_fChain, k1_fAnd, k1_fOr, k1_fIte, k1_fBl, k1_fNew, k1_fMu, k1_fStr, k1_fRepr, k1_fAttr, k1_fDl, k1_fCat, k2_fCat, k1_fRep, k2_fRep, k1_fLi, k1_fZ3, k2_fZ3, k3_fZ3, k1_fSlL, k2_fSlL, k3_fSlL, k1_fSeq, k1_fEn, k1_fPr, k2_fPr, k1_fRg2, k2_fRg2, k1_fTst, k1_fAsg, k1_fPar2, k1_fPar3, k1_fIf, k1_fRet, k1_fExp, k1_fFor, k1_fSub, k2_fSub, k1_fFld, k2_fFld, k1_fIsi, IG.set, IG.set.sets, evV, env0, isNn, strT, muT, lstAt, ownL, lstOf, seqOf, L2.atI, L2.ixN, lim, bnd_ok', go_ok', seq_nx', seq_rt', opt_some', nox_ok', finO_rt, finO_nx, padF, kwF, insOf, tbf_of_law_parts, tbc_of_law_parts, e]
theorem pairs_ok {n m : Nat} {J : Cell} {rest : Sto} {x1 x2 x3 x4 x7 : Option T} {h g : Int} (hJ : JC n J) (hn : n + 400 < 10 ^ 9) (hm : m ≤ 8) (hr : NL rest) (hs : h + g = m) :
    ∃ (ps : List (List Nat × Int)) (J' : Cell), fLc [7] (e1_law_parts.ev tb_law_parts) (.name 7) (fSeq (fFn (some ⟨"_law_words", [], padF 2 [] F_law_words⟩) (fCons (evV 0) (fCons (fBin .Add (evV 5) (evV 6)) fNil)) fNil)) fYes [some (.loc 0), x1, x2, x3, x4, some (.int h), some (.int g), x7] (J :: rest) = .ok (ps.map mT) (J' :: rest) ∧ ps.length = m ∧ (ps.map (·.1)).Nodup ∧ (∀ p, p ∈ ps → WdOk p.1 ∧ BdOk p.2) ∧ JC (n + 90) J' := by
  obtain ⟨ws, J1, e, hl, hd, hw, hJ1⟩ := words_ok (m := m) hJ (by omega) hm hr
  obtain ⟨ys, st, e2, h1, h2, h3⟩ := lc_inv (own := [7]) (fe := e1_law_parts.ev tb_law_parts) (g := .name 7) (fit := fSeq (fFn (some ⟨"_law_words", [], padF 2 [] F_law_words⟩) (fCons (evV 0) (fCons (fBin .Add (evV 5) (evV 6)) fNil)) fNil)) (ft := fYes) (env := [some (.loc 0), x1, x2, x3, x4, some (.int h), some (.int g), x7]) (st := J :: rest) (xs := ws.map sW) (st1 := J1 :: rest)
    (P := fun i st => ∃ J', st = J' :: rest ∧ JC (n + 10 * m + i) J') (Q := fun i t => ∃ (w : List Nat) (b : Int), ws[i]? = some w ∧ t = mT (w, b) ∧ BdOk b) (pairs_hit hs e) (by rw [List.length_map]; omega) ⟨J1, rfl, hJ1⟩ fun i x st hx hP => by
      obtain ⟨J2, rfl, hJ2⟩ := hP
      have hi : i < ws.length := by have := (List.getElem?_eq_some_iff.mp hx).1; simpa using this
      have hwi : ws[i]? = some ws[i] := List.getElem?_eq_getElem hi
      rw [List.getElem?_map, hwi] at hx
      cases hx
      obtain ⟨d, J3, e, h0, hd, hJ3⟩ := pour_eq2 (k := 4) hJ2 (by omega) (by decide) (by decide) hr
      refine ⟨some (mT (ws[i], 1 + d)), J3 :: rest, pairs_turn e, ⟨_, rfl, ws[i], 1 + d, hwi, rfl, by unfold BdOk; omega⟩, J3, rfl, hJ3.mono (by omega)⟩
  obtain ⟨J', rfl, hJ'⟩ := h3
  obtain ⟨ps, rfl, k1, k2⟩ := zip_choose (Q := BdOk) (by simpa using h1) h2
  refine ⟨ps, J', e2, by have := congrArg List.length k1; simp at this; omega, k1 ▸ hd, fun p hp => ⟨hw _ (k1 ▸ List.mem_map.mpr ⟨p, hp, rfl⟩), k2 p hp⟩, hJ'.mono (by rw [List.length_map]; omega)⟩
/-- what stands in the parts of a fair -/
structure PaOk (p : Pa) : Prop where
  ok : POk p
  nd : ((p.h ++ p.g).map (·.1)).Nodup
  wd : ∀ m, m ∈ p.h ++ p.g → WdOk m.1
theorem parts_a {J J1 J2 J3 J4 : Cell} {rest : Sto} {a b d1 d2 H G : Int} {xs : List T} (e1 : F_law_pour [.loc 0, .int a] (J :: rest) = .ok (.int d1) (J1 :: rest)) (e2 : F_law_pour [.loc 0, .int b] (J1 :: rest) = .ok (.int d2) (J2 :: rest)) (hH : 1 + d1 = H) (hG : 1 + d2 = G)
    (c : fLc [7] (e1_law_parts.ev tb_law_parts) (.name 7) (fSeq (fFn (some ⟨"_law_words", [], padF 2 [] F_law_words⟩) (fCons (evV 0) (fCons (fBin .Add (evV 5) (evV 6)) fNil)) fNil)) fYes [some (.loc 0), some (.int a), some (.int b), none, none, some (.int H), some (.int G), none] (J2 :: rest) = .ok xs (J3 :: rest))
    (e3 : F_law_pour [.loc 0, .int 3] (J3 :: rest) = .ok (.int 0) (J4 :: rest)) :
    F_law_parts [.loc 0, .int a, .int b] (J :: rest) = finR tb_law_parts.cls false (rest.length + 1) (.tup [.tup (cut xs none (some H)), .tup (cut xs (some H) none), .non]) (J4 :: rest) := by
  simp [F_law_parts, tbf_of_law_parts, tbc_of_law_parts, b_law_parts, den, ap_evSs, ap_evSs0, IS.ev, IE.ev, IL.ev, IEs.ev, IO.ev, II.ev, IO.test, IA.ev, IA.ev.evs, ap_fNever, ap_fK, ap_fGl, ap_fBin, ap_fNeg, ap_fCmp, ap_fIsN, ap_fTup, ap_fIx, ap_fSl, ap_fFz, ap_fFn, ap_fBi, ap_fNil, ap_fCons, ap_fNo0, ap_fSo, ap_fNot, ap_fChain, ap_fAnd, ap_fOr, ap_fIte, ap_fBl, ap_fNew, ap_fMu, ap_fStr, ap_fRepr, ap_fAttr, ap_fDl, ap_fCat, ap_fRep, ap_fLi, ap_fZ3, ap_fSlL, ap_fSeq, ap_fEn, ap_fPr, ap_fRg2, ap_fTst, ap_fYes, ap_fNx, ap_fAsg, ap_fPar2, ap_fPar3, ap_fIf, ap_fRet, ap_fExp, ap_fG, ap_fSub, ap_fTu, ap_fNo, ap_fCo, ap_fFld, ap_fIsi, k1_fBin, k2_fBin, k1_fNeg, k1_fCmp, k2_fCmp, k1_fIsN, k1_fTup, k1_fIx, k2_fIx, k1_fSl, k2_fSl, k3_fSl, k1_fFz, k1_fBi, k1_fCons, k2_fCons, k1_fSo, k1_fNot, k1_fChain, k2_fChain, k1_fAnd, k1_fOr, k1_fIte, k1_fBl, k1_fNew, k1_fMu, k1_fStr, k1_fRepr, k1_fAttr, k1_fDl, k1_fCat, k2_fCat, k1_fRep, k2_fRep, k1_fLi, k1_fZ3, k2_fZ3, k3_fZ3, k1_fSlL, k2_fSlL, k3_fSlL, k1_fSeq, k1_fEn, k1_fPr, k2_fPr, k1_fRg2, k2_fRg2, k1_fTst, k1_fAsg, k1_fPar2, k1_fPar3, k1_fIf, k1_fRet, k1_fExp, k1_fFor, k1_fSub, k2_fSub, k1_fFld, k2_fFld, k1_fIsi, IG.set, IG.set.sets, evV, env0, isNn, strT, muT, lstAt, ownL, lstOf, seqOf, L2.atI, L2.ixN, lim, bnd_ok', go_ok', seq_nx', seq_rt', opt_some', nox_ok', finO_rt, finO_nx, padF, kwF, insOf, e1, e2, hH, hG, c, e3]
theorem parts_b {J J1 J2 J3 J4 J5 : Cell} {rest : Sto} {a b d1 d2 d3 d4 H G : Int} {xs : List T} (e1 : F_law_pour [.loc 0, .int a] (J :: rest) = .ok (.int d1) (J1 :: rest)) (e2 : F_law_pour [.loc 0, .int b] (J1 :: rest) = .ok (.int d2) (J2 :: rest)) (hH : 1 + d1 = H) (hG : 1 + d2 = G)
    (c : fLc [7] (e1_law_parts.ev tb_law_parts) (.name 7) (fSeq (fFn (some ⟨"_law_words", [], padF 2 [] F_law_words⟩) (fCons (evV 0) (fCons (fBin .Add (evV 5) (evV 6)) fNil)) fNil)) fYes [some (.loc 0), some (.int a), some (.int b), none, none, some (.int H), some (.int G), none] (J2 :: rest) = .ok xs (J3 :: rest))
    (e3 : F_law_pour [.loc 0, .int 3] (J3 :: rest) = .ok (.int d3) (J4 :: rest)) (h3 : (d3 == 0) = false) (e4 : F_law_pour [.loc 0, .int 12] (J4 :: rest) = .ok (.int d4) (J5 :: rest)) :
    F_law_parts [.loc 0, .int a, .int b] (J :: rest) = finR tb_law_parts.cls false (rest.length + 1) (.tup [.tup (cut xs none (some H)), .tup (cut xs (some H) none), .int (1 + d4)]) (J5 :: rest) := by
  simp [F_law_parts, tbf_of_law_parts, tbc_of_law_parts, b_law_parts, den, ap_evSs, ap_evSs0, IS.ev, IE.ev, IL.ev, IEs.ev, IO.ev, II.ev, IO.test, IA.ev, IA.ev.evs, ap_fNever, ap_fK, ap_fGl, ap_fBin, ap_fNeg, ap_fCmp, ap_fIsN, ap_fTup, ap_fIx, ap_fSl, ap_fFz, ap_fFn, ap_fBi, ap_fNil, ap_fCons, ap_fNo0, ap_fSo, ap_fNot, ap_fChain, ap_fAnd, ap_fOr, ap_fIte, ap_fBl, ap_fNew, ap_fMu, ap_fStr, ap_fRepr, ap_fAttr, ap_fDl, ap_fCat, ap_fRep, ap_fLi, ap_fZ3, ap_fSlL, ap_fSeq, ap_fEn, ap_fPr, ap_fRg2, ap_fTst, ap_fYes, ap_fNx, ap_fAsg, ap_fPar2, ap_fPar3, ap_fIf, ap_fRet, ap_fExp, ap_fG, ap_fSub, ap_fTu, ap_fNo, ap_fCo, ap_fFld, ap_fIsi, k1_fBin, k2_fBin, k1_fNeg, k1_fCmp, k2_fCmp, k1_fIsN, k1_fTup, k1_fIx, k2_fIx, k1_fSl, k2_fSl, k3_fSl, k1_fFz, k1_fBi, k1_fCons, k2_fCons, k1_fSo, k1_fNot, k1_fChain, k2_fChain, k1_fAnd, k1_fOr, k1_fIte, k1_fBl, k1_fNew, k1_fMu, k1_fStr, k1_fRepr, k1_fAttr, k1_fDl, k1_fCat, k2_fCat, k1_fRep, k2_fRep, k1_fLi, k1_fZ3, k2_fZ3, k3_fZ3, k1_fSlL, k2_fSlL, k3_fSlL, k1_fSeq, k1_fEn, k1_fPr, k2_fPr, k1_fRg2, k2_fRg2, k1_fTst, k1_fAsg, k1_fPar2, k1_fPar3, k1_fIf, k1_fRet, k1_fExp, k1_fFor, k1_fSub, k2_fSub, k1_fFld, k2_fFld, k1_fIsi, IG.set, IG.set.sets, evV, env0, isNn, strT, muT, lstAt, ownL, lstOf, seqOf, L2.atI, L2.ixN, lim, bnd_ok', go_ok', seq_nx', seq_rt', opt_some', nox_ok', finO_rt, finO_nx, padF, kwF, insOf, e1, e2, hH, hG, c, e3, h3, e4]
theorem parts_ok {n a b : Nat} {J : Cell} {rest : Sto} (hJ : JC n J) (hn : n + 500 < 10 ^ 9) (ha : 0 < a) (ha4 : a ≤ 4) (hb : 0 < b) (hb4 : b ≤ 4) (hr : NL rest) :
    ∃ (p : Pa) (J' : Cell), F_law_parts [.loc 0, .int a, .int b] (J :: rest) = .ok (partsT p) (J' :: rest) ∧ PaOk p ∧ p.h.length ≤ a ∧ p.g.length ≤ b ∧ JC (n + 100) J' := by
  obtain ⟨d1, J1, e1, h10, h11, hJ1⟩ := pour_eq2 (k := a) hJ (by omega) (by omega) (by omega) hr
  obtain ⟨d2, J2, e2, h20, h21, hJ2⟩ := pour_eq2 (k := b) hJ1 (by omega) (by omega) (by omega) hr
  obtain ⟨d1, rfl⟩ := Int.eq_ofNat_of_zero_le h10
  obtain ⟨d2, rfl⟩ := Int.eq_ofNat_of_zero_le h20
  have hH : 1 + (d1 : Int) = ((d1 + 1 : Nat) : Int) := by omega
  have hG : 1 + (d2 : Int) = ((d2 + 1 : Nat) : Int) := by omega
  obtain ⟨ps, J3, c, hl, hd, hw, hJ3⟩ := pairs_ok (x1 := some (.int a)) (x2 := some (.int b)) (x3 := none) (x4 := none) (x7 := none) (m := d1 + 1 + (d2 + 1)) (h := ((d1 + 1 : Nat) : Int)) (g := ((d2 + 1 : Nat) : Int)) hJ2 (by omega) (by omega) hr (by omega)
  obtain ⟨d3, J4, e3, h30, h31, hJ4⟩ := pour_eq2 (k := 3) hJ3 (by omega) (by decide) (by decide) hr
  have key : ∀ d : Option Int, (∀ x, d = some x → 1 ≤ x ∧ x ≤ 12) → PaOk ⟨ps.take (d1 + 1), ps.drop (d1 + 1), d⟩ := fun d hd2 => by
    have l1 : (ps.take (d1 + 1)).length = d1 + 1 := by rw [List.length_take]; omega
    have l2 : (ps.drop (d1 + 1)).length = d2 + 1 := by rw [List.length_drop]; omega
    refine ⟨⟨fun z => ?_, ?_, fun z => ?_, ?_, fun m hm => (hw m (List.mem_of_mem_take hm)).2, fun m hm => (hw m (List.mem_of_mem_drop hm)).2, hd2⟩, ?_, fun m hm => ?_⟩
    · have z : ps.take (d1 + 1) = [] := z
      rw [z] at l1; simp at l1
    · show (ps.take (d1 + 1)).length ≤ 4
      omega
    · have z : ps.drop (d1 + 1) = [] := z
      rw [z] at l2; simp at l2
    · show (ps.drop (d1 + 1)).length ≤ 4
      omega
    · show ((ps.take (d1 + 1) ++ ps.drop (d1 + 1)).map (·.1)).Nodup
      rw [List.take_append_drop]; exact hd
    · have hm : m ∈ ps.take (d1 + 1) ++ ps.drop (d1 + 1) := hm
      rw [List.take_append_drop] at hm
      exact (hw m hm).1
  have l1 : (ps.take (d1 + 1)).length ≤ a := by rw [List.length_take]; omega
  have l2 : (ps.drop (d1 + 1)).length ≤ b := by rw [List.length_drop]; omega
  have form : ∀ d : Option Int, T.tup [.tup (cut (ps.map mT) none (some ((d1 + 1 : Nat) : Int))), .tup (cut (ps.map mT) (some ((d1 + 1 : Nat) : Int)) none), dT d] = partsT ⟨ps.take (d1 + 1), ps.drop (d1 + 1), d⟩ := fun d => by
    rw [cut_take, cut_drop]
    unfold partsT sT
    rw [List.map_take, List.map_drop]
  by_cases h3 : d3 = 0
  · subst h3
    refine ⟨⟨_, _, none⟩, J4, ((parts_a e1 e2 hH hG c e3).trans ?_), key none (by simp), l1, l2, hJ4.mono (by omega)⟩
    rw [← form none]
    exact fin_jug hJ4 hr (by rw [show T.non = dT none from rfl, form none]; unfold partsT; simp [nl_sT, nl_dT])
  · obtain ⟨d4, J5, e4, h40, h41, hJ5⟩ := pour_eq2 (k := 12) hJ4 (by omega) (by decide) (by decide) hr
    refine ⟨⟨_, _, some (1 + d4)⟩, J5, ((parts_b e1 e2 hH hG c e3 (beq_false_of_ne h3) e4).trans ?_), key (some (1 + d4)) (fun x hx => by cases hx; omega), l1, l2, hJ5.mono (by omega)⟩
    rw [← form (some (1 + d4))]
    exact fin_jug hJ5 hr (by rw [show T.int (1 + d4) = dT (some (1 + d4)) from rfl, form]; unfold partsT; simp [nl_sT, nl_dT])
theorem len_str' {x : PySem.Str} {st : Sto} (h : x.length ≤ 16777216) : biT st .len [.str x] = some (.int x.length) := if_pos h
theorem letter_in : ∀ c : Fin 26, strIn (W [97 + c.val]) "abcdefghijklmnopqrstuvwxyz" = true := by decide +kernel
theorem figure_in : ∀ c : Fin 10, strIn (W [48 + c.val]) "0123456789" = true := by decide +kernel
theorem lt_in {c : Nat} {st : Sto} (h : Lt c) : inT st (.str (W [c])) (.str "abcdefghijklmnopqrstuvwxyz") = some true := by
  have := letter_in ⟨c - 97, by unfold Lt at h; omega⟩
  have e : 97 + (c - 97) = c := by unfold Lt at h; omega
  simp only [e] at this
  show some (strIn _ _) = _
  rw [this]
theorem sg_in {c : Nat} {st : Sto} (h : Sg c) : ∃ k, inT st (.str (W [c])) (.str "abcdefghijklmnopqrstuvwxyz") = some k ∧ (k = false → inT st (.str (W [c])) (.str "0123456789") = some true) := by
  rcases h with h | h
  · exact ⟨true, lt_in h, by simp⟩
  · refine ⟨strIn (W [c]) "abcdefghijklmnopqrstuvwxyz", rfl, fun _ => ?_⟩
    have := figure_in ⟨c - 48, by omega⟩
    have e : 48 + (c - 48) = c := by omega
    simp only [e] at this
    show some (strIn _ _) = _
    rw [this]
theorem chars_W {w : List Nat} : chars (W w) = w.map fun c => T.str (W [c]) := by
  simp [chars, W]
theorem all_true {B : Type} {xs : List B} {st : Sto} : biT st .all [.lst (xs.map fun _ => T.bl true)] = some (.bl true) := by
  have : ∀ xs : List B, blsOf (xs.map fun _ => T.bl true) = some (xs.map fun _ => true) := fun xs => by
    induction xs with
    | nil => rfl
    | cons x xs ih => show (blsOf (xs.map fun _ => T.bl true)).map (true :: ·) = _; rw [ih]; rfl
  show ((some (xs.map fun _ => T.bl true)).bind blsOf).map (fun bs => T.bl (bs.all id)) = _
  rw [Option.bind_some, this]
  simp
theorem W_ix0 {c : Nat} {w : List Nat} {st : Sto} (h : w.length ≤ 100) (h0 : w[0]? = some c) : ixT st (.str (W w)) (.int 0) = some (.str (W [c])) := by
  show (if (W w).length ≤ lim then (L2.atI (W w).cps.toList 0).map fun c => T.str ⟨#[c]⟩ else none) = _
  rw [if_pos (by rw [len_W]; simp [lim]; omega)]
  have : (W w).cps.toList = w := by simp [W]
  rw [this, show (0 : Int) = ((0 : Nat) : Int) from rfl, L2.atI_nat h0]
  rfl
theorem name_walk {w : List Nat} {c : Nat} {st : Sto} (h1 : 1 ≤ w.length) (h2 : w.length ≤ 8) (ix : ixT st (.str (W w)) (.int 0) = some (.str (W [c]))) (i1 : inT st (.str (W [c])) (.str "abcdefghijklmnopqrstuvwxyz") = some true)
    (l : biT st .len [.str (W w)] = some (.int w.length))
    (h : fLc [1] (e1_is_name.ev tb_is_name) (.name 1) (fSeq (evV 0)) fYes [some (.str (W w)), none] st = .ok (w.map fun _ => T.bl true) st) (al : biT st .all [.lst (w.map fun _ => T.bl true)] = some (.bl true)) :
    F_is_name [.str (W w)] st = finR tb_is_name.cls false st.length (.bl true) st := by
  have h1' : (1 : Int) ≤ w.length := by omega
  have h2' : (w.length : Int) ≤ 8 := by omega
  simp [F_is_name, tbf_of_is_name, tbc_of_is_name, i0_of_is_name, i1_of_is_name, i2_of_is_name, i3_of_is_name, i4_of_is_name, i5_of_is_name, b_is_name, den, ap_evSs, ap_evSs0, IS.ev, IE.ev, IL.ev, IEs.ev, IO.ev, II.ev, IO.test, IA.ev, IA.ev.evs, ap_fNever, ap_fK, ap_fGl, ap_fBin, ap_fNeg, ap_fCmp, ap_fIsN, ap_fTup, ap_fIx, ap_fSl, ap_fFz, ap_fFn, ap_fBi, ap_fNil, ap_fCons, ap_fNo0, ap_fSo, ap_fNot, ap_fChain, ap_fAnd, ap_fOr, ap_fIte, ap_fBl, ap_fNew, ap_fMu, ap_fStr, ap_fRepr, ap_fAttr, ap_fDl, ap_fCat, ap_fRep, ap_fLi, ap_fZ3, ap_fSlL, ap_fSeq, ap_fEn, ap_fPr, ap_fRg2, ap_fTst, ap_fYes, ap_fNx, ap_fAsg, ap_fPar2, ap_fPar3, ap_fIf, ap_fRet, ap_fExp, ap_fG, ap_fSub, ap_fTu, ap_fNo, ap_fCo, ap_fFld, ap_fIsi, k1_fBin, k2_fBin, k1_fNeg, k1_fCmp, k2_fCmp, k1_fIsN, k1_fTup, k1_fIx, k2_fIx, k1_fSl, k2_fSl, k3_fSl, k1_fFz, k1_fBi, k1_fCons, k2_fCons, k1_fSo, k1_fNot, k1_fChain, k2_fChain, k1_fAnd, k1_fOr, k1_fIte, k1_fBl, k1_fNew, k1_fMu, k1_fStr, k1_fRepr, k1_fAttr, k1_fDl, k1_fCat, k2_fCat, k1_fRep, k2_fRep, k1_fLi, k1_fZ3, k2_fZ3, k3_fZ3, k1_fSlL, k2_fSlL, k3_fSlL, k1_fSeq, k1_fEn, k1_fPr, k2_fPr, k1_fRg2, k2_fRg2, k1_fTst, k1_fAsg, k1_fPar2, k1_fPar3, k1_fIf, k1_fRet, k1_fExp, k1_fFor, k1_fSub, k2_fSub, k1_fFld, k2_fFld, k1_fIsi, IG.set, IG.set.sets, evV, env0, isNn, strT, muT, lstAt, ownL, lstOf, seqOf, L2.atI, L2.ixN, lim, bnd_ok', go_ok', seq_nx', seq_rt', opt_some', nox_ok', finO_rt, finO_nx, padF, kwF, insOf, l, h1', h2', cmpT, ix, i1, h, al, asBl]
theorem is_name_ok {w : List Nat} {st : Sto} (hs : NL st) (hw : WdOk w) : F_is_name [.str (W w)] st = .ok (.bl true) st := by
  obtain ⟨h1, h2, h3, h4⟩ := hw
  have hc : ∃ c, w[0]? = some c := ⟨w[0], List.getElem?_eq_getElem (by omega)⟩
  obtain ⟨c, hc⟩ := hc
  refine (name_walk h1 h2 (W_ix0 (by omega) hc) (lt_in (h4 c hc)) (by rw [len_str' (by rw [len_W]; omega), len_W]) ?_ all_true).trans (fin_nl0 hs (by simp))
  refine lc_mapE (emb := fun c => T.str (W [c])) (by simp [den, ap_evSs, ap_evSs0, IS.ev, IE.ev, IL.ev, IEs.ev, IO.ev, II.ev, IO.test, IA.ev, IA.ev.evs, ap_fNever, ap_fK, ap_fGl, ap_fBin, ap_fNeg, ap_fCmp, ap_fIsN, ap_fTup, ap_fIx, ap_fSl, ap_fFz, ap_fFn, ap_fBi, ap_fNil, ap_fCons, ap_fNo0, ap_fSo, ap_fNot, ap_fChain, ap_fAnd, ap_fOr, ap_fIte, ap_fBl, ap_fNew, ap_fMu, ap_fStr, ap_fRepr, ap_fAttr, ap_fDl, ap_fCat, ap_fRep, ap_fLi, ap_fZ3, ap_fSlL, ap_fSeq, ap_fEn, ap_fPr, ap_fRg2, ap_fTst, ap_fYes, ap_fNx, ap_fAsg, ap_fPar2, ap_fPar3, ap_fIf, ap_fRet, ap_fExp, ap_fG, ap_fSub, ap_fTu, ap_fNo, ap_fCo, ap_fFld, ap_fIsi, k1_fBin, k2_fBin, k1_fNeg, k1_fCmp, k2_fCmp, k1_fIsN, k1_fTup, k1_fIx, k2_fIx, k1_fSl, k2_fSl, k3_fSl, k1_fFz, k1_fBi, k1_fCons, k2_fCons, k1_fSo, k1_fNot, k1_fChain, k2_fChain, k1_fAnd, k1_fOr, k1_fIte, k1_fBl, k1_fNew, k1_fMu, k1_fStr, k1_fRepr, k1_fAttr, k1_fDl, k1_fCat, k2_fCat, k1_fRep, k2_fRep, k1_fLi, k1_fZ3, k2_fZ3, k3_fZ3, k1_fSlL, k2_fSlL, k3_fSlL, k1_fSeq, k1_fEn, k1_fPr, k2_fPr, k1_fRg2, k2_fRg2, k1_fTst, k1_fAsg, k1_fPar2, k1_fPar3, k1_fIf, k1_fRet, k1_fExp, k1_fFor, k1_fSub, k2_fSub, k1_fFld, k2_fFld, k1_fIsi, IG.set, IG.set.sets, evV, env0, isNn, strT, muT, lstAt, ownL, lstOf, seqOf, L2.atI, L2.ixN, lim, bnd_ok', go_ok', seq_nx', seq_rt', opt_some', nox_ok', finO_rt, finO_nx, padF, kwF, insOf, chars_W]) (by omega) fun x hx => ?_
  obtain ⟨k, k1, k2⟩ := sg_in (st := st) (h3 x hx)
  cases k with
  | true => simp [fTurn, wipeE, e1_is_name, tbf_of_is_name, tbc_of_is_name, i0_of_is_name, i1_of_is_name, i2_of_is_name, i3_of_is_name, i4_of_is_name, i5_of_is_name, den, ap_evSs, ap_evSs0, IS.ev, IE.ev, IL.ev, IEs.ev, IO.ev, II.ev, IO.test, IA.ev, IA.ev.evs, ap_fNever, ap_fK, ap_fGl, ap_fBin, ap_fNeg, ap_fCmp, ap_fIsN, ap_fTup, ap_fIx, ap_fSl, ap_fFz, ap_fFn, ap_fBi, ap_fNil, ap_fCons, ap_fNo0, ap_fSo, ap_fNot, ap_fChain, ap_fAnd, ap_fOr, ap_fIte, ap_fBl, ap_fNew, ap_fMu, ap_fStr, ap_fRepr, ap_fAttr, ap_fDl, ap_fCat, ap_fRep, ap_fLi, ap_fZ3, ap_fSlL, ap_fSeq, ap_fEn, ap_fPr, ap_fRg2, ap_fTst, ap_fYes, ap_fNx, ap_fAsg, ap_fPar2, ap_fPar3, ap_fIf, ap_fRet, ap_fExp, ap_fG, ap_fSub, ap_fTu, ap_fNo, ap_fCo, ap_fFld, ap_fIsi, k1_fBin, k2_fBin, k1_fNeg, k1_fCmp, k2_fCmp, k1_fIsN, k1_fTup, k1_fIx, k2_fIx, k1_fSl, k2_fSl, k3_fSl, k1_fFz, k1_fBi, k1_fCons, k2_fCons, k1_fSo, k1_fNot, k1_fChain, k2_fChain, k1_fAnd, k1_fOr, k1_fIte, k1_fBl, k1_fNew, k1_fMu, k1_fStr, k1_fRepr, k1_fAttr, k1_fDl, k1_fCat, k2_fCat, k1_fRep, k2_fRep, k1_fLi, k1_fZ3, k2_fZ3, k3_fZ3, k1_fSlL, k2_fSlL, k3_fSlL, k1_fSeq, k1_fEn, k1_fPr, k2_fPr, k1_fRg2, k2_fRg2, k1_fTst, k1_fAsg, k1_fPar2, k1_fPar3, k1_fIf, k1_fRet, k1_fExp, k1_fFor, k1_fSub, k2_fSub, k1_fFld, k2_fFld, k1_fIsi, IG.set, IG.set.sets, evV, env0, isNn, strT, muT, lstAt, ownL, lstOf, seqOf, L2.atI, L2.ixN, lim, bnd_ok', go_ok', seq_nx', seq_rt', opt_some', nox_ok', finO_rt, finO_nx, padF, kwF, insOf, cmpT, k1, asBl]
  | false => simp [fTurn, wipeE, e1_is_name, tbf_of_is_name, tbc_of_is_name, i0_of_is_name, i1_of_is_name, i2_of_is_name, i3_of_is_name, i4_of_is_name, i5_of_is_name, den, ap_evSs, ap_evSs0, IS.ev, IE.ev, IL.ev, IEs.ev, IO.ev, II.ev, IO.test, IA.ev, IA.ev.evs, ap_fNever, ap_fK, ap_fGl, ap_fBin, ap_fNeg, ap_fCmp, ap_fIsN, ap_fTup, ap_fIx, ap_fSl, ap_fFz, ap_fFn, ap_fBi, ap_fNil, ap_fCons, ap_fNo0, ap_fSo, ap_fNot, ap_fChain, ap_fAnd, ap_fOr, ap_fIte, ap_fBl, ap_fNew, ap_fMu, ap_fStr, ap_fRepr, ap_fAttr, ap_fDl, ap_fCat, ap_fRep, ap_fLi, ap_fZ3, ap_fSlL, ap_fSeq, ap_fEn, ap_fPr, ap_fRg2, ap_fTst, ap_fYes, ap_fNx, ap_fAsg, ap_fPar2, ap_fPar3, ap_fIf, ap_fRet, ap_fExp, ap_fG, ap_fSub, ap_fTu, ap_fNo, ap_fCo, ap_fFld, ap_fIsi, k1_fBin, k2_fBin, k1_fNeg, k1_fCmp, k2_fCmp, k1_fIsN, k1_fTup, k1_fIx, k2_fIx, k1_fSl, k2_fSl, k3_fSl, k1_fFz, k1_fBi, k1_fCons, k2_fCons, k1_fSo, k1_fNot, k1_fChain, k2_fChain, k1_fAnd, k1_fOr, k1_fIte, k1_fBl, k1_fNew, k1_fMu, k1_fStr, k1_fRepr, k1_fAttr, k1_fDl, k1_fCat, k2_fCat, k1_fRep, k2_fRep, k1_fLi, k1_fZ3, k2_fZ3, k3_fZ3, k1_fSlL, k2_fSlL, k3_fSlL, k1_fSeq, k1_fEn, k1_fPr, k2_fPr, k1_fRg2, k2_fRg2, k1_fTst, k1_fAsg, k1_fPar2, k1_fPar3, k1_fIf, k1_fRet, k1_fExp, k1_fFor, k1_fSub, k2_fSub, k1_fFld, k2_fFld, k1_fIsi, IG.set, IG.set.sets, evV, env0, isNn, strT, muT, lstAt, ownL, lstOf, seqOf, L2.atI, L2.ixN, lim, bnd_ok', go_ok', seq_nx', seq_rt', opt_some', nox_ok', finO_rt, finO_nx, padF, kwF, insOf, cmpT, k1, k2 rfl, asBl]
theorem is_member_ok {m : List Nat × Int} {st : Sto} (hs : NL st) (hw : WdOk m.1) (hb : 1 ≤ m.2 ∧ m.2 ≤ 4) : F_is_member [mT m] st = .ok (.bl true) st := by
  have h1 := is_name_ok hs hw
  have h2 := is_within_ok (a := m.2) (lo := 1) (hi := 4) hs
  simp [F_is_member, tbf_of_is_member, tbc_of_is_member, i0_of_is_member, i1_of_is_member, i2_of_is_member, i3_of_is_member, i4_of_is_member, i5_of_is_member, b_is_member, den, ap_evSs, ap_evSs0, IS.ev, IE.ev, IL.ev, IEs.ev, IO.ev, II.ev, IO.test, IA.ev, IA.ev.evs, ap_fNever, ap_fK, ap_fGl, ap_fBin, ap_fNeg, ap_fCmp, ap_fIsN, ap_fTup, ap_fIx, ap_fSl, ap_fFz, ap_fFn, ap_fBi, ap_fNil, ap_fCons, ap_fNo0, ap_fSo, ap_fNot, ap_fChain, ap_fAnd, ap_fOr, ap_fIte, ap_fBl, ap_fNew, ap_fMu, ap_fStr, ap_fRepr, ap_fAttr, ap_fDl, ap_fCat, ap_fRep, ap_fLi, ap_fZ3, ap_fSlL, ap_fSeq, ap_fEn, ap_fPr, ap_fRg2, ap_fTst, ap_fYes, ap_fNx, ap_fAsg, ap_fPar2, ap_fPar3, ap_fIf, ap_fRet, ap_fExp, ap_fG, ap_fSub, ap_fTu, ap_fNo, ap_fCo, ap_fFld, ap_fIsi, k1_fBin, k2_fBin, k1_fNeg, k1_fCmp, k2_fCmp, k1_fIsN, k1_fTup, k1_fIx, k2_fIx, k1_fSl, k2_fSl, k3_fSl, k1_fFz, k1_fBi, k1_fCons, k2_fCons, k1_fSo, k1_fNot, k1_fChain, k2_fChain, k1_fAnd, k1_fOr, k1_fIte, k1_fBl, k1_fNew, k1_fMu, k1_fStr, k1_fRepr, k1_fAttr, k1_fDl, k1_fCat, k2_fCat, k1_fRep, k2_fRep, k1_fLi, k1_fZ3, k2_fZ3, k3_fZ3, k1_fSlL, k2_fSlL, k3_fSlL, k1_fSeq, k1_fEn, k1_fPr, k2_fPr, k1_fRg2, k2_fRg2, k1_fTst, k1_fAsg, k1_fPar2, k1_fPar3, k1_fIf, k1_fRet, k1_fExp, k1_fFor, k1_fSub, k2_fSub, k1_fFld, k2_fFld, k1_fIsi, IG.set, IG.set.sets, evV, env0, isNn, strT, muT, lstAt, ownL, lstOf, seqOf, L2.atI, L2.ixN, lim, bnd_ok', go_ok', seq_nx', seq_rt', opt_some', nox_ok', finO_rt, finO_nx, padF, kwF, insOf, mT, h1, h2, hb]
  exact fin_nl0 hs (by simp)
theorem in_wordsT {ws : List (List Nat)} {w : List Nat} {st : Sto} (hw : WdOk w) (hws : ∀ x, x ∈ ws → WdOk x) : inT st (sW w) (.tup (ws.map sW)) = some (decide (w ∈ ws)) := by
  have h : ([Cell.lst (ws.map sW)] : Sto)[0]? = some (.lst (ws.map sW)) := rfl
  have := in_words (w := w) h hw hws
  exact this
theorem wm_turn {N : List T} {s m : T} {nm : PySem.Str} {n : Int} {st : Sto} {x4 : Option T} {xs : List T} (e1 : F_is_member [m] st = .ok (.bl true) st) (hn : ¬ (4 ≤ n)) (ix : ∀ st, ixT st m (.int 0) = some (.str nm))
    (c : fLc [4] (e1_wrong_member.ev tb_wrong_member) (.name 4) (fSeq (fSl (evV 0) fNo' (fSo (evV 2)))) fYes [some s, some (.tup N), some (.int n), some m, x4] st = .ok xs st) (hl : N.length + xs.length ≤ 16777216) (i : inT st (.str nm) (.tup (N ++ xs)) = some false) :
    evSs tb_wrong_member l1_wrong_member [some s, some (.tup N), some (.int n), some m, x4] st = .nx [some s, some (.tup N), some (.int n), some m, x4] st := by
  have bt : binT .Add (.tup N) (.tup xs) = some (.tup (N ++ xs)) := if_pos hl
  simp [l1_wrong_member, tbf_of_wrong_member, tbc_of_wrong_member, den, ap_evSs, ap_evSs0, IS.ev, IE.ev, IL.ev, IEs.ev, IO.ev, II.ev, IO.test, IA.ev, IA.ev.evs, ap_fNever, ap_fK, ap_fGl, ap_fBin, ap_fNeg, ap_fCmp, ap_fIsN, ap_fTup, ap_fIx, ap_fSl, ap_fFz, ap_fFn, ap_fBi, ap_fNil, ap_fCons, ap_fNo0, ap_fSo, ap_fNot, ap_fChain, ap_fAnd, ap_fOr, ap_fIte, ap_fBl, ap_fNew, ap_fMu, ap_fStr, ap_fRepr, ap_fAttr, ap_fDl, ap_fCat, ap_fRep, ap_fLi, ap_fZ3, ap_fSlL, ap_fSeq, ap_fEn, ap_fPr, ap_fRg2, ap_fTst, ap_fYes, ap_fNx, ap_fAsg, ap_fPar2, ap_fPar3, ap_fIf, ap_fRet, ap_fExp, ap_fG, ap_fSub, ap_fTu, ap_fNo, ap_fCo, ap_fFld, ap_fIsi, k1_fBin, k2_fBin, k1_fNeg, k1_fCmp, k2_fCmp, k1_fIsN, k1_fTup, k1_fIx, k2_fIx, k1_fSl, k2_fSl, k3_fSl, k1_fFz, k1_fBi, k1_fCons, k2_fCons, k1_fSo, k1_fNot, k1_fChain, k2_fChain, k1_fAnd, k1_fOr, k1_fIte, k1_fBl, k1_fNew, k1_fMu, k1_fStr, k1_fRepr, k1_fAttr, k1_fDl, k1_fCat, k2_fCat, k1_fRep, k2_fRep, k1_fLi, k1_fZ3, k2_fZ3, k3_fZ3, k1_fSlL, k2_fSlL, k3_fSlL, k1_fSeq, k1_fEn, k1_fPr, k2_fPr, k1_fRg2, k2_fRg2, k1_fTst, k1_fAsg, k1_fPar2, k1_fPar3, k1_fIf, k1_fRet, k1_fExp, k1_fFor, k1_fSub, k2_fSub, k1_fFld, k2_fFld, k1_fIsi, IG.set, IG.set.sets, evV, env0, isNn, strT, muT, lstAt, ownL, lstOf, seqOf, L2.atI, L2.ixN, lim, bnd_ok', go_ok', seq_nx', seq_rt', opt_some', nox_ok', finO_rt, finO_nx, padF, kwF, insOf, e1, hn, ix, c, bt, cmpT, i, asBl]
theorem wrong_member_ok {ns : List (List Nat)} {s : List (List Nat × Int)} {st : Sto} (hs : NL st) (hl : s.length ≤ 4) (hnl : ns.length ≤ 4) (hns : ∀ x, x ∈ ns → WdOk x) (hw : ∀ m, m ∈ s → WdOk m.1) (hb : ∀ m, m ∈ s → 1 ≤ m.2 ∧ m.2 ≤ 4) (hd : (ns ++ s.map (·.1)).Nodup) :
    F_wrong_member [sT s, .tup (ns.map sW)] st = .ok .non st := by
  have key : ∀ (k n : Nat) (e2 e3 : Option T), n + k = s.length → ∃ f2 f3, walkO (.tup [.name 2, .name 3]) (evSs tb_wrong_member l1_wrong_member) (numbered n ((s.drop n).map mT)) [some (sT s), some (.tup (ns.map sW)), e2, e3, none] st = .nx [some (sT s), some (.tup (ns.map sW)), f2, f3, none] st := by
    intro k
    induction k with
    | zero => intro n e2 e3 h; exact ⟨e2, e3, by rw [List.drop_eq_nil_of_le (by omega)]; rfl⟩
    | succ k ih =>
      intro n e2 e3 h
      have hn : n < s.length := by omega
      obtain ⟨f2, f3, e⟩ := ih (n + 1) (some (.int n)) (some (mT s[n])) (by omega)
      refine ⟨f2, f3, ?_⟩
      rw [← e, List.drop_eq_getElem_cons hn]
      have hm := List.getElem_mem hn
      have e1 := is_member_ok hs (hw _ hm) (hb _ hm)
      have c : fLc [4] (e1_wrong_member.ev tb_wrong_member) (.name 4) (fSeq (fSl (evV 0) fNo' (fSo (evV 2)))) fYes [some (sT s), some (.tup (ns.map sW)), some (.int n), some (mT s[n]), none] st = .ok ((s.take n).map fun m => sW m.1) st := by
        refine lc_mapE (emb := mT) ?_ (by rw [List.length_take]; omega) fun m hm => ?_
        · simp [den, ap_evSs, ap_evSs0, IS.ev, IE.ev, IL.ev, IEs.ev, IO.ev, II.ev, IO.test, IA.ev, IA.ev.evs, ap_fNever, ap_fK, ap_fGl, ap_fBin, ap_fNeg, ap_fCmp, ap_fIsN, ap_fTup, ap_fIx, ap_fSl, ap_fFz, ap_fFn, ap_fBi, ap_fNil, ap_fCons, ap_fNo0, ap_fSo, ap_fNot, ap_fChain, ap_fAnd, ap_fOr, ap_fIte, ap_fBl, ap_fNew, ap_fMu, ap_fStr, ap_fRepr, ap_fAttr, ap_fDl, ap_fCat, ap_fRep, ap_fLi, ap_fZ3, ap_fSlL, ap_fSeq, ap_fEn, ap_fPr, ap_fRg2, ap_fTst, ap_fYes, ap_fNx, ap_fAsg, ap_fPar2, ap_fPar3, ap_fIf, ap_fRet, ap_fExp, ap_fG, ap_fSub, ap_fTu, ap_fNo, ap_fCo, ap_fFld, ap_fIsi, k1_fBin, k2_fBin, k1_fNeg, k1_fCmp, k2_fCmp, k1_fIsN, k1_fTup, k1_fIx, k2_fIx, k1_fSl, k2_fSl, k3_fSl, k1_fFz, k1_fBi, k1_fCons, k2_fCons, k1_fSo, k1_fNot, k1_fChain, k2_fChain, k1_fAnd, k1_fOr, k1_fIte, k1_fBl, k1_fNew, k1_fMu, k1_fStr, k1_fRepr, k1_fAttr, k1_fDl, k1_fCat, k2_fCat, k1_fRep, k2_fRep, k1_fLi, k1_fZ3, k2_fZ3, k3_fZ3, k1_fSlL, k2_fSlL, k3_fSlL, k1_fSeq, k1_fEn, k1_fPr, k2_fPr, k1_fRg2, k2_fRg2, k1_fTst, k1_fAsg, k1_fPar2, k1_fPar3, k1_fIf, k1_fRet, k1_fExp, k1_fFor, k1_fSub, k2_fSub, k1_fFld, k2_fFld, k1_fIsi, IG.set, IG.set.sets, evV, env0, isNn, strT, muT, lstAt, ownL, lstOf, seqOf, L2.atI, L2.ixN, lim, bnd_ok', go_ok', seq_nx', seq_rt', opt_some', nox_ok', finO_rt, finO_nx, padF, kwF, insOf, sT, List.map_take]
        · simp [fTurn, wipeE, e1_wrong_member, den, ap_evSs, ap_evSs0, IS.ev, IE.ev, IL.ev, IEs.ev, IO.ev, II.ev, IO.test, IA.ev, IA.ev.evs, ap_fNever, ap_fK, ap_fGl, ap_fBin, ap_fNeg, ap_fCmp, ap_fIsN, ap_fTup, ap_fIx, ap_fSl, ap_fFz, ap_fFn, ap_fBi, ap_fNil, ap_fCons, ap_fNo0, ap_fSo, ap_fNot, ap_fChain, ap_fAnd, ap_fOr, ap_fIte, ap_fBl, ap_fNew, ap_fMu, ap_fStr, ap_fRepr, ap_fAttr, ap_fDl, ap_fCat, ap_fRep, ap_fLi, ap_fZ3, ap_fSlL, ap_fSeq, ap_fEn, ap_fPr, ap_fRg2, ap_fTst, ap_fYes, ap_fNx, ap_fAsg, ap_fPar2, ap_fPar3, ap_fIf, ap_fRet, ap_fExp, ap_fG, ap_fSub, ap_fTu, ap_fNo, ap_fCo, ap_fFld, ap_fIsi, k1_fBin, k2_fBin, k1_fNeg, k1_fCmp, k2_fCmp, k1_fIsN, k1_fTup, k1_fIx, k2_fIx, k1_fSl, k2_fSl, k3_fSl, k1_fFz, k1_fBi, k1_fCons, k2_fCons, k1_fSo, k1_fNot, k1_fChain, k2_fChain, k1_fAnd, k1_fOr, k1_fIte, k1_fBl, k1_fNew, k1_fMu, k1_fStr, k1_fRepr, k1_fAttr, k1_fDl, k1_fCat, k2_fCat, k1_fRep, k2_fRep, k1_fLi, k1_fZ3, k2_fZ3, k3_fZ3, k1_fSlL, k2_fSlL, k3_fSlL, k1_fSeq, k1_fEn, k1_fPr, k2_fPr, k1_fRg2, k2_fRg2, k1_fTst, k1_fAsg, k1_fPar2, k1_fPar3, k1_fIf, k1_fRet, k1_fExp, k1_fFor, k1_fSub, k2_fSub, k1_fFld, k2_fFld, k1_fIsi, IG.set, IG.set.sets, evV, env0, isNn, strT, muT, lstAt, ownL, lstOf, seqOf, L2.atI, L2.ixN, lim, bnd_ok', go_ok', seq_nx', seq_rt', opt_some', nox_ok', finO_rt, finO_nx, padF, kwF, insOf, mT, sW]
      have i1 : inT st (.str (W (s[n]).1)) (.tup (ns.map sW ++ (s.take n).map fun m => sW m.1)) = some false := by
        have := in_wordsT (st := st) (w := (s[n]).1) (ws := ns ++ (s.take n).map (·.1)) (hw _ hm) fun x hx => by
          rcases List.mem_append.mp hx with hx | hx
          · exact hns x hx
          · obtain ⟨m, hm2, rfl⟩ := List.mem_map.mp hx
            exact hw m (List.mem_of_mem_take hm2)
        rw [List.map_append, List.map_map] at this
        refine this.trans ?_
        congr 1
        rw [decide_eq_false_iff_not]
        intro hmem
        have hsplit : s.map (·.1) = (s.take n).map (·.1) ++ (s[n]).1 :: (s.drop (n + 1)).map (·.1) := by
          rw [← List.map_cons, ← List.map_append, ← List.drop_eq_getElem_cons hn, List.take_append_drop]
        rw [hsplit, ← List.append_assoc] at hd
        exact (List.nodup_append.mp hd).2.2 _ hmem _ (by simp) rfl
      have w := wm_turn (N := ns.map sW) (s := sT s) (n := n) (x4 := none) e1 (by omega) (fun st => rfl) c (by simp; omega) i1
      rw [List.map_cons]
      show walkO _ _ (T.tup [.int n, mT s[n]] :: numbered (n + 1) ((s.drop (n + 1)).map mT)) _ _ = _
      rw [walkO]
      simp only [IG.set, IG.set.sets, List.length_cons, List.length_nil, List.set]
      simp [w]
  obtain ⟨f2, f3, e⟩ := key s.length 0 none none (by omega)
  rw [List.drop_zero] at e
  have se : fEn (evV 0) [some (sT s), some (.tup (ns.map sW)), none, none, none] st = .ok (numbered 0 (s.map mT)) st := by simp [den, ap_evSs, ap_evSs0, IS.ev, IE.ev, IL.ev, IEs.ev, IO.ev, II.ev, IO.test, IA.ev, IA.ev.evs, ap_fNever, ap_fK, ap_fGl, ap_fBin, ap_fNeg, ap_fCmp, ap_fIsN, ap_fTup, ap_fIx, ap_fSl, ap_fFz, ap_fFn, ap_fBi, ap_fNil, ap_fCons, ap_fNo0, ap_fSo, ap_fNot, ap_fChain, ap_fAnd, ap_fOr, ap_fIte, ap_fBl, ap_fNew, ap_fMu, ap_fStr, ap_fRepr, ap_fAttr, ap_fDl, ap_fCat, ap_fRep, ap_fLi, ap_fZ3, ap_fSlL, ap_fSeq, ap_fEn, ap_fPr, ap_fRg2, ap_fTst, ap_fYes, ap_fNx, ap_fAsg, ap_fPar2, ap_fPar3, ap_fIf, ap_fRet, ap_fExp, ap_fG, ap_fSub, ap_fTu, ap_fNo, ap_fCo, ap_fFld, ap_fIsi, k1_fBin, k2_fBin, k1_fNeg, k1_fCmp, k2_fCmp, k1_fIsN, k1_fTup, k1_fIx, k2_fIx, k1_fSl, k2_fSl, k3_fSl, k1_fFz, k1_fBi, k1_fCons, k2_fCons, k1_fSo, k1_fNot, k1_fChain, k2_fChain, k1_fAnd, k1_fOr, k1_fIte, k1_fBl, k1_fNew, k1_fMu, k1_fStr, k1_fRepr, k1_fAttr, k1_fDl, k1_fCat, k2_fCat, k1_fRep, k2_fRep, k1_fLi, k1_fZ3, k2_fZ3, k3_fZ3, k1_fSlL, k2_fSlL, k3_fSlL, k1_fSeq, k1_fEn, k1_fPr, k2_fPr, k1_fRg2, k2_fRg2, k1_fTst, k1_fAsg, k1_fPar2, k1_fPar3, k1_fIf, k1_fRet, k1_fExp, k1_fFor, k1_fSub, k2_fSub, k1_fFld, k2_fFld, k1_fIsi, IG.set, IG.set.sets, evV, env0, isNn, strT, muT, lstAt, ownL, lstOf, seqOf, L2.atI, L2.ixN, lim, bnd_ok', go_ok', seq_nx', seq_rt', opt_some', nox_ok', finO_rt, finO_nx, padF, kwF, insOf, sT]
  simp [F_wrong_member, tbf_of_wrong_member, tbc_of_wrong_member, b_wrong_member, den, ap_evSs, ap_evSs0, IS.ev, IE.ev, IL.ev, IEs.ev, IO.ev, II.ev, IO.test, IA.ev, IA.ev.evs, ap_fNever, ap_fK, ap_fGl, ap_fBin, ap_fNeg, ap_fCmp, ap_fIsN, ap_fTup, ap_fIx, ap_fSl, ap_fFz, ap_fFn, ap_fBi, ap_fNil, ap_fCons, ap_fNo0, ap_fSo, ap_fNot, ap_fChain, ap_fAnd, ap_fOr, ap_fIte, ap_fBl, ap_fNew, ap_fMu, ap_fStr, ap_fRepr, ap_fAttr, ap_fDl, ap_fCat, ap_fRep, ap_fLi, ap_fZ3, ap_fSlL, ap_fSeq, ap_fEn, ap_fPr, ap_fRg2, ap_fTst, ap_fYes, ap_fNx, ap_fAsg, ap_fPar2, ap_fPar3, ap_fIf, ap_fRet, ap_fExp, ap_fG, ap_fSub, ap_fTu, ap_fNo, ap_fCo, ap_fFld, ap_fIsi, k1_fBin, k2_fBin, k1_fNeg, k1_fCmp, k2_fCmp, k1_fIsN, k1_fTup, k1_fIx, k2_fIx, k1_fSl, k2_fSl, k3_fSl, k1_fFz, k1_fBi, k1_fCons, k2_fCons, k1_fSo, k1_fNot, k1_fChain, k2_fChain, k1_fAnd, k1_fOr, k1_fIte, k1_fBl, k1_fNew, k1_fMu, k1_fStr, k1_fRepr, k1_fAttr, k1_fDl, k1_fCat, k2_fCat, k1_fRep, k2_fRep, k1_fLi, k1_fZ3, k2_fZ3, k3_fZ3, k1_fSlL, k2_fSlL, k3_fSlL, k1_fSeq, k1_fEn, k1_fPr, k2_fPr, k1_fRg2, k2_fRg2, k1_fTst, k1_fAsg, k1_fPar2, k1_fPar3, k1_fIf, k1_fRet, k1_fExp, k1_fFor, k1_fSub, k2_fSub, k1_fFld, k2_fFld, k1_fIsi, IG.set, IG.set.sets, evV, env0, isNn, strT, muT, lstAt, ownL, lstOf, seqOf, L2.atI, L2.ixN, lim, bnd_ok', go_ok', seq_nx', seq_rt', opt_some', nox_ok', finO_rt, finO_nx, padF, kwF, insOf, -ap_fEn, ap_fFor, se, e]
  exact fin_nl0 hs (by simp)
theorem is_tables_ok {d : Option Int} {st : Sto} (hs : NL st) (h : ∀ x, d = some x → 1 ≤ x ∧ x ≤ 12) : F_is_tables [dT d] st = .ok (.bl true) st := by
  cases d with
  | none =>
    simp [F_is_tables, tbf_of_is_tables, tbc_of_is_tables, b_is_tables, den, ap_evSs, ap_evSs0, IS.ev, IE.ev, IL.ev, IEs.ev, IO.ev, II.ev, IO.test, IA.ev, IA.ev.evs, ap_fNever, ap_fK, ap_fGl, ap_fBin, ap_fNeg, ap_fCmp, ap_fIsN, ap_fTup, ap_fIx, ap_fSl, ap_fFz, ap_fFn, ap_fBi, ap_fNil, ap_fCons, ap_fNo0, ap_fSo, ap_fNot, ap_fChain, ap_fAnd, ap_fOr, ap_fIte, ap_fBl, ap_fNew, ap_fMu, ap_fStr, ap_fRepr, ap_fAttr, ap_fDl, ap_fCat, ap_fRep, ap_fLi, ap_fZ3, ap_fSlL, ap_fSeq, ap_fEn, ap_fPr, ap_fRg2, ap_fTst, ap_fYes, ap_fNx, ap_fAsg, ap_fPar2, ap_fPar3, ap_fIf, ap_fRet, ap_fExp, ap_fG, ap_fSub, ap_fTu, ap_fNo, ap_fCo, ap_fFld, ap_fIsi, k1_fBin, k2_fBin, k1_fNeg, k1_fCmp, k2_fCmp, k1_fIsN, k1_fTup, k1_fIx, k2_fIx, k1_fSl, k2_fSl, k3_fSl, k1_fFz, k1_fBi, k1_fCons, k2_fCons, k1_fSo, k1_fNot, k1_fChain, k2_fChain, k1_fAnd, k1_fOr, k1_fIte, k1_fBl, k1_fNew, k1_fMu, k1_fStr, k1_fRepr, k1_fAttr, k1_fDl, k1_fCat, k2_fCat, k1_fRep, k2_fRep, k1_fLi, k1_fZ3, k2_fZ3, k3_fZ3, k1_fSlL, k2_fSlL, k3_fSlL, k1_fSeq, k1_fEn, k1_fPr, k2_fPr, k1_fRg2, k2_fRg2, k1_fTst, k1_fAsg, k1_fPar2, k1_fPar3, k1_fIf, k1_fRet, k1_fExp, k1_fFor, k1_fSub, k2_fSub, k1_fFld, k2_fFld, k1_fIsi, IG.set, IG.set.sets, evV, env0, isNn, strT, muT, lstAt, ownL, lstOf, seqOf, L2.atI, L2.ixN, lim, bnd_ok', go_ok', seq_nx', seq_rt', opt_some', nox_ok', finO_rt, finO_nx, padF, kwF, insOf, dT]
    exact fin_nl0 hs (by simp)
  | some x =>
    have h1 := is_within_ok (a := x) (lo := 1) (hi := 12) hs
    have h2 := h x rfl
    simp [F_is_tables, tbf_of_is_tables, tbc_of_is_tables, b_is_tables, den, ap_evSs, ap_evSs0, IS.ev, IE.ev, IL.ev, IEs.ev, IO.ev, II.ev, IO.test, IA.ev, IA.ev.evs, ap_fNever, ap_fK, ap_fGl, ap_fBin, ap_fNeg, ap_fCmp, ap_fIsN, ap_fTup, ap_fIx, ap_fSl, ap_fFz, ap_fFn, ap_fBi, ap_fNil, ap_fCons, ap_fNo0, ap_fSo, ap_fNot, ap_fChain, ap_fAnd, ap_fOr, ap_fIte, ap_fBl, ap_fNew, ap_fMu, ap_fStr, ap_fRepr, ap_fAttr, ap_fDl, ap_fCat, ap_fRep, ap_fLi, ap_fZ3, ap_fSlL, ap_fSeq, ap_fEn, ap_fPr, ap_fRg2, ap_fTst, ap_fYes, ap_fNx, ap_fAsg, ap_fPar2, ap_fPar3, ap_fIf, ap_fRet, ap_fExp, ap_fG, ap_fSub, ap_fTu, ap_fNo, ap_fCo, ap_fFld, ap_fIsi, k1_fBin, k2_fBin, k1_fNeg, k1_fCmp, k2_fCmp, k1_fIsN, k1_fTup, k1_fIx, k2_fIx, k1_fSl, k2_fSl, k3_fSl, k1_fFz, k1_fBi, k1_fCons, k2_fCons, k1_fSo, k1_fNot, k1_fChain, k2_fChain, k1_fAnd, k1_fOr, k1_fIte, k1_fBl, k1_fNew, k1_fMu, k1_fStr, k1_fRepr, k1_fAttr, k1_fDl, k1_fCat, k2_fCat, k1_fRep, k2_fRep, k1_fLi, k1_fZ3, k2_fZ3, k3_fZ3, k1_fSlL, k2_fSlL, k3_fSlL, k1_fSeq, k1_fEn, k1_fPr, k2_fPr, k1_fRg2, k2_fRg2, k1_fTst, k1_fAsg, k1_fPar2, k1_fPar3, k1_fIf, k1_fRet, k1_fExp, k1_fFor, k1_fSub, k2_fSub, k1_fFld, k2_fFld, k1_fIsi, IG.set, IG.set.sets, evV, env0, isNn, strT, muT, lstAt, ownL, lstOf, seqOf, L2.atI, L2.ixN, lim, bnd_ok', go_ok', seq_nx', seq_rt', opt_some', nox_ok', finO_rt, finO_nx, padF, kwF, insOf, dT, h1, h2]
    exact fin_nl0 hs (by simp)
theorem check_sides_walk {xs ys zs : List T} {st : Sto} (hx : xs.length ≠ 0) (hy : ys.length ≠ 0) (w1 : F_wrong_member [.tup xs, .tup []] st = .ok .non st) (w2 : F_wrong_member [.tup ys, .tup zs] st = .ok .non st)
    (c : fLc [3] (e1_check_sides.ev tb_check_sides) (.name 3) (fSeq (evV 0)) fYes [some (.tup xs), some (.tup ys), some .non, none] st = .ok zs st) :
    F_check_sides [.tup xs, .tup ys] st = finR tb_check_sides.cls false st.length .non st := by
  have hx' : ((xs.length : Int) == 0) = false := beq_false_of_ne (by omega)
  have hy' : ((ys.length : Int) == 0) = false := beq_false_of_ne (by omega)
  simp [F_check_sides, tbf_of_check_sides, tbc_of_check_sides, i0_of_check_sides, i1_of_check_sides, i2_of_check_sides, i3_of_check_sides, i4_of_check_sides, i5_of_check_sides, b_check_sides, den, ap_evSs, ap_evSs0, IS.ev, IE.ev, IL.ev, IEs.ev, IO.ev, II.ev, IO.test, IA.ev, IA.ev.evs, ap_fNever, ap_fK, ap_fGl, ap_fBin, ap_fNeg, ap_fCmp, ap_fIsN, ap_fTup, ap_fIx, ap_fSl, ap_fFz, ap_fFn, ap_fBi, ap_fNil, ap_fCons, ap_fNo0, ap_fSo, ap_fNot, ap_fChain, ap_fAnd, ap_fOr, ap_fIte, ap_fBl, ap_fNew, ap_fMu, ap_fStr, ap_fRepr, ap_fAttr, ap_fDl, ap_fCat, ap_fRep, ap_fLi, ap_fZ3, ap_fSlL, ap_fSeq, ap_fEn, ap_fPr, ap_fRg2, ap_fTst, ap_fYes, ap_fNx, ap_fAsg, ap_fPar2, ap_fPar3, ap_fIf, ap_fRet, ap_fExp, ap_fG, ap_fSub, ap_fTu, ap_fNo, ap_fCo, ap_fFld, ap_fIsi, k1_fBin, k2_fBin, k1_fNeg, k1_fCmp, k2_fCmp, k1_fIsN, k1_fTup, k1_fIx, k2_fIx, k1_fSl, k2_fSl, k3_fSl, k1_fFz, k1_fBi, k1_fCons, k2_fCons, k1_fSo, k1_fNot, k1_fChain, k2_fChain, k1_fAnd, k1_fOr, k1_fIte, k1_fBl, k1_fNew, k1_fMu, k1_fStr, k1_fRepr, k1_fAttr, k1_fDl, k1_fCat, k2_fCat, k1_fRep, k2_fRep, k1_fLi, k1_fZ3, k2_fZ3, k3_fZ3, k1_fSlL, k2_fSlL, k3_fSlL, k1_fSeq, k1_fEn, k1_fPr, k2_fPr, k1_fRg2, k2_fRg2, k1_fTst, k1_fAsg, k1_fPar2, k1_fPar3, k1_fIf, k1_fRet, k1_fExp, k1_fFor, k1_fSub, k2_fSub, k1_fFld, k2_fFld, k1_fIsi, IG.set, IG.set.sets, evV, env0, isNn, strT, muT, lstAt, ownL, lstOf, seqOf, L2.atI, L2.ixN, lim, bnd_ok', go_ok', seq_nx', seq_rt', opt_some', nox_ok', finO_rt, finO_nx, padF, kwF, insOf, hx', hy', w1, w2, c]
theorem check_sides_ok {p : Pa} {st : Sto} (hs : NL st) (ok : PaOk p) : F_check_sides [sT p.h, sT p.g] st = .ok .non st := by
  have h0 : p.h.length ≠ 0 := fun z => ok.ok.h1 (List.length_eq_zero_iff.mp z)
  have g0 : p.g.length ≠ 0 := fun z => ok.ok.g1 (List.length_eq_zero_iff.mp z)
  have nd := ok.nd
  rw [List.map_append] at nd
  have wh : ∀ m, m ∈ p.h → WdOk m.1 := fun m hm => ok.wd m (List.mem_append_left _ hm)
  have wg : ∀ m, m ∈ p.g → WdOk m.1 := fun m hm => ok.wd m (List.mem_append_right _ hm)
  have w1 := wrong_member_ok (ns := []) hs ok.ok.h2 (by simp) (by simp) wh ok.ok.hb (by simpa using (List.nodup_append.mp nd).1)
  have w2 := wrong_member_ok (ns := p.h.map (·.1)) hs ok.ok.g2 (by rw [List.length_map]; exact ok.ok.h2) (fun x hx => by obtain ⟨m, hm, rfl⟩ := List.mem_map.mp hx; exact wh m hm) wg ok.ok.gb nd
  refine (check_sides_walk (xs := p.h.map mT) (ys := p.g.map mT) (zs := (p.h.map fun m : List Nat × Int => m.1).map sW) (by rw [List.length_map]; exact h0) (by rw [List.length_map]; exact g0) w1 w2 ?_).trans (fin_nl0 hs (by simp))
  rw [List.map_map]
  refine lc_mapE (emb := mT) (by simp [den, ap_evSs, ap_evSs0, IS.ev, IE.ev, IL.ev, IEs.ev, IO.ev, II.ev, IO.test, IA.ev, IA.ev.evs, ap_fNever, ap_fK, ap_fGl, ap_fBin, ap_fNeg, ap_fCmp, ap_fIsN, ap_fTup, ap_fIx, ap_fSl, ap_fFz, ap_fFn, ap_fBi, ap_fNil, ap_fCons, ap_fNo0, ap_fSo, ap_fNot, ap_fChain, ap_fAnd, ap_fOr, ap_fIte, ap_fBl, ap_fNew, ap_fMu, ap_fStr, ap_fRepr, ap_fAttr, ap_fDl, ap_fCat, ap_fRep, ap_fLi, ap_fZ3, ap_fSlL, ap_fSeq, ap_fEn, ap_fPr, ap_fRg2, ap_fTst, ap_fYes, ap_fNx, ap_fAsg, ap_fPar2, ap_fPar3, ap_fIf, ap_fRet, ap_fExp, ap_fG, ap_fSub, ap_fTu, ap_fNo, ap_fCo, ap_fFld, ap_fIsi, k1_fBin, k2_fBin, k1_fNeg, k1_fCmp, k2_fCmp, k1_fIsN, k1_fTup, k1_fIx, k2_fIx, k1_fSl, k2_fSl, k3_fSl, k1_fFz, k1_fBi, k1_fCons, k2_fCons, k1_fSo, k1_fNot, k1_fChain, k2_fChain, k1_fAnd, k1_fOr, k1_fIte, k1_fBl, k1_fNew, k1_fMu, k1_fStr, k1_fRepr, k1_fAttr, k1_fDl, k1_fCat, k2_fCat, k1_fRep, k2_fRep, k1_fLi, k1_fZ3, k2_fZ3, k3_fZ3, k1_fSlL, k2_fSlL, k3_fSlL, k1_fSeq, k1_fEn, k1_fPr, k2_fPr, k1_fRg2, k2_fRg2, k1_fTst, k1_fAsg, k1_fPar2, k1_fPar3, k1_fIf, k1_fRet, k1_fExp, k1_fFor, k1_fSub, k2_fSub, k1_fFld, k2_fFld, k1_fIsi, IG.set, IG.set.sets, evV, env0, isNn, strT, muT, lstAt, ownL, lstOf, seqOf, L2.atI, L2.ixN, lim, bnd_ok', go_ok', seq_nx', seq_rt', opt_some', nox_ok', finO_rt, finO_nx, padF, kwF, insOf]) (by have := ok.ok.h2; omega) fun m hm => ?_
  simp [fTurn, wipeE, e1_check_sides, den, ap_evSs, ap_evSs0, IS.ev, IE.ev, IL.ev, IEs.ev, IO.ev, II.ev, IO.test, IA.ev, IA.ev.evs, ap_fNever, ap_fK, ap_fGl, ap_fBin, ap_fNeg, ap_fCmp, ap_fIsN, ap_fTup, ap_fIx, ap_fSl, ap_fFz, ap_fFn, ap_fBi, ap_fNil, ap_fCons, ap_fNo0, ap_fSo, ap_fNot, ap_fChain, ap_fAnd, ap_fOr, ap_fIte, ap_fBl, ap_fNew, ap_fMu, ap_fStr, ap_fRepr, ap_fAttr, ap_fDl, ap_fCat, ap_fRep, ap_fLi, ap_fZ3, ap_fSlL, ap_fSeq, ap_fEn, ap_fPr, ap_fRg2, ap_fTst, ap_fYes, ap_fNx, ap_fAsg, ap_fPar2, ap_fPar3, ap_fIf, ap_fRet, ap_fExp, ap_fG, ap_fSub, ap_fTu, ap_fNo, ap_fCo, ap_fFld, ap_fIsi, k1_fBin, k2_fBin, k1_fNeg, k1_fCmp, k2_fCmp, k1_fIsN, k1_fTup, k1_fIx, k2_fIx, k1_fSl, k2_fSl, k3_fSl, k1_fFz, k1_fBi, k1_fCons, k2_fCons, k1_fSo, k1_fNot, k1_fChain, k2_fChain, k1_fAnd, k1_fOr, k1_fIte, k1_fBl, k1_fNew, k1_fMu, k1_fStr, k1_fRepr, k1_fAttr, k1_fDl, k1_fCat, k2_fCat, k1_fRep, k2_fRep, k1_fLi, k1_fZ3, k2_fZ3, k3_fZ3, k1_fSlL, k2_fSlL, k3_fSlL, k1_fSeq, k1_fEn, k1_fPr, k2_fPr, k1_fRg2, k2_fRg2, k1_fTst, k1_fAsg, k1_fPar2, k1_fPar3, k1_fIf, k1_fRet, k1_fExp, k1_fFor, k1_fSub, k2_fSub, k1_fFld, k2_fFld, k1_fIsi, IG.set, IG.set.sets, evV, env0, isNn, strT, muT, lstAt, ownL, lstOf, seqOf, L2.atI, L2.ixN, lim, bnd_ok', go_ok', seq_nx', seq_rt', opt_some', nox_ok', finO_rt, finO_nx, padF, kwF, insOf, mT, sW]
/-- an instance made here goes out frozen -/
theorem fin_ins {cs : List Ci} {st : Sto} {c : Nat} {vs : List T} (h : NL st) (hv : Nls vs) (hw : whole cs c vs.length = true) : finR cs false st.length (.loc st.length) (st ++ [.ins c vs]) = .ok (.obj c vs) st := by
  unfold finR
  have hk : kept false st.length (.loc st.length) = none := by
    show (if false = true ∧ st.length ≤ st.length then some st.length else none) = none
    rw [if_neg (by simp)]
  rw [hk]
  simp only [more, List.append_nil, List.take_left']
  rw [h _ fun i hi => frz_id hi, frzW]
  have : frz cs (st ++ [.ins c vs]) (ren st.length none) st.length = some (.obj c vs) := by
    unfold frz frzL ren
    rw [if_neg (by omega), if_neg (by simp)]
    simp only [get_last]
    rw [if_pos hw, hv _]
    rfl
  rw [this]
theorem init_walk {h g d : T} {st : Sto} (e1 : F_check_sides [h, g] (st ++ [.ins 0 []]) = .ok .non (st ++ [.ins 0 []])) (e2 : F_is_tables [d] (st ++ [.ins 0 []]) = .ok (.bl true) (st ++ [.ins 0 []])) :
    F_Fair_init [.loc st.length, h, g, d] (st ++ [.ins 0 []]) = finR tb_Fair_init.cls false (st.length + 1) .non (st ++ [.ins 0 [h, g, d]]) := by
  simp [F_Fair_init, tbf_of_Fair_init, tbc_of_Fair_init, c0_of_Fair_init, a0givers_of_Fair_init, a0places_of_Fair_init, a0takers_of_Fair_init, n_of_Fair_init, b_Fair_init, den, ap_evSs, ap_evSs0, IS.ev, IE.ev, IL.ev, IEs.ev, IO.ev, II.ev, IO.test, IA.ev, IA.ev.evs, ap_fNever, ap_fK, ap_fGl, ap_fBin, ap_fNeg, ap_fCmp, ap_fIsN, ap_fTup, ap_fIx, ap_fSl, ap_fFz, ap_fFn, ap_fBi, ap_fNil, ap_fCons, ap_fNo0, ap_fSo, ap_fNot, ap_fChain, ap_fAnd, ap_fOr, ap_fIte, ap_fBl, ap_fNew, ap_fMu, ap_fStr, ap_fRepr, ap_fAttr, ap_fDl, ap_fCat, ap_fRep, ap_fLi, ap_fZ3, ap_fSlL, ap_fSeq, ap_fEn, ap_fPr, ap_fRg2, ap_fTst, ap_fYes, ap_fNx, ap_fAsg, ap_fPar2, ap_fPar3, ap_fIf, ap_fRet, ap_fExp, ap_fG, ap_fSub, ap_fTu, ap_fNo, ap_fCo, ap_fFld, ap_fIsi, k1_fBin, k2_fBin, k1_fNeg, k1_fCmp, k2_fCmp, k1_fIsN, k1_fTup, k1_fIx, k2_fIx, k1_fSl, k2_fSl, k3_fSl, k1_fFz, k1_fBi, k1_fCons, k2_fCons, k1_fSo, k1_fNot, k1_fChain, k2_fChain, k1_fAnd, k1_fOr, k1_fIte, k1_fBl, k1_fNew, k1_fMu, k1_fStr, k1_fRepr, k1_fAttr, k1_fDl, k1_fCat, k2_fCat, k1_fRep, k2_fRep, k1_fLi, k1_fZ3, k2_fZ3, k3_fZ3, k1_fSlL, k2_fSlL, k3_fSlL, k1_fSeq, k1_fEn, k1_fPr, k2_fPr, k1_fRg2, k2_fRg2, k1_fTst, k1_fAsg, k1_fPar2, k1_fPar3, k1_fIf, k1_fRet, k1_fExp, k1_fFor, k1_fSub, k2_fSub, k1_fFld, k2_fFld, k1_fIsi, IG.set, IG.set.sets, evV, env0, isNn, strT, muT, lstAt, ownL, lstOf, seqOf, L2.atI, L2.ixN, lim, bnd_ok', go_ok', seq_nx', seq_rt', opt_some', nox_ok', finO_rt, finO_nx, padF, kwF, insOf, ap_fFld, k1_fFld, k2_fFld, putC, e1, e2]
theorem fair_made {p : Pa} {st : Sto} (hs : NL st) (ok : PaOk p) : mkF (sx0.cls []) 0 (padF 4 [] F_Fair_init) [sT p.h, sT p.g, dT p.d] st = .ok (fairT p) st := by
  have n1 : NL (st ++ [.ins 0 []]) := NL_app hs (NL_cons (fun f => by show (frzWs f []).map _ = _; rw [frzWs]; rfl) NL_nil)
  have e1 := check_sides_ok n1 ok
  have e2 := is_tables_ok (d := p.d) n1 ok.ok.d
  have nv : Nls [sT p.h, sT p.g, dT p.d] := by simp [nl_sT, nl_dT]
  have n2 : NL (st ++ [.ins 0 [sT p.h, sT p.g, dT p.d]]) := NL_app hs (NL_cons (fun f => by show (frzWs f _).map _ = _; rw [nv f]; rfl) NL_nil)
  have e3 : F_Fair_init [.loc st.length, sT p.h, sT p.g, dT p.d] (st ++ [.ins 0 []]) = .ok .non (st ++ [.ins 0 [sT p.h, sT p.g, dT p.d]]) := by
    refine (init_walk e1 e2).trans ?_
    rw [show st.length + 1 = (st ++ [Cell.ins 0 [sT p.h, sT p.g, dT p.d]]).length from by simp]
    exact fin_nl0 n2 (by simp)
  unfold mkF
  rw [padF, if_pos (by rfl), List.append_nil, e3, bnd_ok']
  exact fin_ins hs nv rfl
theorem law_fair_ok {p : Pa} {st : Sto} (hs : NL st) (ok : PaOk p) : F_law_fair [partsT p] st = .ok (fairT p) st := by
  have h := fair_made hs ok
  simp [F_law_fair, tbf_of_law_fair, tbc_of_law_fair, c0_of_law_fair, n_of_law_fair, b_law_fair, den, ap_evSs, ap_evSs0, IS.ev, IE.ev, IL.ev, IEs.ev, IO.ev, II.ev, IO.test, IA.ev, IA.ev.evs, ap_fNever, ap_fK, ap_fGl, ap_fBin, ap_fNeg, ap_fCmp, ap_fIsN, ap_fTup, ap_fIx, ap_fSl, ap_fFz, ap_fFn, ap_fBi, ap_fNil, ap_fCons, ap_fNo0, ap_fSo, ap_fNot, ap_fChain, ap_fAnd, ap_fOr, ap_fIte, ap_fBl, ap_fNew, ap_fMu, ap_fStr, ap_fRepr, ap_fAttr, ap_fDl, ap_fCat, ap_fRep, ap_fLi, ap_fZ3, ap_fSlL, ap_fSeq, ap_fEn, ap_fPr, ap_fRg2, ap_fTst, ap_fYes, ap_fNx, ap_fAsg, ap_fPar2, ap_fPar3, ap_fIf, ap_fRet, ap_fExp, ap_fG, ap_fSub, ap_fTu, ap_fNo, ap_fCo, ap_fFld, ap_fIsi, k1_fBin, k2_fBin, k1_fNeg, k1_fCmp, k2_fCmp, k1_fIsN, k1_fTup, k1_fIx, k2_fIx, k1_fSl, k2_fSl, k3_fSl, k1_fFz, k1_fBi, k1_fCons, k2_fCons, k1_fSo, k1_fNot, k1_fChain, k2_fChain, k1_fAnd, k1_fOr, k1_fIte, k1_fBl, k1_fNew, k1_fMu, k1_fStr, k1_fRepr, k1_fAttr, k1_fDl, k1_fCat, k2_fCat, k1_fRep, k2_fRep, k1_fLi, k1_fZ3, k2_fZ3, k3_fZ3, k1_fSlL, k2_fSlL, k3_fSlL, k1_fSeq, k1_fEn, k1_fPr, k2_fPr, k1_fRg2, k2_fRg2, k1_fTst, k1_fAsg, k1_fPar2, k1_fPar3, k1_fIf, k1_fRet, k1_fExp, k1_fFor, k1_fSub, k2_fSub, k1_fFld, k2_fFld, k1_fIsi, IG.set, IG.set.sets, evV, env0, isNn, strT, muT, lstAt, ownL, lstOf, seqOf, L2.atI, L2.ixN, lim, bnd_ok', go_ok', seq_nx', seq_rt', opt_some', nox_ok', finO_rt, finO_nx, padF, kwF, insOf, h]
  exact fin_nl0 hs (by unfold fairT; simp [nl_sT, nl_dT])
theorem shI_of {i : Int} (h0 : 0 ≤ i) (h1 : i < 2 ^ 128) : i.natAbs.log2 < 1920 := by
  have := log2_lt (nat_lt h0 h1) (by decide)
  omega
theorem eq_sh {t : T} (h : data t = true) : eqT (.str (sh t)) (.str (sh t)) = some true := by
  have h1 := data_sh h
  rw [eqT_of h1 h1 (by simp [dep]) (by simp [dep]), eqv_str]
  simp
/-- a table of a size with numbers up to a bound -/
def TbB (n k : Nat) (M : Int) (g : List (List Int)) : Prop := g.length = n ∧ ∀ r, r ∈ g → rowB r k M
theorem TbB.mono {n k : Nat} {M N : Int} {g : List (List Int)} (h : TbB n k M g) (l : M ≤ N) : TbB n k N g := ⟨h.1, fun r hr => ⟨(h.2 r hr).1, fun x hx => ⟨((h.2 r hr).2 x hx).1, Int.le_trans ((h.2 r hr).2 x hx).2 l⟩⟩⟩
/-- a walk that goes on to its end, with an invariant -/
theorem walk_nx {g : IG} {f : Fs} {Q : Nat → Env → Sto → Prop} {xs : List T} {env : Env} {st : Sto} (h0 : Q 0 env st)
    (h : ∀ i x env st, xs[i]? = some x → Q i env st → ∃ env1 env2 st2, g.set x env = some env1 ∧ f env1 st = .nx env2 st2 ∧ Q (i + 1) env2 st2) :
    ∃ env2 st2, walkO g f xs env st = .nx env2 st2 ∧ Q xs.length env2 st2 := by
  have := walk_inv (g := g) (f := f) (P := Q) (Q := fun o => ∃ env2 st2, o = .nx env2 st2 ∧ Q xs.length env2 st2) (xs := xs) (n := 0) h0 (fun i x env st hx hq => by
    rw [Nat.zero_add] at hq ⊢
    obtain ⟨env1, env2, st2, a, b, c⟩ := h i x env st hx hq
    exact ⟨env1, a, .inl ⟨env2, st2, .inl b, c⟩⟩) (fun env st hq => ⟨env, st, rfl, by rw [Nat.zero_add] at hq; exact hq⟩)
  exact this
theorem rng_get {n i : Nat} {x : T} (h : ((List.range n).map fun (j : Nat) => T.int (j : Int))[i]? = some x) : i < n ∧ x = .int i := by
  rw [List.getElem?_map] at h
  by_cases hi : i < n
  · rw [List.getElem?_range hi] at h
    simp at h
    exact ⟨hi, h.symm⟩
  · rw [List.getElem?_eq_none (by simpa using hi)] at h
    simp at h
theorem bounds_of_ok {s : List (List Nat × Int)} {st : Sto} (hs : NL st) (hl : s.length ≤ 100) : F_bounds_of [sT s] st = .ok (.lst (s.map fun m => .int m.2)) st := by
  have c : fLc [1] (e1_bounds_of.ev tb_bounds_of) (.name 1) (fSeq (evV 0)) fYes [some (sT s), none] st = .ok (s.map fun m => T.int m.2) st := by
    refine lc_mapE (emb := mT) (by simp [den, ap_evSs, ap_evSs0, IS.ev, IE.ev, IL.ev, IEs.ev, IO.ev, II.ev, IO.test, IA.ev, IA.ev.evs, ap_fNever, ap_fK, ap_fGl, ap_fBin, ap_fNeg, ap_fCmp, ap_fIsN, ap_fTup, ap_fIx, ap_fSl, ap_fFz, ap_fFn, ap_fBi, ap_fNil, ap_fCons, ap_fNo0, ap_fSo, ap_fNot, ap_fChain, ap_fAnd, ap_fOr, ap_fIte, ap_fBl, ap_fNew, ap_fMu, ap_fStr, ap_fRepr, ap_fAttr, ap_fDl, ap_fCat, ap_fRep, ap_fLi, ap_fZ3, ap_fSlL, ap_fSeq, ap_fEn, ap_fPr, ap_fRg2, ap_fTst, ap_fYes, ap_fNx, ap_fAsg, ap_fPar2, ap_fPar3, ap_fIf, ap_fRet, ap_fExp, ap_fG, ap_fSub, ap_fTu, ap_fNo, ap_fCo, ap_fFld, ap_fIsi, k1_fBin, k2_fBin, k1_fNeg, k1_fCmp, k2_fCmp, k1_fIsN, k1_fTup, k1_fIx, k2_fIx, k1_fSl, k2_fSl, k3_fSl, k1_fFz, k1_fBi, k1_fCons, k2_fCons, k1_fSo, k1_fNot, k1_fChain, k2_fChain, k1_fAnd, k1_fOr, k1_fIte, k1_fBl, k1_fNew, k1_fMu, k1_fStr, k1_fRepr, k1_fAttr, k1_fDl, k1_fCat, k2_fCat, k1_fRep, k2_fRep, k1_fLi, k1_fZ3, k2_fZ3, k3_fZ3, k1_fSlL, k2_fSlL, k3_fSlL, k1_fSeq, k1_fEn, k1_fPr, k2_fPr, k1_fRg2, k2_fRg2, k1_fTst, k1_fAsg, k1_fPar2, k1_fPar3, k1_fIf, k1_fRet, k1_fExp, k1_fFor, k1_fSub, k2_fSub, k1_fFld, k2_fFld, k1_fIsi, IG.set, IG.set.sets, evV, env0, isNn, strT, muT, lstAt, ownL, lstOf, seqOf, L2.atI, L2.ixN, lim, bnd_ok', go_ok', seq_nx', seq_rt', opt_some', nox_ok', finO_rt, finO_nx, padF, kwF, insOf, sT]) (by omega) fun m hm => ?_
    simp [fTurn, wipeE, e1_bounds_of, den, ap_evSs, ap_evSs0, IS.ev, IE.ev, IL.ev, IEs.ev, IO.ev, II.ev, IO.test, IA.ev, IA.ev.evs, ap_fNever, ap_fK, ap_fGl, ap_fBin, ap_fNeg, ap_fCmp, ap_fIsN, ap_fTup, ap_fIx, ap_fSl, ap_fFz, ap_fFn, ap_fBi, ap_fNil, ap_fCons, ap_fNo0, ap_fSo, ap_fNot, ap_fChain, ap_fAnd, ap_fOr, ap_fIte, ap_fBl, ap_fNew, ap_fMu, ap_fStr, ap_fRepr, ap_fAttr, ap_fDl, ap_fCat, ap_fRep, ap_fLi, ap_fZ3, ap_fSlL, ap_fSeq, ap_fEn, ap_fPr, ap_fRg2, ap_fTst, ap_fYes, ap_fNx, ap_fAsg, ap_fPar2, ap_fPar3, ap_fIf, ap_fRet, ap_fExp, ap_fG, ap_fSub, ap_fTu, ap_fNo, ap_fCo, ap_fFld, ap_fIsi, k1_fBin, k2_fBin, k1_fNeg, k1_fCmp, k2_fCmp, k1_fIsN, k1_fTup, k1_fIx, k2_fIx, k1_fSl, k2_fSl, k3_fSl, k1_fFz, k1_fBi, k1_fCons, k2_fCons, k1_fSo, k1_fNot, k1_fChain, k2_fChain, k1_fAnd, k1_fOr, k1_fIte, k1_fBl, k1_fNew, k1_fMu, k1_fStr, k1_fRepr, k1_fAttr, k1_fDl, k1_fCat, k2_fCat, k1_fRep, k2_fRep, k1_fLi, k1_fZ3, k2_fZ3, k3_fZ3, k1_fSlL, k2_fSlL, k3_fSlL, k1_fSeq, k1_fEn, k1_fPr, k2_fPr, k1_fRg2, k2_fRg2, k1_fTst, k1_fAsg, k1_fPar2, k1_fPar3, k1_fIf, k1_fRet, k1_fExp, k1_fFor, k1_fSub, k2_fSub, k1_fFld, k2_fFld, k1_fIsi, IG.set, IG.set.sets, evV, env0, isNn, strT, muT, lstAt, ownL, lstOf, seqOf, L2.atI, L2.ixN, lim, bnd_ok', go_ok', seq_nx', seq_rt', opt_some', nox_ok', finO_rt, finO_nx, padF, kwF, insOf, mT]
  simp [F_bounds_of, tbf_of_bounds_of, tbc_of_bounds_of, b_bounds_of, den, ap_evSs, ap_evSs0, IS.ev, IE.ev, IL.ev, IEs.ev, IO.ev, II.ev, IO.test, IA.ev, IA.ev.evs, ap_fNever, ap_fK, ap_fGl, ap_fBin, ap_fNeg, ap_fCmp, ap_fIsN, ap_fTup, ap_fIx, ap_fSl, ap_fFz, ap_fFn, ap_fBi, ap_fNil, ap_fCons, ap_fNo0, ap_fSo, ap_fNot, ap_fChain, ap_fAnd, ap_fOr, ap_fIte, ap_fBl, ap_fNew, ap_fMu, ap_fStr, ap_fRepr, ap_fAttr, ap_fDl, ap_fCat, ap_fRep, ap_fLi, ap_fZ3, ap_fSlL, ap_fSeq, ap_fEn, ap_fPr, ap_fRg2, ap_fTst, ap_fYes, ap_fNx, ap_fAsg, ap_fPar2, ap_fPar3, ap_fIf, ap_fRet, ap_fExp, ap_fG, ap_fSub, ap_fTu, ap_fNo, ap_fCo, ap_fFld, ap_fIsi, k1_fBin, k2_fBin, k1_fNeg, k1_fCmp, k2_fCmp, k1_fIsN, k1_fTup, k1_fIx, k2_fIx, k1_fSl, k2_fSl, k3_fSl, k1_fFz, k1_fBi, k1_fCons, k2_fCons, k1_fSo, k1_fNot, k1_fChain, k2_fChain, k1_fAnd, k1_fOr, k1_fIte, k1_fBl, k1_fNew, k1_fMu, k1_fStr, k1_fRepr, k1_fAttr, k1_fDl, k1_fCat, k2_fCat, k1_fRep, k2_fRep, k1_fLi, k1_fZ3, k2_fZ3, k3_fZ3, k1_fSlL, k2_fSlL, k3_fSlL, k1_fSeq, k1_fEn, k1_fPr, k2_fPr, k1_fRg2, k2_fRg2, k1_fTst, k1_fAsg, k1_fPar2, k1_fPar3, k1_fIf, k1_fRet, k1_fExp, k1_fFor, k1_fSub, k2_fSub, k1_fFld, k2_fFld, k1_fIsi, IG.set, IG.set.sets, evV, env0, isNn, strT, muT, lstAt, ownL, lstOf, seqOf, L2.atI, L2.ixN, lim, bnd_ok', go_ok', seq_nx', seq_rt', opt_some', nox_ok', finO_rt, finO_nx, padF, kwF, insOf, c]
  exact fin_nl0 hs (by rw [nl_lst]; exact nls_of fun x hx => by obtain ⟨m, _, rfl⟩ := List.mem_map.mp hx; simp)
theorem evSs_app (tb : Tab) : ∀ (a b : List IS) (env : Env) (st : Sto), evSs tb (a ++ b) env st = (evSs tb a env st).seq (evSs tb b)
  | [], b, env, st => by rw [ap_evSs0, seq_nx']; rfl
  | s :: a, b, env, st => by
    rw [List.cons_append, ap_evSs, ap_evSs]
    cases s.ev tb env st with
    | nx env1 st1 => rw [seq_nx', seq_nx', evSs_app tb a b]
    | _ => rfl
/-- a member and its row in two -/
structure Split (p q : Pa) (g g2 : List (List Int)) (m m1 m2 : List Nat × Int) (r u v : List Int) : Prop where
  ex : ∃ A B X Y, p.h = A ++ m :: B ∧ q.h = A ++ m1 :: m2 :: B ∧ g = X ++ r :: Y ∧ g2 = X ++ u :: v :: Y ∧ X.length = A.length
  hg : q.g = p.g
  hd : q.d = p.d
  sum : r.sum = u.sum + v.sum
  col : ∀ j, r.getD j 0 = u.getD j 0 + v.getD j 0
  bd : m.2 = m1.2 + m2.2
theorem Split.all {p q : Pa} {g g2 : List (List Int)} {m m1 m2 : List Nat × Int} {r u v : List Int} (s : Split p q g g2 m m1 m2 r u v) : (g2.map List.sum).sum = (g.map List.sum).sum := by
  obtain ⟨A, B, X, Y, h1, h2, h3, h4, h5⟩ := s.ex
  rw [h3, h4, List.map_append, List.map_append, List.sum_append, List.sum_append, List.map_cons, List.map_cons, List.map_cons, List.sum_cons, List.sum_cons, List.sum_cons, s.sum]
  omega
def c0 (l u : Int) (a b : Bool) : Int := if a && !b then u else if b && !a then -l else 0
def nT (i : Nat) : T := .int (i : Int)
def inS (B : List Int) (o : List Nat) : Int := (o.map fun j => B.getD j 0).sum
theorem getD_mem {A : Type} {l : List A} {i : Nat} {d : A} (h : i < l.length) : l.getD i d ∈ l := by
  have : l.getD i d = l[i] := by simp [h]
  rw [this]; exact List.getElem_mem h
def sr (n : Nat) (f : Nat → Int) : Int := ((List.range n).map f).sum
theorem sr_congr {f h : Nat → Int} {n : Nat} (k : ∀ i, i < n → f i = h i) : sr n f = sr n h := by
  unfold sr
  congr 1
  exact List.map_congr_left fun i hi => k i (List.mem_range.mp hi)
def fC (g : List (List Int)) (i j : Nat) : Int := (g.getD i []).getD j 0
def w0 (p : Pa) (g : List (List Int)) (r : Int) : Int := match p.d with
  | none => (g.map List.sum).sum
  | some d => d * r
def b2 (b : Bool) : Int := if b then 1 else 0
theorem maxI_spec : ∀ {ns : List Int}, ns ≠ [] → maxI ns ∈ ns ∧ ∀ x, x ∈ ns → x ≤ maxI ns
  | [], h => absurd rfl h
  | [a], _ => ⟨by simp [maxI], fun x hx => by rw [List.mem_singleton.mp hx]; exact Int.le_refl _⟩
  | a :: b :: r, _ => by
    obtain ⟨h1, h2⟩ := maxI_spec (ns := b :: r) (by simp)
    have e : maxI (a :: b :: r) = max a (maxI (b :: r)) := rfl
    rw [e]
    refine ⟨?_, fun x hx => ?_⟩
    · by_cases h : a ≤ maxI (b :: r)
      · rw [Int.max_eq_right h]; exact List.mem_cons_of_mem _ h1
      · rw [Int.max_eq_left (by omega)]; exact List.mem_cons_self
    · rcases List.mem_cons.mp hx with rfl | hx
      · exact Int.le_max_left _ _
      · exact Int.le_trans (h2 x hx) (Int.le_max_right _ _)
theorem shB_ints {xs : List Int} {b : Nat} (h : ∀ x, x ∈ xs → x.natAbs.log2 ≤ b) : shBs (xs.map T.int) ≤ xs.length * (b + 4) := by
  induction xs with
  | nil => exact Nat.zero_le _
  | cons x xs ih =>
    have a := h x List.mem_cons_self
    have c := ih fun y hy => h y (List.mem_cons_of_mem _ hy)
    rw [List.map_cons, List.length_cons]
    simp only [shBs, shB]
    rw [Nat.succ_mul]
    omega
theorem dat_ints : ∀ xs : List Int, datas (xs.map T.int) = true
  | [] => rfl
  | x :: xs => by rw [List.map_cons]; simp [datas, data, dat_ints xs]
theorem dep_ints : ∀ xs : List Int, deps (xs.map T.int) = 0
  | [] => rfl
  | x :: xs => by rw [List.map_cons]; simp [deps, dep, dep_ints xs]
theorem shI_ints : ∀ {xs : List Int}, (∀ x, x ∈ xs → x.natAbs.log2 < 1920) → shIs (xs.map T.int) = true
  | [], _ => rfl
  | x :: xs, h => by rw [List.map_cons]; simp [shIs, shI, h x List.mem_cons_self, shI_ints fun y hy => h y (List.mem_cons_of_mem _ hy)]
/-- a value whose text can be shown -/
def ShOk (t : T) (b : Nat) : Prop := data t = true ∧ shI t = true ∧ dep t ≤ 10 ∧ shB t ≤ b
theorem log_128 {x : Int} (h0 : 0 ≤ x) (h1 : x < 2 ^ 128) : x.natAbs.log2 ≤ 128 := by
  by_cases hx : x.natAbs = 0
  · rw [hx]; decide
  · have := (Nat.log2_lt hx).mpr (show x.natAbs < 2 ^ 128 by omega)
    omega
theorem shOk_int {x : Int} (h0 : 0 ≤ x) (h1 : x < 2 ^ 128) : ShOk (.int x) 130 := by
  have := log_128 h0 h1
  exact ⟨rfl, by simp [shI]; omega, by simp [dep], by simp only [shB]; omega⟩
theorem max_ints {ns : List Int} {st : Sto} (h : ns ≠ []) : biT st .max [.lst (ns.map T.int)] = some (.int (maxI ns)) := max_lst h
theorem nls_ints {A : List Int} : Nls (A.map T.int) := nls_of fun x hx => by obtain ⟨y, _, rfl⟩ := List.mem_map.mp hx; simp
theorem den_rt {cs : List Ci} {md : Bool} {k n : Nat} {f : Env → Sto → O} {ts : List T} {st st2 : Sto} {t : T} (hl : ts.length = k) (h : f (env0 n ts) st = .rt t st2) : den cs md k n f ts st = finR cs md st.length t st2 := by
  unfold den
  rw [if_pos hl, h]
  rfl
/-- two lists behind the jug -/
abbrev R2 (rest : Sto) (X Y : List T) : Sto := rest ++ [.lst X, .lst Y]
structure Bij (n : Nat) (o q : Nat → Nat) : Prop where
  ol : ∀ a, a < n → o a < n
  ql : ∀ a, a < n → q a < n
  qo : ∀ a, a < n → q (o a) = a
  oq : ∀ a, a < n → o (q a) = a
  s : ∀ f : Nat → Int, sr n (fun a => f (o a)) = sr n f
theorem Bij.symm {n : Nat} {o q : Nat → Nat} (h : Bij n o q) : Bij n q o := ⟨h.ql, h.ol, h.oq, h.qo, fun f => by
  rw [← h.s fun a => f (q a)]
  exact sr_congr fun a ha => by rw [h.qo a ha]⟩
structure Img (p p' : Pa) (g g' : List (List Int)) (o0 o1 : Nat → Nat) : Prop where
  hl : p'.h.length = p.h.length
  gl : p'.g.length = p.g.length
  hb : ∀ a, a < p.h.length → (p'.h.getD a ([], 0)).2 = (p.h.getD (o0 a) ([], 0)).2
  gb : ∀ a, a < p.g.length → (p'.g.getD a ([], 0)).2 = (p.g.getD (o1 a) ([], 0)).2
  d : p'.d = p.d
  g : ∀ a b, a < p.h.length → b < p.g.length → fC g' a b = fC g (o0 a) (o1 b)
theorem Img.symm {p p' : Pa} {g g' : List (List Int)} {o0 o1 q0 q1 : Nat → Nat} (b0 : Bij p.h.length o0 q0) (b1 : Bij p.g.length o1 q1) (h : Img p p' g g' o0 o1) : Img p' p g' g q0 q1 := by
  refine ⟨h.hl.symm, h.gl.symm, fun a ha => ?_, fun a ha => ?_, h.d.symm, fun a b ha hb => ?_⟩
  · rw [h.hl] at ha
    rw [h.hb _ (b0.ql a ha), b0.oq a ha]
  · rw [h.gl] at ha
    rw [h.gb _ (b1.ql a ha), b1.oq a ha]
  · rw [h.hl] at ha
    rw [h.gl] at hb
    rw [h.g _ _ (b0.ql a ha) (b1.ql b hb), b0.oq a ha, b1.oq b hb]
/-- a line: the sum at first, by how much it grows, the bound -/
abbrev Ln := Int × Int × Int
def clL (l : Ln) (n : Int) : Int := -((-(l.1 + l.2.1 * n)) / l.2.2)
theorem clL_le {l : Ln} {n x : Int} (h : 0 < l.2.2) : clL l n ≤ x ↔ l.1 + l.2.1 * n ≤ x * l.2.2 := by
  unfold clL
  have := Int.le_ediv_iff_mul_le (a := -x) (b := -(l.1 + l.2.1 * n)) h
  have e : -x * l.2.2 = -(x * l.2.2) := Int.neg_mul x l.2.2
  rw [e] at this
  constructor
  · intro a
    have := this.mp (by omega)
    omega
  · intro a
    have := this.mpr (by omega)
    omega
theorem clL_add {l : Ln} {n p u : Int} (h : 0 < l.2.2) (e : l.2.1 * p = u * l.2.2) : clL l (n + p) = clL l n + u := by
  have k : ∀ x, clL l (n + p) ≤ x ↔ clL l n + u ≤ x := fun x => by
    rw [clL_le h]
    have : clL l n + u ≤ x ↔ clL l n ≤ x - u := by omega
    rw [this, clL_le h, Int.sub_mul, Int.mul_add, e]
    omega
  have a := (k (clL l n + u)).mpr (Int.le_refl _)
  have b := (k (clL l (n + p))).mp (Int.le_refl _)
  omega
def ldA (ls : List Ln) (n : Int) : Int := maxI (ls.map fun l => clL l n)
theorem ldA_le {ls : List Ln} {n x : Int} (h : ls ≠ []) : ldA ls n ≤ x ↔ ∀ l, l ∈ ls → clL l n ≤ x := by
  have s := maxI_spec (ns := ls.map fun l => clL l n) (fun z => h (List.map_eq_nil_iff.mp z))
  constructor
  · intro a l hl
    exact Int.le_trans (s.2 _ (List.mem_map.mpr ⟨l, hl, rfl⟩)) a
  · intro a
    obtain ⟨l, hl, e⟩ := List.mem_map.mp s.1
    unfold ldA
    rw [← e]
    exact a l hl
theorem ldA_at {ls : List Ln} {n : Int} (h : ls ≠ []) : ∃ l, l ∈ ls ∧ clL l n = ldA ls n := by
  have s := maxI_spec (ns := ls.map fun l => clL l n) (fun z => h (List.map_eq_nil_iff.mp z))
  obtain ⟨l, hl, e⟩ := List.mem_map.mp s.1
  exact ⟨l, hl, e⟩
/-- the line t is among the steepest -/
structure Stp9 (ls : List Ln) (t : Ln) : Prop where
  i : t ∈ ls
  s : ∀ l, l ∈ ls → l.2.1 * t.2.2 ≤ t.2.1 * l.2.2
def gain (t l : Ln) : Int := t.2.1 * l.2.2 - l.2.1 * t.2.2
/-- from n on the steepest lines alone tell the load -/
def Set9 (ls : List Ln) (t : Ln) (n : Int) : Prop := ∀ l, l ∈ ls → 0 < gain t l → l.1 * t.2.2 - t.1 * l.2.2 ≤ gain t l * n
theorem set_le {t l : Ln} {n : Int} (ht : 0 < t.2.2) (hl : 0 < l.2.2) (h : l.1 * t.2.2 - t.1 * l.2.2 ≤ gain t l * n) : clL l n ≤ clL t n := by
  rw [clL_le hl]
  have a := (clL_le (n := n) (x := clL t n) ht).mp (Int.le_refl _)
  unfold gain at h
  rw [Int.sub_mul] at h
  have a2 := Int.mul_le_mul_of_nonneg_right a (Int.le_of_lt hl)
  have e1 : (t.1 + t.2.1 * n) * l.2.2 = t.1 * l.2.2 + t.2.1 * l.2.2 * n := by rw [Int.add_mul, Int.mul_right_comm]
  have e2 : clL t n * t.2.2 * l.2.2 = clL t n * l.2.2 * t.2.2 := Int.mul_right_comm _ _ _
  have e3 : (l.1 + l.2.1 * n) * t.2.2 = l.1 * t.2.2 + l.2.1 * t.2.2 * n := by rw [Int.add_mul, Int.mul_right_comm l.2.1 n]
  rw [e1, e2] at a2
  have : (l.1 + l.2.1 * n) * t.2.2 ≤ clL t n * l.2.2 * t.2.2 := by rw [e3]; omega
  exact Int.le_of_mul_le_mul_right this ht
theorem per_same {t l : Ln} {p u : Int} (ht : 0 < t.2.2) (e : t.2.1 * p = u * t.2.2) (g : gain t l = 0) : l.2.1 * p = u * l.2.2 := by
  have g' : l.2.1 * t.2.2 = t.2.1 * l.2.2 := by unfold gain at g; omega
  have : (l.2.1 * p) * t.2.2 = (u * l.2.2) * t.2.2 := by
    rw [Int.mul_right_comm, g', Int.mul_right_comm, e, Int.mul_right_comm]
  exact Int.eq_of_mul_eq_mul_right (by omega) this
/-- far on the load goes on with the period -/
theorem ldA_per {ls : List Ln} {t : Ln} {n p u : Int} (pos : ∀ l, l ∈ ls → 0 < l.2.2) (h : Stp9 ls t) (hp : 0 ≤ p) (e : t.2.1 * p = u * t.2.2) (hn : Set9 ls t n) : ldA ls (n + p) = ldA ls n + u := by
  have ne : ls ≠ [] := fun z => by have := h.i; rw [z] at this; cases this
  have pt := pos t h.i
  have tt : clL t (n + p) = clL t n + u := clL_add pt e
  have two : ∀ l, l ∈ ls → (clL l (n + p) = clL l n + u) ∨ (clL l n ≤ clL t n ∧ clL l (n + p) ≤ clL t (n + p)) := fun l hl => by
    have pl := pos l hl
    by_cases g : gain t l = 0
    · exact .inl (clL_add pl (per_same pt e g))
    · have g0 : 0 < gain t l := by have := h.s l hl; unfold gain at g ⊢; omega
      have a := hn l hl g0
      refine .inr ⟨set_le pt pl a, set_le pt pl ?_⟩
      rw [Int.mul_add]
      have := Int.mul_nonneg (Int.le_of_lt g0) hp
      omega
  have tl := (ldA_le ne (n := n)).mp (Int.le_refl _) t h.i
  have tl2 := (ldA_le ne (n := n + p)).mp (Int.le_refl _) t h.i
  refine Int.le_antisymm ((ldA_le ne).mpr fun l hl => ?_) ?_
  · have := (ldA_le ne (n := n)).mp (Int.le_refl _) l hl
    rcases two l hl with a | ⟨a, b⟩
    · omega
    · omega
  · obtain ⟨l, hl, el⟩ := ldA_at ne (n := n)
    have := (ldA_le ne (n := n + p)).mp (Int.le_refl _) l hl
    rcases two l hl with a | ⟨a, b⟩
    · omega
    · omega
def lT (l : Ln) : T := .tup [.int l.1, .int l.2.1, .int l.2.2]
def lsT (ls : List Ln) : T := .lst (ls.map lT)
structure LnsOk (ls : List Ln) : Prop where
  ne : ls ≠ []
  len : ls.length ≤ 9
  b : ∀ l, l ∈ ls → (0 ≤ l.1 ∧ l.1 ≤ 144) ∧ (0 ≤ l.2.1 ∧ l.2.1 ≤ 144) ∧ 1 ≤ l.2.2 ∧ l.2.2 ≤ 12
theorem lsmall {a b : Int} (h0 : 0 ≤ a) (h1 : a ≤ 1000000) (h2 : 0 ≤ b) (h3 : b ≤ 1000000) : MulOk a b := mul_ok 64 64 (nat_lt h0 (by omega)) (nat_lt h2 (by omega)) (by decide) (by decide) (by decide)
theorem nl_lT {l : Ln} : Nl (lT l) := by unfold lT; simp
theorem load_at_ok {ls : List Ln} {n : Int} {st : Sto} (hs : NL st) (ok : LnsOk ls) (h0 : 0 ≤ n) (h1 : n ≤ 1000000) : F_load_at [lsT ls, .int n] st = .ok (.int (ldA ls n)) st := by
  have c : fLc [2, 3, 4] (e1_load_at.ev tb_load_at) (.tup [(.name 2), (.name 3), (.name 4)]) (fSeq (evV 0)) fYes [some (lsT ls), some (.int n), none, none, none] st = .ok ((ls.map fun l => clL l n).map T.int) st := by
    rw [List.map_map]
    refine lc_mapE (emb := lT) (by simp [den, ap_evSs, ap_evSs0, IS.ev, IE.ev, IL.ev, IEs.ev, IO.ev, II.ev, IO.test, IA.ev, IA.ev.evs, ap_fNever, ap_fK, ap_fGl, ap_fBin, ap_fNeg, ap_fCmp, ap_fIsN, ap_fTup, ap_fIx, ap_fSl, ap_fFz, ap_fFn, ap_fBi, ap_fNil, ap_fCons, ap_fNo0, ap_fSo, ap_fNot, ap_fChain, ap_fAnd, ap_fOr, ap_fIte, ap_fBl, ap_fNew, ap_fMu, ap_fStr, ap_fRepr, ap_fAttr, ap_fDl, ap_fCat, ap_fRep, ap_fLi, ap_fZ3, ap_fSlL, ap_fSeq, ap_fEn, ap_fPr, ap_fRg2, ap_fTst, ap_fYes, ap_fNx, ap_fAsg, ap_fPar2, ap_fPar3, ap_fIf, ap_fRet, ap_fExp, ap_fG, ap_fSub, ap_fTu, ap_fNo, ap_fCo, ap_fFld, ap_fIsi, k1_fBin, k2_fBin, k1_fNeg, k1_fCmp, k2_fCmp, k1_fIsN, k1_fTup, k1_fIx, k2_fIx, k1_fSl, k2_fSl, k3_fSl, k1_fFz, k1_fBi, k1_fCons, k2_fCons, k1_fSo, k1_fNot, k1_fChain, k2_fChain, k1_fAnd, k1_fOr, k1_fIte, k1_fBl, k1_fNew, k1_fMu, k1_fStr, k1_fRepr, k1_fAttr, k1_fDl, k1_fCat, k2_fCat, k1_fRep, k2_fRep, k1_fLi, k1_fZ3, k2_fZ3, k3_fZ3, k1_fSlL, k2_fSlL, k3_fSlL, k1_fSeq, k1_fEn, k1_fPr, k2_fPr, k1_fRg2, k2_fRg2, k1_fTst, k1_fAsg, k1_fPar2, k1_fPar3, k1_fIf, k1_fRet, k1_fExp, k1_fFor, k1_fSub, k2_fSub, k1_fFld, k2_fFld, k1_fIsi, IG.set, IG.set.sets, evV, env0, isNn, strT, muT, lstAt, ownL, lstOf, seqOf, L2.atI, L2.ixN, lim, bnd_ok', go_ok', seq_nx', seq_rt', opt_some', nox_ok', finO_rt, finO_nx, padF, kwF, insOf, lsT]) (by have := ok.len; omega) fun l hl => ?_
    obtain ⟨⟨a1, a2⟩, ⟨b1, b2⟩, c1, c2⟩ := ok.b l hl
    have m : MulOk l.2.1 n := lsmall b1 (by omega) h0 h1
    have d : DivOk l.2.2 := div_ok (by omega) (by omega)
    obtain ⟨x, y, z⟩ := l
    simp only at m d
    simp [fTurn, wipeE, lT, e1_load_at, den, ap_evSs, ap_evSs0, IS.ev, IE.ev, IL.ev, IEs.ev, IO.ev, II.ev, IO.test, IA.ev, IA.ev.evs, ap_fNever, ap_fK, ap_fGl, ap_fBin, ap_fNeg, ap_fCmp, ap_fIsN, ap_fTup, ap_fIx, ap_fSl, ap_fFz, ap_fFn, ap_fBi, ap_fNil, ap_fCons, ap_fNo0, ap_fSo, ap_fNot, ap_fChain, ap_fAnd, ap_fOr, ap_fIte, ap_fBl, ap_fNew, ap_fMu, ap_fStr, ap_fRepr, ap_fAttr, ap_fDl, ap_fCat, ap_fRep, ap_fLi, ap_fZ3, ap_fSlL, ap_fSeq, ap_fEn, ap_fPr, ap_fRg2, ap_fTst, ap_fYes, ap_fNx, ap_fAsg, ap_fPar2, ap_fPar3, ap_fIf, ap_fRet, ap_fExp, ap_fG, ap_fSub, ap_fTu, ap_fNo, ap_fCo, ap_fFld, ap_fIsi, k1_fBin, k2_fBin, k1_fNeg, k1_fCmp, k2_fCmp, k1_fIsN, k1_fTup, k1_fIx, k2_fIx, k1_fSl, k2_fSl, k3_fSl, k1_fFz, k1_fBi, k1_fCons, k2_fCons, k1_fSo, k1_fNot, k1_fChain, k2_fChain, k1_fAnd, k1_fOr, k1_fIte, k1_fBl, k1_fNew, k1_fMu, k1_fStr, k1_fRepr, k1_fAttr, k1_fDl, k1_fCat, k2_fCat, k1_fRep, k2_fRep, k1_fLi, k1_fZ3, k2_fZ3, k3_fZ3, k1_fSlL, k2_fSlL, k3_fSlL, k1_fSeq, k1_fEn, k1_fPr, k2_fPr, k1_fRg2, k2_fRg2, k1_fTst, k1_fAsg, k1_fPar2, k1_fPar3, k1_fIf, k1_fRet, k1_fExp, k1_fFor, k1_fSub, k2_fSub, k1_fFld, k2_fFld, k1_fIsi, IG.set, IG.set.sets, evV, env0, isNn, strT, muT, lstAt, ownL, lstOf, seqOf, L2.atI, L2.ixN, lim, bnd_ok', go_ok', seq_nx', seq_rt', opt_some', nox_ok', finO_rt, finO_nx, padF, kwF, insOf, m, d, clL]
  have mx := max_ints (ns := ls.map fun l => clL l n) (st := st) (fun z => ok.ne (List.map_eq_nil_iff.mp z))
  have k : F_load_at [lsT ls, .int n] st = finR tb_load_at.cls false st.length (.int (ldA ls n)) st := by
    generalize lsT ls = L at c
    simp [F_load_at, b_load_at, den, ap_evSs, ap_evSs0, IS.ev, IE.ev, IL.ev, IEs.ev, IO.ev, II.ev, IO.test, IA.ev, IA.ev.evs, ap_fNever, ap_fK, ap_fGl, ap_fBin, ap_fNeg, ap_fCmp, ap_fIsN, ap_fTup, ap_fIx, ap_fSl, ap_fFz, ap_fFn, ap_fBi, ap_fNil, ap_fCons, ap_fNo0, ap_fSo, ap_fNot, ap_fChain, ap_fAnd, ap_fOr, ap_fIte, ap_fBl, ap_fNew, ap_fMu, ap_fStr, ap_fRepr, ap_fAttr, ap_fDl, ap_fCat, ap_fRep, ap_fLi, ap_fZ3, ap_fSlL, ap_fSeq, ap_fEn, ap_fPr, ap_fRg2, ap_fTst, ap_fYes, ap_fNx, ap_fAsg, ap_fPar2, ap_fPar3, ap_fIf, ap_fRet, ap_fExp, ap_fG, ap_fSub, ap_fTu, ap_fNo, ap_fCo, ap_fFld, ap_fIsi, k1_fBin, k2_fBin, k1_fNeg, k1_fCmp, k2_fCmp, k1_fIsN, k1_fTup, k1_fIx, k2_fIx, k1_fSl, k2_fSl, k3_fSl, k1_fFz, k1_fBi, k1_fCons, k2_fCons, k1_fSo, k1_fNot, k1_fChain, k2_fChain, k1_fAnd, k1_fOr, k1_fIte, k1_fBl, k1_fNew, k1_fMu, k1_fStr, k1_fRepr, k1_fAttr, k1_fDl, k1_fCat, k2_fCat, k1_fRep, k2_fRep, k1_fLi, k1_fZ3, k2_fZ3, k3_fZ3, k1_fSlL, k2_fSlL, k3_fSlL, k1_fSeq, k1_fEn, k1_fPr, k2_fPr, k1_fRg2, k2_fRg2, k1_fTst, k1_fAsg, k1_fPar2, k1_fPar3, k1_fIf, k1_fRet, k1_fExp, k1_fFor, k1_fSub, k2_fSub, k1_fFld, k2_fFld, k1_fIsi, IG.set, IG.set.sets, evV, env0, isNn, strT, muT, lstAt, ownL, lstOf, seqOf, L2.atI, L2.ixN, lim, bnd_ok', go_ok', seq_nx', seq_rt', opt_some', nox_ok', finO_rt, finO_nx, padF, kwF, insOf, -List.map_map, c, mx, ldA]
  exact k.trans (fin_nl0 hs (by simp))
def topS : Ln → List Ln → Ln
  | t, [] => t
  | t, l :: ls => topS (if t.2.1 * l.2.2 < l.2.1 * t.2.2 then l else t) ls
theorem topS_spec {P : Ln → Prop} : ∀ {ls : List Ln} {t : Ln}, P t → (∀ l, l ∈ ls → P l) → P (topS t ls)
  | [], t, h, _ => h
  | l :: ls, t, h, k => by
    unfold topS
    refine topS_spec ?_ fun l h => k l (List.mem_cons_of_mem _ h)
    split
    · exact k l List.mem_cons_self
    · exact h
theorem ratio_trans {a b c : Ln} (ha : 0 < a.2.2) (hb : 0 < b.2.2) (hc : 0 < c.2.2) (h1 : a.2.1 * b.2.2 ≤ b.2.1 * a.2.2) (h2 : b.2.1 * c.2.2 ≤ c.2.1 * b.2.2) : a.2.1 * c.2.2 ≤ c.2.1 * a.2.2 := by
  have e1 := Int.mul_le_mul_of_nonneg_right h1 (Int.le_of_lt hc)
  have e2 := Int.mul_le_mul_of_nonneg_right h2 (Int.le_of_lt ha)
  rw [Int.mul_right_comm a.2.1] at e1
  rw [Int.mul_right_comm b.2.1 c.2.2, Int.mul_right_comm c.2.1 b.2.2] at e2
  rw [Int.mul_right_comm b.2.1 a.2.2] at e1
  have e2 : b.2.1 * c.2.2 * a.2.2 ≤ c.2.1 * a.2.2 * b.2.2 := by rw [Int.mul_right_comm b.2.1]; exact e2
  exact Int.le_of_mul_le_mul_right (Int.le_trans e1 (by rw [show b.2.1 * c.2.2 * a.2.2 = b.2.1 * c.2.2 * a.2.2 from rfl]; exact e2)) hb
theorem topS_max : ∀ {ls : List Ln} {t : Ln}, 0 < t.2.2 → (∀ l, l ∈ ls → 0 < l.2.2) → ∀ l, l = t ∨ l ∈ ls → l.2.1 * (topS t ls).2.2 ≤ (topS t ls).2.1 * l.2.2
  | [], t, ht, _, l, h => by
    rcases h with rfl | h
    · exact Int.le_refl _
    · cases h
  | m :: ls, t, ht, hp, l, h => by
    unfold topS
    have pm := hp m List.mem_cons_self
    have pl : ∀ l, l ∈ ls → 0 < l.2.2 := fun l hl => hp l (List.mem_cons_of_mem _ hl)
    by_cases g : t.2.1 * m.2.2 < m.2.1 * t.2.2
    · rw [if_pos g]
      have ih := topS_max (ls := ls) (t := m) pm pl
      have pT : 0 < (topS m ls).2.2 := topS_spec (P := fun l => 0 < l.2.2) pm pl
      rcases h with rfl | h
      · exact ratio_trans ht pm pT (Int.le_of_lt g) (ih m (.inl rfl))
      · rcases List.mem_cons.mp h with rfl | h
        · exact ih _ (.inl rfl)
        · exact ih l (.inr h)
    · rw [if_neg g]
      have ih := topS_max (ls := ls) (t := t) ht pl
      have pT : 0 < (topS t ls).2.2 := topS_spec (P := fun l => 0 < l.2.2) ht pl
      rcases h with rfl | h
      · exact ih _ (.inl rfl)
      · rcases List.mem_cons.mp h with rfl | h
        · exact ratio_trans pm ht pT (by omega) (ih t (.inl rfl))
        · exact ih l (.inr h)
def topL (ls : List Ln) : Ln := topS (ls.headD (0, 0, 1)) ls
def stL (ls : List Ln) : List Ln := ls.filter fun l => decide (l.2.1 * (topL ls).2.2 = (topL ls).2.1 * l.2.2)
theorem sp_t {L : T} {t l : Ln} {st : Sto} (m1 : MulOk l.2.1 t.2.2) (m2 : MulOk t.2.1 l.2.2) : evSs tb_steepest l1_steepest [some L, some (lT t), some (lT l)] st = .nx [some L, some (lT (if t.2.1 * l.2.2 < l.2.1 * t.2.2 then l else t)), some (lT l)] st := by
  by_cases h : t.2.1 * l.2.2 < l.2.1 * t.2.2
  · rw [if_pos h]
    simp [l1_steepest, den, ap_evSs, ap_evSs0, IS.ev, IE.ev, IL.ev, IEs.ev, IO.ev, II.ev, IO.test, IA.ev, IA.ev.evs, ap_fNever, ap_fK, ap_fGl, ap_fBin, ap_fNeg, ap_fCmp, ap_fIsN, ap_fTup, ap_fIx, ap_fSl, ap_fFz, ap_fFn, ap_fBi, ap_fNil, ap_fCons, ap_fNo0, ap_fSo, ap_fNot, ap_fChain, ap_fAnd, ap_fOr, ap_fIte, ap_fBl, ap_fNew, ap_fMu, ap_fStr, ap_fRepr, ap_fAttr, ap_fDl, ap_fCat, ap_fRep, ap_fLi, ap_fZ3, ap_fSlL, ap_fSeq, ap_fEn, ap_fPr, ap_fRg2, ap_fTst, ap_fYes, ap_fNx, ap_fAsg, ap_fPar2, ap_fPar3, ap_fIf, ap_fRet, ap_fExp, ap_fG, ap_fSub, ap_fTu, ap_fNo, ap_fCo, ap_fFld, ap_fIsi, k1_fBin, k2_fBin, k1_fNeg, k1_fCmp, k2_fCmp, k1_fIsN, k1_fTup, k1_fIx, k2_fIx, k1_fSl, k2_fSl, k3_fSl, k1_fFz, k1_fBi, k1_fCons, k2_fCons, k1_fSo, k1_fNot, k1_fChain, k2_fChain, k1_fAnd, k1_fOr, k1_fIte, k1_fBl, k1_fNew, k1_fMu, k1_fStr, k1_fRepr, k1_fAttr, k1_fDl, k1_fCat, k2_fCat, k1_fRep, k2_fRep, k1_fLi, k1_fZ3, k2_fZ3, k3_fZ3, k1_fSlL, k2_fSlL, k3_fSlL, k1_fSeq, k1_fEn, k1_fPr, k2_fPr, k1_fRg2, k2_fRg2, k1_fTst, k1_fAsg, k1_fPar2, k1_fPar3, k1_fIf, k1_fRet, k1_fExp, k1_fFor, k1_fSub, k2_fSub, k1_fFld, k2_fFld, k1_fIsi, IG.set, IG.set.sets, evV, env0, isNn, strT, muT, lstAt, ownL, lstOf, seqOf, L2.atI, L2.ixN, lim, bnd_ok', go_ok', seq_nx', seq_rt', opt_some', nox_ok', finO_rt, finO_nx, padF, kwF, insOf, lT, m1, m2, h]
  · rw [if_neg h]
    simp [l1_steepest, den, ap_evSs, ap_evSs0, IS.ev, IE.ev, IL.ev, IEs.ev, IO.ev, II.ev, IO.test, IA.ev, IA.ev.evs, ap_fNever, ap_fK, ap_fGl, ap_fBin, ap_fNeg, ap_fCmp, ap_fIsN, ap_fTup, ap_fIx, ap_fSl, ap_fFz, ap_fFn, ap_fBi, ap_fNil, ap_fCons, ap_fNo0, ap_fSo, ap_fNot, ap_fChain, ap_fAnd, ap_fOr, ap_fIte, ap_fBl, ap_fNew, ap_fMu, ap_fStr, ap_fRepr, ap_fAttr, ap_fDl, ap_fCat, ap_fRep, ap_fLi, ap_fZ3, ap_fSlL, ap_fSeq, ap_fEn, ap_fPr, ap_fRg2, ap_fTst, ap_fYes, ap_fNx, ap_fAsg, ap_fPar2, ap_fPar3, ap_fIf, ap_fRet, ap_fExp, ap_fG, ap_fSub, ap_fTu, ap_fNo, ap_fCo, ap_fFld, ap_fIsi, k1_fBin, k2_fBin, k1_fNeg, k1_fCmp, k2_fCmp, k1_fIsN, k1_fTup, k1_fIx, k2_fIx, k1_fSl, k2_fSl, k3_fSl, k1_fFz, k1_fBi, k1_fCons, k2_fCons, k1_fSo, k1_fNot, k1_fChain, k2_fChain, k1_fAnd, k1_fOr, k1_fIte, k1_fBl, k1_fNew, k1_fMu, k1_fStr, k1_fRepr, k1_fAttr, k1_fDl, k1_fCat, k2_fCat, k1_fRep, k2_fRep, k1_fLi, k1_fZ3, k2_fZ3, k3_fZ3, k1_fSlL, k2_fSlL, k3_fSlL, k1_fSeq, k1_fEn, k1_fPr, k2_fPr, k1_fRg2, k2_fRg2, k1_fTst, k1_fAsg, k1_fPar2, k1_fPar3, k1_fIf, k1_fRet, k1_fExp, k1_fFor, k1_fSub, k2_fSub, k1_fFld, k2_fFld, k1_fIsi, IG.set, IG.set.sets, evV, env0, isNn, strT, muT, lstAt, ownL, lstOf, seqOf, L2.atI, L2.ixN, lim, bnd_ok', go_ok', seq_nx', seq_rt', opt_some', nox_ok', finO_rt, finO_nx, padF, kwF, insOf, lT, m1, m2, h]
theorem sp_loop {L : T} {st : Sto} : ∀ {ls : List Ln} {t : Ln} {e2 : Option T}, (∀ a b, (a = t ∨ a ∈ ls) → (b = t ∨ b ∈ ls) → MulOk a.2.1 b.2.2) →
    ∃ f2, walkO (.name 2) (evSs tb_steepest l1_steepest) (ls.map lT) [some L, some (lT t), e2] st = .nx [some L, some (lT (topS t ls)), f2] st
  | [], t, e2, _ => ⟨e2, rfl⟩
  | l :: ls, t, e2, h => by
    obtain ⟨f, w⟩ := sp_loop (L := L) (st := st) (ls := ls) (t := if t.2.1 * l.2.2 < l.2.1 * t.2.2 then l else t) (e2 := some (lT l)) fun a b ha hb => by
      have k : ∀ a, (a = (if t.2.1 * l.2.2 < l.2.1 * t.2.2 then l else t) ∨ a ∈ ls) → a = t ∨ a ∈ l :: ls := fun a ha => by
        rcases ha with ha | ha
        · split at ha
          · rw [ha]; exact .inr List.mem_cons_self
          · exact .inl ha
        · exact .inr (List.mem_cons_of_mem _ ha)
      exact h a b (k a ha) (k b hb)
    refine ⟨f, ?_⟩
    rw [List.map_cons, walkO]
    simp only [IG.set, List.length_cons, List.length_nil]
    rw [if_pos (by decide)]
    simp only [List.set]
    rw [sp_t (h l t (.inr List.mem_cons_self) (.inl rfl)) (h t l (.inl rfl) (.inr List.mem_cons_self))]
    exact w
theorem sp_walk {L X Y : T} {xs ys : List T} {f2 : Option T} {st : Sto} (hL : L = .lst xs) (i0 : ixT st L (.int 0) = some X) (w : walkO (.name 2) (evSs tb_steepest l1_steepest) xs [some L, some X, none] st = .nx [some L, some Y, f2] st)
    (c : fLc [2] (e1_steepest.ev tb_steepest) (.name 2) (fSeq (evV 0)) (fTst (q1_steepest.ev tb_steepest)) [some L, some Y, f2] st = .ok ys st) : F_steepest [L] st = finR tb_steepest.cls false st.length (.lst ys) st := by
  subst hL
  simp [F_steepest, b_steepest, den, ap_evSs, ap_evSs0, IS.ev, IE.ev, IL.ev, IEs.ev, IO.ev, II.ev, IO.test, IA.ev, IA.ev.evs, ap_fNever, ap_fK, ap_fGl, ap_fBin, ap_fNeg, ap_fCmp, ap_fIsN, ap_fTup, ap_fIx, ap_fSl, ap_fFz, ap_fFn, ap_fBi, ap_fNil, ap_fCons, ap_fNo0, ap_fSo, ap_fNot, ap_fChain, ap_fAnd, ap_fOr, ap_fIte, ap_fBl, ap_fNew, ap_fMu, ap_fStr, ap_fRepr, ap_fAttr, ap_fDl, ap_fCat, ap_fRep, ap_fLi, ap_fZ3, ap_fSlL, ap_fSeq, ap_fEn, ap_fPr, ap_fRg2, ap_fTst, ap_fYes, ap_fNx, ap_fAsg, ap_fPar2, ap_fPar3, ap_fIf, ap_fRet, ap_fExp, ap_fG, ap_fSub, ap_fTu, ap_fNo, ap_fCo, ap_fFld, ap_fIsi, k1_fBin, k2_fBin, k1_fNeg, k1_fCmp, k2_fCmp, k1_fIsN, k1_fTup, k1_fIx, k2_fIx, k1_fSl, k2_fSl, k3_fSl, k1_fFz, k1_fBi, k1_fCons, k2_fCons, k1_fSo, k1_fNot, k1_fChain, k2_fChain, k1_fAnd, k1_fOr, k1_fIte, k1_fBl, k1_fNew, k1_fMu, k1_fStr, k1_fRepr, k1_fAttr, k1_fDl, k1_fCat, k2_fCat, k1_fRep, k2_fRep, k1_fLi, k1_fZ3, k2_fZ3, k3_fZ3, k1_fSlL, k2_fSlL, k3_fSlL, k1_fSeq, k1_fEn, k1_fPr, k2_fPr, k1_fRg2, k2_fRg2, k1_fTst, k1_fAsg, k1_fPar2, k1_fPar3, k1_fIf, k1_fRet, k1_fExp, k1_fFor, k1_fSub, k2_fSub, k1_fFld, k2_fFld, k1_fIsi, IG.set, IG.set.sets, evV, env0, isNn, strT, muT, lstAt, ownL, lstOf, seqOf, L2.atI, L2.ixN, lim, bnd_ok', go_ok', seq_nx', seq_rt', opt_some', nox_ok', finO_rt, finO_nx, padF, kwF, insOf, ap_fFor, -ix_lst', i0, w, c]
theorem fm_filter {t : Ln} : ∀ {ls : List Ln}, (ls.filter fun l => decide (l.2.1 * t.2.2 = t.2.1 * l.2.2)).map lT = ls.filterMap fun l => if l.2.1 * t.2.2 = t.2.1 * l.2.2 then some (lT l) else none
  | [] => rfl
  | l :: ls => by
    have ih := fm_filter (t := t) (ls := ls)
    rw [List.filter_cons, List.filterMap_cons]
    by_cases h : l.2.1 * t.2.2 = t.2.1 * l.2.2
    · rw [if_pos (by simpa using h), if_pos h, List.map_cons, ih]
    · rw [if_neg (by simpa using h), if_neg h, ih]
theorem stL_fm {ls : List Ln} : (stL ls).map lT = ls.filterMap fun l => if l.2.1 * (topL ls).2.2 = (topL ls).2.1 * l.2.2 then some (lT l) else none := fm_filter
theorem steepest_ok {ls : List Ln} {st : Sto} (hs : NL st) (ok : LnsOk ls) : F_steepest [lsT ls] st = .ok (lsT (stL ls)) st := by
  have mm : ∀ a b, a ∈ ls → b ∈ ls → MulOk a.2.1 b.2.2 := fun a b ha hb => by
    obtain ⟨_, ⟨b1, b2⟩, _⟩ := ok.b a ha
    obtain ⟨_, _, c1, c2⟩ := ok.b b hb
    exact lsmall b1 (by omega) (by omega) (by omega)
  obtain ⟨t0, r, e⟩ : ∃ t0 r, ls = t0 :: r := by
    cases ls with
    | nil => exact absurd rfl ok.ne
    | cons a b => exact ⟨a, b, rfl⟩
  have h0 : t0 ∈ ls := by rw [e]; exact List.mem_cons_self
  have tp : topL ls = topS t0 ls := by unfold topL; rw [e]; rfl
  have tm : topL ls ∈ ls := by rw [tp]; exact topS_spec (P := fun l => l ∈ ls) h0 fun l h => h
  obtain ⟨f2, w⟩ := sp_loop (L := lsT ls) (st := st) (ls := ls) (t := t0) (e2 := none) fun a b ha hb => by
    have k : ∀ a, (a = t0 ∨ a ∈ ls) → a ∈ ls := fun a ha => by
      rcases ha with rfl | ha
      · exact h0
      · exact ha
    exact mm a b (k a ha) (k b hb)
  rw [← tp] at w
  have c : fLc [2] (e1_steepest.ev tb_steepest) (.name 2) (fSeq (evV 0)) (fTst (q1_steepest.ev tb_steepest)) [some (lsT ls), some (lT (topL ls)), f2] st = .ok ((stL ls).map lT) st := by
    rw [show (stL ls).map lT = ls.filterMap fun l => if l.2.1 * (topL ls).2.2 = (topL ls).2.1 * l.2.2 then some (lT l) else none from stL_fm]
    refine lc_filterE (emb := lT) (by simp [den, ap_evSs, ap_evSs0, IS.ev, IE.ev, IL.ev, IEs.ev, IO.ev, II.ev, IO.test, IA.ev, IA.ev.evs, ap_fNever, ap_fK, ap_fGl, ap_fBin, ap_fNeg, ap_fCmp, ap_fIsN, ap_fTup, ap_fIx, ap_fSl, ap_fFz, ap_fFn, ap_fBi, ap_fNil, ap_fCons, ap_fNo0, ap_fSo, ap_fNot, ap_fChain, ap_fAnd, ap_fOr, ap_fIte, ap_fBl, ap_fNew, ap_fMu, ap_fStr, ap_fRepr, ap_fAttr, ap_fDl, ap_fCat, ap_fRep, ap_fLi, ap_fZ3, ap_fSlL, ap_fSeq, ap_fEn, ap_fPr, ap_fRg2, ap_fTst, ap_fYes, ap_fNx, ap_fAsg, ap_fPar2, ap_fPar3, ap_fIf, ap_fRet, ap_fExp, ap_fG, ap_fSub, ap_fTu, ap_fNo, ap_fCo, ap_fFld, ap_fIsi, k1_fBin, k2_fBin, k1_fNeg, k1_fCmp, k2_fCmp, k1_fIsN, k1_fTup, k1_fIx, k2_fIx, k1_fSl, k2_fSl, k3_fSl, k1_fFz, k1_fBi, k1_fCons, k2_fCons, k1_fSo, k1_fNot, k1_fChain, k2_fChain, k1_fAnd, k1_fOr, k1_fIte, k1_fBl, k1_fNew, k1_fMu, k1_fStr, k1_fRepr, k1_fAttr, k1_fDl, k1_fCat, k2_fCat, k1_fRep, k2_fRep, k1_fLi, k1_fZ3, k2_fZ3, k3_fZ3, k1_fSlL, k2_fSlL, k3_fSlL, k1_fSeq, k1_fEn, k1_fPr, k2_fPr, k1_fRg2, k2_fRg2, k1_fTst, k1_fAsg, k1_fPar2, k1_fPar3, k1_fIf, k1_fRet, k1_fExp, k1_fFor, k1_fSub, k2_fSub, k1_fFld, k2_fFld, k1_fIsi, IG.set, IG.set.sets, evV, env0, isNn, strT, muT, lstAt, ownL, lstOf, seqOf, L2.atI, L2.ixN, lim, bnd_ok', go_ok', seq_nx', seq_rt', opt_some', nox_ok', finO_rt, finO_nx, padF, kwF, insOf, lsT]) (by have := ok.len; omega) fun l hl => ?_
    have m1 := mm l _ hl tm
    have m2 := mm _ l tm hl
    generalize topL ls = t at m1 m2 ⊢
    by_cases h : l.2.1 * t.2.2 = t.2.1 * l.2.2
    · simp [fTurn, wipeE, e1_steepest, q1_steepest, den, ap_evSs, ap_evSs0, IS.ev, IE.ev, IL.ev, IEs.ev, IO.ev, II.ev, IO.test, IA.ev, IA.ev.evs, ap_fNever, ap_fK, ap_fGl, ap_fBin, ap_fNeg, ap_fCmp, ap_fIsN, ap_fTup, ap_fIx, ap_fSl, ap_fFz, ap_fFn, ap_fBi, ap_fNil, ap_fCons, ap_fNo0, ap_fSo, ap_fNot, ap_fChain, ap_fAnd, ap_fOr, ap_fIte, ap_fBl, ap_fNew, ap_fMu, ap_fStr, ap_fRepr, ap_fAttr, ap_fDl, ap_fCat, ap_fRep, ap_fLi, ap_fZ3, ap_fSlL, ap_fSeq, ap_fEn, ap_fPr, ap_fRg2, ap_fTst, ap_fYes, ap_fNx, ap_fAsg, ap_fPar2, ap_fPar3, ap_fIf, ap_fRet, ap_fExp, ap_fG, ap_fSub, ap_fTu, ap_fNo, ap_fCo, ap_fFld, ap_fIsi, k1_fBin, k2_fBin, k1_fNeg, k1_fCmp, k2_fCmp, k1_fIsN, k1_fTup, k1_fIx, k2_fIx, k1_fSl, k2_fSl, k3_fSl, k1_fFz, k1_fBi, k1_fCons, k2_fCons, k1_fSo, k1_fNot, k1_fChain, k2_fChain, k1_fAnd, k1_fOr, k1_fIte, k1_fBl, k1_fNew, k1_fMu, k1_fStr, k1_fRepr, k1_fAttr, k1_fDl, k1_fCat, k2_fCat, k1_fRep, k2_fRep, k1_fLi, k1_fZ3, k2_fZ3, k3_fZ3, k1_fSlL, k2_fSlL, k3_fSlL, k1_fSeq, k1_fEn, k1_fPr, k2_fPr, k1_fRg2, k2_fRg2, k1_fTst, k1_fAsg, k1_fPar2, k1_fPar3, k1_fIf, k1_fRet, k1_fExp, k1_fFor, k1_fSub, k2_fSub, k1_fFld, k2_fFld, k1_fIsi, IG.set, IG.set.sets, evV, env0, isNn, strT, muT, lstAt, ownL, lstOf, seqOf, L2.atI, L2.ixN, lim, bnd_ok', go_ok', seq_nx', seq_rt', opt_some', nox_ok', finO_rt, finO_nx, padF, kwF, insOf, lT, m1, m2, h, asBl]
    · simp [fTurn, wipeE, e1_steepest, q1_steepest, den, ap_evSs, ap_evSs0, IS.ev, IE.ev, IL.ev, IEs.ev, IO.ev, II.ev, IO.test, IA.ev, IA.ev.evs, ap_fNever, ap_fK, ap_fGl, ap_fBin, ap_fNeg, ap_fCmp, ap_fIsN, ap_fTup, ap_fIx, ap_fSl, ap_fFz, ap_fFn, ap_fBi, ap_fNil, ap_fCons, ap_fNo0, ap_fSo, ap_fNot, ap_fChain, ap_fAnd, ap_fOr, ap_fIte, ap_fBl, ap_fNew, ap_fMu, ap_fStr, ap_fRepr, ap_fAttr, ap_fDl, ap_fCat, ap_fRep, ap_fLi, ap_fZ3, ap_fSlL, ap_fSeq, ap_fEn, ap_fPr, ap_fRg2, ap_fTst, ap_fYes, ap_fNx, ap_fAsg, ap_fPar2, ap_fPar3, ap_fIf, ap_fRet, ap_fExp, ap_fG, ap_fSub, ap_fTu, ap_fNo, ap_fCo, ap_fFld, ap_fIsi, k1_fBin, k2_fBin, k1_fNeg, k1_fCmp, k2_fCmp, k1_fIsN, k1_fTup, k1_fIx, k2_fIx, k1_fSl, k2_fSl, k3_fSl, k1_fFz, k1_fBi, k1_fCons, k2_fCons, k1_fSo, k1_fNot, k1_fChain, k2_fChain, k1_fAnd, k1_fOr, k1_fIte, k1_fBl, k1_fNew, k1_fMu, k1_fStr, k1_fRepr, k1_fAttr, k1_fDl, k1_fCat, k2_fCat, k1_fRep, k2_fRep, k1_fLi, k1_fZ3, k2_fZ3, k3_fZ3, k1_fSlL, k2_fSlL, k3_fSlL, k1_fSeq, k1_fEn, k1_fPr, k2_fPr, k1_fRg2, k2_fRg2, k1_fTst, k1_fAsg, k1_fPar2, k1_fPar3, k1_fIf, k1_fRet, k1_fExp, k1_fFor, k1_fSub, k2_fSub, k1_fFld, k2_fFld, k1_fIsi, IG.set, IG.set.sets, evV, env0, isNn, strT, muT, lstAt, ownL, lstOf, seqOf, L2.atI, L2.ixN, lim, bnd_ok', go_ok', seq_nx', seq_rt', opt_some', nox_ok', finO_rt, finO_nx, padF, kwF, insOf, lT, m1, m2, h, beq_false_of_ne h, asBl]
  have i0 : ixT st (lsT ls) (.int 0) = some (lT t0) := by
    unfold lsT
    rw [ix_lst', e]
    exact L2.atI_nat (j := 0) rfl
  exact (sp_walk (L := lsT ls) rfl i0 w c).trans (fin_nl0 hs (nl_lst.mpr (nls_of fun x hx => by obtain ⟨y, _, rfl⟩ := List.mem_map.mp hx; exact nl_lT)))
theorem stL_head {ls : List Ln} (ok : LnsOk ls) : ∃ t r, stL ls = t :: r ∧ Stp9 ls t := by
  have pos : ∀ l, l ∈ ls → 0 < l.2.2 := fun l hl => by have := (ok.b l hl).2.2.1; omega
  obtain ⟨t0, r, e⟩ : ∃ t0 r, ls = t0 :: r := by
    cases ls with
    | nil => exact absurd rfl ok.ne
    | cons a b => exact ⟨a, b, rfl⟩
  have h0 : t0 ∈ ls := by rw [e]; exact List.mem_cons_self
  have tp : topL ls = topS t0 ls := by unfold topL; rw [e]; rfl
  have tm : topL ls ∈ ls := by rw [tp]; exact topS_spec (P := fun l => l ∈ ls) h0 fun l h => h
  have mx : ∀ l, l ∈ ls → l.2.1 * (topL ls).2.2 ≤ (topL ls).2.1 * l.2.2 := fun l hl => by rw [tp]; exact topS_max (pos t0 h0) pos l (.inr hl)
  have inS : topL ls ∈ stL ls := List.mem_filter.mpr ⟨tm, by simp⟩
  cases h : stL ls with
  | nil => rw [h] at inS; cases inS
  | cons t r =>
    have ht : t ∈ stL ls := by rw [h]; exact List.mem_cons_self
    obtain ⟨a, b⟩ := List.mem_filter.mp ht
    have b := of_decide_eq_true b
    exact ⟨t, r, rfl, a, fun l hl => ratio_trans (pos l hl) (pos _ tm) (pos t a) (mx l hl) (by omega)⟩
theorem cei {a g x : Int} (h : 0 < g) : -((-a) / g) ≤ x ↔ a ≤ x * g := by
  have := Int.le_ediv_iff_mul_le (a := -x) (b := -a) h
  have e : -x * g = -(x * g) := Int.neg_mul x g
  rw [e] at this
  constructor
  · intro a
    have := this.mp (by omega)
    omega
  · intro a
    have := this.mpr (by omega)
    omega
def cgl (t l : Ln) : Int := -((-(l.1 * t.2.2 - t.1 * l.2.2)) / gain t l)
def stS (t : Ln) (f : Int) (l : Ln) : Int := if 0 < gain t l then (if cgl t l > f then cgl t l else f) else f
def setS (t : Ln) : Int → List Ln → Int
  | f, [] => f
  | f, l :: ls => setS t (stS t f l) ls
theorem stS_le {t l : Ln} {f : Int} : f ≤ stS t f l := by unfold stS; split; split <;> omega; omega
theorem setS_ge {t : Ln} : ∀ {ls : List Ln} {f : Int}, f ≤ setS t f ls
  | [], f => Int.le_refl _
  | l :: ls, f => Int.le_trans stS_le (setS_ge (ls := ls))
theorem setS_all {t : Ln} : ∀ {ls : List Ln} {f : Int} (l : Ln), l ∈ ls → 0 < gain t l → cgl t l ≤ setS t f ls
  | m :: ls, f, l, h, g => by
    rcases List.mem_cons.mp h with rfl | h
    · refine Int.le_trans ?_ (setS_ge (ls := ls))
      unfold stS
      rw [if_pos g]
      split <;> omega
    · exact setS_all (ls := ls) l h g
theorem setS_bd {t : Ln} {M : Int} : ∀ {ls : List Ln} {f : Int}, f ≤ M → (∀ l, l ∈ ls → 0 < gain t l → cgl t l ≤ M) → setS t f ls ≤ M
  | [], f, h, _ => h
  | l :: ls, f, h, k => by
    refine setS_bd (ls := ls) ?_ fun m hm => k m (List.mem_cons_of_mem _ hm)
    unfold stS
    split
    · split
      · exact k l List.mem_cons_self (by assumption)
      · exact h
    · exact h
def setI (ls : List Ln) : Int := setS ((stL ls).headD (0, 0, 1)) 0 ls
/-- from the settled step on the steepest lines alone tell the load -/
theorem setI_set {ls : List Ln} {t : Ln} {r : List Ln} {n : Int} (e : stL ls = t :: r) (hn : setI ls ≤ n) : Set9 ls t n := fun l hl g => by
  have a : cgl t l ≤ setI ls := by unfold setI; rw [e]; exact setS_all l hl g
  have b := (cei g).mp (show cgl t l ≤ n from Int.le_trans a hn)
  rw [Int.mul_comm n] at b
  exact b
theorem setI_0 {ls : List Ln} : 0 ≤ setI ls := setS_ge
theorem gain_bd {ls : List Ln} (ok : LnsOk ls) {t l : Ln} (ht : t ∈ ls) (hl : l ∈ ls) : gain t l ≤ 1728 ∧ 0 ≤ t.2.1 * l.2.2 ∧ t.2.1 * l.2.2 ≤ 1728 ∧ 0 ≤ l.2.1 * t.2.2 ∧ 0 ≤ l.1 * t.2.2 ∧ l.1 * t.2.2 ≤ 1728 ∧ 0 ≤ t.1 * l.2.2 ∧ t.1 * l.2.2 ≤ 1728 := by
  obtain ⟨⟨a1, a2⟩, ⟨b1, b2⟩, c1, c2⟩ := ok.b t ht
  obtain ⟨⟨x1, x2⟩, ⟨y1, y2⟩, z1, z2⟩ := ok.b l hl
  have m : ∀ {a b : Int}, 0 ≤ a → a ≤ 144 → 1 ≤ b → b ≤ 12 → 0 ≤ a * b ∧ a * b ≤ 1728 := fun {a b} h1 h2 h3 h4 => by
    refine ⟨Int.mul_nonneg h1 (by omega), ?_⟩
    have p := Int.mul_le_mul_of_nonneg_right h2 (show 0 ≤ b by omega)
    have q : 144 * b ≤ 144 * 12 := Int.mul_le_mul_of_nonneg_left h4 (by decide)
    omega
  have p1 := m b1 b2 z1 z2
  have p2 := m y1 y2 c1 c2
  have p3 := m x1 x2 c1 c2
  have p4 := m a1 a2 z1 z2
  unfold gain
  omega
theorem setI_bd {ls : List Ln} (ok : LnsOk ls) : setI ls ≤ 1728 := by
  obtain ⟨t, r, e, st⟩ := stL_head ok
  unfold setI
  rw [e]
  show setS t 0 ls ≤ 1728
  refine setS_bd (by decide) fun l hl g => ?_
  have b := gain_bd ok st.i hl
  have h := (cei (a := l.1 * t.2.2 - t.1 * l.2.2) (x := 1728) g).mpr (by
    have : 1728 * 1 ≤ 1728 * gain t l := Int.mul_le_mul_of_nonneg_left (by omega) (by decide)
    omega)
  exact h
theorem se_t {L : T} {t l : Ln} {f : Int} {e6 : Option T} {st : Sto} (m1 : MulOk t.2.1 l.2.2) (m2 : MulOk l.2.1 t.2.2) (m3 : MulOk l.1 t.2.2) (m4 : MulOk t.1 l.2.2) (d : 0 < gain t l → DivOk (gain t l)) :
    evSs tb_settled_step l1_settled_step [some L, some (lT t), some (.int f), some (.int l.1), some (.int l.2.1), some (.int l.2.2), e6] st = .nx [some L, some (lT t), some (.int (stS t f l)), some (.int l.1), some (.int l.2.1), some (.int l.2.2), some (.int (gain t l))] st := by
  unfold stS cgl
  by_cases g : 0 < gain t l
  · have d := d g
    rw [if_pos g]
    unfold gain at g d ⊢
    have g2 : l.2.1 * t.2.2 < t.2.1 * l.2.2 := by omega
    simp [l1_settled_step, den, ap_evSs, ap_evSs0, IS.ev, IE.ev, IL.ev, IEs.ev, IO.ev, II.ev, IO.test, IA.ev, IA.ev.evs, ap_fNever, ap_fK, ap_fGl, ap_fBin, ap_fNeg, ap_fCmp, ap_fIsN, ap_fTup, ap_fIx, ap_fSl, ap_fFz, ap_fFn, ap_fBi, ap_fNil, ap_fCons, ap_fNo0, ap_fSo, ap_fNot, ap_fChain, ap_fAnd, ap_fOr, ap_fIte, ap_fBl, ap_fNew, ap_fMu, ap_fStr, ap_fRepr, ap_fAttr, ap_fDl, ap_fCat, ap_fRep, ap_fLi, ap_fZ3, ap_fSlL, ap_fSeq, ap_fEn, ap_fPr, ap_fRg2, ap_fTst, ap_fYes, ap_fNx, ap_fAsg, ap_fPar2, ap_fPar3, ap_fIf, ap_fRet, ap_fExp, ap_fG, ap_fSub, ap_fTu, ap_fNo, ap_fCo, ap_fFld, ap_fIsi, k1_fBin, k2_fBin, k1_fNeg, k1_fCmp, k2_fCmp, k1_fIsN, k1_fTup, k1_fIx, k2_fIx, k1_fSl, k2_fSl, k3_fSl, k1_fFz, k1_fBi, k1_fCons, k2_fCons, k1_fSo, k1_fNot, k1_fChain, k2_fChain, k1_fAnd, k1_fOr, k1_fIte, k1_fBl, k1_fNew, k1_fMu, k1_fStr, k1_fRepr, k1_fAttr, k1_fDl, k1_fCat, k2_fCat, k1_fRep, k2_fRep, k1_fLi, k1_fZ3, k2_fZ3, k3_fZ3, k1_fSlL, k2_fSlL, k3_fSlL, k1_fSeq, k1_fEn, k1_fPr, k2_fPr, k1_fRg2, k2_fRg2, k1_fTst, k1_fAsg, k1_fPar2, k1_fPar3, k1_fIf, k1_fRet, k1_fExp, k1_fFor, k1_fSub, k2_fSub, k1_fFld, k2_fFld, k1_fIsi, IG.set, IG.set.sets, evV, env0, isNn, strT, muT, lstAt, ownL, lstOf, seqOf, L2.atI, L2.ixN, lim, bnd_ok', go_ok', seq_nx', seq_rt', opt_some', nox_ok', finO_rt, finO_nx, padF, kwF, insOf, lT, m1, m2, m3, m4, g2, d]
  · rw [if_neg g]
    unfold gain at g ⊢
    have g2 : ¬ (l.2.1 * t.2.2 < t.2.1 * l.2.2) := by omega
    simp [l1_settled_step, den, ap_evSs, ap_evSs0, IS.ev, IE.ev, IL.ev, IEs.ev, IO.ev, II.ev, IO.test, IA.ev, IA.ev.evs, ap_fNever, ap_fK, ap_fGl, ap_fBin, ap_fNeg, ap_fCmp, ap_fIsN, ap_fTup, ap_fIx, ap_fSl, ap_fFz, ap_fFn, ap_fBi, ap_fNil, ap_fCons, ap_fNo0, ap_fSo, ap_fNot, ap_fChain, ap_fAnd, ap_fOr, ap_fIte, ap_fBl, ap_fNew, ap_fMu, ap_fStr, ap_fRepr, ap_fAttr, ap_fDl, ap_fCat, ap_fRep, ap_fLi, ap_fZ3, ap_fSlL, ap_fSeq, ap_fEn, ap_fPr, ap_fRg2, ap_fTst, ap_fYes, ap_fNx, ap_fAsg, ap_fPar2, ap_fPar3, ap_fIf, ap_fRet, ap_fExp, ap_fG, ap_fSub, ap_fTu, ap_fNo, ap_fCo, ap_fFld, ap_fIsi, k1_fBin, k2_fBin, k1_fNeg, k1_fCmp, k2_fCmp, k1_fIsN, k1_fTup, k1_fIx, k2_fIx, k1_fSl, k2_fSl, k3_fSl, k1_fFz, k1_fBi, k1_fCons, k2_fCons, k1_fSo, k1_fNot, k1_fChain, k2_fChain, k1_fAnd, k1_fOr, k1_fIte, k1_fBl, k1_fNew, k1_fMu, k1_fStr, k1_fRepr, k1_fAttr, k1_fDl, k1_fCat, k2_fCat, k1_fRep, k2_fRep, k1_fLi, k1_fZ3, k2_fZ3, k3_fZ3, k1_fSlL, k2_fSlL, k3_fSlL, k1_fSeq, k1_fEn, k1_fPr, k2_fPr, k1_fRg2, k2_fRg2, k1_fTst, k1_fAsg, k1_fPar2, k1_fPar3, k1_fIf, k1_fRet, k1_fExp, k1_fFor, k1_fSub, k2_fSub, k1_fFld, k2_fFld, k1_fIsi, IG.set, IG.set.sets, evV, env0, isNn, strT, muT, lstAt, ownL, lstOf, seqOf, L2.atI, L2.ixN, lim, bnd_ok', go_ok', seq_nx', seq_rt', opt_some', nox_ok', finO_rt, finO_nx, padF, kwF, insOf, lT, m1, m2, m3, m4, g2]
theorem se_loop {L : T} {t : Ln} {st : Sto} : ∀ {ls : List Ln} {f : Int} {e3 e4 e5 e6 : Option T}, (∀ l, l ∈ ls → MulOk t.2.1 l.2.2 ∧ MulOk l.2.1 t.2.2 ∧ MulOk l.1 t.2.2 ∧ MulOk t.1 l.2.2 ∧ (0 < gain t l → DivOk (gain t l))) →
    ∃ f3 f4 f5 f6, walkO (.tup [(.name 3), (.name 4), (.name 5)]) (evSs tb_settled_step l1_settled_step) (ls.map lT) [some L, some (lT t), some (.int f), e3, e4, e5, e6] st = .nx [some L, some (lT t), some (.int (setS t f ls)), f3, f4, f5, f6] st
  | [], f, e3, e4, e5, e6, _ => ⟨e3, e4, e5, e6, rfl⟩
  | l :: ls, f, e3, e4, e5, e6, h => by
    obtain ⟨m1, m2, m3, m4, d⟩ := h l List.mem_cons_self
    obtain ⟨f3, f4, f5, f6, w⟩ := se_loop (L := L) (t := t) (st := st) (ls := ls) (f := stS t f l) (e3 := some (.int l.1)) (e4 := some (.int l.2.1)) (e5 := some (.int l.2.2)) (e6 := some (.int (gain t l))) fun m hm => h m (List.mem_cons_of_mem _ hm)
    refine ⟨f3, f4, f5, f6, ?_⟩
    rw [List.map_cons, walkO]
    have s : (IG.tup [(.name 3), (.name 4), (.name 5)]).set (lT l) [some L, some (lT t), some (.int f), e3, e4, e5, e6] = some [some L, some (lT t), some (.int f), some (.int l.1), some (.int l.2.1), some (.int l.2.2), e6] := by
      simp [IG.set, IG.set.sets, lT]
    have k := se_t (L := L) (f := f) (e6 := e6) (st := st) m1 m2 m3 m4 d
    simp only [s, k]
    exact w
theorem st_head_ix {ls r : List Ln} {t : Ln} {st : Sto} (e : stL ls = t :: r) : ixT st (lsT (stL ls)) (.int 0) = some (lT t) := by
  unfold lsT
  rw [ix_lst', e]
  exact L2.atI_nat (j := 0) rfl
theorem se_walk {L TL X : T} {xs : List T} {N : Int} {f3 f4 f5 f6 : Option T} {st : Sto} (hL : L = .lst xs) (h : F_steepest [L] st = .ok TL st) (i0 : ixT st TL (.int 0) = some X)
    (w : walkO (.tup [(.name 3), (.name 4), (.name 5)]) (evSs tb_settled_step l1_settled_step) xs [some L, some X, some (.int 0), none, none, none, none] st = .nx [some L, some X, some (.int N), f3, f4, f5, f6] st) : F_settled_step [L] st = finR tb_settled_step.cls false st.length (.int N) st := by
  subst hL
  simp [F_settled_step, tbf_of_settled_step, tbc_of_settled_step, b_settled_step, den, ap_evSs, ap_evSs0, IS.ev, IE.ev, IL.ev, IEs.ev, IO.ev, II.ev, IO.test, IA.ev, IA.ev.evs, ap_fNever, ap_fK, ap_fGl, ap_fBin, ap_fNeg, ap_fCmp, ap_fIsN, ap_fTup, ap_fIx, ap_fSl, ap_fFz, ap_fFn, ap_fBi, ap_fNil, ap_fCons, ap_fNo0, ap_fSo, ap_fNot, ap_fChain, ap_fAnd, ap_fOr, ap_fIte, ap_fBl, ap_fNew, ap_fMu, ap_fStr, ap_fRepr, ap_fAttr, ap_fDl, ap_fCat, ap_fRep, ap_fLi, ap_fZ3, ap_fSlL, ap_fSeq, ap_fEn, ap_fPr, ap_fRg2, ap_fTst, ap_fYes, ap_fNx, ap_fAsg, ap_fPar2, ap_fPar3, ap_fIf, ap_fRet, ap_fExp, ap_fG, ap_fSub, ap_fTu, ap_fNo, ap_fCo, ap_fFld, ap_fIsi, k1_fBin, k2_fBin, k1_fNeg, k1_fCmp, k2_fCmp, k1_fIsN, k1_fTup, k1_fIx, k2_fIx, k1_fSl, k2_fSl, k3_fSl, k1_fFz, k1_fBi, k1_fCons, k2_fCons, k1_fSo, k1_fNot, k1_fChain, k2_fChain, k1_fAnd, k1_fOr, k1_fIte, k1_fBl, k1_fNew, k1_fMu, k1_fStr, k1_fRepr, k1_fAttr, k1_fDl, k1_fCat, k2_fCat, k1_fRep, k2_fRep, k1_fLi, k1_fZ3, k2_fZ3, k3_fZ3, k1_fSlL, k2_fSlL, k3_fSlL, k1_fSeq, k1_fEn, k1_fPr, k2_fPr, k1_fRg2, k2_fRg2, k1_fTst, k1_fAsg, k1_fPar2, k1_fPar3, k1_fIf, k1_fRet, k1_fExp, k1_fFor, k1_fSub, k2_fSub, k1_fFld, k2_fFld, k1_fIsi, IG.set, IG.set.sets, evV, env0, isNn, strT, muT, lstAt, ownL, lstOf, seqOf, L2.atI, L2.ixN, lim, bnd_ok', go_ok', seq_nx', seq_rt', opt_some', nox_ok', finO_rt, finO_nx, padF, kwF, insOf, ap_fFor, -ix_lst', h, i0, w]
theorem settled_ok {ls : List Ln} {st : Sto} (hs : NL st) (ok : LnsOk ls) : F_settled_step [lsT ls] st = .ok (.int (setI ls)) st := by
  obtain ⟨t, r, e, s9⟩ := stL_head ok
  obtain ⟨f3, f4, f5, f6, w⟩ := se_loop (L := lsT ls) (t := t) (st := st) (ls := ls) (f := 0) (e3 := none) (e4 := none) (e5 := none) (e6 := none) fun l hl => by
    obtain ⟨⟨a1, a2⟩, ⟨b1, b2⟩, c1, c2⟩ := ok.b t s9.i
    obtain ⟨⟨x1, x2⟩, ⟨y1, y2⟩, z1, z2⟩ := ok.b l hl
    have b := gain_bd ok s9.i hl
    exact ⟨lsmall b1 (by omega) (by omega) (by omega), lsmall y1 (by omega) (by omega) (by omega), lsmall x1 (by omega) (by omega) (by omega), lsmall a1 (by omega) (by omega) (by omega), fun g => div_ok g (by omega)⟩
  have k : setS t 0 ls = setI ls := by unfold setI; rw [e]; rfl
  rw [k] at w
  exact (se_walk (L := lsT ls) rfl (steepest_ok hs ok) (st_head_ix e) w).trans (fin_nl0 hs (by simp))
def perLs (t : Ln) : List Nat := (List.range t.2.2.toNat).filter fun j => decide (t.2.1 * (1 + (j : Int)) % t.2.2 = 0)
def perI (t : Ln) : Int := 1 + (((perLs t).headD 0 : Nat) : Int)
def rise (t : Ln) : Int := t.2.1 * perI t / t.2.2
theorem per_spec {t : Ln} (h : 1 ≤ t.2.2) : (∃ j r, perLs t = j :: r ∧ perI t = 1 + (j : Int)) ∧ 1 ≤ perI t ∧ perI t ≤ t.2.2 ∧ t.2.1 * perI t = rise t * t.2.2 ∧ ∀ q, 1 ≤ q → t.2.1 * q % t.2.2 = 0 → perI t ≤ q := by
  have m : ∀ q : Int, 1 ≤ q → q ≤ t.2.2 → t.2.1 * q % t.2.2 = 0 → (q - 1).toNat ∈ perLs t := fun q h1 h2 h3 => by
    refine List.mem_filter.mpr ⟨List.mem_range.mpr (by omega), ?_⟩
    have : (1 : Int) + ((q - 1).toNat : Int) = q := by omega
    rw [this]
    exact decide_eq_true h3
  have h0 := m t.2.2 h (Int.le_refl _) (by rw [Int.mul_emod_left])
  cases hp : perLs t with
  | nil => rw [hp] at h0; cases h0
  | cons j r =>
    have pj : perI t = 1 + (j : Int) := by unfold perI; rw [hp]; rfl
    have hj : j ∈ perLs t := by rw [hp]; exact List.mem_cons_self
    obtain ⟨a, b⟩ := List.mem_filter.mp hj
    have a := List.mem_range.mp a
    have b := of_decide_eq_true b
    rw [← pj] at b
    have first : ∀ i, i ∈ perLs t → j ≤ i := fun i hi => by
      have pw : (perLs t).Pairwise (· < ·) := List.Pairwise.filter _ List.pairwise_lt_range
      rw [hp] at pw hi
      rcases List.mem_cons.mp hi with rfl | hi
      · exact Nat.le_refl _
      · exact Nat.le_of_lt ((List.pairwise_cons.mp pw).1 i hi)
    refine ⟨⟨j, r, rfl, pj⟩, by omega, by omega, ?_, fun q h1 h3 => ?_⟩
    · unfold rise
      exact (Int.ediv_mul_cancel (Int.dvd_of_emod_eq_zero b)).symm
    · by_cases h2 : q ≤ t.2.2
      · have := first _ (m q h1 h2 h3)
        omega
      · omega
theorem rg2_eq {fa fb : Env → Sto → R T} {env : Env} {st st1 st2 : Sto} {a : Int} {k : Nat} (h : fa env st = .ok (.int a) st1) (h2 : fb env st1 = .ok (.int (a + k)) st2) (r1 : RgOk a) (r2 : RgOk (a + k)) : fRg2 fa fb env st = .ok ((List.range k).map fun (j : Nat) => T.int (a + (j : Int))) st2 := by
  show (fa env st).bnd _ = _
  rw [h, bnd_ok']
  show (fb env st1).bnd _ = _
  rw [h2, bnd_ok']
  refine (if_pos ⟨r1, r2⟩).trans ?_
  unfold rangeT
  rw [show (a + (k : Int) - a).toNat = k by omega]
theorem pe_walk {L TL : T} {t : Ln} {ns : List T} {p u : Int} {st : Sto} (h : F_steepest [L] st = .ok TL st) (i0 : ixT st TL (.int 0) = some (lT t))
    (c : fLc [5] (e1_period_of.ev tb_period_of) (.name 5) (fRg2 (fK (.int 1)) (fBin .Add (evV 4) (fK (.int 1)))) (fTst (q1_period_of.ev tb_period_of)) [some L, none, some (.int t.1), some (.int t.2.1), some (.int t.2.2), none] st = .ok ns st)
    (i1 : ixT st (.lst ns) (.int 0) = some (.int p)) (m : MulOk t.2.1 p) (d : DivOk t.2.2) (hu : t.2.1 * p / t.2.2 = u) : F_period_of [L] st = finR tb_period_of.cls false st.length (.tup [.int p, .int u]) st := by
  subst hu
  unfold lT at i0
  simp [F_period_of, tbf_of_period_of, tbc_of_period_of, b_period_of, den, ap_evSs, ap_evSs0, IS.ev, IE.ev, IL.ev, IEs.ev, IO.ev, II.ev, IO.test, IA.ev, IA.ev.evs, ap_fNever, ap_fK, ap_fGl, ap_fBin, ap_fNeg, ap_fCmp, ap_fIsN, ap_fTup, ap_fIx, ap_fSl, ap_fFz, ap_fFn, ap_fBi, ap_fNil, ap_fCons, ap_fNo0, ap_fSo, ap_fNot, ap_fChain, ap_fAnd, ap_fOr, ap_fIte, ap_fBl, ap_fNew, ap_fMu, ap_fStr, ap_fRepr, ap_fAttr, ap_fDl, ap_fCat, ap_fRep, ap_fLi, ap_fZ3, ap_fSlL, ap_fSeq, ap_fEn, ap_fPr, ap_fRg2, ap_fTst, ap_fYes, ap_fNx, ap_fAsg, ap_fPar2, ap_fPar3, ap_fIf, ap_fRet, ap_fExp, ap_fG, ap_fSub, ap_fTu, ap_fNo, ap_fCo, ap_fFld, ap_fIsi, k1_fBin, k2_fBin, k1_fNeg, k1_fCmp, k2_fCmp, k1_fIsN, k1_fTup, k1_fIx, k2_fIx, k1_fSl, k2_fSl, k3_fSl, k1_fFz, k1_fBi, k1_fCons, k2_fCons, k1_fSo, k1_fNot, k1_fChain, k2_fChain, k1_fAnd, k1_fOr, k1_fIte, k1_fBl, k1_fNew, k1_fMu, k1_fStr, k1_fRepr, k1_fAttr, k1_fDl, k1_fCat, k2_fCat, k1_fRep, k2_fRep, k1_fLi, k1_fZ3, k2_fZ3, k3_fZ3, k1_fSlL, k2_fSlL, k3_fSlL, k1_fSeq, k1_fEn, k1_fPr, k2_fPr, k1_fRg2, k2_fRg2, k1_fTst, k1_fAsg, k1_fPar2, k1_fPar3, k1_fIf, k1_fRet, k1_fExp, k1_fFor, k1_fSub, k2_fSub, k1_fFld, k2_fFld, k1_fIsi, IG.set, IG.set.sets, evV, env0, isNn, strT, muT, lstAt, ownL, lstOf, seqOf, L2.atI, L2.ixN, lim, bnd_ok', go_ok', seq_nx', seq_rt', opt_some', nox_ok', finO_rt, finO_nx, padF, kwF, insOf, -ix_lst', -ap_fRg2, h, i0, c, i1, m, d]
theorem period_ok {ls r : List Ln} {t : Ln} {st : Sto} (hs : NL st) (ok : LnsOk ls) (e : stL ls = t :: r) (ht : t ∈ ls) : F_period_of [lsT ls] st = .ok (.tup [.int (perI t), .int (rise t)]) st := by
  obtain ⟨⟨a1, a2⟩, ⟨b1, b2⟩, c1, c2⟩ := ok.b t ht
  obtain ⟨⟨j, q, pl, pj⟩, p1, p2, _, _⟩ := per_spec (t := t) c1
  have d : DivOk t.2.2 := div_ok (by omega) (by omega)
  have c : fLc [5] (e1_period_of.ev tb_period_of) (.name 5) (fRg2 (fK (.int 1)) (fBin .Add (evV 4) (fK (.int 1)))) (fTst (q1_period_of.ev tb_period_of)) [some (lsT ls), none, some (.int t.1), some (.int t.2.1), some (.int t.2.2), none] st = .ok ((perLs t).map fun (j : Nat) => T.int (1 + (j : Int))) st := by
    have fm : (perLs t).map (fun (j : Nat) => T.int (1 + (j : Int))) = (List.range t.2.2.toNat).filterMap fun (j : Nat) => if t.2.1 * (1 + (j : Int)) % t.2.2 = 0 then some (T.int (1 + (j : Int))) else none := by
      unfold perLs
      generalize List.range t.2.2.toNat = R
      induction R with
      | nil => rfl
      | cons l L ih =>
        rw [List.filter_cons, List.filterMap_cons]
        by_cases h : t.2.1 * (1 + (l : Int)) % t.2.2 = 0
        · rw [if_pos (by simpa using h), if_pos h, List.map_cons, ih]
        · rw [if_neg (by simpa using h), if_neg h, ih]
    rw [fm]
    refine lc_filterE (emb := fun (j : Nat) => T.int (1 + (j : Int))) (rg2_eq (fa := fK (.int 1)) (fb := fBin .Add (evV 4) (fK (.int 1))) (st1 := st) (st2 := st) (a := 1) (k := t.2.2.toNat) rfl ?_ (by unfold RgOk; decide) (by unfold RgOk; constructor <;> omega)) (by simp; omega) fun i hi => ?_
    · simp [den, ap_evSs, ap_evSs0, IS.ev, IE.ev, IL.ev, IEs.ev, IO.ev, II.ev, IO.test, IA.ev, IA.ev.evs, ap_fNever, ap_fK, ap_fGl, ap_fBin, ap_fNeg, ap_fCmp, ap_fIsN, ap_fTup, ap_fIx, ap_fSl, ap_fFz, ap_fFn, ap_fBi, ap_fNil, ap_fCons, ap_fNo0, ap_fSo, ap_fNot, ap_fChain, ap_fAnd, ap_fOr, ap_fIte, ap_fBl, ap_fNew, ap_fMu, ap_fStr, ap_fRepr, ap_fAttr, ap_fDl, ap_fCat, ap_fRep, ap_fLi, ap_fZ3, ap_fSlL, ap_fSeq, ap_fEn, ap_fPr, ap_fRg2, ap_fTst, ap_fYes, ap_fNx, ap_fAsg, ap_fPar2, ap_fPar3, ap_fIf, ap_fRet, ap_fExp, ap_fG, ap_fSub, ap_fTu, ap_fNo, ap_fCo, ap_fFld, ap_fIsi, k1_fBin, k2_fBin, k1_fNeg, k1_fCmp, k2_fCmp, k1_fIsN, k1_fTup, k1_fIx, k2_fIx, k1_fSl, k2_fSl, k3_fSl, k1_fFz, k1_fBi, k1_fCons, k2_fCons, k1_fSo, k1_fNot, k1_fChain, k2_fChain, k1_fAnd, k1_fOr, k1_fIte, k1_fBl, k1_fNew, k1_fMu, k1_fStr, k1_fRepr, k1_fAttr, k1_fDl, k1_fCat, k2_fCat, k1_fRep, k2_fRep, k1_fLi, k1_fZ3, k2_fZ3, k3_fZ3, k1_fSlL, k2_fSlL, k3_fSlL, k1_fSeq, k1_fEn, k1_fPr, k2_fPr, k1_fRg2, k2_fRg2, k1_fTst, k1_fAsg, k1_fPar2, k1_fPar3, k1_fIf, k1_fRet, k1_fExp, k1_fFor, k1_fSub, k2_fSub, k1_fFld, k2_fFld, k1_fIsi, IG.set, IG.set.sets, evV, env0, isNn, strT, muT, lstAt, ownL, lstOf, seqOf, L2.atI, L2.ixN, lim, bnd_ok', go_ok', seq_nx', seq_rt', opt_some', nox_ok', finO_rt, finO_nx, padF, kwF, insOf]
      omega
    · have hi := List.mem_range.mp hi
      have m : MulOk t.2.1 (1 + (i : Int)) := lsmall b1 (by omega) (by omega) (by omega)
      have c0 : 0 < t.2.2 := by omega
      by_cases h : t.2.1 * (1 + (i : Int)) % t.2.2 = 0
      · simp [fTurn, wipeE, e1_period_of, q1_period_of, den, ap_evSs, ap_evSs0, IS.ev, IE.ev, IL.ev, IEs.ev, IO.ev, II.ev, IO.test, IA.ev, IA.ev.evs, ap_fNever, ap_fK, ap_fGl, ap_fBin, ap_fNeg, ap_fCmp, ap_fIsN, ap_fTup, ap_fIx, ap_fSl, ap_fFz, ap_fFn, ap_fBi, ap_fNil, ap_fCons, ap_fNo0, ap_fSo, ap_fNot, ap_fChain, ap_fAnd, ap_fOr, ap_fIte, ap_fBl, ap_fNew, ap_fMu, ap_fStr, ap_fRepr, ap_fAttr, ap_fDl, ap_fCat, ap_fRep, ap_fLi, ap_fZ3, ap_fSlL, ap_fSeq, ap_fEn, ap_fPr, ap_fRg2, ap_fTst, ap_fYes, ap_fNx, ap_fAsg, ap_fPar2, ap_fPar3, ap_fIf, ap_fRet, ap_fExp, ap_fG, ap_fSub, ap_fTu, ap_fNo, ap_fCo, ap_fFld, ap_fIsi, k1_fBin, k2_fBin, k1_fNeg, k1_fCmp, k2_fCmp, k1_fIsN, k1_fTup, k1_fIx, k2_fIx, k1_fSl, k2_fSl, k3_fSl, k1_fFz, k1_fBi, k1_fCons, k2_fCons, k1_fSo, k1_fNot, k1_fChain, k2_fChain, k1_fAnd, k1_fOr, k1_fIte, k1_fBl, k1_fNew, k1_fMu, k1_fStr, k1_fRepr, k1_fAttr, k1_fDl, k1_fCat, k2_fCat, k1_fRep, k2_fRep, k1_fLi, k1_fZ3, k2_fZ3, k3_fZ3, k1_fSlL, k2_fSlL, k3_fSlL, k1_fSeq, k1_fEn, k1_fPr, k2_fPr, k1_fRg2, k2_fRg2, k1_fTst, k1_fAsg, k1_fPar2, k1_fPar3, k1_fIf, k1_fRet, k1_fExp, k1_fFor, k1_fSub, k2_fSub, k1_fFld, k2_fFld, k1_fIsi, IG.set, IG.set.sets, evV, env0, isNn, strT, muT, lstAt, ownL, lstOf, seqOf, L2.atI, L2.ixN, lim, bnd_ok', go_ok', seq_nx', seq_rt', opt_some', nox_ok', finO_rt, finO_nx, padF, kwF, insOf, m, d, c0, h, asBl]
      · simp [fTurn, wipeE, e1_period_of, q1_period_of, den, ap_evSs, ap_evSs0, IS.ev, IE.ev, IL.ev, IEs.ev, IO.ev, II.ev, IO.test, IA.ev, IA.ev.evs, ap_fNever, ap_fK, ap_fGl, ap_fBin, ap_fNeg, ap_fCmp, ap_fIsN, ap_fTup, ap_fIx, ap_fSl, ap_fFz, ap_fFn, ap_fBi, ap_fNil, ap_fCons, ap_fNo0, ap_fSo, ap_fNot, ap_fChain, ap_fAnd, ap_fOr, ap_fIte, ap_fBl, ap_fNew, ap_fMu, ap_fStr, ap_fRepr, ap_fAttr, ap_fDl, ap_fCat, ap_fRep, ap_fLi, ap_fZ3, ap_fSlL, ap_fSeq, ap_fEn, ap_fPr, ap_fRg2, ap_fTst, ap_fYes, ap_fNx, ap_fAsg, ap_fPar2, ap_fPar3, ap_fIf, ap_fRet, ap_fExp, ap_fG, ap_fSub, ap_fTu, ap_fNo, ap_fCo, ap_fFld, ap_fIsi, k1_fBin, k2_fBin, k1_fNeg, k1_fCmp, k2_fCmp, k1_fIsN, k1_fTup, k1_fIx, k2_fIx, k1_fSl, k2_fSl, k3_fSl, k1_fFz, k1_fBi, k1_fCons, k2_fCons, k1_fSo, k1_fNot, k1_fChain, k2_fChain, k1_fAnd, k1_fOr, k1_fIte, k1_fBl, k1_fNew, k1_fMu, k1_fStr, k1_fRepr, k1_fAttr, k1_fDl, k1_fCat, k2_fCat, k1_fRep, k2_fRep, k1_fLi, k1_fZ3, k2_fZ3, k3_fZ3, k1_fSlL, k2_fSlL, k3_fSlL, k1_fSeq, k1_fEn, k1_fPr, k2_fPr, k1_fRg2, k2_fRg2, k1_fTst, k1_fAsg, k1_fPar2, k1_fPar3, k1_fIf, k1_fRet, k1_fExp, k1_fFor, k1_fSub, k2_fSub, k1_fFld, k2_fFld, k1_fIsi, IG.set, IG.set.sets, evV, env0, isNn, strT, muT, lstAt, ownL, lstOf, seqOf, L2.atI, L2.ixN, lim, bnd_ok', go_ok', seq_nx', seq_rt', opt_some', nox_ok', finO_rt, finO_nx, padF, kwF, insOf, m, d, c0, h, beq_false_of_ne h, asBl]
  have i1 : ixT st (.lst ((perLs t).map fun (j : Nat) => T.int (1 + (j : Int)))) (.int 0) = some (.int (perI t)) := by
    rw [ix_lst', pl, pj]
    exact L2.atI_nat (j := 0) rfl
  exact (pe_walk (L := lsT ls) (steepest_ok hs ok) (st_head_ix e) c i1 (lsmall b1 (by omega) (by omega) (by omega)) d rfl).trans (fin_nl0 hs (by simp))
def i1F : II := .rng1 (.bin .Add (.bin .Add (.call 1 (.cons (.v 0) .nil) .nil) (.bin .Mult (.k (.int 2)) (.v 3))) (.k (.int 1)))
def i2F : II := .rng1 (.bin .Sub (.bi .len (.cons (.v 1) .nil)) (.v 3))
theorem fo_a {L : T} {p u : Int} {st : Sto} (h : F_period_of [L] st = .ok (.tup [.int p, .int u]) st) : evSs tb_form_of (b_form_of.take 1) [some L, none, none, none, none, none] st = .nx [some L, none, none, some (.int p), some (.int u), none] st := by
  simp [b_form_of, tbf_of_form_of, tbc_of_form_of, den, ap_evSs, ap_evSs0, IS.ev, IE.ev, IL.ev, IEs.ev, IO.ev, II.ev, IO.test, IA.ev, IA.ev.evs, ap_fNever, ap_fK, ap_fGl, ap_fBin, ap_fNeg, ap_fCmp, ap_fIsN, ap_fTup, ap_fIx, ap_fSl, ap_fFz, ap_fFn, ap_fBi, ap_fNil, ap_fCons, ap_fNo0, ap_fSo, ap_fNot, ap_fChain, ap_fAnd, ap_fOr, ap_fIte, ap_fBl, ap_fNew, ap_fMu, ap_fStr, ap_fRepr, ap_fAttr, ap_fDl, ap_fCat, ap_fRep, ap_fLi, ap_fZ3, ap_fSlL, ap_fSeq, ap_fEn, ap_fPr, ap_fRg2, ap_fTst, ap_fYes, ap_fNx, ap_fAsg, ap_fPar2, ap_fPar3, ap_fIf, ap_fRet, ap_fExp, ap_fG, ap_fSub, ap_fTu, ap_fNo, ap_fCo, ap_fFld, ap_fIsi, k1_fBin, k2_fBin, k1_fNeg, k1_fCmp, k2_fCmp, k1_fIsN, k1_fTup, k1_fIx, k2_fIx, k1_fSl, k2_fSl, k3_fSl, k1_fFz, k1_fBi, k1_fCons, k2_fCons, k1_fSo, k1_fNot, k1_fChain, k2_fChain, k1_fAnd, k1_fOr, k1_fIte, k1_fBl, k1_fNew, k1_fMu, k1_fStr, k1_fRepr, k1_fAttr, k1_fDl, k1_fCat, k2_fCat, k1_fRep, k2_fRep, k1_fLi, k1_fZ3, k2_fZ3, k3_fZ3, k1_fSlL, k2_fSlL, k3_fSlL, k1_fSeq, k1_fEn, k1_fPr, k2_fPr, k1_fRg2, k2_fRg2, k1_fTst, k1_fAsg, k1_fPar2, k1_fPar3, k1_fIf, k1_fRet, k1_fExp, k1_fFor, k1_fSub, k2_fSub, k1_fFld, k2_fFld, k1_fIsi, IG.set, IG.set.sets, evV, env0, isNn, strT, muT, lstAt, ownL, lstOf, seqOf, L2.atI, L2.ixN, lim, bnd_ok', go_ok', seq_nx', seq_rt', opt_some', nox_ok', finO_rt, finO_nx, padF, kwF, insOf, h]
theorem fo_b {L : T} {p u : Int} {xs : List T} {st : Sto} (c : fLc [5] (e1_form_of.ev tb_form_of) (.name 5) (i1F.ev tb_form_of) fYes [some L, none, none, some (.int p), some (.int u), none] st = .ok xs st) :
    evSs tb_form_of ((b_form_of.drop 1).take 1) [some L, none, none, some (.int p), some (.int u), none] st = .nx [some L, some (.lst xs), none, some (.int p), some (.int u), none] st := by
  simp only [i1F, II.ev, IE.ev, IEs.ev] at c
  simp [b_form_of, den, ap_evSs, ap_evSs0, IS.ev, IE.ev, IL.ev, IEs.ev, IO.ev, II.ev, IO.test, IA.ev, IA.ev.evs, ap_fNever, ap_fK, ap_fGl, ap_fBin, ap_fNeg, ap_fCmp, ap_fIsN, ap_fTup, ap_fIx, ap_fSl, ap_fFz, ap_fFn, ap_fBi, ap_fNil, ap_fCons, ap_fNo0, ap_fSo, ap_fNot, ap_fChain, ap_fAnd, ap_fOr, ap_fIte, ap_fBl, ap_fNew, ap_fMu, ap_fStr, ap_fRepr, ap_fAttr, ap_fDl, ap_fCat, ap_fRep, ap_fLi, ap_fZ3, ap_fSlL, ap_fSeq, ap_fEn, ap_fPr, ap_fRg2, ap_fTst, ap_fYes, ap_fNx, ap_fAsg, ap_fPar2, ap_fPar3, ap_fIf, ap_fRet, ap_fExp, ap_fG, ap_fSub, ap_fTu, ap_fNo, ap_fCo, ap_fFld, ap_fIsi, k1_fBin, k2_fBin, k1_fNeg, k1_fCmp, k2_fCmp, k1_fIsN, k1_fTup, k1_fIx, k2_fIx, k1_fSl, k2_fSl, k3_fSl, k1_fFz, k1_fBi, k1_fCons, k2_fCons, k1_fSo, k1_fNot, k1_fChain, k2_fChain, k1_fAnd, k1_fOr, k1_fIte, k1_fBl, k1_fNew, k1_fMu, k1_fStr, k1_fRepr, k1_fAttr, k1_fDl, k1_fCat, k2_fCat, k1_fRep, k2_fRep, k1_fLi, k1_fZ3, k2_fZ3, k3_fZ3, k1_fSlL, k2_fSlL, k3_fSlL, k1_fSeq, k1_fEn, k1_fPr, k2_fPr, k1_fRg2, k2_fRg2, k1_fTst, k1_fAsg, k1_fPar2, k1_fPar3, k1_fIf, k1_fRet, k1_fExp, k1_fFor, k1_fSub, k2_fSub, k1_fFld, k2_fFld, k1_fIsi, IG.set, IG.set.sets, evV, env0, isNn, strT, muT, lstAt, ownL, lstOf, seqOf, L2.atI, L2.ixN, lim, bnd_ok', go_ok', seq_nx', seq_rt', opt_some', nox_ok', finO_rt, finO_nx, padF, kwF, insOf, c]
theorem fo_c {L : T} {p u : Int} {xs ys : List T} {st : Sto} (c : fLc [5] (e2_form_of.ev tb_form_of) (.name 5) (i2F.ev tb_form_of) (fTst (q1_form_of.ev tb_form_of)) [some L, some (.lst xs), none, some (.int p), some (.int u), none] st = .ok ys st) :
    evSs tb_form_of ((b_form_of.drop 2).take 1) [some L, some (.lst xs), none, some (.int p), some (.int u), none] st = .nx [some L, some (.lst xs), some (.lst ys), some (.int p), some (.int u), none] st := by
  simp only [i2F, II.ev, IE.ev, IEs.ev] at c
  simp [b_form_of, den, ap_evSs, ap_evSs0, IS.ev, IE.ev, IL.ev, IEs.ev, IO.ev, II.ev, IO.test, IA.ev, IA.ev.evs, ap_fNever, ap_fK, ap_fGl, ap_fBin, ap_fNeg, ap_fCmp, ap_fIsN, ap_fTup, ap_fIx, ap_fSl, ap_fFz, ap_fFn, ap_fBi, ap_fNil, ap_fCons, ap_fNo0, ap_fSo, ap_fNot, ap_fChain, ap_fAnd, ap_fOr, ap_fIte, ap_fBl, ap_fNew, ap_fMu, ap_fStr, ap_fRepr, ap_fAttr, ap_fDl, ap_fCat, ap_fRep, ap_fLi, ap_fZ3, ap_fSlL, ap_fSeq, ap_fEn, ap_fPr, ap_fRg2, ap_fTst, ap_fYes, ap_fNx, ap_fAsg, ap_fPar2, ap_fPar3, ap_fIf, ap_fRet, ap_fExp, ap_fG, ap_fSub, ap_fTu, ap_fNo, ap_fCo, ap_fFld, ap_fIsi, k1_fBin, k2_fBin, k1_fNeg, k1_fCmp, k2_fCmp, k1_fIsN, k1_fTup, k1_fIx, k2_fIx, k1_fSl, k2_fSl, k3_fSl, k1_fFz, k1_fBi, k1_fCons, k2_fCons, k1_fSo, k1_fNot, k1_fChain, k2_fChain, k1_fAnd, k1_fOr, k1_fIte, k1_fBl, k1_fNew, k1_fMu, k1_fStr, k1_fRepr, k1_fAttr, k1_fDl, k1_fCat, k2_fCat, k1_fRep, k2_fRep, k1_fLi, k1_fZ3, k2_fZ3, k3_fZ3, k1_fSlL, k2_fSlL, k3_fSlL, k1_fSeq, k1_fEn, k1_fPr, k2_fPr, k1_fRg2, k2_fRg2, k1_fTst, k1_fAsg, k1_fPar2, k1_fPar3, k1_fIf, k1_fRet, k1_fExp, k1_fFor, k1_fSub, k2_fSub, k1_fFld, k2_fFld, k1_fIsi, IG.set, IG.set.sets, evV, env0, isNn, strT, muT, lstAt, ownL, lstOf, seqOf, L2.atI, L2.ixN, lim, bnd_ok', go_ok', seq_nx', seq_rt', opt_some', nox_ok', finO_rt, finO_nx, padF, kwF, insOf, c]
theorem fo_d0 {L : T} {p u : Int} {xs zs : List T} {st : Sto} (hc : cut xs none (some p) = zs) : evSs tb_form_of (b_form_of.drop 3) [some L, some (.lst xs), some (.lst []), some (.int p), some (.int u), none] st = .rt (.tup [.tup zs, .int p, .int u]) st := by
  have e : eqT (.lst []) (.lst []) = some true := rfl
  have hb : ∀ st, biT st .tuple [.lst zs] = some (.tup zs) := fun st => rfl
  simp [b_form_of, den, ap_evSs, ap_evSs0, IS.ev, IE.ev, IL.ev, IEs.ev, IO.ev, II.ev, IO.test, IA.ev, IA.ev.evs, ap_fNever, ap_fK, ap_fGl, ap_fBin, ap_fNeg, ap_fCmp, ap_fIsN, ap_fTup, ap_fIx, ap_fSl, ap_fFz, ap_fFn, ap_fBi, ap_fNil, ap_fCons, ap_fNo0, ap_fSo, ap_fNot, ap_fChain, ap_fAnd, ap_fOr, ap_fIte, ap_fBl, ap_fNew, ap_fMu, ap_fStr, ap_fRepr, ap_fAttr, ap_fDl, ap_fCat, ap_fRep, ap_fLi, ap_fZ3, ap_fSlL, ap_fSeq, ap_fEn, ap_fPr, ap_fRg2, ap_fTst, ap_fYes, ap_fNx, ap_fAsg, ap_fPar2, ap_fPar3, ap_fIf, ap_fRet, ap_fExp, ap_fG, ap_fSub, ap_fTu, ap_fNo, ap_fCo, ap_fFld, ap_fIsi, k1_fBin, k2_fBin, k1_fNeg, k1_fCmp, k2_fCmp, k1_fIsN, k1_fTup, k1_fIx, k2_fIx, k1_fSl, k2_fSl, k3_fSl, k1_fFz, k1_fBi, k1_fCons, k2_fCons, k1_fSo, k1_fNot, k1_fChain, k2_fChain, k1_fAnd, k1_fOr, k1_fIte, k1_fBl, k1_fNew, k1_fMu, k1_fStr, k1_fRepr, k1_fAttr, k1_fDl, k1_fCat, k2_fCat, k1_fRep, k2_fRep, k1_fLi, k1_fZ3, k2_fZ3, k3_fZ3, k1_fSlL, k2_fSlL, k3_fSlL, k1_fSeq, k1_fEn, k1_fPr, k2_fPr, k1_fRg2, k2_fRg2, k1_fTst, k1_fAsg, k1_fPar2, k1_fPar3, k1_fIf, k1_fRet, k1_fExp, k1_fFor, k1_fSub, k2_fSub, k1_fFld, k2_fFld, k1_fIsi, IG.set, IG.set.sets, evV, env0, isNn, strT, muT, lstAt, ownL, lstOf, seqOf, L2.atI, L2.ixN, lim, bnd_ok', go_ok', seq_nx', seq_rt', opt_some', nox_ok', finO_rt, finO_nx, padF, kwF, insOf, cmpT, frozen, e, hc, hb]
theorem fo_d1 {L : T} {p u j : Int} {xs ys zs : List T} {st : Sto} (e : eqT (.lst ys) (.lst []) = some false) (hi : ixT st (.lst ys) (.int (-1)) = some (.int j)) (hc : cut xs none (some (j + 1 + p)) = zs) : evSs tb_form_of (b_form_of.drop 3) [some L, some (.lst xs), some (.lst ys), some (.int p), some (.int u), none] st = .rt (.tup [.tup zs, .int p, .int u]) st := by
  have hb : ∀ st, biT st .tuple [.lst zs] = some (.tup zs) := fun st => rfl
  simp [b_form_of, den, ap_evSs, ap_evSs0, IS.ev, IE.ev, IL.ev, IEs.ev, IO.ev, II.ev, IO.test, IA.ev, IA.ev.evs, ap_fNever, ap_fK, ap_fGl, ap_fBin, ap_fNeg, ap_fCmp, ap_fIsN, ap_fTup, ap_fIx, ap_fSl, ap_fFz, ap_fFn, ap_fBi, ap_fNil, ap_fCons, ap_fNo0, ap_fSo, ap_fNot, ap_fChain, ap_fAnd, ap_fOr, ap_fIte, ap_fBl, ap_fNew, ap_fMu, ap_fStr, ap_fRepr, ap_fAttr, ap_fDl, ap_fCat, ap_fRep, ap_fLi, ap_fZ3, ap_fSlL, ap_fSeq, ap_fEn, ap_fPr, ap_fRg2, ap_fTst, ap_fYes, ap_fNx, ap_fAsg, ap_fPar2, ap_fPar3, ap_fIf, ap_fRet, ap_fExp, ap_fG, ap_fSub, ap_fTu, ap_fNo, ap_fCo, ap_fFld, ap_fIsi, k1_fBin, k2_fBin, k1_fNeg, k1_fCmp, k2_fCmp, k1_fIsN, k1_fTup, k1_fIx, k2_fIx, k1_fSl, k2_fSl, k3_fSl, k1_fFz, k1_fBi, k1_fCons, k2_fCons, k1_fSo, k1_fNot, k1_fChain, k2_fChain, k1_fAnd, k1_fOr, k1_fIte, k1_fBl, k1_fNew, k1_fMu, k1_fStr, k1_fRepr, k1_fAttr, k1_fDl, k1_fCat, k2_fCat, k1_fRep, k2_fRep, k1_fLi, k1_fZ3, k2_fZ3, k3_fZ3, k1_fSlL, k2_fSlL, k3_fSlL, k1_fSeq, k1_fEn, k1_fPr, k2_fPr, k1_fRg2, k2_fRg2, k1_fTst, k1_fAsg, k1_fPar2, k1_fPar3, k1_fIf, k1_fRet, k1_fExp, k1_fFor, k1_fSub, k2_fSub, k1_fFld, k2_fFld, k1_fIsi, IG.set, IG.set.sets, evV, env0, isNn, strT, muT, lstAt, ownL, lstOf, seqOf, L2.atI, L2.ixN, lim, bnd_ok', go_ok', seq_nx', seq_rt', opt_some', nox_ok', finO_rt, finO_nx, padF, kwF, insOf, cmpT, frozen, -ix_lst', e, hi, hc, hb]
def sLen (ls : List Ln) (t : Ln) : Nat := (setI ls + 2 * perI t + 1).toNat
def othL (ls : List Ln) (t : Ln) : List Nat := (List.range (sLen ls t - (perI t).toNat)).filter fun j => decide (ldA ls ((j : Int) + perI t) ≠ ldA ls (j : Int) + rise t)
def kOf (ls : List Ln) (t : Ln) : Nat := match (othL ls t).getLast? with
  | some j => j + 1
  | none => 0
def earlyL (ls : List Ln) (t : Ln) : List Int := (List.range (kOf ls t + (perI t).toNat)).map fun (j : Nat) => ldA ls (j : Int)
def tripT (e : List Int) (p u : Int) : T := .tup [.tup (e.map T.int), .int p, .int u]
theorem cut_to {A : Type} {xs : List A} {n : Nat} : cut xs none (some (n : Int)) = xs.take n := by
  unfold cut
  rw [HT.sIx_none, HT.sIx_nat, List.drop_zero, Nat.sub_zero]
  by_cases h : n ≤ xs.length
  · rw [Nat.min_eq_left h]
  · rw [Nat.min_eq_right (by omega), List.take_of_length_le (Nat.le_refl _), List.take_of_length_le (by omega)]
theorem map_fm {A B : Type} {f : A → B} {P : A → Prop} [DecidablePred P] : ∀ {L : List A}, (L.filter fun a => decide (P a)).map f = L.filterMap fun a => if P a then some (f a) else none
  | [] => rfl
  | l :: L => by
    have ih := map_fm (f := f) (P := P) (L := L)
    rw [List.filter_cons, List.filterMap_cons]
    by_cases h : P l
    · rw [if_pos (by simpa using h), if_pos h, List.map_cons, ih]
    · rw [if_neg (by simpa using h), if_neg h, ih]
theorem atI_last {A : Type} {xs : List A} {x : A} (h : xs.getLast? = some x) : L2.atI xs (-1) = some x := by
  have hl : 0 < xs.length := by cases xs with
    | nil => simp at h
    | cons _ _ => simp
  have : L2.ixN xs.length (-1) = some (xs.length - 1) := by
    unfold L2.ixN
    simp
    omega
  unfold L2.atI
  rw [this]
  show xs[xs.length - 1]? = _
  rw [← List.getLast?_eq_getElem?]
  exact h
theorem form_ok {ls r : List Ln} {t : Ln} {st : Sto} (hs : NL st) (ok : LnsOk ls) (e : stL ls = t :: r) (ht : t ∈ ls) : F_form_of [lsT ls] st = .ok (tripT (earlyL ls t) (perI t) (rise t)) st := by
  obtain ⟨⟨a1, a2⟩, ⟨b1, b2⟩, c1, c2⟩ := ok.b t ht
  obtain ⟨_, p1, p2, _, _⟩ := per_spec (t := t) c1
  have n0 := setI_0 (ls := ls)
  have n1 := setI_bd ok
  obtain ⟨P, hP⟩ := Int.eq_ofNat_of_zero_le (show 0 ≤ perI t by omega)
  obtain ⟨N, hN⟩ := Int.eq_ofNat_of_zero_le n0
  have hM : sLen ls t = N + 2 * P + 1 := by unfold sLen; omega
  have pe := period_ok hs ok e ht
  have se := settled_ok hs ok
  have m2 : MulOk 2 (perI t) := lsmall (by decide) (by decide) (by omega) (by omega)
  obtain ⟨xs, hxs⟩ : ∃ xs, xs = (List.range (sLen ls t)).map fun (j : Nat) => T.int (ldA ls (j : Int)) := ⟨_, rfl⟩
  obtain ⟨ys, hys⟩ : ∃ ys, ys = (othL ls t).map fun (j : Nat) => T.int (j : Int) := ⟨_, rfl⟩
  have lx : xs.length = sLen ls t := by rw [hxs]; simp
  have ca : fLc [5] (e1_form_of.ev tb_form_of) (.name 5) (i1F.ev tb_form_of) fYes [some (lsT ls), none, none, some (.int (perI t)), some (.int (rise t)), none] st = .ok xs st := by
    rw [hxs]
    refine lc_mapE (emb := fun (j : Nat) => T.int (j : Int)) ?_ (by simp; omega) fun j hj => ?_
    · show fRg1 ((IE.bin .Add (.bin .Add (.call 1 (.cons (.v 0) .nil) .nil) (.bin .Mult (.k (.int 2)) (.v 3))) (.k (.int 1))).ev tb_form_of) _ st = _
      refine rg1_eq ?_ (by omega)
      have q : (sLen ls t : Int) = setI ls + 2 * perI t + 1 := by omega
      rw [q]
      generalize lsT ls = L at se
      generalize setI ls = S at se
      simp [tbf_of_form_of, tbc_of_form_of, den, ap_evSs, ap_evSs0, IS.ev, IE.ev, IL.ev, IEs.ev, IO.ev, II.ev, IO.test, IA.ev, IA.ev.evs, ap_fNever, ap_fK, ap_fGl, ap_fBin, ap_fNeg, ap_fCmp, ap_fIsN, ap_fTup, ap_fIx, ap_fSl, ap_fFz, ap_fFn, ap_fBi, ap_fNil, ap_fCons, ap_fNo0, ap_fSo, ap_fNot, ap_fChain, ap_fAnd, ap_fOr, ap_fIte, ap_fBl, ap_fNew, ap_fMu, ap_fStr, ap_fRepr, ap_fAttr, ap_fDl, ap_fCat, ap_fRep, ap_fLi, ap_fZ3, ap_fSlL, ap_fSeq, ap_fEn, ap_fPr, ap_fRg2, ap_fTst, ap_fYes, ap_fNx, ap_fAsg, ap_fPar2, ap_fPar3, ap_fIf, ap_fRet, ap_fExp, ap_fG, ap_fSub, ap_fTu, ap_fNo, ap_fCo, ap_fFld, ap_fIsi, k1_fBin, k2_fBin, k1_fNeg, k1_fCmp, k2_fCmp, k1_fIsN, k1_fTup, k1_fIx, k2_fIx, k1_fSl, k2_fSl, k3_fSl, k1_fFz, k1_fBi, k1_fCons, k2_fCons, k1_fSo, k1_fNot, k1_fChain, k2_fChain, k1_fAnd, k1_fOr, k1_fIte, k1_fBl, k1_fNew, k1_fMu, k1_fStr, k1_fRepr, k1_fAttr, k1_fDl, k1_fCat, k2_fCat, k1_fRep, k2_fRep, k1_fLi, k1_fZ3, k2_fZ3, k3_fZ3, k1_fSlL, k2_fSlL, k3_fSlL, k1_fSeq, k1_fEn, k1_fPr, k2_fPr, k1_fRg2, k2_fRg2, k1_fTst, k1_fAsg, k1_fPar2, k1_fPar3, k1_fIf, k1_fRet, k1_fExp, k1_fFor, k1_fSub, k2_fSub, k1_fFld, k2_fFld, k1_fIsi, IG.set, IG.set.sets, evV, env0, isNn, strT, muT, lstAt, ownL, lstOf, seqOf, L2.atI, L2.ixN, lim, bnd_ok', go_ok', seq_nx', seq_rt', opt_some', nox_ok', finO_rt, finO_nx, padF, kwF, insOf, se, m2]
    · have hj := List.mem_range.mp hj
      have ld := load_at_ok (n := (j : Int)) hs ok (by omega) (by omega)
      generalize lsT ls = L at ld
      simp [fTurn, wipeE, e1_form_of, tbf_of_form_of, tbc_of_form_of, den, ap_evSs, ap_evSs0, IS.ev, IE.ev, IL.ev, IEs.ev, IO.ev, II.ev, IO.test, IA.ev, IA.ev.evs, ap_fNever, ap_fK, ap_fGl, ap_fBin, ap_fNeg, ap_fCmp, ap_fIsN, ap_fTup, ap_fIx, ap_fSl, ap_fFz, ap_fFn, ap_fBi, ap_fNil, ap_fCons, ap_fNo0, ap_fSo, ap_fNot, ap_fChain, ap_fAnd, ap_fOr, ap_fIte, ap_fBl, ap_fNew, ap_fMu, ap_fStr, ap_fRepr, ap_fAttr, ap_fDl, ap_fCat, ap_fRep, ap_fLi, ap_fZ3, ap_fSlL, ap_fSeq, ap_fEn, ap_fPr, ap_fRg2, ap_fTst, ap_fYes, ap_fNx, ap_fAsg, ap_fPar2, ap_fPar3, ap_fIf, ap_fRet, ap_fExp, ap_fG, ap_fSub, ap_fTu, ap_fNo, ap_fCo, ap_fFld, ap_fIsi, k1_fBin, k2_fBin, k1_fNeg, k1_fCmp, k2_fCmp, k1_fIsN, k1_fTup, k1_fIx, k2_fIx, k1_fSl, k2_fSl, k3_fSl, k1_fFz, k1_fBi, k1_fCons, k2_fCons, k1_fSo, k1_fNot, k1_fChain, k2_fChain, k1_fAnd, k1_fOr, k1_fIte, k1_fBl, k1_fNew, k1_fMu, k1_fStr, k1_fRepr, k1_fAttr, k1_fDl, k1_fCat, k2_fCat, k1_fRep, k2_fRep, k1_fLi, k1_fZ3, k2_fZ3, k3_fZ3, k1_fSlL, k2_fSlL, k3_fSlL, k1_fSeq, k1_fEn, k1_fPr, k2_fPr, k1_fRg2, k2_fRg2, k1_fTst, k1_fAsg, k1_fPar2, k1_fPar3, k1_fIf, k1_fRet, k1_fExp, k1_fFor, k1_fSub, k2_fSub, k1_fFld, k2_fFld, k1_fIsi, IG.set, IG.set.sets, evV, env0, isNn, strT, muT, lstAt, ownL, lstOf, seqOf, L2.atI, L2.ixN, lim, bnd_ok', go_ok', seq_nx', seq_rt', opt_some', nox_ok', finO_rt, finO_nx, padF, kwF, insOf, ld]
  have cb : fLc [5] (e2_form_of.ev tb_form_of) (.name 5) (i2F.ev tb_form_of) (fTst (q1_form_of.ev tb_form_of)) [some (lsT ls), some (.lst xs), none, some (.int (perI t)), some (.int (rise t)), none] st = .ok ys st := by
    rw [hys]
    unfold othL
    rw [map_fm]
    refine lc_filterE (emb := fun (j : Nat) => T.int (j : Int)) ?_ (by simp; omega) fun j hj => ?_
    · show fRg1 ((IE.bin .Sub (.bi .len (.cons (.v 1) .nil)) (.v 3)).ev tb_form_of) _ st = _
      refine rg1_eq ?_ (by omega)
      have q : ((sLen ls t - (perI t).toNat : Nat) : Int) = (xs.length : Int) - perI t := by omega
      rw [q]
      generalize lsT ls = L
      simp [den, ap_evSs, ap_evSs0, IS.ev, IE.ev, IL.ev, IEs.ev, IO.ev, II.ev, IO.test, IA.ev, IA.ev.evs, ap_fNever, ap_fK, ap_fGl, ap_fBin, ap_fNeg, ap_fCmp, ap_fIsN, ap_fTup, ap_fIx, ap_fSl, ap_fFz, ap_fFn, ap_fBi, ap_fNil, ap_fCons, ap_fNo0, ap_fSo, ap_fNot, ap_fChain, ap_fAnd, ap_fOr, ap_fIte, ap_fBl, ap_fNew, ap_fMu, ap_fStr, ap_fRepr, ap_fAttr, ap_fDl, ap_fCat, ap_fRep, ap_fLi, ap_fZ3, ap_fSlL, ap_fSeq, ap_fEn, ap_fPr, ap_fRg2, ap_fTst, ap_fYes, ap_fNx, ap_fAsg, ap_fPar2, ap_fPar3, ap_fIf, ap_fRet, ap_fExp, ap_fG, ap_fSub, ap_fTu, ap_fNo, ap_fCo, ap_fFld, ap_fIsi, k1_fBin, k2_fBin, k1_fNeg, k1_fCmp, k2_fCmp, k1_fIsN, k1_fTup, k1_fIx, k2_fIx, k1_fSl, k2_fSl, k3_fSl, k1_fFz, k1_fBi, k1_fCons, k2_fCons, k1_fSo, k1_fNot, k1_fChain, k2_fChain, k1_fAnd, k1_fOr, k1_fIte, k1_fBl, k1_fNew, k1_fMu, k1_fStr, k1_fRepr, k1_fAttr, k1_fDl, k1_fCat, k2_fCat, k1_fRep, k2_fRep, k1_fLi, k1_fZ3, k2_fZ3, k3_fZ3, k1_fSlL, k2_fSlL, k3_fSlL, k1_fSeq, k1_fEn, k1_fPr, k2_fPr, k1_fRg2, k2_fRg2, k1_fTst, k1_fAsg, k1_fPar2, k1_fPar3, k1_fIf, k1_fRet, k1_fExp, k1_fFor, k1_fSub, k2_fSub, k1_fFld, k2_fFld, k1_fIsi, IG.set, IG.set.sets, evV, env0, isNn, strT, muT, lstAt, ownL, lstOf, seqOf, L2.atI, L2.ixN, lim, bnd_ok', go_ok', seq_nx', seq_rt', opt_some', nox_ok', finO_rt, finO_nx, padF, kwF, insOf]
    · have hj := List.mem_range.mp hj
      have g : ∀ i : Nat, i < sLen ls t → ixT st (.lst xs) (.int (i : Int)) = some (.int (ldA ls (i : Int))) := fun i hi => by
        rw [ix_lst']
        refine L2.atI_nat ?_
        rw [hxs, List.getElem?_map, List.getElem?_range hi]
        rfl
      have g1 := g j (by omega)
      have g2 := g (j + P) (by omega)
      have q : ((j + P : Nat) : Int) = (j : Int) + perI t := by omega
      rw [q] at g2
      generalize lsT ls = L
      generalize ldA ls (j : Int) = A at g1 ⊢
      generalize ldA ls ((j : Int) + perI t) = B at g2 ⊢
      generalize T.lst xs = X at g1 g2 ⊢
      by_cases h : B ≠ A + rise t
      · simp [fTurn, wipeE, e2_form_of, q1_form_of, den, ap_evSs, ap_evSs0, IS.ev, IE.ev, IL.ev, IEs.ev, IO.ev, II.ev, IO.test, IA.ev, IA.ev.evs, ap_fNever, ap_fK, ap_fGl, ap_fBin, ap_fNeg, ap_fCmp, ap_fIsN, ap_fTup, ap_fIx, ap_fSl, ap_fFz, ap_fFn, ap_fBi, ap_fNil, ap_fCons, ap_fNo0, ap_fSo, ap_fNot, ap_fChain, ap_fAnd, ap_fOr, ap_fIte, ap_fBl, ap_fNew, ap_fMu, ap_fStr, ap_fRepr, ap_fAttr, ap_fDl, ap_fCat, ap_fRep, ap_fLi, ap_fZ3, ap_fSlL, ap_fSeq, ap_fEn, ap_fPr, ap_fRg2, ap_fTst, ap_fYes, ap_fNx, ap_fAsg, ap_fPar2, ap_fPar3, ap_fIf, ap_fRet, ap_fExp, ap_fG, ap_fSub, ap_fTu, ap_fNo, ap_fCo, ap_fFld, ap_fIsi, k1_fBin, k2_fBin, k1_fNeg, k1_fCmp, k2_fCmp, k1_fIsN, k1_fTup, k1_fIx, k2_fIx, k1_fSl, k2_fSl, k3_fSl, k1_fFz, k1_fBi, k1_fCons, k2_fCons, k1_fSo, k1_fNot, k1_fChain, k2_fChain, k1_fAnd, k1_fOr, k1_fIte, k1_fBl, k1_fNew, k1_fMu, k1_fStr, k1_fRepr, k1_fAttr, k1_fDl, k1_fCat, k2_fCat, k1_fRep, k2_fRep, k1_fLi, k1_fZ3, k2_fZ3, k3_fZ3, k1_fSlL, k2_fSlL, k3_fSlL, k1_fSeq, k1_fEn, k1_fPr, k2_fPr, k1_fRg2, k2_fRg2, k1_fTst, k1_fAsg, k1_fPar2, k1_fPar3, k1_fIf, k1_fRet, k1_fExp, k1_fFor, k1_fSub, k2_fSub, k1_fFld, k2_fFld, k1_fIsi, IG.set, IG.set.sets, evV, env0, isNn, strT, muT, lstAt, ownL, lstOf, seqOf, L2.atI, L2.ixN, lim, bnd_ok', go_ok', seq_nx', seq_rt', opt_some', nox_ok', finO_rt, finO_nx, padF, kwF, insOf, -ix_lst', g1, g2, h, asBl, cmpT, frozen]
      · have h := Decidable.not_not.mp h
        simp [fTurn, wipeE, e2_form_of, q1_form_of, den, ap_evSs, ap_evSs0, IS.ev, IE.ev, IL.ev, IEs.ev, IO.ev, II.ev, IO.test, IA.ev, IA.ev.evs, ap_fNever, ap_fK, ap_fGl, ap_fBin, ap_fNeg, ap_fCmp, ap_fIsN, ap_fTup, ap_fIx, ap_fSl, ap_fFz, ap_fFn, ap_fBi, ap_fNil, ap_fCons, ap_fNo0, ap_fSo, ap_fNot, ap_fChain, ap_fAnd, ap_fOr, ap_fIte, ap_fBl, ap_fNew, ap_fMu, ap_fStr, ap_fRepr, ap_fAttr, ap_fDl, ap_fCat, ap_fRep, ap_fLi, ap_fZ3, ap_fSlL, ap_fSeq, ap_fEn, ap_fPr, ap_fRg2, ap_fTst, ap_fYes, ap_fNx, ap_fAsg, ap_fPar2, ap_fPar3, ap_fIf, ap_fRet, ap_fExp, ap_fG, ap_fSub, ap_fTu, ap_fNo, ap_fCo, ap_fFld, ap_fIsi, k1_fBin, k2_fBin, k1_fNeg, k1_fCmp, k2_fCmp, k1_fIsN, k1_fTup, k1_fIx, k2_fIx, k1_fSl, k2_fSl, k3_fSl, k1_fFz, k1_fBi, k1_fCons, k2_fCons, k1_fSo, k1_fNot, k1_fChain, k2_fChain, k1_fAnd, k1_fOr, k1_fIte, k1_fBl, k1_fNew, k1_fMu, k1_fStr, k1_fRepr, k1_fAttr, k1_fDl, k1_fCat, k2_fCat, k1_fRep, k2_fRep, k1_fLi, k1_fZ3, k2_fZ3, k3_fZ3, k1_fSlL, k2_fSlL, k3_fSlL, k1_fSeq, k1_fEn, k1_fPr, k2_fPr, k1_fRg2, k2_fRg2, k1_fTst, k1_fAsg, k1_fPar2, k1_fPar3, k1_fIf, k1_fRet, k1_fExp, k1_fFor, k1_fSub, k2_fSub, k1_fFld, k2_fFld, k1_fIsi, IG.set, IG.set.sets, evV, env0, isNn, strT, muT, lstAt, ownL, lstOf, seqOf, L2.atI, L2.ixN, lim, bnd_ok', go_ok', seq_nx', seq_rt', opt_some', nox_ok', finO_rt, finO_nx, padF, kwF, insOf, -ix_lst', g1, g2, h, asBl, cmpT, frozen]
  have zs : ∀ k : Nat, k + P ≤ sLen ls t → k = kOf ls t → cut xs none (some ((k : Int) + perI t)) = (earlyL ls t).map T.int := fun k hk hk2 => by
    rw [show (k : Int) + perI t = ((k + P : Nat) : Int) by omega, cut_to, hxs, ← List.map_take, List.take_range, Nat.min_eq_left hk]
    unfold earlyL
    rw [List.map_map, ← hk2, show (perI t).toNat = P by omega]
    rfl
  have dd : evSs tb_form_of (b_form_of.drop 3) [some (lsT ls), some (.lst xs), some (.lst ys), some (.int (perI t)), some (.int (rise t)), none] st = .rt (tripT (earlyL ls t) (perI t) (rise t)) st := by
    cases ho : (othL ls t).getLast? with
    | none =>
      have : othL ls t = [] := List.getLast?_eq_none_iff.mp ho
      rw [hys, this]
      have hk : 0 = kOf ls t := by unfold kOf; rw [ho]
      have z := zs 0 (by omega) hk
      rw [show ((0 : Nat) : Int) + perI t = perI t by omega] at z
      exact fo_d0 z
    | some j =>
      have hk : j + 1 = kOf ls t := by unfold kOf; rw [ho]
      have hj : j ∈ othL ls t := List.mem_of_getLast? ho
      have hj := List.mem_range.mp (List.mem_filter.mp hj).1
      have z := zs (j + 1) (by omega) hk
      rw [show ((j + 1 : Nat) : Int) + perI t = (j : Int) + 1 + perI t by omega] at z
      refine fo_d1 ?_ ?_ z
      · rw [hys]
        cases hL : othL ls t with
        | nil => rw [hL] at ho; cases ho
        | cons a b =>
          have q := dat_ints ((a :: b).map fun (j : Nat) => (j : Int))
          have q2 := dep_ints ((a :: b).map fun (j : Nat) => (j : Int))
          rw [List.map_map] at q q2
          have q : datas ((a :: b).map fun (j : Nat) => T.int (j : Int)) = true := q
          have q2 : deps ((a :: b).map fun (j : Nat) => T.int (j : Int)) = 0 := q2
          rw [eqT_of (by simp only [data]; exact q) rfl (by simp only [dep]; omega) (by decide)]
          rfl
      · rw [ix_lst', hys]
        refine atI_last ?_
        rw [List.getLast?_map, ho]
        rfl
  have eb : b_form_of = b_form_of.take 1 ++ ((b_form_of.drop 1).take 1 ++ ((b_form_of.drop 2).take 1 ++ b_form_of.drop 3)) := rfl
  have k : evSs tb_form_of b_form_of [some (lsT ls), none, none, none, none, none] st = .rt (tripT (earlyL ls t) (perI t) (rise t)) st := by
    rw [eb, evSs_app, fo_a pe, seq_nx', evSs_app, fo_b ca, seq_nx', evSs_app, fo_c cb, seq_nx']
    exact dd
  exact (show F_form_of [lsT ls] st = finR tb_form_of.cls false st.length (tripT (earlyL ls t) (perI t) (rise t)) st from den_rt rfl k).trans (fin_nl0 hs (by unfold tripT; exact nl_tup.mpr (nls_cons.mpr ⟨nl_tup.mpr nls_ints, nls_cons.mpr ⟨by simp, nls_cons.mpr ⟨by simp, nls_nil⟩⟩⟩)))
theorem k_spec {ls r : List Ln} {t : Ln} (ok : LnsOk ls) (e : stL ls = t :: r) (h9 : Stp9 ls t) :
    (∀ n : Nat, kOf ls t ≤ n → ldA ls ((n : Int) + perI t) = ldA ls (n : Int) + rise t) ∧ ∀ j : Nat, kOf ls t = j + 1 → ldA ls ((j : Int) + perI t) ≠ ldA ls (j : Int) + rise t := by
  have pos : ∀ l, l ∈ ls → 0 < l.2.2 := fun l hl => by have := (ok.b l hl).2.2.1; omega
  obtain ⟨_, p1, p2, pu, _⟩ := per_spec (t := t) (ok.b t h9.i).2.2.1
  have n0 := setI_0 (ls := ls)
  refine ⟨fun n hn => ?_, fun j hj => ?_⟩
  · by_cases h : n < sLen ls t - (perI t).toNat
    · refine Decidable.byContradiction fun hc => ?_
      have hm : n ∈ othL ls t := List.mem_filter.mpr ⟨List.mem_range.mpr h, decide_eq_true hc⟩
      have pw : (othL ls t).Pairwise (· < ·) := List.Pairwise.filter _ List.pairwise_lt_range
      cases ho : (othL ls t).getLast? with
      | none => rw [List.getLast?_eq_none_iff.mp ho] at hm; cases hm
      | some j =>
        have hk : kOf ls t = j + 1 := by unfold kOf; rw [ho]
        obtain ⟨a, ea⟩ := List.getLast?_eq_some_iff.mp ho
        rw [ea] at pw hm
        rcases List.mem_append.mp hm with hm | hm
        · have := (List.pairwise_append.mp pw).2.2 n hm j (by simp)
          omega
        · rw [List.mem_singleton.mp hm] at hn
          omega
    · refine ldA_per pos h9 (by omega) pu (setI_set e ?_)
      unfold sLen at h
      omega
  · have ho : (othL ls t).getLast? = some j := by
      unfold kOf at hj
      cases ho : (othL ls t).getLast? with
      | none => rw [ho] at hj; cases hj
      | some i => rw [ho] at hj; rw [show i = j by simpa using hj]
    exact of_decide_eq_true (List.mem_filter.mp (List.mem_of_getLast? ho)).2
/-- a form is told by the load alone -/
structure FormI (ld : Int → Int) (k : Nat) (p u : Int) : Prop where
  p1 : 1 ≤ p
  f : ∀ n : Nat, k ≤ n → ld ((n : Int) + p) = ld (n : Int) + u
  l : ∀ j : Nat, k = j + 1 → ld ((j : Int) + p) ≠ ld (j : Int) + u
theorem FormI.many {ld : Int → Int} {k : Nat} {p u : Int} (a : FormI ld k p u) (n : Nat) (hn : k ≤ n) : ∀ m : Nat, ld ((n : Int) + m * p) = ld (n : Int) + m * u
  | 0 => by simp
  | m + 1 => by
    obtain ⟨P, hP⟩ := Int.eq_ofNat_of_zero_le (show 0 ≤ p by have := a.p1; omega)
    have ih := FormI.many a n hn m
    have s := a.f (n + m * P) (Nat.le_trans hn (Nat.le_add_right _ _))
    have c : ((n + m * P : Nat) : Int) = (n : Int) + m * p := by rw [hP]; simp
    rw [c, ih] at s
    have e1 : ((m + 1 : Nat) : Int) * p = m * p + p := by rw [Int.natCast_add, Int.add_mul]; simp
    have e2 : ((m + 1 : Nat) : Int) * u = m * u + u := by rw [Int.natCast_add, Int.add_mul]; simp
    rw [e1, e2, ← Int.add_assoc, s]
    omega
/-- any step by an early one -/
theorem FormI.step {ld : Int → Int} {k : Nat} {p u : Int} (a : FormI ld k p u) (n : Nat) (hn : k ≤ n) : ld (n : Int) = ld ((k : Int) + ((n : Int) - k) % p) + ((n : Int) - k) / p * u := by
  have hp := a.p1
  have m0 := Int.emod_nonneg ((n : Int) - k) (show p ≠ 0 by omega)
  have d0 : 0 ≤ ((n : Int) - k) / p := Int.ediv_nonneg (by omega) (by omega)
  obtain ⟨q, hq⟩ := Int.eq_ofNat_of_zero_le m0
  obtain ⟨d, hd⟩ := Int.eq_ofNat_of_zero_le d0
  have s := FormI.many a (k + q) (Nat.le_add_right _ _) d
  have e := Int.emod_add_mul_ediv ((n : Int) - k) p
  rw [hq, hd] at e ⊢
  have e2 : ((k + q : Nat) : Int) + (d : Int) * p = (n : Int) := by
    rw [Int.mul_comm] at e
    simp only [Int.natCast_add]
    omega
  rw [e2] at s
  rw [s]
  simp
theorem formI_of {ls r : List Ln} {t : Ln} (ok : LnsOk ls) (e : stL ls = t :: r) (h9 : Stp9 ls t) : FormI (ldA ls) (kOf ls t) (perI t) (rise t) :=
  ⟨(per_spec (t := t) (ok.b t h9.i).2.2.1).2.1, (k_spec ok e h9).1, (k_spec ok e h9).2⟩
theorem wrong_tableM {p : Pa} {g : List (List Int)} {M : Int} {st : Sto} (hs : NL st) (ok : POk p) (hg : TbB p.h.length p.g.length M g) : F_wrong_table [fairT p, gT g, .int M] st = .ok (.tup []) st := by
  have h1 := wrong_row_ok hs (by have := ok.g2; omega) hg.2
  have h2 := hosts_ok (p := p) hs
  have h3 := guests_ok (p := p) hs
  have h4 : g.length = p.h.length := hg.1
  simp only [fairT, gT, sT] at h1 h2 h3 ⊢
  simp [F_wrong_table, tbf_of_wrong_table, tbc_of_wrong_table, i0_of_wrong_table, i1_of_wrong_table, i2_of_wrong_table, i3_of_wrong_table, i4_of_wrong_table, i5_of_wrong_table, i6_of_wrong_table, c0_of_wrong_table, a0guests_of_wrong_table, p0guests_of_wrong_table, a0hosts_of_wrong_table, p0hosts_of_wrong_table, n_of_wrong_table, b_wrong_table, den, ap_evSs, ap_evSs0, IS.ev, IE.ev, IL.ev, IEs.ev, IO.ev, II.ev, IO.test, IA.ev, IA.ev.evs, ap_fNever, ap_fK, ap_fGl, ap_fBin, ap_fNeg, ap_fCmp, ap_fIsN, ap_fTup, ap_fIx, ap_fSl, ap_fFz, ap_fFn, ap_fBi, ap_fNil, ap_fCons, ap_fNo0, ap_fSo, ap_fNot, ap_fChain, ap_fAnd, ap_fOr, ap_fIte, ap_fBl, ap_fNew, ap_fMu, ap_fStr, ap_fRepr, ap_fAttr, ap_fDl, ap_fCat, ap_fRep, ap_fLi, ap_fZ3, ap_fSlL, ap_fSeq, ap_fEn, ap_fPr, ap_fRg1, ap_fRg2, ap_fTst, ap_fYes, ap_fNx, ap_fAsg, ap_fPar2, ap_fPar3, ap_fIf, ap_fRet, ap_fExp, ap_fG, ap_fSub, ap_fTu, ap_fNo, ap_fCo, ap_fFld, ap_fIsi, k1_fBin, k2_fBin, k1_fNeg, k1_fCmp, k2_fCmp, k1_fIsN, k1_fTup, k1_fIx, k2_fIx, k1_fSl, k2_fSl, k3_fSl, k1_fFz, k1_fBi, k1_fCons, k2_fCons, k1_fSo, k1_fNot, k1_fChain, k2_fChain, k1_fAnd, k1_fOr, k1_fIte, k1_fBl, k1_fNew, k1_fMu, k1_fStr, k1_fRepr, k1_fAttr, k1_fDl, k1_fCat, k2_fCat, k1_fRep, k2_fRep, k1_fLi, k1_fZ3, k2_fZ3, k3_fZ3, k1_fSlL, k2_fSlL, k3_fSlL, k1_fSeq, k1_fEn, k1_fPr, k2_fPr, k1_fRg1, k1_fRg2, k2_fRg2, k1_fTst, k1_fAsg, k1_fPar2, k1_fPar3, k1_fIf, k1_fRet, k1_fExp, k1_fFor, k1_fSub, k2_fSub, k1_fFld, k2_fFld, k1_fIsi, IG.set, IG.set.sets, evV, env0, isNn, strT, muT, lstAt, ownL, lstOf, seqOf, L2.atI, L2.ixN, lim, bnd_ok', go_ok', seq_nx', seq_rt', opt_some', nox_ok', finO_rt, finO_nx, padF, kwF, insOf, h1, h2, h3, h4]
  exact fin_nl0 hs (by simp)
theorem check_meetingsM {p : Pa} {g : List (List Int)} {M : Int} {st : Sto} (hs : NL st) (ok : POk p) (hg : TbB p.h.length p.g.length M g) : F_check_meetings [fairT p, gT g, .int M] st = .ok .non st := by
  have h1 := wrong_tableM hs ok hg
  have e1 : eqT (.tup []) (.tup []) = some true := by rfl
  simp [F_check_meetings, tbf_of_check_meetings, tbc_of_check_meetings, b_check_meetings, den, ap_evSs, ap_evSs0, IS.ev, IE.ev, IL.ev, IEs.ev, IO.ev, II.ev, IO.test, IA.ev, IA.ev.evs, ap_fNever, ap_fK, ap_fGl, ap_fBin, ap_fNeg, ap_fCmp, ap_fIsN, ap_fTup, ap_fIx, ap_fSl, ap_fFz, ap_fFn, ap_fBi, ap_fNil, ap_fCons, ap_fNo0, ap_fSo, ap_fNot, ap_fChain, ap_fAnd, ap_fOr, ap_fIte, ap_fBl, ap_fNew, ap_fMu, ap_fStr, ap_fRepr, ap_fAttr, ap_fDl, ap_fCat, ap_fRep, ap_fLi, ap_fZ3, ap_fSlL, ap_fSeq, ap_fEn, ap_fPr, ap_fRg1, ap_fRg2, ap_fTst, ap_fYes, ap_fNx, ap_fAsg, ap_fPar2, ap_fPar3, ap_fIf, ap_fRet, ap_fExp, ap_fG, ap_fSub, ap_fTu, ap_fNo, ap_fCo, ap_fFld, ap_fIsi, k1_fBin, k2_fBin, k1_fNeg, k1_fCmp, k2_fCmp, k1_fIsN, k1_fTup, k1_fIx, k2_fIx, k1_fSl, k2_fSl, k3_fSl, k1_fFz, k1_fBi, k1_fCons, k2_fCons, k1_fSo, k1_fNot, k1_fChain, k2_fChain, k1_fAnd, k1_fOr, k1_fIte, k1_fBl, k1_fNew, k1_fMu, k1_fStr, k1_fRepr, k1_fAttr, k1_fDl, k1_fCat, k2_fCat, k1_fRep, k2_fRep, k1_fLi, k1_fZ3, k2_fZ3, k3_fZ3, k1_fSlL, k2_fSlL, k3_fSlL, k1_fSeq, k1_fEn, k1_fPr, k2_fPr, k1_fRg1, k1_fRg2, k2_fRg2, k1_fTst, k1_fAsg, k1_fPar2, k1_fPar3, k1_fIf, k1_fRet, k1_fExp, k1_fFor, k1_fSub, k2_fSub, k1_fFld, k2_fFld, k1_fIsi, IG.set, IG.set.sets, evV, env0, isNn, strT, muT, lstAt, ownL, lstOf, seqOf, L2.atI, L2.ixN, lim, bnd_ok', go_ok', seq_nx', seq_rt', opt_some', nox_ok', finO_rt, finO_nx, padF, kwF, insOf, h1, e1]
  exact fin_nl0 hs (by simp)
theorem cg_walk {FA G H : T} {st : Sto} (h1 : F_check_fair [FA] st = .ok .non st) (h2 : F_check_meetings [FA, G, .int 9] st = .ok .non st) (h3 : F_wrong_table [FA, H, .int 3] st = .ok (.tup []) st) : F_check_growing [FA, G, H] st = finR tb_check_growing.cls false st.length .non st := by
  have e1 : eqT (.tup []) (.tup []) = some true := by rfl
  simp [F_check_growing, tbf_of_check_growing, tbc_of_check_growing, b_check_growing, den, ap_evSs, ap_evSs0, IS.ev, IE.ev, IL.ev, IEs.ev, IO.ev, II.ev, IO.test, IA.ev, IA.ev.evs, ap_fNever, ap_fK, ap_fGl, ap_fBin, ap_fNeg, ap_fCmp, ap_fIsN, ap_fTup, ap_fIx, ap_fSl, ap_fFz, ap_fFn, ap_fBi, ap_fNil, ap_fCons, ap_fNo0, ap_fSo, ap_fNot, ap_fChain, ap_fAnd, ap_fOr, ap_fIte, ap_fBl, ap_fNew, ap_fMu, ap_fStr, ap_fRepr, ap_fAttr, ap_fDl, ap_fCat, ap_fRep, ap_fLi, ap_fZ3, ap_fSlL, ap_fSeq, ap_fEn, ap_fPr, ap_fRg2, ap_fTst, ap_fYes, ap_fNx, ap_fAsg, ap_fPar2, ap_fPar3, ap_fIf, ap_fRet, ap_fExp, ap_fG, ap_fSub, ap_fTu, ap_fNo, ap_fCo, ap_fFld, ap_fIsi, k1_fBin, k2_fBin, k1_fNeg, k1_fCmp, k2_fCmp, k1_fIsN, k1_fTup, k1_fIx, k2_fIx, k1_fSl, k2_fSl, k3_fSl, k1_fFz, k1_fBi, k1_fCons, k2_fCons, k1_fSo, k1_fNot, k1_fChain, k2_fChain, k1_fAnd, k1_fOr, k1_fIte, k1_fBl, k1_fNew, k1_fMu, k1_fStr, k1_fRepr, k1_fAttr, k1_fDl, k1_fCat, k2_fCat, k1_fRep, k2_fRep, k1_fLi, k1_fZ3, k2_fZ3, k3_fZ3, k1_fSlL, k2_fSlL, k3_fSlL, k1_fSeq, k1_fEn, k1_fPr, k2_fPr, k1_fRg2, k2_fRg2, k1_fTst, k1_fAsg, k1_fPar2, k1_fPar3, k1_fIf, k1_fRet, k1_fExp, k1_fFor, k1_fSub, k2_fSub, k1_fFld, k2_fFld, k1_fIsi, IG.set, IG.set.sets, evV, env0, isNn, strT, muT, lstAt, ownL, lstOf, seqOf, L2.atI, L2.ixN, lim, bnd_ok', go_ok', seq_nx', seq_rt', opt_some', nox_ok', finO_rt, finO_nx, padF, kwF, insOf, h1, h2, h3, e1, cmpT, frozen]
theorem check_growing_ok {p : Pa} {g w : List (List Int)} {st : Sto} (hs : NL st) (ok : POk p) (hg : TbB p.h.length p.g.length 9 g) (hw : TbB p.h.length p.g.length 3 w) : F_check_growing [fairT p, gT g, gT w] st = .ok .non st :=
  (cg_walk (check_fair_ok hs) (check_meetingsM hs ok hg) (wrong_tableM hs ok hw)).trans (fin_nl0 hs (by simp))
theorem gr_walk {FA G H L X : T} {st : Sto} (h1 : F_check_growing [FA, G, H] st = .ok .non st) (h2 : F_lines_with [FA, G, H] st = .ok L st) (h3 : F_form_of [L] st = .ok X st) : F_grown [FA, G, H] st = finR tb_grown.cls false st.length X st := by
  simp [F_grown, tbf_of_grown, tbc_of_grown, b_grown, den, ap_evSs, ap_evSs0, IS.ev, IE.ev, IL.ev, IEs.ev, IO.ev, II.ev, IO.test, IA.ev, IA.ev.evs, ap_fNever, ap_fK, ap_fGl, ap_fBin, ap_fNeg, ap_fCmp, ap_fIsN, ap_fTup, ap_fIx, ap_fSl, ap_fFz, ap_fFn, ap_fBi, ap_fNil, ap_fCons, ap_fNo0, ap_fSo, ap_fNot, ap_fChain, ap_fAnd, ap_fOr, ap_fIte, ap_fBl, ap_fNew, ap_fMu, ap_fStr, ap_fRepr, ap_fAttr, ap_fDl, ap_fCat, ap_fRep, ap_fLi, ap_fZ3, ap_fSlL, ap_fSeq, ap_fEn, ap_fPr, ap_fRg2, ap_fTst, ap_fYes, ap_fNx, ap_fAsg, ap_fPar2, ap_fPar3, ap_fIf, ap_fRet, ap_fExp, ap_fG, ap_fSub, ap_fTu, ap_fNo, ap_fCo, ap_fFld, ap_fIsi, k1_fBin, k2_fBin, k1_fNeg, k1_fCmp, k2_fCmp, k1_fIsN, k1_fTup, k1_fIx, k2_fIx, k1_fSl, k2_fSl, k3_fSl, k1_fFz, k1_fBi, k1_fCons, k2_fCons, k1_fSo, k1_fNot, k1_fChain, k2_fChain, k1_fAnd, k1_fOr, k1_fIte, k1_fBl, k1_fNew, k1_fMu, k1_fStr, k1_fRepr, k1_fAttr, k1_fDl, k1_fCat, k2_fCat, k1_fRep, k2_fRep, k1_fLi, k1_fZ3, k2_fZ3, k3_fZ3, k1_fSlL, k2_fSlL, k3_fSlL, k1_fSeq, k1_fEn, k1_fPr, k2_fPr, k1_fRg2, k2_fRg2, k1_fTst, k1_fAsg, k1_fPar2, k1_fPar3, k1_fIf, k1_fRet, k1_fExp, k1_fFor, k1_fSub, k2_fSub, k1_fFld, k2_fFld, k1_fIsi, IG.set, IG.set.sets, evV, env0, isNn, strT, muT, lstAt, ownL, lstOf, seqOf, L2.atI, L2.ixN, lim, bnd_ok', go_ok', seq_nx', seq_rt', opt_some', nox_ok', finO_rt, finO_nx, padF, kwF, insOf, h1, h2, h3]
def dLT (D x y : T) : List T := match D with
  | .non => []
  | _ => [.tup [x, y, D]]
theorem lw_walk {A B D G H x y : T} {C1 C2 R1 K1 R2 K2 : List T} {st : Sto} (a1 : F_Fair_hosts [.obj 0 [A, B, D]] st = .ok A st) (a2 : F_Fair_guests [.obj 0 [A, B, D]] st = .ok B st) (a3 : F_Fair_tables [.obj 0 [A, B, D]] st = .ok D st)
    (b1 : F_bounds_of [A] st = .ok (.lst C1) st) (b2 : F_bounds_of [B] st = .ok (.lst C2) st) (r1 : F_row_sums [G] st = .ok (.lst R1) st) (k1 : F_column_sums [G] st = .ok (.lst K1) st) (r2 : F_row_sums [H] st = .ok (.lst R2) st) (k2 : F_column_sums [H] st = .ok (.lst K2) st)
    (w1 : F_whole_sum [G] st = .ok x st) (w2 : F_whole_sum [H] st = .ok y st) (l1 : C1.length + C2.length ≤ 16777216) (l2 : R1.length + K1.length ≤ 16777216) (l3 : R2.length + K2.length ≤ 16777216)
    (l4 : (z3l (R1 ++ K1) (R2 ++ K2) (C1 ++ C2)).length + 1 ≤ 16777216) (hD : D = .non ∨ ∃ i, D = .int i) :
    F_lines_with [.obj 0 [A, B, D], G, H] st = finR tb_lines_with.cls false st.length (.lst ((z3l (R1 ++ K1) (R2 ++ K2) (C1 ++ C2)).map T.tup ++ dLT D x y)) st := by
  have l5 : (z3l (R1 ++ K1) (R2 ++ K2) (C1 ++ C2)).length ≤ 16777216 := by omega
  rcases hD with rfl | ⟨i, rfl⟩
  · simp [F_lines_with, tbf_of_lines_with, tbc_of_lines_with, c0_of_lines_with, a0guests_of_lines_with, p0guests_of_lines_with, a0hosts_of_lines_with, p0hosts_of_lines_with, a0tables_of_lines_with, p0tables_of_lines_with, n_of_lines_with, b_lines_with, den, ap_evSs, ap_evSs0, IS.ev, IE.ev, IL.ev, IEs.ev, IO.ev, II.ev, IO.test, IA.ev, IA.ev.evs, ap_fNever, ap_fK, ap_fGl, ap_fBin, ap_fNeg, ap_fCmp, ap_fIsN, ap_fTup, ap_fIx, ap_fSl, ap_fFz, ap_fFn, ap_fBi, ap_fNil, ap_fCons, ap_fNo0, ap_fSo, ap_fNot, ap_fChain, ap_fAnd, ap_fOr, ap_fIte, ap_fBl, ap_fNew, ap_fMu, ap_fStr, ap_fRepr, ap_fAttr, ap_fDl, ap_fCat, ap_fRep, ap_fLi, ap_fZ3, ap_fSlL, ap_fSeq, ap_fEn, ap_fPr, ap_fRg2, ap_fTst, ap_fYes, ap_fNx, ap_fAsg, ap_fPar2, ap_fPar3, ap_fIf, ap_fRet, ap_fExp, ap_fG, ap_fSub, ap_fTu, ap_fNo, ap_fCo, ap_fFld, ap_fIsi, k1_fBin, k2_fBin, k1_fNeg, k1_fCmp, k2_fCmp, k1_fIsN, k1_fTup, k1_fIx, k2_fIx, k1_fSl, k2_fSl, k3_fSl, k1_fFz, k1_fBi, k1_fCons, k2_fCons, k1_fSo, k1_fNot, k1_fChain, k2_fChain, k1_fAnd, k1_fOr, k1_fIte, k1_fBl, k1_fNew, k1_fMu, k1_fStr, k1_fRepr, k1_fAttr, k1_fDl, k1_fCat, k2_fCat, k1_fRep, k2_fRep, k1_fLi, k1_fZ3, k2_fZ3, k3_fZ3, k1_fSlL, k2_fSlL, k3_fSlL, k1_fSeq, k1_fEn, k1_fPr, k2_fPr, k1_fRg2, k2_fRg2, k1_fTst, k1_fAsg, k1_fPar2, k1_fPar3, k1_fIf, k1_fRet, k1_fExp, k1_fFor, k1_fSub, k2_fSub, k1_fFld, k2_fFld, k1_fIsi, IG.set, IG.set.sets, evV, env0, isNn, strT, muT, lstAt, ownL, lstOf, seqOf, L2.atI, L2.ixN, lim, bnd_ok', go_ok', seq_nx', seq_rt', opt_some', nox_ok', finO_rt, finO_nx, padF, kwF, insOf, a1, a2, a3, b1, b2, r1, k1, r2, k2, l1, l2, l3, l5, dLT]
  · simp [F_lines_with, tbf_of_lines_with, tbc_of_lines_with, c0_of_lines_with, a0guests_of_lines_with, p0guests_of_lines_with, a0hosts_of_lines_with, p0hosts_of_lines_with, a0tables_of_lines_with, p0tables_of_lines_with, n_of_lines_with, b_lines_with, den, ap_evSs, ap_evSs0, IS.ev, IE.ev, IL.ev, IEs.ev, IO.ev, II.ev, IO.test, IA.ev, IA.ev.evs, ap_fNever, ap_fK, ap_fGl, ap_fBin, ap_fNeg, ap_fCmp, ap_fIsN, ap_fTup, ap_fIx, ap_fSl, ap_fFz, ap_fFn, ap_fBi, ap_fNil, ap_fCons, ap_fNo0, ap_fSo, ap_fNot, ap_fChain, ap_fAnd, ap_fOr, ap_fIte, ap_fBl, ap_fNew, ap_fMu, ap_fStr, ap_fRepr, ap_fAttr, ap_fDl, ap_fCat, ap_fRep, ap_fLi, ap_fZ3, ap_fSlL, ap_fSeq, ap_fEn, ap_fPr, ap_fRg2, ap_fTst, ap_fYes, ap_fNx, ap_fAsg, ap_fPar2, ap_fPar3, ap_fIf, ap_fRet, ap_fExp, ap_fG, ap_fSub, ap_fTu, ap_fNo, ap_fCo, ap_fFld, ap_fIsi, k1_fBin, k2_fBin, k1_fNeg, k1_fCmp, k2_fCmp, k1_fIsN, k1_fTup, k1_fIx, k2_fIx, k1_fSl, k2_fSl, k3_fSl, k1_fFz, k1_fBi, k1_fCons, k2_fCons, k1_fSo, k1_fNot, k1_fChain, k2_fChain, k1_fAnd, k1_fOr, k1_fIte, k1_fBl, k1_fNew, k1_fMu, k1_fStr, k1_fRepr, k1_fAttr, k1_fDl, k1_fCat, k2_fCat, k1_fRep, k2_fRep, k1_fLi, k1_fZ3, k2_fZ3, k3_fZ3, k1_fSlL, k2_fSlL, k3_fSlL, k1_fSeq, k1_fEn, k1_fPr, k2_fPr, k1_fRg2, k2_fRg2, k1_fTst, k1_fAsg, k1_fPar2, k1_fPar3, k1_fIf, k1_fRet, k1_fExp, k1_fFor, k1_fSub, k2_fSub, k1_fFld, k2_fFld, k1_fIsi, IG.set, IG.set.sets, evV, env0, isNn, strT, muT, lstAt, ownL, lstOf, seqOf, L2.atI, L2.ixN, lim, bnd_ok', go_ok', seq_nx', seq_rt', opt_some', nox_ok', finO_rt, finO_nx, padF, kwF, insOf, a1, a2, a3, b1, b2, r1, k1, r2, k2, w1, w2, l1, l2, l3, l4, l5, dLT]
def z3p : List Int → List Int → List Int → List Ln
  | x :: xs, y :: ys, u :: us => (x, y, u) :: z3p xs ys us
  | _, _, _ => []
theorem z3p_T : ∀ (xs ys us : List Int), (z3l (xs.map T.int) (ys.map T.int) (us.map T.int)).map T.tup = (z3p xs ys us).map lT
  | [], ys, us => by simp [z3l, z3p]
  | _ :: _, [], us => by simp [z3l, z3p]
  | _ :: _, _ :: _, [] => by simp [z3l, z3p]
  | x :: xs, y :: ys, u :: us => by
    have ih := z3p_T xs ys us
    simp only [List.map_cons, z3l, z3p, ih]
    rfl
theorem z3p_len : ∀ (xs ys us : List Int), (z3p xs ys us).length ≤ us.length
  | [], ys, us => by simp [z3p]
  | _ :: _, [], us => by simp [z3p]
  | _ :: _, _ :: _, [] => by simp [z3p]
  | x :: xs, y :: ys, u :: us => by have := z3p_len xs ys us; simp only [z3p, List.length_cons]; omega
theorem z3p_mem : ∀ {xs ys us : List Int} {l : Ln}, l ∈ z3p xs ys us → l.1 ∈ xs ∧ l.2.1 ∈ ys ∧ l.2.2 ∈ us
  | [], ys, us, l, h => by simp [z3p] at h
  | _ :: _, [], us, l, h => by simp [z3p] at h
  | _ :: _, _ :: _, [], l, h => by simp [z3p] at h
  | x :: xs, y :: ys, u :: us, l, h => by
    simp only [z3p] at h
    rcases List.mem_cons.mp h with rfl | h
    · exact ⟨List.mem_cons_self, List.mem_cons_self, List.mem_cons_self⟩
    · obtain ⟨a, b, c⟩ := z3p_mem h
      exact ⟨List.mem_cons_of_mem _ a, List.mem_cons_of_mem _ b, List.mem_cons_of_mem _ c⟩
def SG (p : Pa) (g : List (List Int)) : List Int := g.map List.sum ++ (List.range p.g.length).map (colS g)
def BG (p : Pa) : List Int := p.h.map (·.2) ++ p.g.map (·.2)
def dL (p : Pa) (g w : List (List Int)) : List Ln := match p.d with
  | none => []
  | some d => [((g.map List.sum).sum, (w.map List.sum).sum, d)]
def lnsOf (p : Pa) (g w : List (List Int)) : List Ln := z3p (SG p g) (SG p w) (BG p) ++ dL p g w
theorem sumM {M : Int} : ∀ {xs : List Int}, (∀ x, x ∈ xs → 0 ≤ x ∧ x ≤ M) → 0 ≤ xs.sum ∧ xs.sum ≤ xs.length * M
  | [], _ => by simp
  | x :: xs, h => by
    have ih := sumM (xs := xs) fun y hy => h y (List.mem_cons_of_mem _ hy)
    have hx := h x List.mem_cons_self
    rw [List.sum_cons, List.length_cons, Int.natCast_add, Int.add_mul]
    simp only [Int.natCast_one, Int.one_mul]
    omega
theorem SG_bd {p : Pa} {g : List (List Int)} {M : Int} (ok : POk p) (hM : 0 ≤ M ∧ M ≤ 9) (hg : TbB p.h.length p.g.length M g) : (∀ x, x ∈ SG p g → 0 ≤ x ∧ x ≤ 36) ∧ 0 ≤ (g.map List.sum).sum ∧ (g.map List.sum).sum ≤ 144 := by
  have l1 := ok.h2
  have l2 := ok.g2
  have mul : ∀ n : Nat, n ≤ 4 → (n : Int) * M ≤ 36 := fun n hn => by
    have a : (n : Int) * M ≤ 4 * M := Int.mul_le_mul_of_nonneg_right (by omega) hM.1
    omega
  have row : ∀ r, r ∈ g → 0 ≤ r.sum ∧ r.sum ≤ 36 := fun r hr => by
    have b := sumM (hg.2 r hr).2
    have := mul r.length (by rw [(hg.2 r hr).1]; exact l2)
    omega
  refine ⟨fun x hx => ?_, ?_⟩
  · unfold SG at hx
    rcases List.mem_append.mp hx with hx | hx
    · obtain ⟨r, hr, rfl⟩ := List.mem_map.mp hx
      exact row r hr
    · obtain ⟨j, hj, rfl⟩ := List.mem_map.mp hx
      have hj := List.mem_range.mp hj
      have b := sumM (M := M) (xs := g.map fun r => r.getD j 0) fun y hy => by
        obtain ⟨r, hr, rfl⟩ := List.mem_map.mp hy
        exact (hg.2 r hr).2 _ (getD_mem (d := 0) (by rw [(hg.2 r hr).1]; exact hj))
      have := mul g.length (by rw [hg.1]; exact l1)
      rw [List.length_map] at b
      unfold colS
      omega
  · have b := sumM (M := 36) (xs := g.map List.sum) fun y hy => by
      obtain ⟨r, hr, rfl⟩ := List.mem_map.mp hy
      exact row r hr
    rw [List.length_map, hg.1] at b
    omega
theorem lns_ok {p : Pa} {g w : List (List Int)} (ok : POk p) (hg : TbB p.h.length p.g.length 9 g) (hw : TbB p.h.length p.g.length 3 w) : LnsOk (lnsOf p g w) := by
  obtain ⟨g1, g2, g3⟩ := SG_bd ok (by decide) hg
  obtain ⟨w1, w2, w3⟩ := SG_bd ok (by decide) hw
  refine ⟨?_, ?_, fun l hl => ?_⟩
  · have h0 : 0 < p.h.length := List.length_pos_iff.mpr ok.h1
    have e1 := hg.1
    have e2 := hw.1
    unfold lnsOf SG BG
    cases hh : p.h with
    | nil => exact absurd hh ok.h1
    | cons a b =>
      cases hgg : g with
      | nil => rw [hgg] at e1; simp at e1; omega
      | cons c d =>
        cases hww : w with
        | nil => rw [hww] at e2; simp at e2; omega
        | cons e f => simp [z3p]
  · have := z3p_len (SG p g) (SG p w) (BG p)
    have l1 := ok.h2
    have l2 := ok.g2
    have lb : (BG p).length = p.h.length + p.g.length := by unfold BG; simp
    have ld : (dL p g w).length ≤ 1 := by unfold dL; split <;> simp
    unfold lnsOf
    rw [List.length_append]
    omega
  · unfold lnsOf at hl
    rcases List.mem_append.mp hl with hl | hl
    · obtain ⟨a, b, c⟩ := z3p_mem hl
      have a := g1 _ a
      have b := w1 _ b
      have c : 1 ≤ l.2.2 ∧ l.2.2 ≤ 4 := by
        unfold BG at c
        rcases List.mem_append.mp c with c | c
        · obtain ⟨m, hm, e⟩ := List.mem_map.mp c
          rw [← e]
          exact ok.hb m hm
        · obtain ⟨m, hm, e⟩ := List.mem_map.mp c
          rw [← e]
          exact ok.gb m hm
      omega
    · unfold dL at hl
      cases hd : p.d with
      | none => rw [hd] at hl; cases hl
      | some d =>
        rw [hd] at hl
        rw [List.mem_singleton.mp hl]
        have := ok.d d hd
        simp only
        omega
theorem lines_ok {p : Pa} {g w : List (List Int)} {st : Sto} (hs : NL st) (ok : POk p) (hg : TbB p.h.length p.g.length 9 g) (hw : TbB p.h.length p.g.length 3 w) : F_lines_with [fairT p, gT g, gT w] st = .ok (lsT (lnsOf p g w)) st := by
  have l1 := ok.h2
  have l2 := ok.g2
  have h0 : 0 < p.h.length := List.length_pos_iff.mpr ok.h1
  have ne : ∀ {x : List (List Int)}, x.length = p.h.length → x ≠ [] := fun e z => by rw [z] at e; simp at e; omega
  have row : ∀ {x : List (List Int)}, x.length = p.h.length → (∀ r, r ∈ x → r.length = p.g.length) → F_row_sums [gT x] st = .ok (.lst ((x.map List.sum).map T.int)) st := fun {x} e k => by
    rw [List.map_map]
    exact row_sums_ok hs (by omega) fun r hr => by rw [k r hr]; omega
  have col : ∀ {x : List (List Int)}, x.length = p.h.length → (∀ r, r ∈ x → r.length = p.g.length) → F_column_sums [gT x] st = .ok (.lst (((List.range p.g.length).map (colS x)).map T.int)) st := fun {x} e k => by
    rw [List.map_map]
    exact column_sums_ok hs (by omega) (ne e) (by omega) k
  have whole : ∀ {x : List (List Int)}, x.length = p.h.length → (∀ r, r ∈ x → r.length = p.g.length) → F_whole_sum [gT x] st = .ok (.int (x.map List.sum).sum) st := fun {x} e k => whole_sum_ok hs (by omega) fun r hr => by rw [k r hr]; omega
  have bo : ∀ {s : List (List Nat × Int)}, s.length ≤ 4 → F_bounds_of [sT s] st = .ok (.lst ((s.map (·.2)).map T.int)) st := fun {s} h => by
    rw [List.map_map]
    exact bounds_of_ok hs (by omega)
  have kg := fun r hr => (hg.2 r hr).1
  have kw := fun r hr => (hw.2 r hr).1
  have z : z3l ((g.map List.sum).map T.int ++ ((List.range p.g.length).map (colS g)).map T.int) ((w.map List.sum).map T.int ++ ((List.range p.g.length).map (colS w)).map T.int) ((p.h.map (·.2)).map T.int ++ (p.g.map (·.2)).map T.int) = z3l ((SG p g).map T.int) ((SG p w).map T.int) ((BG p).map T.int) := by
    unfold SG BG
    rw [List.map_append, List.map_append, List.map_append]
  have zl : (z3l ((SG p g).map T.int) ((SG p w).map T.int) ((BG p).map T.int)).length + 1 ≤ 16777216 := by
    rw [z3l_len]
    unfold BG
    simp only [List.length_map, List.length_append]
    omega
  have k := lw_walk (st := st) (A := sT p.h) (B := sT p.g) (D := dT p.d) (hosts_ok hs) (guests_ok hs) (tables_ok hs) (bo l1) (bo l2) (row hg.1 kg) (col hg.1 kg) (row hw.1 kw) (col hw.1 kw) (whole hg.1 kg) (whole hw.1 kw)
    (by simp; omega) (by simp; have := hg.1; omega) (by simp; have := hw.1; omega) (by rw [z]; exact zl) (by cases p.d with
      | none => exact .inl rfl
      | some d => exact .inr ⟨d, rfl⟩)
  rw [z, z3p_T] at k
  have e : (z3p (SG p g) (SG p w) (BG p)).map lT ++ dLT (dT p.d) (.int (g.map List.sum).sum) (.int (w.map List.sum).sum) = (lnsOf p g w).map lT := by
    unfold lnsOf dL
    rw [List.map_append]
    congr 1
    cases p.d with
    | none => rfl
    | some d => rfl
  rw [e] at k
  exact k.trans (fin_nl0 hs (nl_lst.mpr (nls_of fun x hx => by obtain ⟨y, _, rfl⟩ := List.mem_map.mp hx; exact nl_lT)))
/-- grown tells the form of the lines -/
theorem grown_ok {p : Pa} {g w : List (List Int)} {st : Sto} (hs : NL st) (ok : POk p) (hg : TbB p.h.length p.g.length 9 g) (hw : TbB p.h.length p.g.length 3 w) :
    ∃ t r, stL (lnsOf p g w) = t :: r ∧ Stp9 (lnsOf p g w) t ∧ F_grown [fairT p, gT g, gT w] st = .ok (tripT (earlyL (lnsOf p g w) t) (perI t) (rise t)) st := by
  have lo := lns_ok ok hg hw
  obtain ⟨t, r, e, h9⟩ := stL_head lo
  exact ⟨t, r, e, h9, (gr_walk (check_growing_ok hs ok hg hw) (lines_ok hs ok hg hw) (form_ok hs lo e h9.i)).trans (fin_nl0 hs (by unfold tripT; exact nl_tup.mpr (nls_cons.mpr ⟨nl_tup.mpr nls_ints, nls_cons.mpr ⟨by simp, nls_cons.mpr ⟨by simp, nls_nil⟩⟩⟩)))⟩
theorem ll_1 {P G H : T} {st : Sto} : evSs tb_law_lines (b_law_lines.take 1) [some P, some G, some H, none, none, none, none, none] st = .nx [some P, some G, some H, none, none, none, some (.loc st.length), some (.loc (st.length + 1))] (st ++ [.lst [], .lst []]) := by
  simp [b_law_lines, den, ap_evSs, ap_evSs0, IS.ev, IE.ev, IL.ev, IEs.ev, IO.ev, II.ev, IO.test, IA.ev, IA.ev.evs, ap_fNever, ap_fK, ap_fGl, ap_fBin, ap_fNeg, ap_fCmp, ap_fIsN, ap_fTup, ap_fIx, ap_fSl, ap_fFz, ap_fFn, ap_fBi, ap_fNil, ap_fCons, ap_fNo0, ap_fSo, ap_fNot, ap_fChain, ap_fAnd, ap_fOr, ap_fIte, ap_fBl, ap_fNew, ap_fMu, ap_fStr, ap_fRepr, ap_fAttr, ap_fDl, ap_fCat, ap_fRep, ap_fLi, ap_fZ3, ap_fSlL, ap_fSeq, ap_fEn, ap_fPr, ap_fRg2, ap_fTst, ap_fYes, ap_fNx, ap_fAsg, ap_fPar2, ap_fPar3, ap_fIf, ap_fRet, ap_fExp, ap_fG, ap_fSub, ap_fTu, ap_fNo, ap_fCo, ap_fFld, ap_fIsi, k1_fBin, k2_fBin, k1_fNeg, k1_fCmp, k2_fCmp, k1_fIsN, k1_fTup, k1_fIx, k2_fIx, k1_fSl, k2_fSl, k3_fSl, k1_fFz, k1_fBi, k1_fCons, k2_fCons, k1_fSo, k1_fNot, k1_fChain, k2_fChain, k1_fAnd, k1_fOr, k1_fIte, k1_fBl, k1_fNew, k1_fMu, k1_fStr, k1_fRepr, k1_fAttr, k1_fDl, k1_fCat, k2_fCat, k1_fRep, k2_fRep, k1_fLi, k1_fZ3, k2_fZ3, k3_fZ3, k1_fSlL, k2_fSlL, k3_fSlL, k1_fSeq, k1_fEn, k1_fPr, k2_fPr, k1_fRg2, k2_fRg2, k1_fTst, k1_fAsg, k1_fPar2, k1_fPar3, k1_fIf, k1_fRet, k1_fExp, k1_fFor, k1_fSub, k2_fSub, k1_fFld, k2_fFld, k1_fIsi, IG.set, IG.set.sets, evV, env0, isNn, strT, muT, lstAt, ownL, lstOf, seqOf, L2.atI, L2.ixN, lim, bnd_ok', go_ok', seq_nx', seq_rt', opt_some', nox_ok', finO_rt, finO_nx, padF, kwF, insOf]
theorem ll_t {P V : T} {b : Nat} {s : Sto} {A B X : List T} {e1 e2 e4 e5 e6 : Option T} (r : F_law_in_rows [V] s = .ok (.lst A) s) (c : F_law_in_columns [V] s = .ok (.lst B) s) (l : A.length + B.length ≤ 16777216) (ha : s[b]? = some (.lst X)) (hl : X.length < 16777216) :
    evSs tb_law_lines l1_law_lines [some P, e1, e2, some V, e4, e5, e6, some (.loc b)] s = .nx [some P, e1, e2, some V, e4, e5, e6, some (.loc b)] (s.set b (.lst (X ++ [.lst (A ++ B)]))) := by
  simp [l1_law_lines, tbf_of_law_lines, tbc_of_law_lines, den, ap_evSs, ap_evSs0, IS.ev, IE.ev, IL.ev, IEs.ev, IO.ev, II.ev, IO.test, IA.ev, IA.ev.evs, ap_fNever, ap_fK, ap_fGl, ap_fBin, ap_fNeg, ap_fCmp, ap_fIsN, ap_fTup, ap_fIx, ap_fSl, ap_fFz, ap_fFn, ap_fBi, ap_fNil, ap_fCons, ap_fNo0, ap_fSo, ap_fNot, ap_fChain, ap_fAnd, ap_fOr, ap_fIte, ap_fBl, ap_fNew, ap_fMu, ap_fStr, ap_fRepr, ap_fAttr, ap_fDl, ap_fCat, ap_fRep, ap_fLi, ap_fZ3, ap_fSlL, ap_fSeq, ap_fEn, ap_fPr, ap_fRg2, ap_fTst, ap_fYes, ap_fNx, ap_fAsg, ap_fPar2, ap_fPar3, ap_fIf, ap_fRet, ap_fExp, ap_fG, ap_fSub, ap_fTu, ap_fNo, ap_fCo, ap_fFld, ap_fIsi, k1_fBin, k2_fBin, k1_fNeg, k1_fCmp, k2_fCmp, k1_fIsN, k1_fTup, k1_fIx, k2_fIx, k1_fSl, k2_fSl, k3_fSl, k1_fFz, k1_fBi, k1_fCons, k2_fCons, k1_fSo, k1_fNot, k1_fChain, k2_fChain, k1_fAnd, k1_fOr, k1_fIte, k1_fBl, k1_fNew, k1_fMu, k1_fStr, k1_fRepr, k1_fAttr, k1_fDl, k1_fCat, k2_fCat, k1_fRep, k2_fRep, k1_fLi, k1_fZ3, k2_fZ3, k3_fZ3, k1_fSlL, k2_fSlL, k3_fSlL, k1_fSeq, k1_fEn, k1_fPr, k2_fPr, k1_fRg2, k2_fRg2, k1_fTst, k1_fAsg, k1_fPar2, k1_fPar3, k1_fIf, k1_fRet, k1_fExp, k1_fFor, k1_fSub, k2_fSub, k1_fFld, k2_fFld, k1_fIsi, IG.set, IG.set.sets, evV, env0, isNn, strT, muT, lstAt, ownL, lstOf, seqOf, L2.atI, L2.ixN, lim, bnd_ok', go_ok', seq_nx', seq_rt', opt_some', nox_ok', finO_rt, finO_nx, padF, kwF, insOf, ap_fMu, k1_fMu, muT, r, c, l, ha, hl]
theorem ll_u {P M S1 S2 x y m z : T} {a b : Nat} {i : Int} {s : Sto} {X : List T} {e1 e2 e3 : Option T} (g : s[b]? = some (.lst [S1, S2])) (i1 : ixT s S1 (.int i) = some x) (i2 : ixT s S2 (.int i) = some y) (i3 : ixT s M (.int i) = some m) (i4 : ixT s m (.int 1) = some z) (ha : s[a]? = some (.lst X)) (hl : X.length < 16777216) :
    evSs tb_law_lines l2_law_lines [some P, e1, e2, e3, some M, some (.int i), some (.loc a), some (.loc b)] s = .nx [some P, e1, e2, e3, some M, some (.int i), some (.loc a), some (.loc b)] (s.set a (.lst (X ++ [.tup [x, y, z]]))) := by
  have j1 : ixT s (.loc b) (.int 0) = some S1 := by unfold ixT; simp [seqOf, lstOf, g, L2.atI, L2.ixN]
  have j2 : ixT s (.loc b) (.int 1) = some S2 := by unfold ixT; simp [seqOf, lstOf, g, L2.atI, L2.ixN]
  simp [l2_law_lines, den, ap_evSs, ap_evSs0, IS.ev, IE.ev, IL.ev, IEs.ev, IO.ev, II.ev, IO.test, IA.ev, IA.ev.evs, ap_fNever, ap_fK, ap_fGl, ap_fBin, ap_fNeg, ap_fCmp, ap_fIsN, ap_fTup, ap_fIx, ap_fSl, ap_fFz, ap_fFn, ap_fBi, ap_fNil, ap_fCons, ap_fNo0, ap_fSo, ap_fNot, ap_fChain, ap_fAnd, ap_fOr, ap_fIte, ap_fBl, ap_fNew, ap_fMu, ap_fStr, ap_fRepr, ap_fAttr, ap_fDl, ap_fCat, ap_fRep, ap_fLi, ap_fZ3, ap_fSlL, ap_fSeq, ap_fEn, ap_fPr, ap_fRg2, ap_fTst, ap_fYes, ap_fNx, ap_fAsg, ap_fPar2, ap_fPar3, ap_fIf, ap_fRet, ap_fExp, ap_fG, ap_fSub, ap_fTu, ap_fNo, ap_fCo, ap_fFld, ap_fIsi, k1_fBin, k2_fBin, k1_fNeg, k1_fCmp, k2_fCmp, k1_fIsN, k1_fTup, k1_fIx, k2_fIx, k1_fSl, k2_fSl, k3_fSl, k1_fFz, k1_fBi, k1_fCons, k2_fCons, k1_fSo, k1_fNot, k1_fChain, k2_fChain, k1_fAnd, k1_fOr, k1_fIte, k1_fBl, k1_fNew, k1_fMu, k1_fStr, k1_fRepr, k1_fAttr, k1_fDl, k1_fCat, k2_fCat, k1_fRep, k2_fRep, k1_fLi, k1_fZ3, k2_fZ3, k3_fZ3, k1_fSlL, k2_fSlL, k3_fSlL, k1_fSeq, k1_fEn, k1_fPr, k2_fPr, k1_fRg2, k2_fRg2, k1_fTst, k1_fAsg, k1_fPar2, k1_fPar3, k1_fIf, k1_fRet, k1_fExp, k1_fFor, k1_fSub, k2_fSub, k1_fFld, k2_fFld, k1_fIsi, IG.set, IG.set.sets, evV, env0, isNn, strT, muT, lstAt, ownL, lstOf, seqOf, L2.atI, L2.ixN, lim, bnd_ok', go_ok', seq_nx', seq_rt', opt_some', nox_ok', finO_rt, finO_nx, padF, kwF, insOf, ap_fMu, k1_fMu, muT, -ix_tup', -ix_lst', j1, j2, i1, i2, i3, i4, ha, hl]
theorem ll_2 {env env2 : Env} {G H : T} {s s2 : Sto} (h1 : env[1]? = some (some G)) (h2 : env[2]? = some (some H)) (w : walkO (.name 3) (evSs tb_law_lines l1_law_lines) [G, H] env s = .nx env2 s2) : evSs tb_law_lines ((b_law_lines.drop 1).take 1) env s = .nx env2 s2 := by
  simp [b_law_lines, den, ap_evSs, ap_evSs0, IS.ev, IE.ev, IL.ev, IEs.ev, IO.ev, II.ev, IO.test, IA.ev, IA.ev.evs, ap_fNever, ap_fK, ap_fGl, ap_fBin, ap_fNeg, ap_fCmp, ap_fIsN, ap_fTup, ap_fIx, ap_fSl, ap_fFz, ap_fFn, ap_fBi, ap_fNil, ap_fCons, ap_fNo0, ap_fSo, ap_fNot, ap_fChain, ap_fAnd, ap_fOr, ap_fIte, ap_fBl, ap_fNew, ap_fMu, ap_fStr, ap_fRepr, ap_fAttr, ap_fDl, ap_fCat, ap_fRep, ap_fLi, ap_fZ3, ap_fSlL, ap_fSeq, ap_fEn, ap_fPr, ap_fRg2, ap_fTst, ap_fYes, ap_fNx, ap_fAsg, ap_fPar2, ap_fPar3, ap_fIf, ap_fRet, ap_fExp, ap_fG, ap_fSub, ap_fTu, ap_fNo, ap_fCo, ap_fFld, ap_fIsi, k1_fBin, k2_fBin, k1_fNeg, k1_fCmp, k2_fCmp, k1_fIsN, k1_fTup, k1_fIx, k2_fIx, k1_fSl, k2_fSl, k3_fSl, k1_fFz, k1_fBi, k1_fCons, k2_fCons, k1_fSo, k1_fNot, k1_fChain, k2_fChain, k1_fAnd, k1_fOr, k1_fIte, k1_fBl, k1_fNew, k1_fMu, k1_fStr, k1_fRepr, k1_fAttr, k1_fDl, k1_fCat, k2_fCat, k1_fRep, k2_fRep, k1_fLi, k1_fZ3, k2_fZ3, k3_fZ3, k1_fSlL, k2_fSlL, k3_fSlL, k1_fSeq, k1_fEn, k1_fPr, k2_fPr, k1_fRg2, k2_fRg2, k1_fTst, k1_fAsg, k1_fPar2, k1_fPar3, k1_fIf, k1_fRet, k1_fExp, k1_fFor, k1_fSub, k2_fSub, k1_fFld, k2_fFld, k1_fIsi, IG.set, IG.set.sets, evV, env0, isNn, strT, muT, lstAt, ownL, lstOf, seqOf, L2.atI, L2.ixN, lim, bnd_ok', go_ok', seq_nx', seq_rt', opt_some', nox_ok', finO_rt, finO_nx, padF, kwF, insOf, ap_fFor, evV, h1, h2, w]
theorem ll_3 {P A B M : T} {s : Sto} {e1 e2 e3 e4 e5 e6 e7 : Option T} (i0 : ixT s P (.int 0) = some A) (i1 : ixT s P (.int 1) = some B) (b : binT .Add A B = some M) : evSs tb_law_lines ((b_law_lines.drop 2).take 1) [some P, e1, e2, e3, e4, e5, e6, e7] s = .nx [some P, e1, e2, e3, some M, e5, e6, e7] s := by
  simp [b_law_lines, den, ap_evSs, ap_evSs0, IS.ev, IE.ev, IL.ev, IEs.ev, IO.ev, II.ev, IO.test, IA.ev, IA.ev.evs, ap_fNever, ap_fK, ap_fGl, ap_fBin, ap_fNeg, ap_fCmp, ap_fIsN, ap_fTup, ap_fIx, ap_fSl, ap_fFz, ap_fFn, ap_fBi, ap_fNil, ap_fCons, ap_fNo0, ap_fSo, ap_fNot, ap_fChain, ap_fAnd, ap_fOr, ap_fIte, ap_fBl, ap_fNew, ap_fMu, ap_fStr, ap_fRepr, ap_fAttr, ap_fDl, ap_fCat, ap_fRep, ap_fLi, ap_fZ3, ap_fSlL, ap_fSeq, ap_fEn, ap_fPr, ap_fRg2, ap_fTst, ap_fYes, ap_fNx, ap_fAsg, ap_fPar2, ap_fPar3, ap_fIf, ap_fRet, ap_fExp, ap_fG, ap_fSub, ap_fTu, ap_fNo, ap_fCo, ap_fFld, ap_fIsi, k1_fBin, k2_fBin, k1_fNeg, k1_fCmp, k2_fCmp, k1_fIsN, k1_fTup, k1_fIx, k2_fIx, k1_fSl, k2_fSl, k3_fSl, k1_fFz, k1_fBi, k1_fCons, k2_fCons, k1_fSo, k1_fNot, k1_fChain, k2_fChain, k1_fAnd, k1_fOr, k1_fIte, k1_fBl, k1_fNew, k1_fMu, k1_fStr, k1_fRepr, k1_fAttr, k1_fDl, k1_fCat, k2_fCat, k1_fRep, k2_fRep, k1_fLi, k1_fZ3, k2_fZ3, k3_fZ3, k1_fSlL, k2_fSlL, k3_fSlL, k1_fSeq, k1_fEn, k1_fPr, k2_fPr, k1_fRg2, k2_fRg2, k1_fTst, k1_fAsg, k1_fPar2, k1_fPar3, k1_fIf, k1_fRet, k1_fExp, k1_fFor, k1_fSub, k2_fSub, k1_fFld, k2_fFld, k1_fIsi, IG.set, IG.set.sets, evV, env0, isNn, strT, muT, lstAt, ownL, lstOf, seqOf, L2.atI, L2.ixN, lim, bnd_ok', go_ok', seq_nx', seq_rt', opt_some', nox_ok', finO_rt, finO_nx, padF, kwF, insOf, -ix_tup', i0, i1, b]
theorem ll_4 {env env2 : Env} {s s2 : Sto} {rng : List T} (rg : fRg1 (fBi .len (fCons (evV 4) fNil)) env s = .ok rng s) (w : walkO (.name 5) (evSs tb_law_lines l2_law_lines) rng env s = .nx env2 s2) : evSs tb_law_lines ((b_law_lines.drop 3).take 1) env s = .nx env2 s2 := by
  simp [b_law_lines, den, ap_evSs, ap_evSs0, IS.ev, IE.ev, IL.ev, IEs.ev, IO.ev, II.ev, IO.test, IA.ev, IA.ev.evs, ap_fNever, ap_fK, ap_fGl, ap_fBin, ap_fNeg, ap_fCmp, ap_fIsN, ap_fTup, ap_fIx, ap_fSl, ap_fFz, ap_fFn, ap_fBi, ap_fNil, ap_fCons, ap_fNo0, ap_fSo, ap_fNot, ap_fChain, ap_fAnd, ap_fOr, ap_fIte, ap_fBl, ap_fNew, ap_fMu, ap_fStr, ap_fRepr, ap_fAttr, ap_fDl, ap_fCat, ap_fRep, ap_fLi, ap_fZ3, ap_fSlL, ap_fSeq, ap_fEn, ap_fPr, ap_fRg2, ap_fTst, ap_fYes, ap_fNx, ap_fAsg, ap_fPar2, ap_fPar3, ap_fIf, ap_fRet, ap_fExp, ap_fG, ap_fSub, ap_fTu, ap_fNo, ap_fCo, ap_fFld, ap_fIsi, k1_fBin, k2_fBin, k1_fNeg, k1_fCmp, k2_fCmp, k1_fIsN, k1_fTup, k1_fIx, k2_fIx, k1_fSl, k2_fSl, k3_fSl, k1_fFz, k1_fBi, k1_fCons, k2_fCons, k1_fSo, k1_fNot, k1_fChain, k2_fChain, k1_fAnd, k1_fOr, k1_fIte, k1_fBl, k1_fNew, k1_fMu, k1_fStr, k1_fRepr, k1_fAttr, k1_fDl, k1_fCat, k2_fCat, k1_fRep, k2_fRep, k1_fLi, k1_fZ3, k2_fZ3, k3_fZ3, k1_fSlL, k2_fSlL, k3_fSlL, k1_fSeq, k1_fEn, k1_fPr, k2_fPr, k1_fRg2, k2_fRg2, k1_fTst, k1_fAsg, k1_fPar2, k1_fPar3, k1_fIf, k1_fRet, k1_fExp, k1_fFor, k1_fSub, k2_fSub, k1_fFld, k2_fFld, k1_fIsi, IG.set, IG.set.sets, evV, env0, isNn, strT, muT, lstAt, ownL, lstOf, seqOf, L2.atI, L2.ixN, lim, bnd_ok', go_ok', seq_nx', seq_rt', opt_some', nox_ok', finO_rt, finO_nx, padF, kwF, insOf, ap_fFor, rg, w]
theorem ll_5n {P : T} {s : Sto} {e1 e2 e3 e4 e5 e7 : Option T} {a : Nat} (i2 : ixT s P (.int 2) = some .non) : evSs tb_law_lines (b_law_lines.drop 4) [some P, e1, e2, e3, e4, e5, some (.loc a), e7] s = .rt (.loc a) s := by
  simp [b_law_lines, den, ap_evSs, ap_evSs0, IS.ev, IE.ev, IL.ev, IEs.ev, IO.ev, II.ev, IO.test, IA.ev, IA.ev.evs, ap_fNever, ap_fK, ap_fGl, ap_fBin, ap_fNeg, ap_fCmp, ap_fIsN, ap_fTup, ap_fIx, ap_fSl, ap_fFz, ap_fFn, ap_fBi, ap_fNil, ap_fCons, ap_fNo0, ap_fSo, ap_fNot, ap_fChain, ap_fAnd, ap_fOr, ap_fIte, ap_fBl, ap_fNew, ap_fMu, ap_fStr, ap_fRepr, ap_fAttr, ap_fDl, ap_fCat, ap_fRep, ap_fLi, ap_fZ3, ap_fSlL, ap_fSeq, ap_fEn, ap_fPr, ap_fRg2, ap_fTst, ap_fYes, ap_fNx, ap_fAsg, ap_fPar2, ap_fPar3, ap_fIf, ap_fRet, ap_fExp, ap_fG, ap_fSub, ap_fTu, ap_fNo, ap_fCo, ap_fFld, ap_fIsi, k1_fBin, k2_fBin, k1_fNeg, k1_fCmp, k2_fCmp, k1_fIsN, k1_fTup, k1_fIx, k2_fIx, k1_fSl, k2_fSl, k3_fSl, k1_fFz, k1_fBi, k1_fCons, k2_fCons, k1_fSo, k1_fNot, k1_fChain, k2_fChain, k1_fAnd, k1_fOr, k1_fIte, k1_fBl, k1_fNew, k1_fMu, k1_fStr, k1_fRepr, k1_fAttr, k1_fDl, k1_fCat, k2_fCat, k1_fRep, k2_fRep, k1_fLi, k1_fZ3, k2_fZ3, k3_fZ3, k1_fSlL, k2_fSlL, k3_fSlL, k1_fSeq, k1_fEn, k1_fPr, k2_fPr, k1_fRg2, k2_fRg2, k1_fTst, k1_fAsg, k1_fPar2, k1_fPar3, k1_fIf, k1_fRet, k1_fExp, k1_fFor, k1_fSub, k2_fSub, k1_fFld, k2_fFld, k1_fIsi, IG.set, IG.set.sets, evV, env0, isNn, strT, muT, lstAt, ownL, lstOf, seqOf, L2.atI, L2.ixN, lim, bnd_ok', go_ok', seq_nx', seq_rt', opt_some', nox_ok', finO_rt, finO_nx, padF, kwF, insOf, -ix_tup', i2]
theorem ll_5s {P G H : T} {R1 R2 X : List T} {x y d : Int} {s : Sto} {e3 e4 e5 e7 : Option T} {a : Nat} (i2 : ixT s P (.int 2) = some (.int d)) (r1 : F_law_in_rows [G] s = .ok (.lst R1) s) (r2 : F_law_in_rows [H] s = .ok (.lst R2) s) (s1 : biT s .sum [.lst R1] = some (.int x)) (s2 : biT s .sum [.lst R2] = some (.int y)) (ha : s[a]? = some (.lst X)) (hl : X.length < 16777216) :
    evSs tb_law_lines (b_law_lines.drop 4) [some P, some G, some H, e3, e4, e5, some (.loc a), e7] s = .rt (.loc a) (s.set a (.lst (X ++ [.tup [.int x, .int y, .int d]]))) := by
  simp [b_law_lines, tbf_of_law_lines, tbc_of_law_lines, den, ap_evSs, ap_evSs0, IS.ev, IE.ev, IL.ev, IEs.ev, IO.ev, II.ev, IO.test, IA.ev, IA.ev.evs, ap_fNever, ap_fK, ap_fGl, ap_fBin, ap_fNeg, ap_fCmp, ap_fIsN, ap_fTup, ap_fIx, ap_fSl, ap_fFz, ap_fFn, ap_fBi, ap_fNil, ap_fCons, ap_fNo0, ap_fSo, ap_fNot, ap_fChain, ap_fAnd, ap_fOr, ap_fIte, ap_fBl, ap_fNew, ap_fMu, ap_fStr, ap_fRepr, ap_fAttr, ap_fDl, ap_fCat, ap_fRep, ap_fLi, ap_fZ3, ap_fSlL, ap_fSeq, ap_fEn, ap_fPr, ap_fRg2, ap_fTst, ap_fYes, ap_fNx, ap_fAsg, ap_fPar2, ap_fPar3, ap_fIf, ap_fRet, ap_fExp, ap_fG, ap_fSub, ap_fTu, ap_fNo, ap_fCo, ap_fFld, ap_fIsi, k1_fBin, k2_fBin, k1_fNeg, k1_fCmp, k2_fCmp, k1_fIsN, k1_fTup, k1_fIx, k2_fIx, k1_fSl, k2_fSl, k3_fSl, k1_fFz, k1_fBi, k1_fCons, k2_fCons, k1_fSo, k1_fNot, k1_fChain, k2_fChain, k1_fAnd, k1_fOr, k1_fIte, k1_fBl, k1_fNew, k1_fMu, k1_fStr, k1_fRepr, k1_fAttr, k1_fDl, k1_fCat, k2_fCat, k1_fRep, k2_fRep, k1_fLi, k1_fZ3, k2_fZ3, k3_fZ3, k1_fSlL, k2_fSlL, k3_fSlL, k1_fSeq, k1_fEn, k1_fPr, k2_fPr, k1_fRg2, k2_fRg2, k1_fTst, k1_fAsg, k1_fPar2, k1_fPar3, k1_fIf, k1_fRet, k1_fExp, k1_fFor, k1_fSub, k2_fSub, k1_fFld, k2_fFld, k1_fIsi, IG.set, IG.set.sets, evV, env0, isNn, strT, muT, lstAt, ownL, lstOf, seqOf, L2.atI, L2.ixN, lim, bnd_ok', go_ok', seq_nx', seq_rt', opt_some', nox_ok', finO_rt, finO_nx, padF, kwF, insOf, ap_fMu, k1_fMu, muT, -ix_tup', i2, r1, r2, s1, s2, ha, hl]
theorem NL_two {st : Sto} {A B : List T} (hs : NL st) (a : Nls A) (b : Nls B) : NL (st ++ [.lst A, .lst B]) := NL_app' hs fun f hf c hc => by
  rcases List.mem_cons.mp hc with rfl | hc
  · show (frzWs f _).map Cell.lst = _
    rw [a f]
    rfl
  · rw [List.mem_singleton.mp hc]
    show (frzWs f _).map Cell.lst = _
    rw [b f]
    rfl
theorem z3p_at : ∀ {xs ys us : List Int} {i : Nat}, xs.length = us.length → ys.length = us.length → i < us.length → (z3p xs ys us)[i]? = some (xs.getD i 0, ys.getD i 0, us.getD i 0)
  | [], ys, us, i, h1, h2, h3 => by simp at h1; omega
  | _ :: _, [], us, i, h1, h2, h3 => by simp at h2; omega
  | _ :: _, _ :: _, [], i, h1, h2, h3 => by simp at h3
  | x :: xs, y :: ys, u :: us, 0, h1, h2, h3 => rfl
  | x :: xs, y :: ys, u :: us, i + 1, h1, h2, h3 => by
    have := z3p_at (xs := xs) (ys := ys) (us := us) (i := i) (by simpa using h1) (by simpa using h2) (by simpa using h3)
    exact this
theorem z3p_len2 : ∀ {xs ys us : List Int}, xs.length = us.length → ys.length = us.length → (z3p xs ys us).length = us.length
  | [], ys, us, h1, h2 => by cases us with
    | nil => rfl
    | cons a b => simp at h1
  | _ :: _, [], us, h1, h2 => by cases us with
    | nil => simp at h1
    | cons a b => simp at h2
  | _ :: _, _ :: _, [], h1, h2 => by simp at h1
  | x :: xs, y :: ys, u :: us, h1, h2 => by
    have := z3p_len2 (xs := xs) (ys := ys) (us := us) (by simpa using h1) (by simpa using h2)
    simp only [z3p, List.length_cons, this]
theorem law_lines_ok {p : Pa} {g w : List (List Int)} {st : Sto} (hs : NL st) (ok : POk p) (hg : TbB p.h.length p.g.length 9 g) (hw : TbB p.h.length p.g.length 3 w) : F_law_lines [partsT p, gT g, gT w] st = .ok (lsT (lnsOf p g w)) st := by
  have l1 := ok.h2
  have l2 := ok.g2
  have h0 : 0 < p.h.length := List.length_pos_iff.mpr ok.h1
  have ne : ∀ {x : List (List Int)}, x.length = p.h.length → x ≠ [] := fun e z => by rw [z] at e; simp at e; omega
  have row : ∀ {x : List (List Int)} {s : Sto}, NL s → x.length = p.h.length → (∀ r, r ∈ x → r.length = p.g.length) → F_law_in_rows [gT x] s = .ok (.lst ((x.map List.sum).map T.int)) s := fun {x s} hs e k => by
    rw [List.map_map]
    exact in_rows_ok hs (by omega) fun r hr => by rw [k r hr]; omega
  have col : ∀ {x : List (List Int)} {s : Sto}, NL s → x.length = p.h.length → (∀ r, r ∈ x → r.length = p.g.length) → F_law_in_columns [gT x] s = .ok (.lst (((List.range p.g.length).map (colS x)).map T.int)) s := fun {x s} hs e k => by
    rw [List.map_map]
    exact in_columns_ok hs (by omega) (ne e) (by omega) k
  have kg := fun r hr => (hg.2 r hr).1
  have kw := fun r hr => (hw.2 r hr).1
  have sg : ∀ x : List (List Int), (x.map List.sum).map T.int ++ ((List.range p.g.length).map (colS x)).map T.int = (SG p x).map T.int := fun x => by unfold SG; rw [List.map_append]
  have sl : ∀ {x : List (List Int)}, x.length = p.h.length → (SG p x).length = p.h.length + p.g.length := fun {x} e => by unfold SG; simp [e]
  have bl : (BG p).length = p.h.length + p.g.length := by unfold BG; simp
  have nS : ∀ x, Nl (.lst ((SG p x).map T.int)) := fun x => nl_lst.mpr nls_ints
  obtain ⟨S1, hS1⟩ : ∃ S1, S1 = T.lst ((SG p g).map T.int) := ⟨_, rfl⟩
  obtain ⟨S2, hS2⟩ : ∃ S2, S2 = T.lst ((SG p w).map T.int) := ⟨_, rfl⟩
  have n1 : NL (st ++ [.lst [], .lst []]) := NL_two hs nls_nil nls_nil
  have n2 : NL (st ++ [.lst [], .lst [S1]]) := NL_two hs nls_nil (nls_cons.mpr ⟨by rw [hS1]; exact nS g, nls_nil⟩)
  have at1 : ∀ {A B : List T}, (st ++ [Cell.lst A, Cell.lst B])[st.length + 1]? = some (.lst B) := fun {A B} => by simp
  have at0 : ∀ {A B : List T}, (st ++ [Cell.lst A, Cell.lst B])[st.length]? = some (.lst A) := fun {A B} => by simp
  have set1 : ∀ {A B : List T} {c : Cell}, (st ++ [Cell.lst A, Cell.lst B]).set (st.length + 1) c = st ++ [Cell.lst A, c] := fun {A B c} => by rw [List.set_append_right _ _ (by omega)]; simp
  have set0 : ∀ {A B : List T} {c : Cell}, (st ++ [Cell.lst A, Cell.lst B]).set st.length c = st ++ [c, Cell.lst B] := fun {A B c} => by rw [List.set_append_right _ _ (by omega)]; simp
  have t1 := ll_t (P := partsT p) (e1 := some (gT g)) (e2 := some (gT w)) (e4 := none) (e5 := none) (e6 := some (.loc st.length)) (row n1 hg.1 kg) (col n1 hg.1 kg) (by simp; have := hg.1; omega) at1 (by simp)
  have t2 := ll_t (P := partsT p) (e1 := some (gT g)) (e2 := some (gT w)) (e4 := none) (e5 := none) (e6 := some (.loc st.length)) (row n2 hw.1 kw) (col n2 hw.1 kw) (by simp; have := hw.1; omega) at1 (by simp)
  rw [set1, sg, ← hS1, List.nil_append] at t1
  rw [set1, sg, ← hS2] at t2
  have w1 : walkO (.name 3) (evSs tb_law_lines l1_law_lines) [gT g, gT w] [some (partsT p), some (gT g), some (gT w), none, none, none, some (.loc st.length), some (.loc (st.length + 1))] (st ++ [.lst [], .lst []]) = .nx [some (partsT p), some (gT g), some (gT w), some (gT w), none, none, some (.loc st.length), some (.loc (st.length + 1))] (st ++ [.lst [], .lst [S1, S2]]) := by
    simp [walkO, IG.set, t1, t2]
  have bt : binT .Add (sT p.h) (sT p.g) = some (.tup ((p.h ++ p.g).map mT)) := by
    have b : ∀ a b : List T, a.length + b.length ≤ 16777216 → binT .Add (.tup a) (.tup b) = some (.tup (a ++ b)) := fun a b h => if_pos h
    unfold sT
    rw [b _ _ (by simp; omega), List.map_append]
  have zl : (z3p (SG p g) (SG p w) (BG p)).length = p.h.length + p.g.length := by rw [z3p_len2 (by rw [sl hg.1, bl]) (by rw [sl hw.1, bl]), bl]
  have zA : ∀ i, i < p.h.length + p.g.length → (z3p (SG p g) (SG p w) (BG p))[i]? = some ((SG p g).getD i 0, (SG p w).getD i 0, (BG p).getD i 0) := fun i hi => z3p_at (by rw [sl hg.1, bl]) (by rw [sl hw.1, bl]) (by rw [bl]; exact hi)
  obtain ⟨M, hM⟩ : ∃ M, M = T.tup ((p.h ++ p.g).map mT) := ⟨_, rfl⟩
  rw [← hM] at bt
  obtain ⟨env2, st2, wk, f5, rfl, rfl⟩ := walk_nx (g := .name 5) (f := evSs tb_law_lines l2_law_lines) (xs := (List.range (p.h.length + p.g.length)).map fun (j : Nat) => T.int (j : Int))
    (env := [some (partsT p), some (gT g), some (gT w), some (gT w), some M, none, some (.loc st.length), some (.loc (st.length + 1))]) (st := st ++ [.lst [], .lst [S1, S2]])
    (Q := fun i env s => ∃ f5, env = [some (partsT p), some (gT g), some (gT w), some (gT w), some M, f5, some (.loc st.length), some (.loc (st.length + 1))] ∧ s = st ++ [.lst (((z3p (SG p g) (SG p w) (BG p)).take i).map lT), .lst [S1, S2]]) ⟨none, rfl, rfl⟩ fun i x env s hx hq => by
      obtain ⟨f5, rfl, rfl⟩ := hq
      obtain ⟨hi, rfl⟩ := rng_get hx
      have at' : ∀ {A : List Int} {S : T} {s : Sto}, S = T.lst (A.map T.int) → i < A.length → ixT s S (.int (i : Int)) = some (.int (A.getD i 0)) := fun {A S s} e h => by
        rw [e, ix_lst']
        refine L2.atI_nat ?_
        rw [List.getElem?_map, List.getElem?_eq_getElem h]
        simp [List.getD, List.getElem?_eq_getElem h]
      have mi : i < (p.h ++ p.g).length := by rw [List.length_append]; exact hi
      have im : ∀ s, ixT s M (.int (i : Int)) = some (mT (p.h ++ p.g)[i]) := fun s => by
        rw [hM, ix_tup']
        exact L2.atI_nat (by rw [List.getElem?_map, List.getElem?_eq_getElem mi]; rfl)
      have ib : ∀ s, ixT s (mT (p.h ++ p.g)[i]) (.int 1) = some (.int ((BG p).getD i 0)) := fun s => by
        have e : (BG p).getD i 0 = ((p.h ++ p.g)[i]).2 := by
          have e : BG p = (p.h ++ p.g).map (·.2) := by unfold BG; rw [List.map_append]
          rw [e, List.getD, List.getElem?_map, List.getElem?_eq_getElem mi]
          rfl
        rw [e]
        rfl
      have t := ll_u (P := partsT p) (e1 := some (gT g)) (e2 := some (gT w)) (e3 := some (gT w)) (s := st ++ [.lst (((z3p (SG p g) (SG p w) (BG p)).take i).map lT), .lst [S1, S2]]) (i := (i : Int)) at1 (at' hS1 (by rw [sl hg.1]; exact hi)) (at' hS2 (by rw [sl hw.1]; exact hi)) (im _) (ib _) at0 (by simp; omega)
      rw [set0] at t
      refine ⟨_, _, _, rfl, t, _, rfl, ?_⟩
      rw [List.take_succ, zA i hi, List.map_append]
      rfl
  rw [List.length_map, List.length_range, List.take_of_length_le (by omega)] at wk
  have rg : ∀ env s, env[4]? = some (some M) → fRg1 (fBi .len (fCons (evV 4) fNil)) env s = .ok ((List.range (p.h.length + p.g.length)).map fun (j : Nat) => T.int (j : Int)) s := fun env s he => rg1_eq (by
    have l : biT s .len [M] = some (.int ((p.h.length + p.g.length : Nat) : Int)) := by
      rw [hM]
      show some (T.int ((((p.h ++ p.g).map mT).length : Nat) : Int)) = _
      rw [List.length_map, List.length_append]
    simp [ap_fBi, k1_fBi, ap_fCons, k1_fCons, k2_fCons, ap_fNil, evV, he, l, den, ap_evSs, ap_evSs0, IS.ev, IE.ev, IL.ev, IEs.ev, IO.ev, II.ev, IO.test, IA.ev, IA.ev.evs, ap_fNever, ap_fK, ap_fGl, ap_fBin, ap_fNeg, ap_fCmp, ap_fIsN, ap_fTup, ap_fIx, ap_fSl, ap_fFz, ap_fFn, ap_fBi, ap_fNil, ap_fCons, ap_fNo0, ap_fSo, ap_fNot, ap_fChain, ap_fAnd, ap_fOr, ap_fIte, ap_fBl, ap_fNew, ap_fMu, ap_fStr, ap_fRepr, ap_fAttr, ap_fDl, ap_fCat, ap_fRep, ap_fLi, ap_fZ3, ap_fSlL, ap_fSeq, ap_fEn, ap_fPr, ap_fRg2, ap_fTst, ap_fYes, ap_fNx, ap_fAsg, ap_fPar2, ap_fPar3, ap_fIf, ap_fRet, ap_fExp, ap_fG, ap_fSub, ap_fTu, ap_fNo, ap_fCo, ap_fFld, ap_fIsi, k1_fBin, k2_fBin, k1_fNeg, k1_fCmp, k2_fCmp, k1_fIsN, k1_fTup, k1_fIx, k2_fIx, k1_fSl, k2_fSl, k3_fSl, k1_fFz, k1_fBi, k1_fCons, k2_fCons, k1_fSo, k1_fNot, k1_fChain, k2_fChain, k1_fAnd, k1_fOr, k1_fIte, k1_fBl, k1_fNew, k1_fMu, k1_fStr, k1_fRepr, k1_fAttr, k1_fDl, k1_fCat, k2_fCat, k1_fRep, k2_fRep, k1_fLi, k1_fZ3, k2_fZ3, k3_fZ3, k1_fSlL, k2_fSlL, k3_fSlL, k1_fSeq, k1_fEn, k1_fPr, k2_fPr, k1_fRg2, k2_fRg2, k1_fTst, k1_fAsg, k1_fPar2, k1_fPar3, k1_fIf, k1_fRet, k1_fExp, k1_fFor, k1_fSub, k2_fSub, k1_fFld, k2_fFld, k1_fIsi, IG.set, IG.set.sets, evV, env0, isNn, strT, muT, lstAt, ownL, lstOf, seqOf, L2.atI, L2.ixN, lim, bnd_ok', go_ok', seq_nx', seq_rt', opt_some', nox_ok', finO_rt, finO_nx, padF, kwF, insOf]) (by omega)
  have n3 : ∀ X : List Ln, NL (st ++ [.lst (X.map lT), .lst [S1, S2]]) := fun X => NL_two hs (nls_of fun x hx => by obtain ⟨y, _, rfl⟩ := List.mem_map.mp hx; exact nl_lT) (nls_cons.mpr ⟨by rw [hS1]; exact nS g, nls_cons.mpr ⟨by rw [hS2]; exact nS w, nls_nil⟩⟩)
  have eb : b_law_lines = b_law_lines.take 1 ++ ((b_law_lines.drop 1).take 1 ++ ((b_law_lines.drop 2).take 1 ++ ((b_law_lines.drop 3).take 1 ++ b_law_lines.drop 4))) := rfl
  have last : evSs tb_law_lines (b_law_lines.drop 4) [some (partsT p), some (gT g), some (gT w), some (gT w), some M, f5, some (.loc st.length), some (.loc (st.length + 1))] (st ++ [.lst ((z3p (SG p g) (SG p w) (BG p)).map lT), .lst [S1, S2]]) = .rt (.loc st.length) (st ++ [.lst ((lnsOf p g w).map lT), .lst [S1, S2]]) := by
    have nn := n3 (z3p (SG p g) (SG p w) (BG p))
    have i2 : ∀ s, ixT s (partsT p) (.int 2) = some (dT p.d) := fun s => rfl
    unfold lnsOf dL
    cases hd : p.d with
    | none =>
      rw [hd] at i2
      rw [List.append_nil]
      exact ll_5n (i2 _)
    | some d =>
      rw [hd] at i2
      have t := ll_5s (d := d) (e3 := some (gT w)) (e4 := some M) (e5 := f5) (e7 := some (.loc (st.length + 1))) (i2 _) (row nn hg.1 kg) (row nn hw.1 kw) sum_lst sum_lst at0 (by simp; omega)
      rw [set0] at t
      rw [t, List.map_append]
      rfl
  have k : evSs tb_law_lines b_law_lines [some (partsT p), some (gT g), some (gT w), none, none, none, none, none] st = .rt (.loc st.length) (st ++ [.lst ((lnsOf p g w).map lT), .lst [S1, S2]]) := by
    rw [eb, evSs_app, ll_1, seq_nx', evSs_app, ll_2 rfl rfl w1, seq_nx', evSs_app, ll_3 rfl rfl bt, seq_nx', evSs_app, ll_4 (rg _ _ rfl) wk, seq_nx']
    exact last
  exact (show F_law_lines [partsT p, gT g, gT w] st = finR tb_law_lines.cls false st.length (.loc st.length) (st ++ [.lst ((lnsOf p g w).map lT), .lst [S1, S2]]) from den_rt rfl k).trans (fin_lst hs at0 (Nat.le_refl _) (nls_of fun x hx => by obtain ⟨y, _, rfl⟩ := List.mem_map.mp hx; exact nl_lT))
abbrev E10 (e0 e1 e2 e3 e4 e5 e6 e7 e8 e9 : Option T) : Env := [e0, e1, e2, e3, e4, e5, e6, e7, e8, e9]
theorem lgr_row {n : Nat} {J : Cell} {rest : Sto} {p : Pa} {P : T} {top way : Int} {e1 e2 e6 e7 e8 e9 : Option T} (hJ : JC n J) (hn : n + 100 < 10 ^ 9) (ht : 0 < top) (ht2 : top < 2 ^ 64) (hp : p.g.length ≤ 4) (hP : ∀ st, ixT st P (.int 1) = some (sT p.g)) (hr : NL rest) :
    ∃ (r : List Int) (J' : Cell), fLc [9] (e1_law_growing.ev tb_law_growing) (.name 9) (fSeq (fIx (evV 4) (fK (.int 1)))) fYes (E10 (some (.loc 0)) e1 e2 (some (.int top)) (some P) (some (.int way)) e6 e7 e8 e9) (J :: rest) = .ok (r.map T.int) (J' :: rest) ∧ rowB r p.g.length (top - 1) ∧ JC (n + 8) J' := by
  obtain ⟨ys, st, e, h1, h2, h3⟩ := lc_inv (own := [9]) (fe := e1_law_growing.ev tb_law_growing) (g := .name 9) (fit := fSeq (fIx (evV 4) (fK (.int 1)))) (ft := fYes) (env := E10 (some (.loc 0)) e1 e2 (some (.int top)) (some P) (some (.int way)) e6 e7 e8 e9) (st := J :: rest) (xs := p.g.map mT) (st1 := J :: rest)
    (P := fun i st => ∃ J', st = J' :: rest ∧ JC (n + 2 * i) J') (Q := fun _ t => ∃ d, t = .int d ∧ (0 ≤ d ∧ d ≤ top - 1)) (by simp [den, ap_evSs, ap_evSs0, IS.ev, IE.ev, IL.ev, IEs.ev, IO.ev, II.ev, IO.test, IA.ev, IA.ev.evs, ap_fNever, ap_fK, ap_fGl, ap_fBin, ap_fNeg, ap_fCmp, ap_fIsN, ap_fTup, ap_fIx, ap_fSl, ap_fFz, ap_fFn, ap_fBi, ap_fNil, ap_fCons, ap_fNo0, ap_fSo, ap_fNot, ap_fChain, ap_fAnd, ap_fOr, ap_fIte, ap_fBl, ap_fNew, ap_fMu, ap_fStr, ap_fRepr, ap_fAttr, ap_fDl, ap_fCat, ap_fRep, ap_fLi, ap_fZ3, ap_fSlL, ap_fSeq, ap_fEn, ap_fPr, ap_fRg2, ap_fTst, ap_fYes, ap_fNx, ap_fAsg, ap_fPar2, ap_fPar3, ap_fIf, ap_fRet, ap_fExp, ap_fG, ap_fSub, ap_fTu, ap_fNo, ap_fCo, ap_fFld, ap_fIsi, k1_fBin, k2_fBin, k1_fNeg, k1_fCmp, k2_fCmp, k1_fIsN, k1_fTup, k1_fIx, k2_fIx, k1_fSl, k2_fSl, k3_fSl, k1_fFz, k1_fBi, k1_fCons, k2_fCons, k1_fSo, k1_fNot, k1_fChain, k2_fChain, k1_fAnd, k1_fOr, k1_fIte, k1_fBl, k1_fNew, k1_fMu, k1_fStr, k1_fRepr, k1_fAttr, k1_fDl, k1_fCat, k2_fCat, k1_fRep, k2_fRep, k1_fLi, k1_fZ3, k2_fZ3, k3_fZ3, k1_fSlL, k2_fSlL, k3_fSlL, k1_fSeq, k1_fEn, k1_fPr, k2_fPr, k1_fRg2, k2_fRg2, k1_fTst, k1_fAsg, k1_fPar2, k1_fPar3, k1_fIf, k1_fRet, k1_fExp, k1_fFor, k1_fSub, k2_fSub, k1_fFld, k2_fFld, k1_fIsi, IG.set, IG.set.sets, evV, env0, isNn, strT, muT, lstAt, ownL, lstOf, seqOf, L2.atI, L2.ixN, lim, bnd_ok', go_ok', seq_nx', seq_rt', opt_some', nox_ok', finO_rt, finO_nx, padF, kwF, insOf, -ix_tup', hP, sT]) (by rw [List.length_map]; omega) ⟨J, rfl, hJ⟩ fun i x st hx hP' => by
      obtain ⟨J1, rfl, hJ1⟩ := hP'
      have hi : i < p.g.length := by have := (List.getElem?_eq_some_iff.mp hx).1; simpa using this
      by_cases hw : way = 0
      · obtain ⟨d, J2, e, h0, hd, hJ2⟩ := pour_eq2 (k := top) hJ1 (by omega) ht ht2 hr
        refine ⟨some (.int d), J2 :: rest, ?_, ⟨_, rfl, d, rfl, h0, by omega⟩, J2, rfl, hJ2.mono (by omega)⟩
        subst hw
        simp [fTurn, wipeE, e1_law_growing, den, ap_evSs, ap_evSs0, IS.ev, IE.ev, IL.ev, IEs.ev, IO.ev, II.ev, IO.test, IA.ev, IA.ev.evs, ap_fNever, ap_fK, ap_fGl, ap_fBin, ap_fNeg, ap_fCmp, ap_fIsN, ap_fTup, ap_fIx, ap_fSl, ap_fFz, ap_fFn, ap_fBi, ap_fNil, ap_fCons, ap_fNo0, ap_fSo, ap_fNot, ap_fChain, ap_fAnd, ap_fOr, ap_fIte, ap_fBl, ap_fNew, ap_fMu, ap_fStr, ap_fRepr, ap_fAttr, ap_fDl, ap_fCat, ap_fRep, ap_fLi, ap_fZ3, ap_fSlL, ap_fSeq, ap_fEn, ap_fPr, ap_fRg2, ap_fTst, ap_fYes, ap_fNx, ap_fAsg, ap_fPar2, ap_fPar3, ap_fIf, ap_fRet, ap_fExp, ap_fG, ap_fSub, ap_fTu, ap_fNo, ap_fCo, ap_fFld, ap_fIsi, k1_fBin, k2_fBin, k1_fNeg, k1_fCmp, k2_fCmp, k1_fIsN, k1_fTup, k1_fIx, k2_fIx, k1_fSl, k2_fSl, k3_fSl, k1_fFz, k1_fBi, k1_fCons, k2_fCons, k1_fSo, k1_fNot, k1_fChain, k2_fChain, k1_fAnd, k1_fOr, k1_fIte, k1_fBl, k1_fNew, k1_fMu, k1_fStr, k1_fRepr, k1_fAttr, k1_fDl, k1_fCat, k2_fCat, k1_fRep, k2_fRep, k1_fLi, k1_fZ3, k2_fZ3, k3_fZ3, k1_fSlL, k2_fSlL, k3_fSlL, k1_fSeq, k1_fEn, k1_fPr, k2_fPr, k1_fRg2, k2_fRg2, k1_fTst, k1_fAsg, k1_fPar2, k1_fPar3, k1_fIf, k1_fRet, k1_fExp, k1_fFor, k1_fSub, k2_fSub, k1_fFld, k2_fFld, k1_fIsi, IG.set, IG.set.sets, evV, env0, isNn, strT, muT, lstAt, ownL, lstOf, seqOf, L2.atI, L2.ixN, lim, bnd_ok', go_ok', seq_nx', seq_rt', opt_some', nox_ok', finO_rt, finO_nx, padF, kwF, insOf, tbf_of_law_growing, tbc_of_law_growing, e, asBl]
      · have hw' : (way == 0) = false := beq_false_of_ne hw
        obtain ⟨c, J2, e, c0, c1, hJ2⟩ := pour_eq2 (k := 3) hJ1 (by omega) (by decide) (by decide) hr
        by_cases hc : 0 < c
        · obtain ⟨d, J3, e3, h0, hd, hJ3⟩ := pour_eq2 (k := top) hJ2 (by omega) ht ht2 hr
          refine ⟨some (.int d), J3 :: rest, ?_, ⟨_, rfl, d, rfl, h0, by omega⟩, J3, rfl, hJ3.mono (by omega)⟩
          simp [fTurn, wipeE, e1_law_growing, den, ap_evSs, ap_evSs0, IS.ev, IE.ev, IL.ev, IEs.ev, IO.ev, II.ev, IO.test, IA.ev, IA.ev.evs, ap_fNever, ap_fK, ap_fGl, ap_fBin, ap_fNeg, ap_fCmp, ap_fIsN, ap_fTup, ap_fIx, ap_fSl, ap_fFz, ap_fFn, ap_fBi, ap_fNil, ap_fCons, ap_fNo0, ap_fSo, ap_fNot, ap_fChain, ap_fAnd, ap_fOr, ap_fIte, ap_fBl, ap_fNew, ap_fMu, ap_fStr, ap_fRepr, ap_fAttr, ap_fDl, ap_fCat, ap_fRep, ap_fLi, ap_fZ3, ap_fSlL, ap_fSeq, ap_fEn, ap_fPr, ap_fRg2, ap_fTst, ap_fYes, ap_fNx, ap_fAsg, ap_fPar2, ap_fPar3, ap_fIf, ap_fRet, ap_fExp, ap_fG, ap_fSub, ap_fTu, ap_fNo, ap_fCo, ap_fFld, ap_fIsi, k1_fBin, k2_fBin, k1_fNeg, k1_fCmp, k2_fCmp, k1_fIsN, k1_fTup, k1_fIx, k2_fIx, k1_fSl, k2_fSl, k3_fSl, k1_fFz, k1_fBi, k1_fCons, k2_fCons, k1_fSo, k1_fNot, k1_fChain, k2_fChain, k1_fAnd, k1_fOr, k1_fIte, k1_fBl, k1_fNew, k1_fMu, k1_fStr, k1_fRepr, k1_fAttr, k1_fDl, k1_fCat, k2_fCat, k1_fRep, k2_fRep, k1_fLi, k1_fZ3, k2_fZ3, k3_fZ3, k1_fSlL, k2_fSlL, k3_fSlL, k1_fSeq, k1_fEn, k1_fPr, k2_fPr, k1_fRg2, k2_fRg2, k1_fTst, k1_fAsg, k1_fPar2, k1_fPar3, k1_fIf, k1_fRet, k1_fExp, k1_fFor, k1_fSub, k2_fSub, k1_fFld, k2_fFld, k1_fIsi, IG.set, IG.set.sets, evV, env0, isNn, strT, muT, lstAt, ownL, lstOf, seqOf, L2.atI, L2.ixN, lim, bnd_ok', go_ok', seq_nx', seq_rt', opt_some', nox_ok', finO_rt, finO_nx, padF, kwF, insOf, tbf_of_law_growing, tbc_of_law_growing, hw', e, hc, e3, asBl]
        · refine ⟨some (.int 0), J2 :: rest, ?_, ⟨_, rfl, 0, rfl, by omega, by omega⟩, J2, rfl, hJ2.mono (by omega)⟩
          simp [fTurn, wipeE, e1_law_growing, den, ap_evSs, ap_evSs0, IS.ev, IE.ev, IL.ev, IEs.ev, IO.ev, II.ev, IO.test, IA.ev, IA.ev.evs, ap_fNever, ap_fK, ap_fGl, ap_fBin, ap_fNeg, ap_fCmp, ap_fIsN, ap_fTup, ap_fIx, ap_fSl, ap_fFz, ap_fFn, ap_fBi, ap_fNil, ap_fCons, ap_fNo0, ap_fSo, ap_fNot, ap_fChain, ap_fAnd, ap_fOr, ap_fIte, ap_fBl, ap_fNew, ap_fMu, ap_fStr, ap_fRepr, ap_fAttr, ap_fDl, ap_fCat, ap_fRep, ap_fLi, ap_fZ3, ap_fSlL, ap_fSeq, ap_fEn, ap_fPr, ap_fRg2, ap_fTst, ap_fYes, ap_fNx, ap_fAsg, ap_fPar2, ap_fPar3, ap_fIf, ap_fRet, ap_fExp, ap_fG, ap_fSub, ap_fTu, ap_fNo, ap_fCo, ap_fFld, ap_fIsi, k1_fBin, k2_fBin, k1_fNeg, k1_fCmp, k2_fCmp, k1_fIsN, k1_fTup, k1_fIx, k2_fIx, k1_fSl, k2_fSl, k3_fSl, k1_fFz, k1_fBi, k1_fCons, k2_fCons, k1_fSo, k1_fNot, k1_fChain, k2_fChain, k1_fAnd, k1_fOr, k1_fIte, k1_fBl, k1_fNew, k1_fMu, k1_fStr, k1_fRepr, k1_fAttr, k1_fDl, k1_fCat, k2_fCat, k1_fRep, k2_fRep, k1_fLi, k1_fZ3, k2_fZ3, k3_fZ3, k1_fSlL, k2_fSlL, k3_fSlL, k1_fSeq, k1_fEn, k1_fPr, k2_fPr, k1_fRg2, k2_fRg2, k1_fTst, k1_fAsg, k1_fPar2, k1_fPar3, k1_fIf, k1_fRet, k1_fExp, k1_fFor, k1_fSub, k2_fSub, k1_fFld, k2_fFld, k1_fIsi, IG.set, IG.set.sets, evV, env0, isNn, strT, muT, lstAt, ownL, lstOf, seqOf, L2.atI, L2.ixN, lim, bnd_ok', go_ok', seq_nx', seq_rt', opt_some', nox_ok', finO_rt, finO_nx, padF, kwF, insOf, tbf_of_law_growing, tbc_of_law_growing, hw', e, hc, asBl]
  obtain ⟨J', rfl, hJ'⟩ := h3
  obtain ⟨r, rfl, hr2⟩ := lst_choose h2
  exact ⟨r, J', e, ⟨by simpa using h1, hr2⟩, hJ'.mono (by rw [List.length_map]; omega)⟩
theorem lgr_t {P : T} {b : Nat} {s s1 : Sto} {X ys : List T} {e0 e1 e2 e3 e5 e6 e8 e9 : Option T} (c : fLc [9] (e1_law_growing.ev tb_law_growing) (.name 9) (fSeq (fIx (evV 4) (fK (.int 1)))) fYes (E10 e0 e1 e2 e3 (some P) e5 e6 (some (.loc b)) e8 e9) s = .ok ys s1)
    (h0 : s[b]? = some (.lst X)) (h1 : s1[b]? = some (.lst X)) (hl : X.length < 16777216) :
    evSs tb_law_growing l1_law_growing (E10 e0 e1 e2 e3 (some P) e5 e6 (some (.loc b)) e8 e9) s = .nx (E10 e0 e1 e2 e3 (some P) e5 e6 (some (.loc b)) e8 e9) (s1.set b (.lst (X ++ [.tup ys]))) := by
  have tl : ∀ st, biT st .tuple [.lst ys] = some (.tup ys) := fun st => by simp [biT, seqOf, lstOf]
  simp [l1_law_growing, den, ap_evSs, ap_evSs0, IS.ev, IE.ev, IL.ev, IEs.ev, IO.ev, II.ev, IO.test, IA.ev, IA.ev.evs, ap_fNever, ap_fK, ap_fGl, ap_fBin, ap_fNeg, ap_fCmp, ap_fIsN, ap_fTup, ap_fIx, ap_fSl, ap_fFz, ap_fFn, ap_fBi, ap_fNil, ap_fCons, ap_fNo0, ap_fSo, ap_fNot, ap_fChain, ap_fAnd, ap_fOr, ap_fIte, ap_fBl, ap_fNew, ap_fMu, ap_fStr, ap_fRepr, ap_fAttr, ap_fDl, ap_fCat, ap_fRep, ap_fLi, ap_fZ3, ap_fSlL, ap_fSeq, ap_fEn, ap_fPr, ap_fRg2, ap_fTst, ap_fYes, ap_fNx, ap_fAsg, ap_fPar2, ap_fPar3, ap_fIf, ap_fRet, ap_fExp, ap_fG, ap_fSub, ap_fTu, ap_fNo, ap_fCo, ap_fFld, ap_fIsi, k1_fBin, k2_fBin, k1_fNeg, k1_fCmp, k2_fCmp, k1_fIsN, k1_fTup, k1_fIx, k2_fIx, k1_fSl, k2_fSl, k3_fSl, k1_fFz, k1_fBi, k1_fCons, k2_fCons, k1_fSo, k1_fNot, k1_fChain, k2_fChain, k1_fAnd, k1_fOr, k1_fIte, k1_fBl, k1_fNew, k1_fMu, k1_fStr, k1_fRepr, k1_fAttr, k1_fDl, k1_fCat, k2_fCat, k1_fRep, k2_fRep, k1_fLi, k1_fZ3, k2_fZ3, k3_fZ3, k1_fSlL, k2_fSlL, k3_fSlL, k1_fSeq, k1_fEn, k1_fPr, k2_fPr, k1_fRg2, k2_fRg2, k1_fTst, k1_fAsg, k1_fPar2, k1_fPar3, k1_fIf, k1_fRet, k1_fExp, k1_fFor, k1_fSub, k2_fSub, k1_fFld, k2_fFld, k1_fIsi, IG.set, IG.set.sets, evV, env0, isNn, strT, muT, lstAt, ownL, lstOf, seqOf, L2.atI, L2.ixN, lim, bnd_ok', go_ok', seq_nx', seq_rt', opt_some', nox_ok', finO_rt, finO_nx, padF, kwF, insOf, ap_fMu, k1_fMu, muT, c, h0, h1, hl, tl]
theorem lgr_2a {s : Sto} {e0 e1 e2 e3 e4 e5 e6 e7 e8 e9 : Option T} : evSs tb_law_growing (l2_law_growing.take 1) (E10 e0 e1 e2 e3 e4 e5 e6 e7 e8 e9) s = .nx (E10 e0 e1 e2 e3 e4 e5 e6 (some (.loc s.length)) e8 e9) (s ++ [.lst []]) := by
  simp [l2_law_growing, den, ap_evSs, ap_evSs0, IS.ev, IE.ev, IL.ev, IEs.ev, IO.ev, II.ev, IO.test, IA.ev, IA.ev.evs, ap_fNever, ap_fK, ap_fGl, ap_fBin, ap_fNeg, ap_fCmp, ap_fIsN, ap_fTup, ap_fIx, ap_fSl, ap_fFz, ap_fFn, ap_fBi, ap_fNil, ap_fCons, ap_fNo0, ap_fSo, ap_fNot, ap_fChain, ap_fAnd, ap_fOr, ap_fIte, ap_fBl, ap_fNew, ap_fMu, ap_fStr, ap_fRepr, ap_fAttr, ap_fDl, ap_fCat, ap_fRep, ap_fLi, ap_fZ3, ap_fSlL, ap_fSeq, ap_fEn, ap_fPr, ap_fRg2, ap_fTst, ap_fYes, ap_fNx, ap_fAsg, ap_fPar2, ap_fPar3, ap_fIf, ap_fRet, ap_fExp, ap_fG, ap_fSub, ap_fTu, ap_fNo, ap_fCo, ap_fFld, ap_fIsi, k1_fBin, k2_fBin, k1_fNeg, k1_fCmp, k2_fCmp, k1_fIsN, k1_fTup, k1_fIx, k2_fIx, k1_fSl, k2_fSl, k3_fSl, k1_fFz, k1_fBi, k1_fCons, k2_fCons, k1_fSo, k1_fNot, k1_fChain, k2_fChain, k1_fAnd, k1_fOr, k1_fIte, k1_fBl, k1_fNew, k1_fMu, k1_fStr, k1_fRepr, k1_fAttr, k1_fDl, k1_fCat, k2_fCat, k1_fRep, k2_fRep, k1_fLi, k1_fZ3, k2_fZ3, k3_fZ3, k1_fSlL, k2_fSlL, k3_fSlL, k1_fSeq, k1_fEn, k1_fPr, k2_fPr, k1_fRg2, k2_fRg2, k1_fTst, k1_fAsg, k1_fPar2, k1_fPar3, k1_fIf, k1_fRet, k1_fExp, k1_fFor, k1_fSub, k2_fSub, k1_fFld, k2_fFld, k1_fIsi, IG.set, IG.set.sets, evV, env0, isNn, strT, muT, lstAt, ownL, lstOf, seqOf, L2.atI, L2.ixN, lim, bnd_ok', go_ok', seq_nx', seq_rt', opt_some', nox_ok', finO_rt, finO_nx, padF, kwF, insOf]
theorem lgr_2b {P : T} {xs : List T} {env env2 : Env} {s s2 : Sto} (h : env[4]? = some (some P)) (i0 : ixT s P (.int 0) = some (.tup xs)) (w : walkO (.name 8) (evSs tb_law_growing l1_law_growing) xs env s = .nx env2 s2) : evSs tb_law_growing ((l2_law_growing.drop 1).take 1) env s = .nx env2 s2 := by
  simp [l2_law_growing, den, ap_evSs, ap_evSs0, IS.ev, IE.ev, IL.ev, IEs.ev, IO.ev, II.ev, IO.test, IA.ev, IA.ev.evs, ap_fNever, ap_fK, ap_fGl, ap_fBin, ap_fNeg, ap_fCmp, ap_fIsN, ap_fTup, ap_fIx, ap_fSl, ap_fFz, ap_fFn, ap_fBi, ap_fNil, ap_fCons, ap_fNo0, ap_fSo, ap_fNot, ap_fChain, ap_fAnd, ap_fOr, ap_fIte, ap_fBl, ap_fNew, ap_fMu, ap_fStr, ap_fRepr, ap_fAttr, ap_fDl, ap_fCat, ap_fRep, ap_fLi, ap_fZ3, ap_fSlL, ap_fSeq, ap_fEn, ap_fPr, ap_fRg2, ap_fTst, ap_fYes, ap_fNx, ap_fAsg, ap_fPar2, ap_fPar3, ap_fIf, ap_fRet, ap_fExp, ap_fG, ap_fSub, ap_fTu, ap_fNo, ap_fCo, ap_fFld, ap_fIsi, k1_fBin, k2_fBin, k1_fNeg, k1_fCmp, k2_fCmp, k1_fIsN, k1_fTup, k1_fIx, k2_fIx, k1_fSl, k2_fSl, k3_fSl, k1_fFz, k1_fBi, k1_fCons, k2_fCons, k1_fSo, k1_fNot, k1_fChain, k2_fChain, k1_fAnd, k1_fOr, k1_fIte, k1_fBl, k1_fNew, k1_fMu, k1_fStr, k1_fRepr, k1_fAttr, k1_fDl, k1_fCat, k2_fCat, k1_fRep, k2_fRep, k1_fLi, k1_fZ3, k2_fZ3, k3_fZ3, k1_fSlL, k2_fSlL, k3_fSlL, k1_fSeq, k1_fEn, k1_fPr, k2_fPr, k1_fRg2, k2_fRg2, k1_fTst, k1_fAsg, k1_fPar2, k1_fPar3, k1_fIf, k1_fRet, k1_fExp, k1_fFor, k1_fSub, k2_fSub, k1_fFld, k2_fFld, k1_fIsi, IG.set, IG.set.sets, evV, env0, isNn, strT, muT, lstAt, ownL, lstOf, seqOf, L2.atI, L2.ixN, lim, bnd_ok', go_ok', seq_nx', seq_rt', opt_some', nox_ok', finO_rt, finO_nx, padF, kwF, insOf, ap_fFor, -ix_tup', h, i0, w]
theorem lgr_2c {a b : Nat} {s : Sto} {X Y : List T} {e0 e1 e2 e3 e4 e5 e8 e9 : Option T} (h0 : s[b]? = some (.lst X)) (h1 : s[a]? = some (.lst Y)) (hl : Y.length < 16777216) :
    evSs tb_law_growing (l2_law_growing.drop 2) (E10 e0 e1 e2 e3 e4 e5 (some (.loc a)) (some (.loc b)) e8 e9) s = .nx (E10 e0 e1 e2 e3 e4 e5 (some (.loc a)) (some (.loc b)) e8 e9) (s.set a (.lst (Y ++ [.tup X]))) := by
  have tl : biT s .tuple [.loc b] = some (.tup X) := by simp [biT, seqOf, lstOf, h0]
  simp [l2_law_growing, den, ap_evSs, ap_evSs0, IS.ev, IE.ev, IL.ev, IEs.ev, IO.ev, II.ev, IO.test, IA.ev, IA.ev.evs, ap_fNever, ap_fK, ap_fGl, ap_fBin, ap_fNeg, ap_fCmp, ap_fIsN, ap_fTup, ap_fIx, ap_fSl, ap_fFz, ap_fFn, ap_fBi, ap_fNil, ap_fCons, ap_fNo0, ap_fSo, ap_fNot, ap_fChain, ap_fAnd, ap_fOr, ap_fIte, ap_fBl, ap_fNew, ap_fMu, ap_fStr, ap_fRepr, ap_fAttr, ap_fDl, ap_fCat, ap_fRep, ap_fLi, ap_fZ3, ap_fSlL, ap_fSeq, ap_fEn, ap_fPr, ap_fRg2, ap_fTst, ap_fYes, ap_fNx, ap_fAsg, ap_fPar2, ap_fPar3, ap_fIf, ap_fRet, ap_fExp, ap_fG, ap_fSub, ap_fTu, ap_fNo, ap_fCo, ap_fFld, ap_fIsi, k1_fBin, k2_fBin, k1_fNeg, k1_fCmp, k2_fCmp, k1_fIsN, k1_fTup, k1_fIx, k2_fIx, k1_fSl, k2_fSl, k3_fSl, k1_fFz, k1_fBi, k1_fCons, k2_fCons, k1_fSo, k1_fNot, k1_fChain, k2_fChain, k1_fAnd, k1_fOr, k1_fIte, k1_fBl, k1_fNew, k1_fMu, k1_fStr, k1_fRepr, k1_fAttr, k1_fDl, k1_fCat, k2_fCat, k1_fRep, k2_fRep, k1_fLi, k1_fZ3, k2_fZ3, k3_fZ3, k1_fSlL, k2_fSlL, k3_fSlL, k1_fSeq, k1_fEn, k1_fPr, k2_fPr, k1_fRg2, k2_fRg2, k1_fTst, k1_fAsg, k1_fPar2, k1_fPar3, k1_fIf, k1_fRet, k1_fExp, k1_fFor, k1_fSub, k2_fSub, k1_fFld, k2_fFld, k1_fIsi, IG.set, IG.set.sets, evV, env0, isNn, strT, muT, lstAt, ownL, lstOf, seqOf, L2.atI, L2.ixN, lim, bnd_ok', go_ok', seq_nx', seq_rt', opt_some', nox_ok', finO_rt, finO_nx, padF, kwF, insOf, ap_fMu, k1_fMu, muT, h1, hl, tl]
theorem lgr_1 {P : T} {a b w : Int} {s s1 s2 : Sto} (hP : F_law_parts [.loc 0, .int a, .int b] s = .ok P s1) (hw : F_law_pour [.loc 0, .int 3] s1 = .ok (.int w) s2) :
    evSs tb_law_growing (b_law_growing.take 1) (E10 (some (.loc 0)) (some (.int a)) (some (.int b)) none none none none none none none) s = .nx (E10 (some (.loc 0)) (some (.int a)) (some (.int b)) none (some P) (some (.int w)) (some (.loc s2.length)) none none none) (s2 ++ [.lst []]) := by
  simp [b_law_growing, tbf_of_law_growing, tbc_of_law_growing, den, ap_evSs, ap_evSs0, IS.ev, IE.ev, IL.ev, IEs.ev, IO.ev, II.ev, IO.test, IA.ev, IA.ev.evs, ap_fNever, ap_fK, ap_fGl, ap_fBin, ap_fNeg, ap_fCmp, ap_fIsN, ap_fTup, ap_fIx, ap_fSl, ap_fFz, ap_fFn, ap_fBi, ap_fNil, ap_fCons, ap_fNo0, ap_fSo, ap_fNot, ap_fChain, ap_fAnd, ap_fOr, ap_fIte, ap_fBl, ap_fNew, ap_fMu, ap_fStr, ap_fRepr, ap_fAttr, ap_fDl, ap_fCat, ap_fRep, ap_fLi, ap_fZ3, ap_fSlL, ap_fSeq, ap_fEn, ap_fPr, ap_fRg2, ap_fTst, ap_fYes, ap_fNx, ap_fAsg, ap_fPar2, ap_fPar3, ap_fIf, ap_fRet, ap_fExp, ap_fG, ap_fSub, ap_fTu, ap_fNo, ap_fCo, ap_fFld, ap_fIsi, k1_fBin, k2_fBin, k1_fNeg, k1_fCmp, k2_fCmp, k1_fIsN, k1_fTup, k1_fIx, k2_fIx, k1_fSl, k2_fSl, k3_fSl, k1_fFz, k1_fBi, k1_fCons, k2_fCons, k1_fSo, k1_fNot, k1_fChain, k2_fChain, k1_fAnd, k1_fOr, k1_fIte, k1_fBl, k1_fNew, k1_fMu, k1_fStr, k1_fRepr, k1_fAttr, k1_fDl, k1_fCat, k2_fCat, k1_fRep, k2_fRep, k1_fLi, k1_fZ3, k2_fZ3, k3_fZ3, k1_fSlL, k2_fSlL, k3_fSlL, k1_fSeq, k1_fEn, k1_fPr, k2_fPr, k1_fRg2, k2_fRg2, k1_fTst, k1_fAsg, k1_fPar2, k1_fPar3, k1_fIf, k1_fRet, k1_fExp, k1_fFor, k1_fSub, k2_fSub, k1_fFld, k2_fFld, k1_fIsi, IG.set, IG.set.sets, evV, env0, isNn, strT, muT, lstAt, ownL, lstOf, seqOf, L2.atI, L2.ixN, lim, bnd_ok', go_ok', seq_nx', seq_rt', opt_some', nox_ok', finO_rt, finO_nx, padF, kwF, insOf, hP, hw]
theorem lgr_2 {env env2 : Env} {s s2 : Sto} (w : walkO (.name 3) (evSs tb_law_growing l2_law_growing) [.int 10, .int 4] env s = .nx env2 s2) : evSs tb_law_growing ((b_law_growing.drop 1).take 1) env s = .nx env2 s2 := by
  simp [b_law_growing, den, ap_evSs, ap_evSs0, IS.ev, IE.ev, IL.ev, IEs.ev, IO.ev, II.ev, IO.test, IA.ev, IA.ev.evs, ap_fNever, ap_fK, ap_fGl, ap_fBin, ap_fNeg, ap_fCmp, ap_fIsN, ap_fTup, ap_fIx, ap_fSl, ap_fFz, ap_fFn, ap_fBi, ap_fNil, ap_fCons, ap_fNo0, ap_fSo, ap_fNot, ap_fChain, ap_fAnd, ap_fOr, ap_fIte, ap_fBl, ap_fNew, ap_fMu, ap_fStr, ap_fRepr, ap_fAttr, ap_fDl, ap_fCat, ap_fRep, ap_fLi, ap_fZ3, ap_fSlL, ap_fSeq, ap_fEn, ap_fPr, ap_fRg2, ap_fTst, ap_fYes, ap_fNx, ap_fAsg, ap_fPar2, ap_fPar3, ap_fIf, ap_fRet, ap_fExp, ap_fG, ap_fSub, ap_fTu, ap_fNo, ap_fCo, ap_fFld, ap_fIsi, k1_fBin, k2_fBin, k1_fNeg, k1_fCmp, k2_fCmp, k1_fIsN, k1_fTup, k1_fIx, k2_fIx, k1_fSl, k2_fSl, k3_fSl, k1_fFz, k1_fBi, k1_fCons, k2_fCons, k1_fSo, k1_fNot, k1_fChain, k2_fChain, k1_fAnd, k1_fOr, k1_fIte, k1_fBl, k1_fNew, k1_fMu, k1_fStr, k1_fRepr, k1_fAttr, k1_fDl, k1_fCat, k2_fCat, k1_fRep, k2_fRep, k1_fLi, k1_fZ3, k2_fZ3, k3_fZ3, k1_fSlL, k2_fSlL, k3_fSlL, k1_fSeq, k1_fEn, k1_fPr, k2_fPr, k1_fRg2, k2_fRg2, k1_fTst, k1_fAsg, k1_fPar2, k1_fPar3, k1_fIf, k1_fRet, k1_fExp, k1_fFor, k1_fSub, k2_fSub, k1_fFld, k2_fFld, k1_fIsi, IG.set, IG.set.sets, evV, env0, isNn, strT, muT, lstAt, ownL, lstOf, seqOf, L2.atI, L2.ixN, lim, bnd_ok', go_ok', seq_nx', seq_rt', opt_some', nox_ok', finO_rt, finO_nx, padF, kwF, insOf, ap_fFor, w]
theorem lgr_3 {P X Y : T} {a : Nat} {s : Sto} {e0 e1 e2 e3 e5 e7 e8 e9 : Option T} (h : s[a]? = some (.lst [X, Y])) : evSs tb_law_growing (b_law_growing.drop 2) (E10 e0 e1 e2 e3 (some P) e5 (some (.loc a)) e7 e8 e9) s = .rt (.tup [P, X, Y]) s := by
  have j1 : ixT s (.loc a) (.int 0) = some X := by unfold ixT; simp [seqOf, lstOf, h, L2.atI, L2.ixN]
  have j2 : ixT s (.loc a) (.int 1) = some Y := by unfold ixT; simp [seqOf, lstOf, h, L2.atI, L2.ixN]
  simp [b_law_growing, den, ap_evSs, ap_evSs0, IS.ev, IE.ev, IL.ev, IEs.ev, IO.ev, II.ev, IO.test, IA.ev, IA.ev.evs, ap_fNever, ap_fK, ap_fGl, ap_fBin, ap_fNeg, ap_fCmp, ap_fIsN, ap_fTup, ap_fIx, ap_fSl, ap_fFz, ap_fFn, ap_fBi, ap_fNil, ap_fCons, ap_fNo0, ap_fSo, ap_fNot, ap_fChain, ap_fAnd, ap_fOr, ap_fIte, ap_fBl, ap_fNew, ap_fMu, ap_fStr, ap_fRepr, ap_fAttr, ap_fDl, ap_fCat, ap_fRep, ap_fLi, ap_fZ3, ap_fSlL, ap_fSeq, ap_fEn, ap_fPr, ap_fRg2, ap_fTst, ap_fYes, ap_fNx, ap_fAsg, ap_fPar2, ap_fPar3, ap_fIf, ap_fRet, ap_fExp, ap_fG, ap_fSub, ap_fTu, ap_fNo, ap_fCo, ap_fFld, ap_fIsi, k1_fBin, k2_fBin, k1_fNeg, k1_fCmp, k2_fCmp, k1_fIsN, k1_fTup, k1_fIx, k2_fIx, k1_fSl, k2_fSl, k3_fSl, k1_fFz, k1_fBi, k1_fCons, k2_fCons, k1_fSo, k1_fNot, k1_fChain, k2_fChain, k1_fAnd, k1_fOr, k1_fIte, k1_fBl, k1_fNew, k1_fMu, k1_fStr, k1_fRepr, k1_fAttr, k1_fDl, k1_fCat, k2_fCat, k1_fRep, k2_fRep, k1_fLi, k1_fZ3, k2_fZ3, k3_fZ3, k1_fSlL, k2_fSlL, k3_fSlL, k1_fSeq, k1_fEn, k1_fPr, k2_fPr, k1_fRg2, k2_fRg2, k1_fTst, k1_fAsg, k1_fPar2, k1_fPar3, k1_fIf, k1_fRet, k1_fExp, k1_fFor, k1_fSub, k2_fSub, k1_fFld, k2_fFld, k1_fIsi, IG.set, IG.set.sets, evV, env0, isNn, strT, muT, lstAt, ownL, lstOf, seqOf, L2.atI, L2.ixN, lim, bnd_ok', go_ok', seq_nx', seq_rt', opt_some', nox_ok', finO_rt, finO_nx, padF, kwF, insOf, j1, j2]
/-- one table -/
theorem lgr_tab {n : Nat} {J : Cell} {R : Sto} {p : Pa} {top way : Int} {tops : Nat} {Y : List T} {e1 e2 e7 e8 e9 : Option T} (hJ : JC n J) (hn : n + 200 < 10 ^ 9) (ht : 0 < top) (ht2 : top < 2 ^ 64) (ok : POk p) (hr : NL R) (hY : (J :: R)[tops]? = some (.lst Y)) (hl : Y.length < 16777216) (h1 : 1 ≤ tops) :
    ∃ (g : List (List Int)) (J' : Cell) (f7 f8 f9 : Option T), evSs tb_law_growing l2_law_growing (E10 (some (.loc 0)) e1 e2 (some (.int top)) (some (partsT p)) (some (.int way)) (some (.loc tops)) e7 e8 e9) (J :: R) =
      .nx (E10 (some (.loc 0)) e1 e2 (some (.int top)) (some (partsT p)) (some (.int way)) (some (.loc tops)) f7 f8 f9) (J' :: (R.set (tops - 1) (.lst (Y ++ [gT g])) ++ [.lst (g.map rT)])) ∧ TbB p.h.length p.g.length (top - 1) g ∧ JC (n + 40) J' := by
  have l1 := ok.h2
  have l2 := ok.g2
  have nr : ∀ g : List (List Int), NL (R ++ [.lst (g.map rT)]) := fun g => NL_app hr (NL_lst (nls_of fun x hx => by obtain ⟨r, _, rfl⟩ := List.mem_map.mp hx; unfold rT; simp; exact nls_of (by simp)) NL_nil)
  have at_ : ∀ (C : Cell) (X : List T), (C :: (R ++ [Cell.lst X]))[R.length + 1]? = some (.lst X) := fun C X => by simp
  have st_ : ∀ (C : Cell) (X Z : List T), (C :: (R ++ [Cell.lst X])).set (R.length + 1) (.lst Z) = C :: (R ++ [.lst Z]) := fun C X Z => by simp
  obtain ⟨env2, st2, wk, g, J', f8, f9, rfl, rfl, hg1, hg2, hJ'⟩ := walk_nx (g := .name 8) (f := evSs tb_law_growing l1_law_growing) (xs := p.h.map mT)
    (env := E10 (some (.loc 0)) e1 e2 (some (.int top)) (some (partsT p)) (some (.int way)) (some (.loc tops)) (some (.loc (R.length + 1))) e8 e9) (st := J :: (R ++ [.lst []]))
    (Q := fun i env s => ∃ (g : List (List Int)) (J' : Cell) (f8 f9 : Option T), env = E10 (some (.loc 0)) e1 e2 (some (.int top)) (some (partsT p)) (some (.int way)) (some (.loc tops)) (some (.loc (R.length + 1))) f8 f9 ∧ s = J' :: (R ++ [.lst (g.map rT)]) ∧ g.length = i ∧ (∀ r, r ∈ g → rowB r p.g.length (top - 1)) ∧ JC (n + 8 * i) J')
    ⟨[], J, e8, e9, rfl, rfl, rfl, by simp, hJ⟩ fun i x env s hx hq => by
      obtain ⟨g, J1, f8, f9, rfl, rfl, hg1, hg2, hJ1⟩ := hq
      have hi : i < p.h.length := by have := (List.getElem?_eq_some_iff.mp hx).1; simpa using this
      obtain ⟨r, J2, c, hr2, hJ2⟩ := lgr_row (p := p) (P := partsT p) (top := top) (way := way) (e1 := e1) (e2 := e2) (e6 := some (.loc tops)) (e7 := some (.loc (R.length + 1))) (e8 := some x) (e9 := f9) hJ1 (by omega) ht ht2 l2 (fun _ => rfl) (nr g)
      have t := lgr_t c (at_ J1 _) (at_ J2 _) (by rw [List.length_map]; omega)
      rw [st_] at t
      refine ⟨_, _, _, rfl, t, g ++ [r], J2, _, _, rfl, ?_, by simp [hg1], fun q hq => ?_, hJ2.mono (by omega)⟩
      · rw [List.map_append]; rfl
      · rcases List.mem_append.mp hq with hq | hq
        · exact hg2 q hq
        · rw [List.mem_singleton.mp hq]; exact hr2
  rw [List.length_map] at hg1 hJ'
  have eb : l2_law_growing = l2_law_growing.take 1 ++ ((l2_law_growing.drop 1).take 1 ++ l2_law_growing.drop 2) := rfl
  obtain ⟨k, rfl⟩ : ∃ k, tops = k + 1 := ⟨tops - 1, by omega⟩
  have hY' : R[k]? = some (.lst Y) := by simpa using hY
  have hk : k < R.length := (List.getElem?_eq_some_iff.mp hY').1
  have c := lgr_2c (e0 := some (.loc 0)) (e1 := e1) (e2 := e2) (e3 := some (.int top)) (e4 := some (partsT p)) (e5 := some (.int way)) (e8 := f8) (e9 := f9) (a := k + 1) (at_ J' (g.map rT)) (show (J' :: (R ++ [Cell.lst (g.map rT)]))[k + 1]? = some (.lst Y) from by
    rw [List.getElem?_cons_succ, List.getElem?_append_left hk]; exact hY') hl
  refine ⟨g, J', some (.loc (R.length + 1)), f8, f9, ?_, ⟨hg1, hg2⟩, hJ'.mono (by omega)⟩
  rw [eb, evSs_app, lgr_2a, seq_nx', evSs_app]
  have wk' := lgr_2b (P := partsT p) (xs := p.h.map mT) rfl rfl wk
  rw [show (J :: R ++ [Cell.lst []]) = J :: (R ++ [.lst []]) from rfl, show (J :: R).length = R.length + 1 from rfl, wk', seq_nx', c]
  congr 1
  rw [List.set_cons_succ, List.set_append_left _ _ hk]
  rfl
theorem nl_partsT {p : Pa} : Nl (partsT p) := nl_tup.mpr (nls_cons.mpr ⟨nl_sT, nls_cons.mpr ⟨nl_sT, nls_cons.mpr ⟨nl_dT, nls_nil⟩⟩⟩)
theorem growing_ok {n a b : Nat} {J : Cell} {rest : Sto} (hJ : JC n J) (hn : n + 1000 < 10 ^ 9) (ha : 0 < a) (ha4 : a ≤ 4) (hb : 0 < b) (hb4 : b ≤ 4) (hr : NL rest) :
    ∃ (p : Pa) (g w : List (List Int)) (J' : Cell), F_law_growing [.loc 0, .int a, .int b] (J :: rest) = .ok (.tup [partsT p, gT g, gT w]) (J' :: rest) ∧ PaOk p ∧ TbB p.h.length p.g.length 9 g ∧ TbB p.h.length p.g.length 3 w ∧ JC (n + 300) J' := by
  obtain ⟨p, J1, hP, ok, _, _, hJ1⟩ := parts_ok hJ (by omega) ha ha4 hb hb4 hr
  obtain ⟨w, J2, hW, w0, w1, hJ2⟩ := pour_eq2 (k := 3) hJ1 (by omega) (by decide) (by decide) hr
  have nR : ∀ {s : Sto}, NL s → ∀ (g : List (List Int)), NL (s ++ [.lst (g.map rT)]) := fun hs g => NL_app hs (NL_lst (nls_of fun x hx => by obtain ⟨r, _, rfl⟩ := List.mem_map.mp hx; unfold rT; simp; exact nls_of (by simp)) NL_nil)
  have nT : ∀ X : List T, Nls X → NL (rest ++ [.lst X]) := fun X hX => NL_app hr (NL_lst hX NL_nil)
  have gl : ∀ g, Nl (gT g) := fun g => by unfold gT; exact nl_tup.mpr (nls_of fun x hx => by obtain ⟨r, _, rfl⟩ := List.mem_map.mp hx; unfold rT; simp; exact nls_of (by simp))
  obtain ⟨g, J3, f7, f8, f9, t1, hg, hJ3⟩ := lgr_tab (p := p) (R := rest ++ [.lst []]) (top := 10) (way := w) (tops := rest.length + 1) (Y := []) (e1 := some (.int a)) (e2 := some (.int b)) (e7 := none) (e8 := none) (e9 := none) hJ2 (by omega) (by decide) (by decide) ok.ok (nT [] nls_nil) (by simp) (by simp) (by omega)
  have s1 : (rest ++ [Cell.lst []]).set (rest.length + 1 - 1) (.lst ([] ++ [gT g])) = rest ++ [.lst [gT g]] := by simp
  rw [s1] at t1
  obtain ⟨v, J4, h7, h8, h9, t2, hv, hJ4⟩ := lgr_tab (p := p) (R := rest ++ [.lst [gT g]] ++ [.lst (g.map rT)]) (top := 4) (way := w) (tops := rest.length + 1) (Y := [gT g]) (e1 := some (.int a)) (e2 := some (.int b)) (e7 := f7) (e8 := f8) (e9 := f9) hJ3 (by omega) (by decide) (by decide) ok.ok (nR (nT _ (nls_cons.mpr ⟨gl g, nls_nil⟩)) g) (by simp) (by simp) (by omega)
  have s2 : (rest ++ [Cell.lst [gT g]] ++ [Cell.lst (g.map rT)]).set (rest.length + 1 - 1) (.lst ([gT g] ++ [gT v])) = rest ++ [.lst [gT g, gT v]] ++ [.lst (g.map rT)] := by simp
  rw [s2] at t2
  have w1 : walkO (.name 3) (evSs tb_law_growing l2_law_growing) [.int 10, .int 4] (E10 (some (.loc 0)) (some (.int a)) (some (.int b)) none (some (partsT p)) (some (.int w)) (some (.loc (rest.length + 1))) none none none) (J2 :: (rest ++ [.lst []])) = .nx (E10 (some (.loc 0)) (some (.int a)) (some (.int b)) (some (.int 4)) (some (partsT p)) (some (.int w)) (some (.loc (rest.length + 1))) h7 h8 h9) (J4 :: (rest ++ [.lst [gT g, gT v]] ++ [.lst (g.map rT)] ++ [.lst (v.map rT)])) := by
    simp only [walkO, IG.set, List.length_cons, List.length_nil]
    rw [if_pos (by decide)]
    simp only [List.set]
    rw [t1]
    simp only [walkO, IG.set, List.length_cons, List.length_nil]
    rw [if_pos (by decide)]
    simp only [List.set]
    rw [t2]
  have eb : b_law_growing = b_law_growing.take 1 ++ ((b_law_growing.drop 1).take 1 ++ b_law_growing.drop 2) := rfl
  refine ⟨p, g, v, J4, ?_, ok, hg, hv, hJ4.mono (by omega)⟩
  have k : evSs tb_law_growing b_law_growing (E10 (some (.loc 0)) (some (.int a)) (some (.int b)) none none none none none none none) (J :: rest) = .rt (.tup [partsT p, gT g, gT v]) (J4 :: (rest ++ [.lst [gT g, gT v]] ++ [.lst (g.map rT)] ++ [.lst (v.map rT)])) := by
    rw [eb, evSs_app, lgr_1 hP hW, seq_nx', evSs_app, show (J2 :: rest).length = rest.length + 1 from rfl, show (J2 :: rest ++ [Cell.lst []]) = J2 :: (rest ++ [.lst []]) from rfl, lgr_2 w1, seq_nx']
    exact lgr_3 (by simp)
  have z := (show F_law_growing [.loc 0, .int a, .int b] (J :: rest) = finR tb_law_growing.cls false (J :: rest).length _ _ from den_rt rfl k)
  rw [z]
  rw [show J4 :: (rest ++ [Cell.lst [gT g, gT v]] ++ [.lst (g.map rT)] ++ [.lst (v.map rT)]) = (J4 :: rest) ++ ([.lst [gT g, gT v]] ++ [.lst (g.map rT)] ++ [.lst (v.map rT)]) from by simp]
  exact fin_nlN (by simp) (NL_cons hJ4.nl hr) (nl_tup.mpr (nls_cons.mpr ⟨nl_partsT, nls_cons.mpr ⟨gl g, nls_cons.mpr ⟨gl v, nls_nil⟩⟩⟩))
theorem kOf_bd {ls : List Ln} {t : Ln} (ok : LnsOk ls) (ht : t ∈ ls) : kOf ls t + (perI t).toNat ≤ sLen ls t ∧ sLen ls t ≤ 1753 := by
  obtain ⟨_, p1, p2, _, _⟩ := per_spec (t := t) (ok.b t ht).2.2.1
  have c2 := (ok.b t ht).2.2.2
  have n0 := setI_0 (ls := ls)
  have n1 := setI_bd ok
  refine ⟨?_, by unfold sLen; omega⟩
  unfold kOf
  cases ho : (othL ls t).getLast? with
  | none => show 0 + _ ≤ _; unfold sLen; omega
  | some j =>
    have hj : j ∈ othL ls t := List.mem_of_getLast? ho
    have hj := List.mem_range.mp (List.mem_filter.mp hj).1
    show j + 1 + _ ≤ _
    omega
theorem ldA_bd {ls : List Ln} {n : Int} (ok : LnsOk ls) (h0 : 0 ≤ n) (h1 : n ≤ 1753) : 0 ≤ ldA ls n ∧ ldA ls n ≤ 1000000 := by
  refine ⟨?_, (ldA_le ok.ne).mpr fun l hl => ?_⟩
  · obtain ⟨l, hl, e⟩ := ldA_at ok.ne (n := n)
    obtain ⟨⟨a1, a2⟩, ⟨b1, b2⟩, c1, c2⟩ := ok.b l hl
    rw [← e]
    refine Decidable.byContradiction fun h => ?_
    have := (clL_le (n := n) (x := -1) (show 0 < l.2.2 by omega)).mp (by omega)
    have := Int.mul_nonneg b1 h0
    omega
  · obtain ⟨⟨a1, a2⟩, ⟨b1, b2⟩, c1, c2⟩ := ok.b l hl
    rw [clL_le (by omega)]
    have m1 : l.2.1 * n ≤ 144 * n := Int.mul_le_mul_of_nonneg_right b2 h0
    omega
theorem rise_bd {ls : List Ln} {t : Ln} (ok : LnsOk ls) (ht : t ∈ ls) : 0 ≤ rise t ∧ rise t ≤ 144 := by
  obtain ⟨⟨a1, a2⟩, ⟨b1, b2⟩, c1, c2⟩ := ok.b t ht
  obtain ⟨_, p1, p2, pu, _⟩ := per_spec (t := t) c1
  have m0 : 0 ≤ t.2.1 * perI t := Int.mul_nonneg b1 (by omega)
  have m1 : t.2.1 * perI t ≤ 144 * t.2.2 := Int.le_trans (Int.mul_le_mul_of_nonneg_right b2 (by omega)) (by omega)
  rw [pu] at m0 m1
  constructor
  · exact Int.nonneg_of_mul_nonneg_left m0 (by omega)
  · exact Int.le_of_mul_le_mul_right m1 (by omega)
theorem early_bd {ls : List Ln} {t : Ln} (ok : LnsOk ls) (ht : t ∈ ls) : (earlyL ls t).length = kOf ls t + (perI t).toNat ∧ (earlyL ls t).length ≤ 1753 ∧ earlyL ls t ≠ [] ∧ ∀ x, x ∈ earlyL ls t → 0 ≤ x ∧ x ≤ 1000000 := by
  obtain ⟨k1, k2⟩ := kOf_bd ok ht
  obtain ⟨_, p1, p2, _, _⟩ := per_spec (t := t) (ok.b t ht).2.2.1
  have l : (earlyL ls t).length = kOf ls t + (perI t).toNat := by unfold earlyL; simp
  refine ⟨l, by omega, fun z => by rw [z] at l; simp at l; omega, fun x hx => ?_⟩
  unfold earlyL at hx
  obtain ⟨j, hj, rfl⟩ := List.mem_map.mp hx
  have hj := List.mem_range.mp hj
  exact ldA_bd ok (by omega) (by omega)
structure FormM (ld : Int → Int) (k : Nat) (p u : Int) : Prop where
  f : FormI ld k p u
  l : ∀ (q v : Int) (N : Nat), 1 ≤ q → (∀ n : Nat, N ≤ n → ld ((n : Int) + q) = ld (n : Int) + v) → p ≤ q
theorem FormI.congr {ld ld' : Int → Int} {k : Nat} {p u : Int} (a : FormI ld k p u) (h : ∀ n : Nat, ld (n : Int) = ld' (n : Int)) : FormI ld' k p u := by
  obtain ⟨P, hP⟩ := Int.eq_ofNat_of_zero_le (show 0 ≤ p by have := a.p1; omega)
  have c : ∀ n : Nat, ld' ((n : Int) + p) = ld ((n : Int) + p) := fun n => by
    have : ((n + P : Nat) : Int) = (n : Int) + p := by omega
    rw [← this, h]
  refine ⟨a.p1, fun n hn => ?_, fun j hj => ?_⟩
  · rw [c, ← h]; exact a.f n hn
  · rw [c, ← h]; exact a.l j hj
theorem many_of {ld : Int → Int} {N : Nat} {q v : Int} (q1 : 1 ≤ q) (h : ∀ n : Nat, N ≤ n → ld ((n : Int) + q) = ld (n : Int) + v) (n : Nat) (hn : N ≤ n) : ∀ m : Nat, ld ((n : Int) + m * q) = ld (n : Int) + m * v
  | 0 => by simp
  | m + 1 => by
    obtain ⟨Q, hQ⟩ := Int.eq_ofNat_of_zero_le (show 0 ≤ q by omega)
    have ih := many_of q1 h n hn m
    have s := h (n + m * Q) (Nat.le_trans hn (Nat.le_add_right _ _))
    have c : ((n + m * Q : Nat) : Int) = (n : Int) + m * q := by rw [hQ]; simp
    rw [c] at s
    rw [Int.natCast_succ, Int.add_mul, Int.add_mul, Int.one_mul, Int.one_mul, ← Int.add_assoc, s, ih, Int.add_assoc]
theorem formM_of {ls r : List Ln} {t : Ln} (ok : LnsOk ls) (e : stL ls = t :: r) (h9 : Stp9 ls t) : FormM (ldA ls) (kOf ls t) (perI t) (rise t) := by
  have fi := formI_of ok e h9
  refine ⟨fi, fun q v N q1 h => ?_⟩
  have c1 := (ok.b t h9.i).2.2.1
  obtain ⟨_, p1, p2, pu, least⟩ := per_spec (t := t) c1
  obtain ⟨P, hP⟩ := Int.eq_ofNat_of_zero_le (show 0 ≤ perI t by omega)
  obtain ⟨Q, hQ⟩ := Int.eq_ofNat_of_zero_le (show 0 ≤ q by omega)
  have m1 := many_of q1 h (max N (kOf ls t)) (Nat.le_max_left _ _) P
  have m2 := fi.many (max N (kOf ls t)) (Nat.le_max_right _ _) Q
  rw [← hP] at m1
  rw [← hQ, Int.mul_comm q (perI t)] at m2
  have e1 : perI t * v = q * rise t := by omega
  have e2 : perI t * (t.2.1 * q) = perI t * (v * t.2.2) := by
    rw [← Int.mul_assoc, ← Int.mul_assoc, e1, Int.mul_comm (perI t) t.2.1, pu, Int.mul_comm (rise t * t.2.2) q, Int.mul_assoc q]
  have e3 : t.2.1 * q = v * t.2.2 := Int.eq_of_mul_eq_mul_left (by omega) e2
  exact least q q1 (by rw [e3, Int.mul_emod_left])
theorem trip_sh {E : List Int} {p u : Int} (hl : E.length ≤ 2000) (h : ∀ x, x ∈ E → 0 ≤ x ∧ x < 2 ^ 128) (p0 : 0 ≤ p) (p1 : p < 2 ^ 128) (u0 : 0 ≤ u) (u1 : u < 2 ^ 128) : ShOk (tripT E p u) 400000 := by
  have lg : ∀ x, x ∈ E → x.natAbs.log2 ≤ 128 := fun x hx => log_128 (h x hx).1 (h x hx).2
  have sp := (shOk_int p0 p1).2.2.2
  have su := (shOk_int u0 u1).2.2.2
  have sE := shB_ints lg
  refine ⟨?_, ?_, ?_, ?_⟩
  · unfold tripT; simp [data, datas, dat_ints]
  · unfold tripT
    simp only [shI, shIs, Bool.and_true]
    rw [shI_ints fun x hx => by have := lg x hx; omega, decide_eq_true (shI_of p0 p1), decide_eq_true (shI_of u0 u1)]
    rfl
  · unfold tripT; simp [dep, deps, dep_ints]
  · unfold tripT
    simp only [shB, shBs] at *
    omega
theorem dL_two {p : Pa} {g w : List (List Int)} {l m : Ln} (h1 : l ∈ dL p g w) (h2 : m ∈ dL p g w) : l = m := by
  unfold dL at h1 h2
  cases hd : p.d with
  | none => rw [hd] at h1; cases h1
  | some d =>
    rw [hd] at h1 h2
    rw [List.mem_singleton.mp h1, List.mem_singleton.mp h2]
theorem setI_576 {p : Pa} {g w : List (List Int)} (ok : POk p) (hg : TbB p.h.length p.g.length 9 g) (hw : TbB p.h.length p.g.length 3 w) : setI (lnsOf p g w) ≤ 576 := by
  have lo := lns_ok ok hg hw
  obtain ⟨t, r, e, h9⟩ := stL_head lo
  obtain ⟨g1, g2, g3⟩ := SG_bd ok (by decide) hg
  have lin : ∀ l, l ∈ lnsOf p g w → (l.1 ≤ 36 ∧ l.2.2 ≤ 4) ∨ l ∈ dL p g w := fun l hl => by
    unfold lnsOf at hl
    rcases List.mem_append.mp hl with hl | hl
    · obtain ⟨a, b, c⟩ := z3p_mem hl
      refine .inl ⟨(g1 _ a).2, ?_⟩
      unfold BG at c
      rcases List.mem_append.mp c with c | c
      · obtain ⟨m, hm, e⟩ := List.mem_map.mp c
        rw [← e]
        exact (ok.hb m hm).2
      · obtain ⟨m, hm, e⟩ := List.mem_map.mp c
        rw [← e]
        exact (ok.gb m hm).2
    · exact .inr hl
  unfold setI
  rw [e]
  show setS t 0 _ ≤ 576
  refine setS_bd (by decide) fun l hl gp => ?_
  obtain ⟨⟨a1, a2⟩, ⟨b1, b2⟩, c1, c2⟩ := lo.b t h9.i
  obtain ⟨⟨x1, x2⟩, ⟨y1, y2⟩, z1, z2⟩ := lo.b l hl
  have up : l.1 * t.2.2 ≤ 576 := by
    have m : ∀ {a b A B : Int}, 0 ≤ a → a ≤ A → 0 ≤ b → b ≤ B → 0 ≤ A → a * b ≤ A * B := fun {a b A B} h1 h2 h3 h4 h5 => Int.mul_le_mul h2 h4 h3 h5
    rcases lin l hl with ⟨u1, u2⟩ | u
    · have := m x1 u1 (show 0 ≤ t.2.2 by omega) c2 (by decide)
      omega
    · rcases lin t h9.i with ⟨v1, v2⟩ | v
      · have := m x1 x2 (show 0 ≤ t.2.2 by omega) v2 (by decide)
        omega
      · have := dL_two u v
        rw [this] at gp
        unfold gain at gp
        omega
  have nn : 0 ≤ t.1 * l.2.2 := Int.mul_nonneg a1 (by omega)
  exact (cei (a := l.1 * t.2.2 - t.1 * l.2.2) (x := 576) gp).mpr (by
    have : 576 * 1 ≤ 576 * gain t l := Int.mul_le_mul_of_nonneg_left (by omega) (by decide)
    omega)
theorem kOf_576 {ls r : List Ln} {t : Ln} (ok : LnsOk ls) (e : stL ls = t :: r) (h9 : Stp9 ls t) (h : setI ls ≤ 576) : kOf ls t ≤ 576 := by
  refine Decidable.byContradiction fun hc => ?_
  obtain ⟨j, hj⟩ : ∃ j, kOf ls t = j + 1 := ⟨kOf ls t - 1, by omega⟩
  have pos : ∀ l, l ∈ ls → 0 < l.2.2 := fun l hl => by have := (ok.b l hl).2.2.1; omega
  obtain ⟨_, p1, p2, pu, _⟩ := per_spec (t := t) (ok.b t h9.i).2.2.1
  exact (k_spec ok e h9).2 j hj (ldA_per pos h9 (by omega) pu (setI_set e (by omega)))
/-- the last step at which it does not go on so -/
def wrG (ld : Int → Int) (q : Nat) (v : Int) : Nat → Nat
  | 0 => 0
  | n + 1 => if ld (((n + q : Nat) : Int)) = ld (n : Int) + v then wrG ld q v n else n + 1
theorem wrG_ok {ld : Int → Int} {q : Nat} {v : Int} : ∀ {n s : Nat}, s < n → wrG ld q v n ≤ s → ld (((s + q : Nat) : Int)) = ld (s : Int) + v
  | n + 1, s, h, k => by
    unfold wrG at k
    split at k
    · rename_i c
      by_cases e : s = n
      · rw [e]; exact c
      · exact wrG_ok (n := n) (by omega) k
    · omega
theorem wrG_at {ld : Int → Int} {q : Nat} {v : Int} : ∀ {n j : Nat}, wrG ld q v n = j + 1 → j < n ∧ ld (((j + q : Nat) : Int)) ≠ ld (j : Int) + v
  | 0, j, h => by cases h
  | n + 1, j, h => by
    unfold wrG at h
    split at h
    · have := wrG_at h
      exact ⟨by omega, this.2⟩
    · rename_i c
      have : n = j := by omega
      subst this
      exact ⟨Nat.lt_succ_self _, c⟩
/-- the law's search ends at the period -/
theorem wr_less {ld : Int → Int} {k q P : Nat} {u v : Int} (m : FormM ld k (P : Int) u) (hk : k ≤ 658) (q1 : 1 ≤ q) (hq : q < P) (hP : P ≤ 12) : ¬ wrG ld q v (720 - q) < 659 := fun h => by
  have f := m.f
  have go : ∀ n : Nat, 658 ≤ n → ld ((n : Int) + (q : Int)) = ld (n : Int) + v := fun n hn => by
    obtain ⟨i, d, hi, e⟩ : ∃ i d : Nat, i < P ∧ n = 658 + i + d * P := ⟨(n - 658) % P, (n - 658) / P, Nat.mod_lt _ (by omega), by
      have := Nat.mod_add_div (n - 658) P
      rw [Nat.mul_comm] at this
      omega⟩
    have a := wrG_ok (ld := ld) (q := q) (v := v) (n := 720 - q) (s := 658 + i) (by omega) (by omega)
    have b := f.many (658 + i) (by omega) d
    have c := f.many (658 + i + q) (by omega) d
    have e1 : (n : Int) = ((658 + i : Nat) : Int) + (d : Int) * (P : Int) := by rw [e]; push_cast; omega
    have e2 : (n : Int) + (q : Int) = ((658 + i + q : Nat) : Int) + (d : Int) * (P : Int) := by rw [e1]; push_cast; omega
    rw [e2, c, e1, b, a]
    omega
  have := m.l q v 658 (by omega) go
  omega
theorem wr_per {ld : Int → Int} {k P : Nat} {u : Int} (f : FormI ld k (P : Int) u) (hk : k ≤ 658) (hP : P ≤ 12) : wrG ld P u (720 - P) = k := by
  refine Nat.le_antisymm ?_ ?_
  · cases e : wrG ld P u (720 - P) with
    | zero => exact Nat.zero_le _
    | succ j =>
      obtain ⟨h1, h2⟩ := wrG_at e
      refine Decidable.byContradiction fun hc => h2 ?_
      have := f.f j (by omega)
      rw [Int.natCast_add]
      exact this
  · cases k with
    | zero => exact Nat.zero_le _
    | succ j =>
      refine Decidable.byContradiction fun hc => ?_
      have := wrG_ok (ld := ld) (q := P) (v := u) (n := 720 - P) (s := j) (by omega) (by omega)
      rw [Int.natCast_add] at this
      exact f.l j rfl this
def ldL (ld : Int → Int) : List Int := (List.range 720).map fun (j : Nat) => ld (j : Int)
theorem ldL_len {ld : Int → Int} : (ldL ld).length = 720 := by unfold ldL; simp
theorem ldL_ix {ld : Int → Int} {j : Nat} (h : j < 720) (st : Sto) : ixT st (.lst ((ldL ld).map T.int)) (.int (j : Int)) = some (.int (ld (j : Int))) := by
  rw [ix_lst']
  refine L2.atI_nat ?_
  unfold ldL
  rw [List.getElem?_map, List.getElem?_map, List.getElem?_range h]
  rfl
theorem tp_l {L : T} {q v w i a b : Int} (ia : ixT s L (.int (i + q)) = some (.int a)) (ib : ixT s L (.int i) = some (.int b)) :
    evSs tb_law_triple l1_law_triple [some L, e1, some (.int q), some (.int i), some (.int v), some (.int w)] s = .nx [some L, e1, some (.int q), some (.int i), some (.int v), some (.int (if a = b + v then w else i + 1))] s := by
  by_cases h : a = b + v
  · simp [l1_law_triple, den, ap_evSs, ap_evSs0, IS.ev, IE.ev, IL.ev, IEs.ev, IO.ev, II.ev, IO.test, IA.ev, IA.ev.evs, ap_fNever, ap_fK, ap_fGl, ap_fBin, ap_fNeg, ap_fCmp, ap_fIsN, ap_fTup, ap_fIx, ap_fSl, ap_fFz, ap_fFn, ap_fBi, ap_fNil, ap_fCons, ap_fNo0, ap_fSo, ap_fNot, ap_fChain, ap_fAnd, ap_fOr, ap_fIte, ap_fBl, ap_fNew, ap_fMu, ap_fStr, ap_fRepr, ap_fAttr, ap_fDl, ap_fCat, ap_fRep, ap_fLi, ap_fZ3, ap_fSlL, ap_fSeq, ap_fEn, ap_fPr, ap_fRg2, ap_fTst, ap_fYes, ap_fNx, ap_fAsg, ap_fPar2, ap_fPar3, ap_fIf, ap_fRet, ap_fExp, ap_fG, ap_fSub, ap_fTu, ap_fNo, ap_fCo, ap_fFld, ap_fIsi, k1_fBin, k2_fBin, k1_fNeg, k1_fCmp, k2_fCmp, k1_fIsN, k1_fTup, k1_fIx, k2_fIx, k1_fSl, k2_fSl, k3_fSl, k1_fFz, k1_fBi, k1_fCons, k2_fCons, k1_fSo, k1_fNot, k1_fChain, k2_fChain, k1_fAnd, k1_fOr, k1_fIte, k1_fBl, k1_fNew, k1_fMu, k1_fStr, k1_fRepr, k1_fAttr, k1_fDl, k1_fCat, k2_fCat, k1_fRep, k2_fRep, k1_fLi, k1_fZ3, k2_fZ3, k3_fZ3, k1_fSlL, k2_fSlL, k3_fSlL, k1_fSeq, k1_fEn, k1_fPr, k2_fPr, k1_fRg2, k2_fRg2, k1_fTst, k1_fAsg, k1_fPar2, k1_fPar3, k1_fIf, k1_fRet, k1_fExp, k1_fFor, k1_fSub, k2_fSub, k1_fFld, k2_fFld, k1_fIsi, IG.set, IG.set.sets, evV, env0, isNn, strT, muT, lstAt, ownL, lstOf, seqOf, L2.atI, L2.ixN, lim, bnd_ok', go_ok', seq_nx', seq_rt', opt_some', nox_ok', finO_rt, finO_nx, padF, kwF, insOf, -ix_lst', ia, ib, h, asBl]
  · have h' : (a == b + v) = false := beq_false_of_ne h
    simp [l1_law_triple, den, ap_evSs, ap_evSs0, IS.ev, IE.ev, IL.ev, IEs.ev, IO.ev, II.ev, IO.test, IA.ev, IA.ev.evs, ap_fNever, ap_fK, ap_fGl, ap_fBin, ap_fNeg, ap_fCmp, ap_fIsN, ap_fTup, ap_fIx, ap_fSl, ap_fFz, ap_fFn, ap_fBi, ap_fNil, ap_fCons, ap_fNo0, ap_fSo, ap_fNot, ap_fChain, ap_fAnd, ap_fOr, ap_fIte, ap_fBl, ap_fNew, ap_fMu, ap_fStr, ap_fRepr, ap_fAttr, ap_fDl, ap_fCat, ap_fRep, ap_fLi, ap_fZ3, ap_fSlL, ap_fSeq, ap_fEn, ap_fPr, ap_fRg2, ap_fTst, ap_fYes, ap_fNx, ap_fAsg, ap_fPar2, ap_fPar3, ap_fIf, ap_fRet, ap_fExp, ap_fG, ap_fSub, ap_fTu, ap_fNo, ap_fCo, ap_fFld, ap_fIsi, k1_fBin, k2_fBin, k1_fNeg, k1_fCmp, k2_fCmp, k1_fIsN, k1_fTup, k1_fIx, k2_fIx, k1_fSl, k2_fSl, k3_fSl, k1_fFz, k1_fBi, k1_fCons, k2_fCons, k1_fSo, k1_fNot, k1_fChain, k2_fChain, k1_fAnd, k1_fOr, k1_fIte, k1_fBl, k1_fNew, k1_fMu, k1_fStr, k1_fRepr, k1_fAttr, k1_fDl, k1_fCat, k2_fCat, k1_fRep, k2_fRep, k1_fLi, k1_fZ3, k2_fZ3, k3_fZ3, k1_fSlL, k2_fSlL, k3_fSlL, k1_fSeq, k1_fEn, k1_fPr, k2_fPr, k1_fRg2, k2_fRg2, k1_fTst, k1_fAsg, k1_fPar2, k1_fPar3, k1_fIf, k1_fRet, k1_fExp, k1_fFor, k1_fSub, k2_fSub, k1_fFld, k2_fFld, k1_fIsi, IG.set, IG.set.sets, evV, env0, isNn, strT, muT, lstAt, ownL, lstOf, seqOf, L2.atI, L2.ixN, lim, bnd_ok', go_ok', seq_nx', seq_rt', opt_some', nox_ok', finO_rt, finO_nx, padF, kwF, insOf, -ix_lst', ia, ib, h, h', asBl]
theorem tp_a {L : T} {l q a b : Int} (ia : ixT s L (.int l) = some (.int a)) (ib : ixT s L (.int (l - q)) = some (.int b)) :
    evSs tb_law_triple (l2_law_triple.take 1) [some L, some (.int l), some (.int q), e3, e4, e5] s = .nx [some L, some (.int l), some (.int q), e3, some (.int (a - b)), some (.int 0)] s := by
  simp [l2_law_triple, den, ap_evSs, ap_evSs0, IS.ev, IE.ev, IL.ev, IEs.ev, IO.ev, II.ev, IO.test, IA.ev, IA.ev.evs, ap_fNever, ap_fK, ap_fGl, ap_fBin, ap_fNeg, ap_fCmp, ap_fIsN, ap_fTup, ap_fIx, ap_fSl, ap_fFz, ap_fFn, ap_fBi, ap_fNil, ap_fCons, ap_fNo0, ap_fSo, ap_fNot, ap_fChain, ap_fAnd, ap_fOr, ap_fIte, ap_fBl, ap_fNew, ap_fMu, ap_fStr, ap_fRepr, ap_fAttr, ap_fDl, ap_fCat, ap_fRep, ap_fLi, ap_fZ3, ap_fSlL, ap_fSeq, ap_fEn, ap_fPr, ap_fRg2, ap_fTst, ap_fYes, ap_fNx, ap_fAsg, ap_fPar2, ap_fPar3, ap_fIf, ap_fRet, ap_fExp, ap_fG, ap_fSub, ap_fTu, ap_fNo, ap_fCo, ap_fFld, ap_fIsi, k1_fBin, k2_fBin, k1_fNeg, k1_fCmp, k2_fCmp, k1_fIsN, k1_fTup, k1_fIx, k2_fIx, k1_fSl, k2_fSl, k3_fSl, k1_fFz, k1_fBi, k1_fCons, k2_fCons, k1_fSo, k1_fNot, k1_fChain, k2_fChain, k1_fAnd, k1_fOr, k1_fIte, k1_fBl, k1_fNew, k1_fMu, k1_fStr, k1_fRepr, k1_fAttr, k1_fDl, k1_fCat, k2_fCat, k1_fRep, k2_fRep, k1_fLi, k1_fZ3, k2_fZ3, k3_fZ3, k1_fSlL, k2_fSlL, k3_fSlL, k1_fSeq, k1_fEn, k1_fPr, k2_fPr, k1_fRg2, k2_fRg2, k1_fTst, k1_fAsg, k1_fPar2, k1_fPar3, k1_fIf, k1_fRet, k1_fExp, k1_fFor, k1_fSub, k2_fSub, k1_fFld, k2_fFld, k1_fIsi, IG.set, IG.set.sets, evV, env0, isNn, strT, muT, lstAt, ownL, lstOf, seqOf, L2.atI, L2.ixN, lim, bnd_ok', go_ok', seq_nx', seq_rt', opt_some', nox_ok', finO_rt, finO_nx, padF, kwF, insOf, -ix_lst', ia, ib]
theorem tp_b {L : T} {l q : Int} {k : Nat} {env2 : Env} (hk : l - q + 1 = (k : Int)) (hk2 : k ≤ 1000) (w : walkO (.name 3) (evSs tb_law_triple l1_law_triple) ((List.range k).map fun (j : Nat) => T.int (j : Int)) [some L, some (.int l), some (.int q), e3, e4, e5] s = .nx env2 s) :
    evSs tb_law_triple ((l2_law_triple.drop 1).take 1) [some L, some (.int l), some (.int q), e3, e4, e5] s = .nx env2 s := by
  have rg : fRg1 (fBin .Add (fBin .Sub (evV 1) (evV 2)) (fK (.int 1))) [some L, some (.int l), some (.int q), e3, e4, e5] s = .ok ((List.range k).map fun (j : Nat) => T.int (j : Int)) s := rg1_eq (by simp [den, ap_evSs, ap_evSs0, IS.ev, IE.ev, IL.ev, IEs.ev, IO.ev, II.ev, IO.test, IA.ev, IA.ev.evs, ap_fNever, ap_fK, ap_fGl, ap_fBin, ap_fNeg, ap_fCmp, ap_fIsN, ap_fTup, ap_fIx, ap_fSl, ap_fFz, ap_fFn, ap_fBi, ap_fNil, ap_fCons, ap_fNo0, ap_fSo, ap_fNot, ap_fChain, ap_fAnd, ap_fOr, ap_fIte, ap_fBl, ap_fNew, ap_fMu, ap_fStr, ap_fRepr, ap_fAttr, ap_fDl, ap_fCat, ap_fRep, ap_fLi, ap_fZ3, ap_fSlL, ap_fSeq, ap_fEn, ap_fPr, ap_fRg2, ap_fTst, ap_fYes, ap_fNx, ap_fAsg, ap_fPar2, ap_fPar3, ap_fIf, ap_fRet, ap_fExp, ap_fG, ap_fSub, ap_fTu, ap_fNo, ap_fCo, ap_fFld, ap_fIsi, k1_fBin, k2_fBin, k1_fNeg, k1_fCmp, k2_fCmp, k1_fIsN, k1_fTup, k1_fIx, k2_fIx, k1_fSl, k2_fSl, k3_fSl, k1_fFz, k1_fBi, k1_fCons, k2_fCons, k1_fSo, k1_fNot, k1_fChain, k2_fChain, k1_fAnd, k1_fOr, k1_fIte, k1_fBl, k1_fNew, k1_fMu, k1_fStr, k1_fRepr, k1_fAttr, k1_fDl, k1_fCat, k2_fCat, k1_fRep, k2_fRep, k1_fLi, k1_fZ3, k2_fZ3, k3_fZ3, k1_fSlL, k2_fSlL, k3_fSlL, k1_fSeq, k1_fEn, k1_fPr, k2_fPr, k1_fRg2, k2_fRg2, k1_fTst, k1_fAsg, k1_fPar2, k1_fPar3, k1_fIf, k1_fRet, k1_fExp, k1_fFor, k1_fSub, k2_fSub, k1_fFld, k2_fFld, k1_fIsi, IG.set, IG.set.sets, evV, env0, isNn, strT, muT, lstAt, ownL, lstOf, seqOf, L2.atI, L2.ixN, lim, bnd_ok', go_ok', seq_nx', seq_rt', opt_some', nox_ok', finO_rt, finO_nx, padF, kwF, insOf, hk]) (by omega)
  simp [l2_law_triple, den, ap_evSs, ap_evSs0, IS.ev, IE.ev, IL.ev, IEs.ev, IO.ev, II.ev, IO.test, IA.ev, IA.ev.evs, ap_fNever, ap_fK, ap_fGl, ap_fBin, ap_fNeg, ap_fCmp, ap_fIsN, ap_fTup, ap_fIx, ap_fSl, ap_fFz, ap_fFn, ap_fBi, ap_fNil, ap_fCons, ap_fNo0, ap_fSo, ap_fNot, ap_fChain, ap_fAnd, ap_fOr, ap_fIte, ap_fBl, ap_fNew, ap_fMu, ap_fStr, ap_fRepr, ap_fAttr, ap_fDl, ap_fCat, ap_fRep, ap_fLi, ap_fZ3, ap_fSlL, ap_fSeq, ap_fEn, ap_fPr, ap_fRg2, ap_fTst, ap_fYes, ap_fNx, ap_fAsg, ap_fPar2, ap_fPar3, ap_fIf, ap_fRet, ap_fExp, ap_fG, ap_fSub, ap_fTu, ap_fNo, ap_fCo, ap_fFld, ap_fIsi, k1_fBin, k2_fBin, k1_fNeg, k1_fCmp, k2_fCmp, k1_fIsN, k1_fTup, k1_fIx, k2_fIx, k1_fSl, k2_fSl, k3_fSl, k1_fFz, k1_fBi, k1_fCons, k2_fCons, k1_fSo, k1_fNot, k1_fChain, k2_fChain, k1_fAnd, k1_fOr, k1_fIte, k1_fBl, k1_fNew, k1_fMu, k1_fStr, k1_fRepr, k1_fAttr, k1_fDl, k1_fCat, k2_fCat, k1_fRep, k2_fRep, k1_fLi, k1_fZ3, k2_fZ3, k3_fZ3, k1_fSlL, k2_fSlL, k3_fSlL, k1_fSeq, k1_fEn, k1_fPr, k2_fPr, k1_fRg2, k2_fRg2, k1_fTst, k1_fAsg, k1_fPar2, k1_fPar3, k1_fIf, k1_fRet, k1_fExp, k1_fFor, k1_fSub, k2_fSub, k1_fFld, k2_fFld, k1_fIsi, IG.set, IG.set.sets, evV, env0, isNn, strT, muT, lstAt, ownL, lstOf, seqOf, L2.atI, L2.ixN, lim, bnd_ok', go_ok', seq_nx', seq_rt', opt_some', nox_ok', finO_rt, finO_nx, padF, kwF, insOf, ap_fFor, rg, w]
theorem tp_c0 {L : T} {l w : Int} (h : ¬ w < l - 60) : evSs tb_law_triple (l2_law_triple.drop 2) [some L, some (.int l), e2, e3, e4, some (.int w)] s = .nx [some L, some (.int l), e2, e3, e4, some (.int w)] s := by
  simp [l2_law_triple, den, ap_evSs, ap_evSs0, IS.ev, IE.ev, IL.ev, IEs.ev, IO.ev, II.ev, IO.test, IA.ev, IA.ev.evs, ap_fNever, ap_fK, ap_fGl, ap_fBin, ap_fNeg, ap_fCmp, ap_fIsN, ap_fTup, ap_fIx, ap_fSl, ap_fFz, ap_fFn, ap_fBi, ap_fNil, ap_fCons, ap_fNo0, ap_fSo, ap_fNot, ap_fChain, ap_fAnd, ap_fOr, ap_fIte, ap_fBl, ap_fNew, ap_fMu, ap_fStr, ap_fRepr, ap_fAttr, ap_fDl, ap_fCat, ap_fRep, ap_fLi, ap_fZ3, ap_fSlL, ap_fSeq, ap_fEn, ap_fPr, ap_fRg2, ap_fTst, ap_fYes, ap_fNx, ap_fAsg, ap_fPar2, ap_fPar3, ap_fIf, ap_fRet, ap_fExp, ap_fG, ap_fSub, ap_fTu, ap_fNo, ap_fCo, ap_fFld, ap_fIsi, k1_fBin, k2_fBin, k1_fNeg, k1_fCmp, k2_fCmp, k1_fIsN, k1_fTup, k1_fIx, k2_fIx, k1_fSl, k2_fSl, k3_fSl, k1_fFz, k1_fBi, k1_fCons, k2_fCons, k1_fSo, k1_fNot, k1_fChain, k2_fChain, k1_fAnd, k1_fOr, k1_fIte, k1_fBl, k1_fNew, k1_fMu, k1_fStr, k1_fRepr, k1_fAttr, k1_fDl, k1_fCat, k2_fCat, k1_fRep, k2_fRep, k1_fLi, k1_fZ3, k2_fZ3, k3_fZ3, k1_fSlL, k2_fSlL, k3_fSlL, k1_fSeq, k1_fEn, k1_fPr, k2_fPr, k1_fRg2, k2_fRg2, k1_fTst, k1_fAsg, k1_fPar2, k1_fPar3, k1_fIf, k1_fRet, k1_fExp, k1_fFor, k1_fSub, k2_fSub, k1_fFld, k2_fFld, k1_fIsi, IG.set, IG.set.sets, evV, env0, isNn, strT, muT, lstAt, ownL, lstOf, seqOf, L2.atI, L2.ixN, lim, bnd_ok', go_ok', seq_nx', seq_rt', opt_some', nox_ok', finO_rt, finO_nx, padF, kwF, insOf, h, asBl]
theorem tp_c1 {xs : List T} {l q v w : Int} (h : w < l - 60) : evSs tb_law_triple (l2_law_triple.drop 2) [some (.lst xs), some (.int l), some (.int q), e3, some (.int v), some (.int w)] s = .rt (.tup [.tup (cut xs none (some (w + q))), .int q, .int v]) s := by
  simp [l2_law_triple, den, ap_evSs, ap_evSs0, IS.ev, IE.ev, IL.ev, IEs.ev, IO.ev, II.ev, IO.test, IA.ev, IA.ev.evs, ap_fNever, ap_fK, ap_fGl, ap_fBin, ap_fNeg, ap_fCmp, ap_fIsN, ap_fTup, ap_fIx, ap_fSl, ap_fFz, ap_fFn, ap_fBi, ap_fNil, ap_fCons, ap_fNo0, ap_fSo, ap_fNot, ap_fChain, ap_fAnd, ap_fOr, ap_fIte, ap_fBl, ap_fNew, ap_fMu, ap_fStr, ap_fRepr, ap_fAttr, ap_fDl, ap_fCat, ap_fRep, ap_fLi, ap_fZ3, ap_fSlL, ap_fSeq, ap_fEn, ap_fPr, ap_fRg2, ap_fTst, ap_fYes, ap_fNx, ap_fAsg, ap_fPar2, ap_fPar3, ap_fIf, ap_fRet, ap_fExp, ap_fG, ap_fSub, ap_fTu, ap_fNo, ap_fCo, ap_fFld, ap_fIsi, k1_fBin, k2_fBin, k1_fNeg, k1_fCmp, k2_fCmp, k1_fIsN, k1_fTup, k1_fIx, k2_fIx, k1_fSl, k2_fSl, k3_fSl, k1_fFz, k1_fBi, k1_fCons, k2_fCons, k1_fSo, k1_fNot, k1_fChain, k2_fChain, k1_fAnd, k1_fOr, k1_fIte, k1_fBl, k1_fNew, k1_fMu, k1_fStr, k1_fRepr, k1_fAttr, k1_fDl, k1_fCat, k2_fCat, k1_fRep, k2_fRep, k1_fLi, k1_fZ3, k2_fZ3, k3_fZ3, k1_fSlL, k2_fSlL, k3_fSlL, k1_fSeq, k1_fEn, k1_fPr, k2_fPr, k1_fRg2, k2_fRg2, k1_fTst, k1_fAsg, k1_fPar2, k1_fPar3, k1_fIf, k1_fRet, k1_fExp, k1_fFor, k1_fSub, k2_fSub, k1_fFld, k2_fFld, k1_fIsi, IG.set, IG.set.sets, evV, env0, isNn, strT, muT, lstAt, ownL, lstOf, seqOf, L2.atI, L2.ixN, lim, bnd_ok', go_ok', seq_nx', seq_rt', opt_some', nox_ok', finO_rt, finO_nx, padF, kwF, insOf, h, asBl]
theorem tp_0 {xs : List T} : evSs tb_law_triple (b_law_triple.take 1) [some (.lst xs), e1, e2, e3, e4, e5] s = .nx [some (.lst xs), some (.int ((xs.length : Int) - 1)), e2, e3, e4, e5] s := by
  simp [b_law_triple, den, ap_evSs, ap_evSs0, IS.ev, IE.ev, IL.ev, IEs.ev, IO.ev, II.ev, IO.test, IA.ev, IA.ev.evs, ap_fNever, ap_fK, ap_fGl, ap_fBin, ap_fNeg, ap_fCmp, ap_fIsN, ap_fTup, ap_fIx, ap_fSl, ap_fFz, ap_fFn, ap_fBi, ap_fNil, ap_fCons, ap_fNo0, ap_fSo, ap_fNot, ap_fChain, ap_fAnd, ap_fOr, ap_fIte, ap_fBl, ap_fNew, ap_fMu, ap_fStr, ap_fRepr, ap_fAttr, ap_fDl, ap_fCat, ap_fRep, ap_fLi, ap_fZ3, ap_fSlL, ap_fSeq, ap_fEn, ap_fPr, ap_fRg2, ap_fTst, ap_fYes, ap_fNx, ap_fAsg, ap_fPar2, ap_fPar3, ap_fIf, ap_fRet, ap_fExp, ap_fG, ap_fSub, ap_fTu, ap_fNo, ap_fCo, ap_fFld, ap_fIsi, k1_fBin, k2_fBin, k1_fNeg, k1_fCmp, k2_fCmp, k1_fIsN, k1_fTup, k1_fIx, k2_fIx, k1_fSl, k2_fSl, k3_fSl, k1_fFz, k1_fBi, k1_fCons, k2_fCons, k1_fSo, k1_fNot, k1_fChain, k2_fChain, k1_fAnd, k1_fOr, k1_fIte, k1_fBl, k1_fNew, k1_fMu, k1_fStr, k1_fRepr, k1_fAttr, k1_fDl, k1_fCat, k2_fCat, k1_fRep, k2_fRep, k1_fLi, k1_fZ3, k2_fZ3, k3_fZ3, k1_fSlL, k2_fSlL, k3_fSlL, k1_fSeq, k1_fEn, k1_fPr, k2_fPr, k1_fRg2, k2_fRg2, k1_fTst, k1_fAsg, k1_fPar2, k1_fPar3, k1_fIf, k1_fRet, k1_fExp, k1_fFor, k1_fSub, k2_fSub, k1_fFld, k2_fFld, k1_fIsi, IG.set, IG.set.sets, evV, env0, isNn, strT, muT, lstAt, ownL, lstOf, seqOf, L2.atI, L2.ixN, lim, bnd_ok', go_ok', seq_nx', seq_rt', opt_some', nox_ok', finO_rt, finO_nx, padF, kwF, insOf]
theorem tp_1 {L l : T} {o : O} (w : walkO (.name 2) (evSs tb_law_triple l2_law_triple) ((List.range 12).map fun (j : Nat) => T.int (1 + (j : Int))) [some L, some l, none, none, none, none] s = o) :
    evSs tb_law_triple ((b_law_triple.drop 1).take 1) [some L, some l, none, none, none, none] s = o.seq (evSs tb_law_triple []) := by
  have rg : fRg2 (fK (.int 1)) (fK (.int 13)) [some L, some l, none, none, none, none] s = .ok ((List.range 12).map fun (j : Nat) => T.int (1 + (j : Int))) s := rg2_eq (a := 1) (k := 12) rfl rfl (by unfold RgOk; decide) (by unfold RgOk; decide)
  subst w
  simp [b_law_triple, den, ap_evSs, ap_evSs0, IS.ev, IE.ev, IL.ev, IEs.ev, IO.ev, II.ev, IO.test, IA.ev, IA.ev.evs, ap_fNever, ap_fK, ap_fGl, ap_fBin, ap_fNeg, ap_fCmp, ap_fIsN, ap_fTup, ap_fIx, ap_fSl, ap_fFz, ap_fFn, ap_fBi, ap_fNil, ap_fCons, ap_fNo0, ap_fSo, ap_fNot, ap_fChain, ap_fAnd, ap_fOr, ap_fIte, ap_fBl, ap_fNew, ap_fMu, ap_fStr, ap_fRepr, ap_fAttr, ap_fDl, ap_fCat, ap_fRep, ap_fLi, ap_fZ3, ap_fSlL, ap_fSeq, ap_fEn, ap_fPr, ap_fRg2, ap_fTst, ap_fYes, ap_fNx, ap_fAsg, ap_fPar2, ap_fPar3, ap_fIf, ap_fRet, ap_fExp, ap_fG, ap_fSub, ap_fTu, ap_fNo, ap_fCo, ap_fFld, ap_fIsi, k1_fBin, k2_fBin, k1_fNeg, k1_fCmp, k2_fCmp, k1_fIsN, k1_fTup, k1_fIx, k2_fIx, k1_fSl, k2_fSl, k3_fSl, k1_fFz, k1_fBi, k1_fCons, k2_fCons, k1_fSo, k1_fNot, k1_fChain, k2_fChain, k1_fAnd, k1_fOr, k1_fIte, k1_fBl, k1_fNew, k1_fMu, k1_fStr, k1_fRepr, k1_fAttr, k1_fDl, k1_fCat, k2_fCat, k1_fRep, k2_fRep, k1_fLi, k1_fZ3, k2_fZ3, k3_fZ3, k1_fSlL, k2_fSlL, k3_fSlL, k1_fSeq, k1_fEn, k1_fPr, k2_fPr, k1_fRg2, k2_fRg2, k1_fTst, k1_fAsg, k1_fPar2, k1_fPar3, k1_fIf, k1_fRet, k1_fExp, k1_fFor, k1_fSub, k2_fSub, k1_fFld, k2_fFld, k1_fIsi, IG.set, IG.set.sets, evV, env0, isNn, strT, muT, lstAt, ownL, lstOf, seqOf, L2.atI, L2.ixN, lim, bnd_ok', go_ok', seq_nx', seq_rt', opt_some', nox_ok', finO_rt, finO_nx, padF, kwF, insOf, -ap_fRg2, ap_fFor, rg]
/-- the inner walk -/
theorem tp_in {ld : Int → Int} {q : Nat} {v : Int} {s : Sto} {e1 e3 : Option T} : ∀ {n : Nat}, n + q ≤ 720 →
    ∃ f3, walkO (.name 3) (evSs tb_law_triple l1_law_triple) ((List.range n).map fun (j : Nat) => T.int (j : Int)) [some (.lst ((ldL ld).map T.int)), e1, some (.int (q : Int)), e3, some (.int v), some (.int 0)] s = .nx [some (.lst ((ldL ld).map T.int)), e1, some (.int (q : Int)), f3, some (.int v), some (.int (wrG ld q v n : Nat))] s := fun {n} hn => by
  obtain ⟨env2, st2, wk, f3, rfl, rfl⟩ := walk_nx (g := .name 3) (f := evSs tb_law_triple l1_law_triple) (xs := (List.range n).map fun (j : Nat) => T.int (j : Int)) (env := [some (.lst ((ldL ld).map T.int)), e1, some (.int (q : Int)), e3, some (.int v), some (.int 0)]) (st := s)
    (Q := fun i env st => ∃ f3, env = [some (.lst ((ldL ld).map T.int)), e1, some (.int (q : Int)), f3, some (.int v), some (.int (wrG ld q v i : Nat))] ∧ s = st) ⟨e3, rfl, rfl⟩ fun i x env st hx hq => by
      obtain ⟨f3, rfl, rfl⟩ := hq
      obtain ⟨hi, rfl⟩ := rng_get hx
      have a := ldL_ix (ld := ld) (j := i + q) (by omega) s
      rw [Int.natCast_add] at a
      have b := ldL_ix (ld := ld) (j := i) (by omega) s
      have t := tp_l (e1 := e1) (v := v) (w := (wrG ld q v i : Nat)) a b
      have e : (if ld ((i : Int) + (q : Int)) = ld (i : Int) + v then ((wrG ld q v i : Nat) : Int) else (i : Int) + 1) = ((wrG ld q v (i + 1) : Nat) : Int) := by
        conv => rhs; unfold wrG
        rw [Int.natCast_add]
        split <;> simp
      rw [e] at t
      exact ⟨_, _, _, rfl, t, _, rfl, rfl⟩
  rw [List.length_map, List.length_range] at wk
  exact ⟨f3, wk⟩
theorem ti_turn {ld : Int → Int} {q : Nat} {st : Sto} {e3 e4 e5 : Option T} (h1 : 1 ≤ q) (h2 : q ≤ 12) : ∃ (f3 : Option T), evSs tb_law_triple l2_law_triple [some (.lst ((ldL ld).map T.int)), some (.int 719), some (.int (q : Int)), e3, e4, e5] st = evSs tb_law_triple (l2_law_triple.drop 2) [some (.lst ((ldL ld).map T.int)), some (.int 719), some (.int (q : Int)), f3, some (.int (ld 719 - ld (719 - (q : Int)))), some (.int (wrG ld q (ld 719 - ld (719 - (q : Int))) (720 - q) : Nat))] st := by
  have a : ixT st (.lst ((ldL ld).map T.int)) (.int 719) = some (.int (ld 719)) := ldL_ix (j := 719) (by decide) st
  have b := ldL_ix (ld := ld) (j := 719 - q) (by omega) st
  rw [show ((719 - q : Nat) : Int) = (719 : Int) - (q : Int) by omega] at b
  have t1 := tp_a (e3 := e3) (e4 := e4) (e5 := e5) (l := 719) (q := (q : Int)) a b
  obtain ⟨f3, w⟩ := tp_in (ld := ld) (q := q) (v := ld 719 - ld (719 - (q : Int))) (s := st) (e1 := some (.int 719)) (e3 := e3) (n := 720 - q) (by omega)
  refine ⟨f3, ?_⟩
  have eb : l2_law_triple = l2_law_triple.take 1 ++ ((l2_law_triple.drop 1).take 1 ++ l2_law_triple.drop 2) := rfl
  refine Eq.trans (congrArg (fun b => evSs tb_law_triple b _ st) eb) ?_
  show evSs tb_law_triple (l2_law_triple.take 1 ++ ((l2_law_triple.drop 1).take 1 ++ l2_law_triple.drop 2)) _ st = _
  rw [evSs_app, t1, seq_nx', evSs_app, tp_b (k := 720 - q) (by omega) (by omega) w, seq_nx']
theorem law_triple_ok {ld : Int → Int} {k P : Nat} {u : Int} {st : Sto} (hs : NL st) (m : FormM ld k (P : Int) u) (hk : k ≤ 576) (hP : P ≤ 12) : F_law_triple [.lst ((ldL ld).map T.int)] st = .ok (tripT ((List.range (k + P)).map fun (j : Nat) => ld (j : Int)) P u) st := by
  have P1 : 1 ≤ P := by have := m.f.p1; omega
  have wk : walkO (.name 2) (evSs tb_law_triple l2_law_triple) ((List.range 12).map fun (j : Nat) => T.int (1 + (j : Int))) [some (.lst ((ldL ld).map T.int)), some (.int 719), none, none, none, none] st = .rt (tripT ((List.range (k + P)).map fun (j : Nat) => ld (j : Int)) P u) st := by
    refine walk_inv (g := .name 2) (f := evSs tb_law_triple l2_law_triple) (n := 0) (P := fun i env st' => i < P ∧ (∃ f2 f3 f4 f5, env = [some (.lst ((ldL ld).map T.int)), some (.int 719), f2, f3, f4, f5]) ∧ st = st') (Q := fun o => o = .rt (tripT ((List.range (k + P)).map fun (j : Nat) => ld (j : Int)) P u) st)
      ⟨by omega, ⟨_, _, _, _, rfl⟩, rfl⟩ (fun i x env st' hx hp => ?_) fun env st' hp => by
        obtain ⟨h, _⟩ := hp
        simp at h
        omega
    obtain ⟨h, ⟨f2, f3, f4, f5, rfl⟩, rfl⟩ := hp
    rw [Nat.zero_add] at h ⊢
    have hx : x = .int ((i + 1 : Nat) : Int) := by
      rw [List.getElem?_map] at hx
      have hi : i < 12 := by omega
      rw [List.getElem?_range hi] at hx
      have : T.int (1 + (i : Int)) = x := by simpa using hx
      rw [← this]
      congr 1
      omega
    subst hx
    obtain ⟨g3, t⟩ := ti_turn (ld := ld) (q := i + 1) (st := st) (e3 := f3) (e4 := f4) (e5 := f5) (by omega) (by omega)
    refine ⟨_, rfl, ?_⟩
    by_cases hq : i + 1 < P
    · have w := wr_less (v := ld 719 - ld (719 - ((i + 1 : Nat) : Int))) m (by omega) (show 1 ≤ i + 1 by omega) hq hP
      refine .inl ⟨_, _, .inl (t.trans (tp_c0 (by omega))), by omega, ⟨_, _, _, _, rfl⟩, rfl⟩
    · have e : i + 1 = P := by omega
      subst e
      have f := m.f.f (719 - (i + 1)) (by omega)
      rw [show ((719 - (i + 1) : Nat) : Int) + ((i + 1 : Nat) : Int) = 719 by omega] at f
      have v : ld 719 - ld (719 - ((i + 1 : Nat) : Int)) = u := by
        rw [show (719 : Int) - ((i + 1 : Nat) : Int) = ((719 - (i + 1) : Nat) : Int) by omega]
        omega
      rw [v, wr_per m.f (by omega) hP] at t
      refine .inr ⟨_, _, t.trans (tp_c1 (by omega)), ?_⟩
      rw [← Int.natCast_add, cut_to]
      unfold tripT ldL
      rw [← List.map_take, ← List.map_take, List.take_range, Nat.min_eq_left (by omega)]
  have eb : b_law_triple = b_law_triple.take 1 ++ ((b_law_triple.drop 1).take 1 ++ b_law_triple.drop 2) := rfl
  have kk : evSs tb_law_triple b_law_triple [some (.lst ((ldL ld).map T.int)), none, none, none, none, none] st = .rt (tripT ((List.range (k + P)).map fun (j : Nat) => ld (j : Int)) P u) st := by
    refine Eq.trans (congrArg (fun b => evSs tb_law_triple b _ st) eb) ?_
    have l : (((ldL ld).map T.int).length : Int) - 1 = 719 := by rw [List.length_map, ldL_len]; rfl
    rw [evSs_app, tp_0, l, seq_nx', evSs_app, tp_1 wk]
    rfl
  exact (show F_law_triple [.lst ((ldL ld).map T.int)] st = finR tb_law_triple.cls false st.length _ st from den_rt rfl kk).trans (fin_nl0 hs (by unfold tripT; exact nl_tup.mpr (nls_cons.mpr ⟨nl_tup.mpr nls_ints, nls_cons.mpr ⟨by simp, nls_cons.mpr ⟨by simp, nls_nil⟩⟩⟩)))
theorem lu_c {ls : List Ln} {j : Nat} {s : Sto} {e0 e1 e2 e3 e6 e7 e8 : Option T} (lo : LnsOk ls) (h : j < 720) :
    fLc [6, 7, 8] (e1_law_loads_up_to.ev tb_law_loads_up_to) (.tup [(.name 6), (.name 7), (.name 8)]) (fSeq (evV 4)) fYes [e0, e1, e2, e3, some (lsT ls), some (.int (j : Int)), e6, e7, e8] s = .ok ((ls.map fun l => clL l (j : Int)).map T.int) s := by
  rw [List.map_map]
  refine lc_mapE (emb := lT) (by simp [den, ap_evSs, ap_evSs0, IS.ev, IE.ev, IL.ev, IEs.ev, IO.ev, II.ev, IO.test, IA.ev, IA.ev.evs, ap_fNever, ap_fK, ap_fGl, ap_fBin, ap_fNeg, ap_fCmp, ap_fIsN, ap_fTup, ap_fIx, ap_fSl, ap_fFz, ap_fFn, ap_fBi, ap_fNil, ap_fCons, ap_fNo0, ap_fSo, ap_fNot, ap_fChain, ap_fAnd, ap_fOr, ap_fIte, ap_fBl, ap_fNew, ap_fMu, ap_fStr, ap_fRepr, ap_fAttr, ap_fDl, ap_fCat, ap_fRep, ap_fLi, ap_fZ3, ap_fSlL, ap_fSeq, ap_fEn, ap_fPr, ap_fRg2, ap_fTst, ap_fYes, ap_fNx, ap_fAsg, ap_fPar2, ap_fPar3, ap_fIf, ap_fRet, ap_fExp, ap_fG, ap_fSub, ap_fTu, ap_fNo, ap_fCo, ap_fFld, ap_fIsi, k1_fBin, k2_fBin, k1_fNeg, k1_fCmp, k2_fCmp, k1_fIsN, k1_fTup, k1_fIx, k2_fIx, k1_fSl, k2_fSl, k3_fSl, k1_fFz, k1_fBi, k1_fCons, k2_fCons, k1_fSo, k1_fNot, k1_fChain, k2_fChain, k1_fAnd, k1_fOr, k1_fIte, k1_fBl, k1_fNew, k1_fMu, k1_fStr, k1_fRepr, k1_fAttr, k1_fDl, k1_fCat, k2_fCat, k1_fRep, k2_fRep, k1_fLi, k1_fZ3, k2_fZ3, k3_fZ3, k1_fSlL, k2_fSlL, k3_fSlL, k1_fSeq, k1_fEn, k1_fPr, k2_fPr, k1_fRg2, k2_fRg2, k1_fTst, k1_fAsg, k1_fPar2, k1_fPar3, k1_fIf, k1_fRet, k1_fExp, k1_fFor, k1_fSub, k2_fSub, k1_fFld, k2_fFld, k1_fIsi, IG.set, IG.set.sets, evV, env0, isNn, strT, muT, lstAt, ownL, lstOf, seqOf, L2.atI, L2.ixN, lim, bnd_ok', go_ok', seq_nx', seq_rt', opt_some', nox_ok', finO_rt, finO_nx, padF, kwF, insOf, lsT]) (by have := lo.len; omega) fun l hl => ?_
  obtain ⟨⟨a1, a2⟩, ⟨b1, b2⟩, c1, c2⟩ := lo.b l hl
  have m : MulOk (j : Int) l.2.1 := lsmall (by omega) (by omega) b1 (by omega)
  have d : DivOk l.2.2 := div_ok (by omega) (by omega)
  have e : clL l (j : Int) = (l.1 + (j : Int) * l.2.1 + l.2.2 - 1) / l.2.2 := by
    unfold clL
    rw [ceil_eq (by omega), Int.mul_comm (j : Int)]
  obtain ⟨x, y, z⟩ := l
  simp only at m d e
  generalize lsT ls = L
  simp [fTurn, wipeE, lT, e1_law_loads_up_to, den, ap_evSs, ap_evSs0, IS.ev, IE.ev, IL.ev, IEs.ev, IO.ev, II.ev, IO.test, IA.ev, IA.ev.evs, ap_fNever, ap_fK, ap_fGl, ap_fBin, ap_fNeg, ap_fCmp, ap_fIsN, ap_fTup, ap_fIx, ap_fSl, ap_fFz, ap_fFn, ap_fBi, ap_fNil, ap_fCons, ap_fNo0, ap_fSo, ap_fNot, ap_fChain, ap_fAnd, ap_fOr, ap_fIte, ap_fBl, ap_fNew, ap_fMu, ap_fStr, ap_fRepr, ap_fAttr, ap_fDl, ap_fCat, ap_fRep, ap_fLi, ap_fZ3, ap_fSlL, ap_fSeq, ap_fEn, ap_fPr, ap_fRg2, ap_fTst, ap_fYes, ap_fNx, ap_fAsg, ap_fPar2, ap_fPar3, ap_fIf, ap_fRet, ap_fExp, ap_fG, ap_fSub, ap_fTu, ap_fNo, ap_fCo, ap_fFld, ap_fIsi, k1_fBin, k2_fBin, k1_fNeg, k1_fCmp, k2_fCmp, k1_fIsN, k1_fTup, k1_fIx, k2_fIx, k1_fSl, k2_fSl, k3_fSl, k1_fFz, k1_fBi, k1_fCons, k2_fCons, k1_fSo, k1_fNot, k1_fChain, k2_fChain, k1_fAnd, k1_fOr, k1_fIte, k1_fBl, k1_fNew, k1_fMu, k1_fStr, k1_fRepr, k1_fAttr, k1_fDl, k1_fCat, k2_fCat, k1_fRep, k2_fRep, k1_fLi, k1_fZ3, k2_fZ3, k3_fZ3, k1_fSlL, k2_fSlL, k3_fSlL, k1_fSeq, k1_fEn, k1_fPr, k2_fPr, k1_fRg2, k2_fRg2, k1_fTst, k1_fAsg, k1_fPar2, k1_fPar3, k1_fIf, k1_fRet, k1_fExp, k1_fFor, k1_fSub, k2_fSub, k1_fFld, k2_fFld, k1_fIsi, IG.set, IG.set.sets, evV, env0, isNn, strT, muT, lstAt, ownL, lstOf, seqOf, L2.atI, L2.ixN, lim, bnd_ok', go_ok', seq_nx', seq_rt', opt_some', nox_ok', finO_rt, finO_nx, padF, kwF, insOf, m, d, e]
theorem lu_walk {P G H L : T} {xs : List T} {s : Sto} (h : F_law_lines [P, G, H] s = .ok L s) (c : fLc [5] (e2_law_loads_up_to.ev tb_law_loads_up_to) (.name 5) (fRg1 (evV 3)) fYes [some P, some G, some H, some (.int 720), some L, none, none, none, none] s = .ok xs s) :
    F_law_loads_up_to [P, G, H, .int 720] s = finR tb_law_loads_up_to.cls false s.length (.lst xs) s := by
  simp [F_law_loads_up_to, tbf_of_law_loads_up_to, tbc_of_law_loads_up_to, b_law_loads_up_to, den, ap_evSs, ap_evSs0, IS.ev, IE.ev, IL.ev, IEs.ev, IO.ev, II.ev, IO.test, IA.ev, IA.ev.evs, ap_fNever, ap_fK, ap_fGl, ap_fBin, ap_fNeg, ap_fCmp, ap_fIsN, ap_fTup, ap_fIx, ap_fSl, ap_fFz, ap_fFn, ap_fBi, ap_fNil, ap_fCons, ap_fNo0, ap_fSo, ap_fNot, ap_fChain, ap_fAnd, ap_fOr, ap_fIte, ap_fBl, ap_fNew, ap_fMu, ap_fStr, ap_fRepr, ap_fAttr, ap_fDl, ap_fCat, ap_fRep, ap_fLi, ap_fZ3, ap_fSlL, ap_fSeq, ap_fEn, ap_fPr, ap_fRg2, ap_fTst, ap_fYes, ap_fNx, ap_fAsg, ap_fPar2, ap_fPar3, ap_fIf, ap_fRet, ap_fExp, ap_fG, ap_fSub, ap_fTu, ap_fNo, ap_fCo, ap_fFld, ap_fIsi, k1_fBin, k2_fBin, k1_fNeg, k1_fCmp, k2_fCmp, k1_fIsN, k1_fTup, k1_fIx, k2_fIx, k1_fSl, k2_fSl, k3_fSl, k1_fFz, k1_fBi, k1_fCons, k2_fCons, k1_fSo, k1_fNot, k1_fChain, k2_fChain, k1_fAnd, k1_fOr, k1_fIte, k1_fBl, k1_fNew, k1_fMu, k1_fStr, k1_fRepr, k1_fAttr, k1_fDl, k1_fCat, k2_fCat, k1_fRep, k2_fRep, k1_fLi, k1_fZ3, k2_fZ3, k3_fZ3, k1_fSlL, k2_fSlL, k3_fSlL, k1_fSeq, k1_fEn, k1_fPr, k2_fPr, k1_fRg2, k2_fRg2, k1_fTst, k1_fAsg, k1_fPar2, k1_fPar3, k1_fIf, k1_fRet, k1_fExp, k1_fFor, k1_fSub, k2_fSub, k1_fFld, k2_fFld, k1_fIsi, IG.set, IG.set.sets, evV, env0, isNn, strT, muT, lstAt, ownL, lstOf, seqOf, L2.atI, L2.ixN, lim, bnd_ok', go_ok', seq_nx', seq_rt', opt_some', nox_ok', finO_rt, finO_nx, padF, kwF, insOf, h, c]
theorem loads_up_ok {p : Pa} {g w : List (List Int)} {st : Sto} (hs : NL st) (ok : POk p) (hg : TbB p.h.length p.g.length 9 g) (hw : TbB p.h.length p.g.length 3 w) : F_law_loads_up_to [partsT p, gT g, gT w, .int 720] st = .ok (.lst ((ldL (ldA (lnsOf p g w))).map T.int)) st := by
  have lo := lns_ok ok hg hw
  refine (lu_walk (law_lines_ok hs ok hg hw) ?_).trans (fin_nl0 hs (nl_lst.mpr nls_ints))
  unfold ldL
  rw [List.map_map]
  refine lc_mapE (emb := fun (j : Nat) => T.int (j : Int)) (rg1_eq (k := 720) rfl (by decide)) (by simp) fun j hj => ?_
  have hj := List.mem_range.mp hj
  have c := lu_c (s := st) (e0 := some (partsT p)) (e1 := some (gT g)) (e2 := some (gT w)) (e3 := some (.int 720)) (e6 := none) (e7 := none) (e8 := none) lo hj
  have mx := max_ints (ns := (lnsOf p g w).map fun l => clL l (j : Int)) (st := st) (fun z => lo.ne (List.map_eq_nil_iff.mp z))
  generalize lsT (lnsOf p g w) = L at c
  generalize partsT p = A at c
  generalize gT g = B at c
  generalize gT w = C at c
  show fTurn [5] _ _ _ _ _ _ = R.ok (some (.int (ldA (lnsOf p g w) (j : Int)))) st
  unfold ldA
  generalize ((lnsOf p g w).map fun l => clL l (j : Int)) = ns at c mx
  simp [fTurn, wipeE, e2_law_loads_up_to, den, ap_evSs, ap_evSs0, IS.ev, IE.ev, IL.ev, IEs.ev, IO.ev, II.ev, IO.test, IA.ev, IA.ev.evs, ap_fNever, ap_fK, ap_fGl, ap_fBin, ap_fNeg, ap_fCmp, ap_fIsN, ap_fTup, ap_fIx, ap_fSl, ap_fFz, ap_fFn, ap_fBi, ap_fNil, ap_fCons, ap_fNo0, ap_fSo, ap_fNot, ap_fChain, ap_fAnd, ap_fOr, ap_fIte, ap_fBl, ap_fNew, ap_fMu, ap_fStr, ap_fRepr, ap_fAttr, ap_fDl, ap_fCat, ap_fRep, ap_fLi, ap_fZ3, ap_fSlL, ap_fSeq, ap_fEn, ap_fPr, ap_fRg2, ap_fTst, ap_fYes, ap_fNx, ap_fAsg, ap_fPar2, ap_fPar3, ap_fIf, ap_fRet, ap_fExp, ap_fG, ap_fSub, ap_fTu, ap_fNo, ap_fCo, ap_fFld, ap_fIsi, k1_fBin, k2_fBin, k1_fNeg, k1_fCmp, k2_fCmp, k1_fIsN, k1_fTup, k1_fIx, k2_fIx, k1_fSl, k2_fSl, k3_fSl, k1_fFz, k1_fBi, k1_fCons, k2_fCons, k1_fSo, k1_fNot, k1_fChain, k2_fChain, k1_fAnd, k1_fOr, k1_fIte, k1_fBl, k1_fNew, k1_fMu, k1_fStr, k1_fRepr, k1_fAttr, k1_fDl, k1_fCat, k2_fCat, k1_fRep, k2_fRep, k1_fLi, k1_fZ3, k2_fZ3, k3_fZ3, k1_fSlL, k2_fSlL, k3_fSlL, k1_fSeq, k1_fEn, k1_fPr, k2_fPr, k1_fRg2, k2_fRg2, k1_fTst, k1_fAsg, k1_fPar2, k1_fPar3, k1_fIf, k1_fRet, k1_fExp, k1_fFor, k1_fSub, k2_fSub, k1_fFld, k2_fFld, k1_fIsi, IG.set, IG.set.sets, evV, env0, isNn, strT, muT, lstAt, ownL, lstOf, seqOf, L2.atI, L2.ixN, lim, bnd_ok', go_ok', seq_nx', seq_rt', opt_some', nox_ok', finO_rt, finO_nx, padF, kwF, insOf, -max_2, c, mx]
theorem r48_0 {P G H : T} (h : F_law_growing [.loc 0, .int 4, .int 4] s = .ok (.tup [P, G, H]) s1) :
    evSs tb_law_right_k48 (b_law_right_k48.take 1) [some (.loc 0), e1, e2, e3, e4, e5] s = .nx [some (.loc 0), some P, some G, some H, e4, e5] s1 := by
  simp [b_law_right_k48, tbf_of_law_right_k48, tbc_of_law_right_k48, den, ap_evSs, ap_evSs0, IS.ev, IE.ev, IL.ev, IEs.ev, IO.ev, II.ev, IO.test, IA.ev, IA.ev.evs, ap_fNever, ap_fK, ap_fGl, ap_fBin, ap_fNeg, ap_fCmp, ap_fIsN, ap_fTup, ap_fIx, ap_fSl, ap_fFz, ap_fFn, ap_fBi, ap_fNil, ap_fCons, ap_fNo0, ap_fSo, ap_fNot, ap_fChain, ap_fAnd, ap_fOr, ap_fIte, ap_fBl, ap_fNew, ap_fMu, ap_fStr, ap_fRepr, ap_fAttr, ap_fDl, ap_fCat, ap_fRep, ap_fLi, ap_fZ3, ap_fSlL, ap_fSeq, ap_fEn, ap_fPr, ap_fRg2, ap_fTst, ap_fYes, ap_fNx, ap_fAsg, ap_fPar2, ap_fPar3, ap_fIf, ap_fRet, ap_fExp, ap_fG, ap_fSub, ap_fTu, ap_fNo, ap_fCo, ap_fFld, ap_fIsi, k1_fBin, k2_fBin, k1_fNeg, k1_fCmp, k2_fCmp, k1_fIsN, k1_fTup, k1_fIx, k2_fIx, k1_fSl, k2_fSl, k3_fSl, k1_fFz, k1_fBi, k1_fCons, k2_fCons, k1_fSo, k1_fNot, k1_fChain, k2_fChain, k1_fAnd, k1_fOr, k1_fIte, k1_fBl, k1_fNew, k1_fMu, k1_fStr, k1_fRepr, k1_fAttr, k1_fDl, k1_fCat, k2_fCat, k1_fRep, k2_fRep, k1_fLi, k1_fZ3, k2_fZ3, k3_fZ3, k1_fSlL, k2_fSlL, k3_fSlL, k1_fSeq, k1_fEn, k1_fPr, k2_fPr, k1_fRg2, k2_fRg2, k1_fTst, k1_fAsg, k1_fPar2, k1_fPar3, k1_fIf, k1_fRet, k1_fExp, k1_fFor, k1_fSub, k2_fSub, k1_fFld, k2_fFld, k1_fIsi, IG.set, IG.set.sets, evV, env0, isNn, strT, muT, lstAt, ownL, lstOf, seqOf, L2.atI, L2.ixN, lim, bnd_ok', go_ok', seq_nx', seq_rt', opt_some', nox_ok', finO_rt, finO_nx, padF, kwF, insOf, h]
theorem r48_1 {P G H FA L TT : T} (h : F_law_fair [P] s = .ok FA s) (h1 : F_law_loads_up_to [P, G, H, .int 720] s = .ok L s) (h2 : F_law_triple [L] s = .ok TT s) :
    evSs tb_law_right_k48 ((b_law_right_k48.drop 1).take 1) [e0, some P, some G, some H, e4, e5] s = .nx [e0, some P, some G, some H, some FA, some TT] s := by
  simp [b_law_right_k48, tbf_of_law_right_k48, tbc_of_law_right_k48, den, ap_evSs, ap_evSs0, IS.ev, IE.ev, IL.ev, IEs.ev, IO.ev, II.ev, IO.test, IA.ev, IA.ev.evs, ap_fNever, ap_fK, ap_fGl, ap_fBin, ap_fNeg, ap_fCmp, ap_fIsN, ap_fTup, ap_fIx, ap_fSl, ap_fFz, ap_fFn, ap_fBi, ap_fNil, ap_fCons, ap_fNo0, ap_fSo, ap_fNot, ap_fChain, ap_fAnd, ap_fOr, ap_fIte, ap_fBl, ap_fNew, ap_fMu, ap_fStr, ap_fRepr, ap_fAttr, ap_fDl, ap_fCat, ap_fRep, ap_fLi, ap_fZ3, ap_fSlL, ap_fSeq, ap_fEn, ap_fPr, ap_fRg2, ap_fTst, ap_fYes, ap_fNx, ap_fAsg, ap_fPar2, ap_fPar3, ap_fIf, ap_fRet, ap_fExp, ap_fG, ap_fSub, ap_fTu, ap_fNo, ap_fCo, ap_fFld, ap_fIsi, k1_fBin, k2_fBin, k1_fNeg, k1_fCmp, k2_fCmp, k1_fIsN, k1_fTup, k1_fIx, k2_fIx, k1_fSl, k2_fSl, k3_fSl, k1_fFz, k1_fBi, k1_fCons, k2_fCons, k1_fSo, k1_fNot, k1_fChain, k2_fChain, k1_fAnd, k1_fOr, k1_fIte, k1_fBl, k1_fNew, k1_fMu, k1_fStr, k1_fRepr, k1_fAttr, k1_fDl, k1_fCat, k2_fCat, k1_fRep, k2_fRep, k1_fLi, k1_fZ3, k2_fZ3, k3_fZ3, k1_fSlL, k2_fSlL, k3_fSlL, k1_fSeq, k1_fEn, k1_fPr, k2_fPr, k1_fRg2, k2_fRg2, k1_fTst, k1_fAsg, k1_fPar2, k1_fPar3, k1_fIf, k1_fRet, k1_fExp, k1_fFor, k1_fSub, k2_fSub, k1_fFld, k2_fFld, k1_fIsi, IG.set, IG.set.sets, evV, env0, isNn, strT, muT, lstAt, ownL, lstOf, seqOf, L2.atI, L2.ixN, lim, bnd_ok', go_ok', seq_nx', seq_rt', opt_some', nox_ok', finO_rt, finO_nx, padF, kwF, insOf, h, h1, h2]
theorem r48_2 {G H FA TT : T} {x : PySem.Str} (h : F_grown [FA, G, H] s = .ok TT s) (r1 : ∀ st, reprT st (.lst [TT, TT]) = some (.str x)) (q1 : eqT (.str x) (.str x) = some true) :
    evSs tb_law_right_k48 (b_law_right_k48.drop 2) [e0, e1, some G, some H, some FA, some TT] s = .rt (.bl true) s := by
  simp [b_law_right_k48, tbf_of_law_right_k48, tbc_of_law_right_k48, den, ap_evSs, ap_evSs0, IS.ev, IE.ev, IL.ev, IEs.ev, IO.ev, II.ev, IO.test, IA.ev, IA.ev.evs, ap_fNever, ap_fK, ap_fGl, ap_fBin, ap_fNeg, ap_fCmp, ap_fIsN, ap_fTup, ap_fIx, ap_fSl, ap_fFz, ap_fFn, ap_fBi, ap_fNil, ap_fCons, ap_fNo0, ap_fSo, ap_fNot, ap_fChain, ap_fAnd, ap_fOr, ap_fIte, ap_fBl, ap_fNew, ap_fMu, ap_fStr, ap_fRepr, ap_fAttr, ap_fDl, ap_fCat, ap_fRep, ap_fLi, ap_fZ3, ap_fSlL, ap_fSeq, ap_fEn, ap_fPr, ap_fRg2, ap_fTst, ap_fYes, ap_fNx, ap_fAsg, ap_fPar2, ap_fPar3, ap_fIf, ap_fRet, ap_fExp, ap_fG, ap_fSub, ap_fTu, ap_fNo, ap_fCo, ap_fFld, ap_fIsi, k1_fBin, k2_fBin, k1_fNeg, k1_fCmp, k2_fCmp, k1_fIsN, k1_fTup, k1_fIx, k2_fIx, k1_fSl, k2_fSl, k3_fSl, k1_fFz, k1_fBi, k1_fCons, k2_fCons, k1_fSo, k1_fNot, k1_fChain, k2_fChain, k1_fAnd, k1_fOr, k1_fIte, k1_fBl, k1_fNew, k1_fMu, k1_fStr, k1_fRepr, k1_fAttr, k1_fDl, k1_fCat, k2_fCat, k1_fRep, k2_fRep, k1_fLi, k1_fZ3, k2_fZ3, k3_fZ3, k1_fSlL, k2_fSlL, k3_fSlL, k1_fSeq, k1_fEn, k1_fPr, k2_fPr, k1_fRg2, k2_fRg2, k1_fTst, k1_fAsg, k1_fPar2, k1_fPar3, k1_fIf, k1_fRet, k1_fExp, k1_fFor, k1_fSub, k2_fSub, k1_fFld, k2_fFld, k1_fIsi, IG.set, IG.set.sets, evV, env0, isNn, strT, muT, lstAt, ownL, lstOf, seqOf, L2.atI, L2.ixN, lim, bnd_ok', go_ok', seq_nx', seq_rt', opt_some', nox_ok', finO_rt, finO_nx, padF, kwF, insOf, h, r1, q1, cmpT, frozen]
theorem right_ok_k48 {n : Nat} {J : Cell} {rest : Sto} (hJ : JC n J) (hn : n + 5000 < 10 ^ 9) (hr : NL rest) : ∃ J', F_law_right_k48 [.loc 0] (J :: rest) = .ok (.bl true) (J' :: rest) := by
  obtain ⟨p, g, w, J1, hG, ok, hg, hw, hJ1⟩ := growing_ok (a := 4) (b := 4) hJ (by omega) (by decide) (by decide) (by decide) (by decide) hr
  have s1 : NL (J1 :: rest) := NL_cons hJ1.nl hr
  have hF := law_fair_ok s1 ok
  have hL := loads_up_ok s1 ok.ok hg hw
  obtain ⟨t, r, e, h9, hgr⟩ := grown_ok s1 ok.ok hg hw
  have lo := lns_ok ok.ok hg hw
  have fm := formM_of lo e h9
  obtain ⟨el, em, ene, eb⟩ := early_bd lo h9.i
  obtain ⟨_, p1, p2, pu, _⟩ := per_spec (t := t) (lo.b t h9.i).2.2.1
  have pb := (lo.b t h9.i).2.2.2
  have rb := rise_bd lo h9.i
  have k5 := kOf_576 lo e h9 (setI_576 ok.ok hg hw)
  obtain ⟨P, hP⟩ := Int.eq_ofNat_of_zero_le (show 0 ≤ perI t by omega)
  have hP : perI t = (P : Int) := hP
  have hT := law_triple_ok (P := P) (k := kOf (lnsOf p g w) t) (u := rise t) s1 (by rw [← hP]; exact fm) k5 (by omega)
  have eT : tripT ((List.range (kOf (lnsOf p g w) t + P)).map fun (j : Nat) => ldA (lnsOf p g w) (j : Int)) P (rise t) = tripT (earlyL (lnsOf p g w) t) (perI t) (rise t) := by
    unfold earlyL
    rw [hP]
    rfl
  rw [eT] at hT
  obtain ⟨a1, a2, a3, a4⟩ := trip_sh (E := earlyL (lnsOf p g w) t) (p := perI t) (u := rise t) (by omega) (fun x hx => by have := eb x hx; omega) (by omega) (by omega) rb.1 (by omega)
  generalize tripT (earlyL (lnsOf p g w) t) (perI t) (rise t) = TT at *
  have d1 : data (.lst [TT, TT]) = true := by simp [data, datas, a1]
  have d2 : shI (.lst [TT, TT]) = true := by simp [shI, shIs, a2]
  have d3 : dep (.lst [TT, TT]) ≤ 60 := by simp only [dep, deps]; omega
  have d4 : shB (.lst [TT, TT]) ≤ 16777216 := by simp only [shB, shBs]; omega
  have e48 : b_law_right_k48 = b_law_right_k48.take 1 ++ ((b_law_right_k48.drop 1).take 1 ++ b_law_right_k48.drop 2) := rfl
  have kk : evSs tb_law_right_k48 b_law_right_k48 [some (.loc 0), none, none, none, none, none] (J :: rest) = .rt (.bl true) (J1 :: rest) := by
    rw [e48, evSs_app, r48_0 hG, seq_nx', evSs_app, r48_1 hF hL hT, seq_nx']
    exact r48_2 hgr (fun st => repr_of rfl d1 d2 d3 d4) (eq_sh d1)
  exact ⟨J1, (show F_law_right_k48 [.loc 0] (J :: rest) = finR tb_law_right_k48.cls false (J :: rest).length (.bl true) (J1 :: rest) from den_rt rfl kk).trans (fin_jug hJ1 hr (by simp))⟩
theorem law_turn_k48 {ns : List Int} {i : Nat} (hl : ns.length ≤ 63) (hi : i < 10) : evSs tb_law_k48 l1_law_k48 [some (.scr ns), some (.int i)] [] = .nx [some (.scr ns), some (.int i)] [] := by
  obtain ⟨t, s, e, rfl, J, rfl, hJ⟩ := jug_ok (st := []) hl hi NL_nil
  obtain ⟨J', h⟩ := right_ok_k48 (rest := []) hJ (by decide) NL_nil
  simp only [List.length_nil, List.nil_append] at e
  simp [l1_law_k48, tbf_of_law_k48, tbc_of_law_k48, den, ap_evSs, ap_evSs0, IS.ev, IE.ev, IL.ev, IEs.ev, IO.ev, II.ev, IO.test, IA.ev, IA.ev.evs, ap_fNever, ap_fK, ap_fGl, ap_fBin, ap_fNeg, ap_fCmp, ap_fIsN, ap_fTup, ap_fIx, ap_fSl, ap_fFz, ap_fFn, ap_fBi, ap_fNil, ap_fCons, ap_fNo0, ap_fSo, ap_fNot, ap_fChain, ap_fAnd, ap_fOr, ap_fIte, ap_fBl, ap_fNew, ap_fMu, ap_fStr, ap_fRepr, ap_fAttr, ap_fDl, ap_fCat, ap_fRep, ap_fLi, ap_fZ3, ap_fSlL, ap_fSeq, ap_fEn, ap_fPr, ap_fRg2, ap_fTst, ap_fYes, ap_fNx, ap_fAsg, ap_fPar2, ap_fPar3, ap_fIf, ap_fRet, ap_fExp, ap_fG, ap_fSub, ap_fTu, ap_fNo, ap_fCo, ap_fFld, ap_fIsi, k1_fBin, k2_fBin, k1_fNeg, k1_fCmp, k2_fCmp, k1_fIsN, k1_fTup, k1_fIx, k2_fIx, k1_fSl, k2_fSl, k3_fSl, k1_fFz, k1_fBi, k1_fCons, k2_fCons, k1_fSo, k1_fNot, k1_fChain, k2_fChain, k1_fAnd, k1_fOr, k1_fIte, k1_fBl, k1_fNew, k1_fMu, k1_fStr, k1_fRepr, k1_fAttr, k1_fDl, k1_fCat, k2_fCat, k1_fRep, k2_fRep, k1_fLi, k1_fZ3, k2_fZ3, k3_fZ3, k1_fSlL, k2_fSlL, k3_fSlL, k1_fSeq, k1_fEn, k1_fPr, k2_fPr, k1_fRg2, k2_fRg2, k1_fTst, k1_fAsg, k1_fPar2, k1_fPar3, k1_fIf, k1_fRet, k1_fExp, k1_fFor, k1_fSub, k2_fSub, k1_fFld, k2_fFld, k1_fIsi, IG.set, IG.set.sets, evV, env0, isNn, strT, muT, lstAt, ownL, lstOf, seqOf, L2.atI, L2.ixN, lim, bnd_ok', go_ok', seq_nx', seq_rt', opt_some', nox_ok', finO_rt, finO_nx, padF, kwF, insOf, e, h, fDrop, frzCs, frzEnv, frzW, more]
theorem law_loop_k48 {ns : List Int} (hl : ns.length ≤ 63) : ∀ (k i : Nat) (e : Option T), i + k ≤ 10 → ∃ f, walkO (.name 1) (evSs tb_law_k48 l1_law_k48) ((List.range' i k).map fun (j : Nat) => T.int (j : Int)) [some (.scr ns), e] [] = .nx [some (.scr ns), f] []
  | 0, i, e, _ => ⟨e, rfl⟩
  | k + 1, i, e, h => by
    obtain ⟨f, w⟩ := law_loop_k48 hl k (i + 1) (some (.int i)) (by omega)
    refine ⟨f, ?_⟩
    rw [List.range'_succ, List.map_cons, walkO]
    simp only [IG.set, List.length_cons, List.length_nil]
    rw [if_pos (by decide)]
    simp only [List.set]
    rw [law_turn_k48 hl (by omega)]
    exact w
theorem law_walk_k48 {ns : List Int} {rng : List T} {f : Option T} (rg : fRg1 (fBi .max (fCons (fK (.int 2)) (fCons (fBi .min (fCons (fBi .len (fCons (evV 0) fNil)) (fCons (fK (.int 2)) fNil))) fNil))) [some (.scr ns), none] [] = .ok rng [])
    (w : walkO (.name 1) (evSs tb_law_k48 l1_law_k48) rng [some (.scr ns), none] [] = .nx [some (.scr ns), f] []) : F_law_k48 [.scr ns] [] = finR tb_law_k48.cls false 0 (.bl true) [] := by
  simp [F_law_k48, tbf_of_law_k48, tbc_of_law_k48, b_law_k48, den, ap_evSs, ap_evSs0, IS.ev, IE.ev, IL.ev, IEs.ev, IO.ev, II.ev, IO.test, IA.ev, IA.ev.evs, ap_fNever, ap_fK, ap_fGl, ap_fBin, ap_fNeg, ap_fCmp, ap_fIsN, ap_fTup, ap_fIx, ap_fSl, ap_fFz, ap_fFn, ap_fBi, ap_fNil, ap_fCons, ap_fNo0, ap_fSo, ap_fNot, ap_fChain, ap_fAnd, ap_fOr, ap_fIte, ap_fBl, ap_fNew, ap_fMu, ap_fStr, ap_fRepr, ap_fAttr, ap_fDl, ap_fCat, ap_fRep, ap_fLi, ap_fZ3, ap_fSlL, ap_fSeq, ap_fEn, ap_fPr, ap_fRg2, ap_fTst, ap_fYes, ap_fNx, ap_fAsg, ap_fPar2, ap_fPar3, ap_fIf, ap_fRet, ap_fExp, ap_fG, ap_fSub, ap_fTu, ap_fNo, ap_fCo, ap_fFld, ap_fIsi, k1_fBin, k2_fBin, k1_fNeg, k1_fCmp, k2_fCmp, k1_fIsN, k1_fTup, k1_fIx, k2_fIx, k1_fSl, k2_fSl, k3_fSl, k1_fFz, k1_fBi, k1_fCons, k2_fCons, k1_fSo, k1_fNot, k1_fChain, k2_fChain, k1_fAnd, k1_fOr, k1_fIte, k1_fBl, k1_fNew, k1_fMu, k1_fStr, k1_fRepr, k1_fAttr, k1_fDl, k1_fCat, k2_fCat, k1_fRep, k2_fRep, k1_fLi, k1_fZ3, k2_fZ3, k3_fZ3, k1_fSlL, k2_fSlL, k3_fSlL, k1_fSeq, k1_fEn, k1_fPr, k2_fPr, k1_fRg2, k2_fRg2, k1_fTst, k1_fAsg, k1_fPar2, k1_fPar3, k1_fIf, k1_fRet, k1_fExp, k1_fFor, k1_fSub, k2_fSub, k1_fFld, k2_fFld, k1_fIsi, IG.set, IG.set.sets, evV, env0, isNn, strT, muT, lstAt, ownL, lstOf, seqOf, L2.atI, L2.ixN, lim, bnd_ok', go_ok', seq_nx', seq_rt', opt_some', nox_ok', finO_rt, finO_nx, padF, kwF, insOf, ap_fFor, rg, w]
theorem gives_k48 : Gives 63 F_law_k48 := fun ns hl => by
  have rg : ∃ k : Nat, k ≤ 10 ∧ fRg1 (fBi .max (fCons (fK (.int 2)) (fCons (fBi .min (fCons (fBi .len (fCons (evV 0) fNil)) (fCons (fK (.int 2)) fNil))) fNil))) [some (.scr ns), none] [] = .ok ((List.range k).map fun (j : Nat) => T.int (j : Int)) [] := by
    refine ⟨2, by decide, rg1_eq ?_ (by decide)⟩
    by_cases h1 : 2 < ns.length
    · have h1' : (2 : Int) < ns.length := by omega
      simp [den, ap_evSs, ap_evSs0, IS.ev, IE.ev, IL.ev, IEs.ev, IO.ev, II.ev, IO.test, IA.ev, IA.ev.evs, ap_fNever, ap_fK, ap_fGl, ap_fBin, ap_fNeg, ap_fCmp, ap_fIsN, ap_fTup, ap_fIx, ap_fSl, ap_fFz, ap_fFn, ap_fBi, ap_fNil, ap_fCons, ap_fNo0, ap_fSo, ap_fNot, ap_fChain, ap_fAnd, ap_fOr, ap_fIte, ap_fBl, ap_fNew, ap_fMu, ap_fStr, ap_fRepr, ap_fAttr, ap_fDl, ap_fCat, ap_fRep, ap_fLi, ap_fZ3, ap_fSlL, ap_fSeq, ap_fEn, ap_fPr, ap_fRg2, ap_fTst, ap_fYes, ap_fNx, ap_fAsg, ap_fPar2, ap_fPar3, ap_fIf, ap_fRet, ap_fExp, ap_fG, ap_fSub, ap_fTu, ap_fNo, ap_fCo, ap_fFld, ap_fIsi, k1_fBin, k2_fBin, k1_fNeg, k1_fCmp, k2_fCmp, k1_fIsN, k1_fTup, k1_fIx, k2_fIx, k1_fSl, k2_fSl, k3_fSl, k1_fFz, k1_fBi, k1_fCons, k2_fCons, k1_fSo, k1_fNot, k1_fChain, k2_fChain, k1_fAnd, k1_fOr, k1_fIte, k1_fBl, k1_fNew, k1_fMu, k1_fStr, k1_fRepr, k1_fAttr, k1_fDl, k1_fCat, k2_fCat, k1_fRep, k2_fRep, k1_fLi, k1_fZ3, k2_fZ3, k3_fZ3, k1_fSlL, k2_fSlL, k3_fSlL, k1_fSeq, k1_fEn, k1_fPr, k2_fPr, k1_fRg2, k2_fRg2, k1_fTst, k1_fAsg, k1_fPar2, k1_fPar3, k1_fIf, k1_fRet, k1_fExp, k1_fFor, k1_fSub, k2_fSub, k1_fFld, k2_fFld, k1_fIsi, IG.set, IG.set.sets, evV, env0, isNn, strT, muT, lstAt, ownL, lstOf, seqOf, L2.atI, L2.ixN, lim, bnd_ok', go_ok', seq_nx', seq_rt', opt_some', nox_ok', finO_rt, finO_nx, padF, kwF, insOf, h1, h1']
    · have h1' : ¬ ((2 : Int) < ns.length) := by omega
      simp [den, ap_evSs, ap_evSs0, IS.ev, IE.ev, IL.ev, IEs.ev, IO.ev, II.ev, IO.test, IA.ev, IA.ev.evs, ap_fNever, ap_fK, ap_fGl, ap_fBin, ap_fNeg, ap_fCmp, ap_fIsN, ap_fTup, ap_fIx, ap_fSl, ap_fFz, ap_fFn, ap_fBi, ap_fNil, ap_fCons, ap_fNo0, ap_fSo, ap_fNot, ap_fChain, ap_fAnd, ap_fOr, ap_fIte, ap_fBl, ap_fNew, ap_fMu, ap_fStr, ap_fRepr, ap_fAttr, ap_fDl, ap_fCat, ap_fRep, ap_fLi, ap_fZ3, ap_fSlL, ap_fSeq, ap_fEn, ap_fPr, ap_fRg2, ap_fTst, ap_fYes, ap_fNx, ap_fAsg, ap_fPar2, ap_fPar3, ap_fIf, ap_fRet, ap_fExp, ap_fG, ap_fSub, ap_fTu, ap_fNo, ap_fCo, ap_fFld, ap_fIsi, k1_fBin, k2_fBin, k1_fNeg, k1_fCmp, k2_fCmp, k1_fIsN, k1_fTup, k1_fIx, k2_fIx, k1_fSl, k2_fSl, k3_fSl, k1_fFz, k1_fBi, k1_fCons, k2_fCons, k1_fSo, k1_fNot, k1_fChain, k2_fChain, k1_fAnd, k1_fOr, k1_fIte, k1_fBl, k1_fNew, k1_fMu, k1_fStr, k1_fRepr, k1_fAttr, k1_fDl, k1_fCat, k2_fCat, k1_fRep, k2_fRep, k1_fLi, k1_fZ3, k2_fZ3, k3_fZ3, k1_fSlL, k2_fSlL, k3_fSlL, k1_fSeq, k1_fEn, k1_fPr, k2_fPr, k1_fRg2, k2_fRg2, k1_fTst, k1_fAsg, k1_fPar2, k1_fPar3, k1_fIf, k1_fRet, k1_fExp, k1_fFor, k1_fSub, k2_fSub, k1_fFld, k2_fFld, k1_fIsi, IG.set, IG.set.sets, evV, env0, isNn, strT, muT, lstAt, ownL, lstOf, seqOf, L2.atI, L2.ixN, lim, bnd_ok', go_ok', seq_nx', seq_rt', opt_some', nox_ok', finO_rt, finO_nx, padF, kwF, insOf, h1, h1']
  obtain ⟨k, hk, rg⟩ := rg
  obtain ⟨f, w⟩ := law_loop_k48 hl k 0 none (by omega)
  rw [← List.range_eq_range'] at w
  exact (law_walk_k48 rg w).trans (fin_nl0 NL_nil (by simp))
end EgLaw
set_option Elab.async false
set_option linter.all false
set_option maxRecDepth 100000
set_option maxHeartbeats 0
namespace EgLaw
open PySem PySem.Spec PyProof.Rows L2 Eg
abbrev RO : PySem.W.OpenRow := PySem.W.OpenLaw.row PySem.Challenge.rw_meetrounds_k48_whole_grown_by_own_steps
def top (i : Nat) : Stmt := PySem.Challenge.pw_meetrounds_k48_whole_grown_by_own_steps.main.body.getD i (.Pass ⟨0, 0, 0, 0⟩)
def met (i j : Nat) : Stmt := (C8.clsBody (top i)).getD j (.Pass ⟨0, 0, 0, 0⟩)
def sx : Sx := ⟨[("LONGEST_NAME", (.int 8)), ("DIGITS", (.str "0123456789")), ("LETTERS", (.str "abcdefghijklmnopqrstuvwxyz")), ("MOST_BOUND", (.int 4)), ("MOST_SIDE", (.int 4)), ("MOST_TABLES", (.int 12)), ("MOST_START", (.int 9)), ("MOST_GROWTH", (.int 3))], [cs_0], [((.non, (.ty "bool")), false), ((.bl, (.ty "bool")), true), ((.int, (.ty "bool")), false), ((.str, (.ty "bool")), false), ((.tup, (.ty "bool")), false), ((.lst, (.ty "bool")), false), (((.cls 0), (.ty "bool")), false), ((.non, (.ty "int")), false), ((.bl, (.ty "int")), true), ((.int, (.ty "int")), true), ((.str, (.ty "int")), false), ((.tup, (.ty "int")), false), ((.lst, (.ty "int")), false), (((.cls 0), (.ty "int")), false), ((.non, (.ty "str")), false), ((.bl, (.ty "str")), false), ((.int, (.ty "str")), false), ((.str, (.ty "str")), true), ((.tup, (.ty "str")), false), ((.lst, (.ty "str")), false), (((.cls 0), (.ty "str")), false), ((.non, (.ty "tuple")), false), ((.bl, (.ty "tuple")), false), ((.int, (.ty "tuple")), false), ((.str, (.ty "tuple")), false), ((.tup, (.ty "tuple")), true), ((.lst, (.ty "tuple")), false), (((.cls 0), (.ty "tuple")), false), ((.non, (.cls 0)), false), ((.bl, (.cls 0)), false), ((.int, (.cls 0)), false), ((.str, (.cls 0)), false), ((.tup, (.cls 0)), false), ((.lst, (.cls 0)), false), (((.cls 0), (.cls 0)), true)], [("bool", (.ty "bool")), ("int", (.ty "int")), ("str", (.ty "str")), ("tuple", (.ty "tuple")), ("Fair", (.cls 0))]⟩
def d_is_integer : DX := ⟨fun K => He.ga K "is_integer", "is_integer", "is_integer", defArgs (top 17), defBody (top 17), defScope (top 17), []⟩
theorem k_is_integer : chkSs ⟨["value"], d_is_integer.scope, fun _ => true⟩ tb_is_integer b_is_integer d_is_integer.body = true := by decide +kernel
def d_is_within : DX := ⟨fun K => He.ga K "is_within", "is_within", "is_within", defArgs (top 18), defBody (top 18), defScope (top 18), []⟩
theorem k_is_within : chkSs ⟨["value", "least", "most"], d_is_within.scope, fun _ => true⟩ tb_is_within b_is_within d_is_within.body = true := by decide +kernel
def d_is_name : DX := ⟨fun K => He.ga K "is_name", "is_name", "is_name", defArgs (top 19), defBody (top 19), defScope (top 19), []⟩
theorem k_is_name : chkSs ⟨["value", "sign"], d_is_name.scope, fun _ => true⟩ tb_is_name b_is_name d_is_name.body = true := by decide +kernel
def d_is_row : DX := ⟨fun K => He.ga K "is_row", "is_row", "is_row", defArgs (top 22), defBody (top 22), defScope (top 22), []⟩
theorem k_is_row : chkSs ⟨["value", "many", "most", "number"], d_is_row.scope, fun _ => true⟩ tb_is_row b_is_row d_is_row.body = true := by decide +kernel
def d_wrong_row : DX := ⟨fun K => He.ga K "wrong_row", "wrong_row", "wrong_row", defArgs (top 23), defBody (top 23), defScope (top 23), []⟩
theorem k_wrong_row : chkSs ⟨["table", "many", "most", "at", "row"], d_wrong_row.scope, fun _ => true⟩ tb_wrong_row b_wrong_row d_wrong_row.body = true := by decide +kernel
def d_row_sums : DX := ⟨fun K => He.ga K "row_sums", "row_sums", "row_sums", defArgs (top 24), defBody (top 24), defScope (top 24), []⟩
theorem k_row_sums : chkSs ⟨["table", "row"], d_row_sums.scope, fun _ => true⟩ tb_row_sums b_row_sums d_row_sums.body = true := by decide +kernel
def d_column_sums : DX := ⟨fun K => He.ga K "column_sums", "column_sums", "column_sums", defArgs (top 25), defBody (top 25), defScope (top 25), []⟩
theorem k_column_sums : chkSs ⟨["table", "at", "row"], d_column_sums.scope, fun _ => true⟩ tb_column_sums b_column_sums d_column_sums.body = true := by decide +kernel
def d_whole_sum : DX := ⟨fun K => He.ga K "whole_sum", "whole_sum", "whole_sum", defArgs (top 26), defBody (top 26), defScope (top 26), []⟩
theorem k_whole_sum : chkSs ⟨["table"], d_whole_sum.scope, fun _ => true⟩ tb_whole_sum b_whole_sum d_whole_sum.body = true := by decide +kernel
def d_is_member : DX := ⟨fun K => He.ga K "is_member", "is_member", "is_member", defArgs (top 28), defBody (top 28), defScope (top 28), []⟩
theorem k_is_member : chkSs ⟨["value"], d_is_member.scope, fun _ => true⟩ tb_is_member b_is_member d_is_member.body = true := by decide +kernel
def d_wrong_member : DX := ⟨fun K => He.ga K "wrong_member", "wrong_member", "wrong_member", defArgs (top 29), defBody (top 29), defScope (top 29), []⟩
theorem k_wrong_member : chkSs ⟨["side", "names", "at", "member", "one"], d_wrong_member.scope, fun _ => true⟩ tb_wrong_member b_wrong_member d_wrong_member.body = true := by decide +kernel
def d_is_tables : DX := ⟨fun K => He.ga K "is_tables", "is_tables", "is_tables", defArgs (top 30), defBody (top 30), defScope (top 30), []⟩
theorem k_is_tables : chkSs ⟨["value"], d_is_tables.scope, fun _ => true⟩ tb_is_tables b_is_tables d_is_tables.body = true := by decide +kernel
def d_check_sides : DX := ⟨fun K => He.ga K "check_sides", "check_sides", "check_sides", defArgs (top 31), defBody (top 31), defScope (top 31), []⟩
theorem k_check_sides : chkSs ⟨["hosts", "guests", "wrong", "host"], d_check_sides.scope, fun _ => true⟩ tb_check_sides b_check_sides d_check_sides.body = true := by decide +kernel
def d_Fair_init : DX := ⟨fun K => He.ma K (He.ga K "Fair") "__init__", "__init__", "Fair.__init__", defArgs (met 34 0), defBody (met 34 0), defScope (met 34 0), [.non]⟩
theorem k_Fair_init : chkSs ⟨["self", "hosts", "guests", "tables"], d_Fair_init.scope, fun _ => true⟩ tb_Fair_init b_Fair_init d_Fair_init.body = true := by decide +kernel
def d_Fair_hosts : DX := ⟨fun K => pgA K (He.ga K "Fair") "hosts", "hosts", "Fair.hosts", defArgs (met 34 2), defBody (met 34 2), defScope (met 34 2), []⟩
theorem k_Fair_hosts : chkSs ⟨["self"], d_Fair_hosts.scope, fun _ => true⟩ tb_Fair_hosts b_Fair_hosts d_Fair_hosts.body = true := by decide +kernel
def d_Fair_guests : DX := ⟨fun K => pgA K (He.ga K "Fair") "guests", "guests", "Fair.guests", defArgs (met 34 3), defBody (met 34 3), defScope (met 34 3), []⟩
theorem k_Fair_guests : chkSs ⟨["self"], d_Fair_guests.scope, fun _ => true⟩ tb_Fair_guests b_Fair_guests d_Fair_guests.body = true := by decide +kernel
def d_Fair_tables : DX := ⟨fun K => pgA K (He.ga K "Fair") "tables", "tables", "Fair.tables", defArgs (met 34 4), defBody (met 34 4), defScope (met 34 4), []⟩
theorem k_Fair_tables : chkSs ⟨["self"], d_Fair_tables.scope, fun _ => true⟩ tb_Fair_tables b_Fair_tables d_Fair_tables.body = true := by decide +kernel
def d_Fair_names : DX := ⟨fun K => pgA K (He.ga K "Fair") "names", "names", "Fair.names", defArgs (met 34 5), defBody (met 34 5), defScope (met 34 5), []⟩
theorem k_Fair_names : chkSs ⟨["self", "member"], d_Fair_names.scope, fun _ => true⟩ tb_Fair_names b_Fair_names d_Fair_names.body = true := by decide +kernel
def d_check_fair : DX := ⟨fun K => He.ga K "check_fair", "check_fair", "check_fair", defArgs (top 35), defBody (top 35), defScope (top 35), []⟩
theorem k_check_fair : chkSs ⟨["value"], d_check_fair.scope, fun _ => true⟩ tb_check_fair b_check_fair d_check_fair.body = true := by decide +kernel
def d_wrong_table : DX := ⟨fun K => He.ga K "wrong_table", "wrong_table", "wrong_table", defArgs (top 36), defBody (top 36), defScope (top 36), []⟩
theorem k_wrong_table : chkSs ⟨["fair", "value", "most", "wrong"], d_wrong_table.scope, fun _ => true⟩ tb_wrong_table b_wrong_table d_wrong_table.body = true := by decide +kernel
def d_check_meetings : DX := ⟨fun K => He.ga K "check_meetings", "check_meetings", "check_meetings", defArgs (top 37), defBody (top 37), defScope (top 37), [(.int 1000000000000000000000000000000)]⟩
theorem k_check_meetings : chkSs ⟨["fair", "meetings", "most", "wrong"], d_check_meetings.scope, fun _ => true⟩ tb_check_meetings b_check_meetings d_check_meetings.body = true := by decide +kernel
def d_bounds_of : DX := ⟨fun K => He.ga K "bounds_of", "bounds_of", "bounds_of", defArgs (top 38), defBody (top 38), defScope (top 38), []⟩
theorem k_bounds_of : chkSs ⟨["side", "member"], d_bounds_of.scope, fun _ => true⟩ tb_bounds_of b_bounds_of d_bounds_of.body = true := by decide +kernel
def d_lines_with : DX := ⟨fun K => He.ga K "lines_with", "lines_with", "lines_with", defArgs (top 42), defBody (top 42), defScope (top 42), []⟩
theorem k_lines_with : chkSs ⟨["fair", "start", "growth", "by", "begins", "found"], d_lines_with.scope, fun _ => true⟩ tb_lines_with b_lines_with d_lines_with.body = true := by decide +kernel
def d_steepest : DX := ⟨fun K => He.ga K "steepest", "steepest", "steepest", defArgs (top 43), defBody (top 43), defScope (top 43), []⟩
theorem k_steepest : chkSs ⟨["lines", "top", "line"], d_steepest.scope, fun _ => true⟩ tb_steepest b_steepest d_steepest.body = true := by decide +kernel
def d_load_at : DX := ⟨fun K => He.ga K "load_at", "load_at", "load_at", defArgs (top 44), defBody (top 44), defScope (top 44), []⟩
theorem k_load_at : chkSs ⟨["lines", "step", "begin", "slope", "by"], d_load_at.scope, fun _ => true⟩ tb_load_at b_load_at d_load_at.body = true := by decide +kernel
def d_settled_step : DX := ⟨fun K => He.ga K "settled_step", "settled_step", "settled_step", defArgs (top 45), defBody (top 45), defScope (top 45), []⟩
theorem k_settled_step : chkSs ⟨["lines", "top", "found", "begin", "slope", "by", "gain"], d_settled_step.scope, fun _ => true⟩ tb_settled_step b_settled_step d_settled_step.body = true := by decide +kernel
def d_period_of : DX := ⟨fun K => He.ga K "period_of", "period_of", "period_of", defArgs (top 46), defBody (top 46), defScope (top 46), []⟩
theorem k_period_of : chkSs ⟨["lines", "period", "begin", "slope", "by", "number"], d_period_of.scope, fun _ => true⟩ tb_period_of b_period_of d_period_of.body = true := by decide +kernel
def d_form_of : DX := ⟨fun K => He.ga K "form_of", "form_of", "form_of", defArgs (top 47), defBody (top 47), defScope (top 47), []⟩
theorem k_form_of : chkSs ⟨["lines", "loads", "others", "period", "rise", "step"], d_form_of.scope, fun _ => true⟩ tb_form_of b_form_of d_form_of.body = true := by decide +kernel
def d_check_growing : DX := ⟨fun K => He.ga K "check_growing", "check_growing", "check_growing", defArgs (top 48), defBody (top 48), defScope (top 48), []⟩
theorem k_check_growing : chkSs ⟨["fair", "start", "growth", "wrong"], d_check_growing.scope, fun _ => true⟩ tb_check_growing b_check_growing d_check_growing.body = true := by decide +kernel
def d_grown : DX := ⟨fun K => He.ga K "grown", "grown", "grown", defArgs (top 49), defBody (top 49), defScope (top 49), []⟩
theorem k_grown : chkSs ⟨["fair", "start", "growth"], d_grown.scope, fun _ => true⟩ tb_grown b_grown d_grown.body = true := by decide +kernel
def d_law_jug : DX := ⟨fun K => He.ga K "_law_jug", "_law_jug", "_law_jug", defArgs (top 51), defBody (top 51), defScope (top 51), []⟩
theorem k_law_jug : chkSs ⟨["_law_script", "_law_at", "_law_own", "_law_mixed", "_law_each"], d_law_jug.scope, fun _ => true⟩ tb_law_jug b_law_jug d_law_jug.body = true := by decide +kernel
def d_law_pour : DX := ⟨fun K => He.ga K "_law_pour", "_law_pour", "_law_pour", defArgs (top 52), defBody (top 52), defScope (top 52), []⟩
theorem k_law_pour : chkSs ⟨["_law_jug_here", "_law_many", "_law_mixed", "_law_digit"], d_law_pour.scope, fun _ => true⟩ tb_law_pour b_law_pour d_law_pour.body = true := by decide +kernel
def d_law_word : DX := ⟨fun K => He.ga K "_law_word", "_law_word", "_law_word", defArgs (top 53), defBody (top 53), defScope (top 53), []⟩
theorem k_law_word : chkSs ⟨["_law_jug_here", "_law_word_here", "_law_more", "_law_signs", "_law_words_here"], d_law_word.scope, fun _ => true⟩ tb_law_word b_law_word d_law_word.body = true := by decide +kernel
def d_law_words : DX := ⟨fun K => He.ga K "_law_words", "_law_words", "_law_words", defArgs (top 54), defBody (top 54), defScope (top 54), []⟩
theorem k_law_words : chkSs ⟨["_law_jug_here", "_law_many", "_law_found", "_law_at", "_law_word_here", "_law_each", "_law_number"], d_law_words.scope, fun _ => true⟩ tb_law_words b_law_words d_law_words.body = true := by decide +kernel
def d_law_parts : DX := ⟨fun K => He.ga K "_law_parts", "_law_parts", "_law_parts", defArgs (top 55), defBody (top 55), defScope (top 55), []⟩
theorem k_law_parts : chkSs ⟨["_law_jug_here", "_law_most_here", "_law_most_there", "_law_pairs", "_law_desks", "_law_here", "_law_there", "_law_word_here"], d_law_parts.scope, fun _ => true⟩ tb_law_parts b_law_parts d_law_parts.body = true := by decide +kernel
def d_law_fair : DX := ⟨fun K => He.ga K "_law_fair", "_law_fair", "_law_fair", defArgs (top 56), defBody (top 56), defScope (top 56), []⟩
theorem k_law_fair : chkSs ⟨["_law_parts_here"], d_law_fair.scope, fun _ => true⟩ tb_law_fair b_law_fair d_law_fair.body = true := by decide +kernel
def d_law_in_rows : DX := ⟨fun K => He.ga K "_law_in_rows", "_law_in_rows", "_law_in_rows", defArgs (top 57), defBody (top 57), defScope (top 57), []⟩
theorem k_law_in_rows : chkSs ⟨["_law_grid", "_law_row"], d_law_in_rows.scope, fun _ => true⟩ tb_law_in_rows b_law_in_rows d_law_in_rows.body = true := by decide +kernel
def d_law_in_columns : DX := ⟨fun K => He.ga K "_law_in_columns", "_law_in_columns", "_law_in_columns", defArgs (top 58), defBody (top 58), defScope (top 58), []⟩
theorem k_law_in_columns : chkSs ⟨["_law_grid", "_law_at", "_law_row"], d_law_in_columns.scope, fun _ => true⟩ tb_law_in_columns b_law_in_columns d_law_in_columns.body = true := by decide +kernel
def d_law_growing : DX := ⟨fun K => He.ga K "_law_growing", "_law_growing", "_law_growing", defArgs (top 59), defBody (top 59), defScope (top 59), []⟩
theorem k_law_growing : chkSs ⟨["_law_jug_here", "_law_most_here", "_law_most_there", "_law_top", "_law_parts_here", "_law_way", "_law_tops", "_law_rows", "_law_each", "_law_one"], d_law_growing.scope, fun _ => true⟩ tb_law_growing b_law_growing d_law_growing.body = true := by decide +kernel
def d_law_lines : DX := ⟨fun K => He.ga K "_law_lines", "_law_lines", "_law_lines", defArgs (top 60), defBody (top 60), defScope (top 60), []⟩
theorem k_law_lines : chkSs ⟨["_law_parts_here", "_law_grid", "_law_more", "_law_table", "_law_members", "_law_at", "_law_found", "_law_sums"], d_law_lines.scope, fun _ => true⟩ tb_law_lines b_law_lines d_law_lines.body = true := by decide +kernel
def d_law_loads_up_to : DX := ⟨fun K => He.ga K "_law_loads_up_to", "_law_loads_up_to", "_law_loads_up_to", defArgs (top 61), defBody (top 61), defScope (top 61), []⟩
theorem k_law_loads_up_to : chkSs ⟨["_law_parts_here", "_law_grid", "_law_more", "_law_steps", "_law_rows", "_law_step", "_law_one", "_law_two", "_law_by"], d_law_loads_up_to.scope, fun _ => true⟩ tb_law_loads_up_to b_law_loads_up_to d_law_loads_up_to.body = true := by decide +kernel
def d_law_triple : DX := ⟨fun K => He.ga K "_law_triple", "_law_triple", "_law_triple", defArgs (top 62), defBody (top 62), defScope (top 62), []⟩
theorem k_law_triple : chkSs ⟨["_law_loads_here", "_law_last", "_law_period", "_law_step", "_law_rise", "_law_wrong"], d_law_triple.scope, fun _ => true⟩ tb_law_triple b_law_triple d_law_triple.body = true := by decide +kernel
def d_law_right_k48 : DX := ⟨fun K => He.ga K "_law_right", "_law_right", "_law_right", defArgs (top 63), defBody (top 63), defScope (top 63), []⟩
theorem k_law_right_k48 : chkSs ⟨["_law_jug_here", "_law_parts_here", "_law_grid", "_law_more", "_law_here", "_law_due"], d_law_right_k48.scope, fun _ => true⟩ tb_law_right_k48 b_law_right_k48 d_law_right_k48.body = true := by decide +kernel
def d_law_k48 : DX := ⟨fun K => He.ga K "law", "law", "law", defArgs (top 64), defBody (top 64), defScope (top 64), []⟩
theorem k_law_k48 : chkSs ⟨["_law_script", "_law_at"], d_law_k48.scope, fun _ => true⟩ tb_law_k48 b_law_k48 d_law_k48.body = true := by decide +kernel
/-! ### the head -/
def nm0 : List Str := ["WrongValue", "InvalidText", "InvalidTables", "NotAFair", "InvalidHosts", "InvalidGuests", "InvalidMeetings", "InvalidGrowth", "MOST_SIDE", "MOST_BOUND", "MOST_TABLES", "MOST_MEETINGS", "LETTERS", "DIGITS", "LONGEST_NAME", "is_integer", "is_within", "is_name", "read_number", "is_row", "wrong_row", "row_sums", "column_sums", "whole_sum", "is_member", "wrong_member", "is_tables", "check_sides", "read_member", "read_fair"]
def nm1 : List Str := ["Fair", "check_fair", "wrong_table", "check_meetings", "bounds_of", "MOST_START", "MOST_GROWTH", "lines_with", "steepest", "load_at", "settled_step", "period_of", "form_of", "check_growing", "grown", "_law_jug", "_law_pour", "_law_word", "_law_words", "_law_parts", "_law_fair", "_law_in_rows", "_law_in_columns", "_law_growing", "_law_lines", "_law_loads_up_to", "_law_triple", "_law_right"]
def names : List Str := nm0 ++ nm1
def glo : List Str := (["is_integer", "is_within", "is_name", "is_row", "wrong_row", "row_sums", "column_sums", "whole_sum", "is_member", "wrong_member", "is_tables", "check_sides", "check_fair", "wrong_table", "check_meetings", "bounds_of", "lines_with", "steepest", "load_at", "settled_step", "period_of", "form_of", "check_growing", "grown", "_law_jug", "_law_pour", "_law_word", "_law_words", "_law_parts", "_law_fair"] : List Str) ++ (["_law_in_rows", "_law_in_columns", "_law_growing", "_law_lines", "_law_loads_up_to", "_law_triple", "_law_right", "law", "Fair"] : List Str)
def fx (K : PySem.W.Frag) : Bool := sx.fine K && glo.all fun x => He.Fa.ok K (.glo x)
def fn : List DX := ([d_is_integer, d_is_within, d_is_name, d_is_row, d_wrong_row, d_row_sums, d_column_sums, d_whole_sum, d_is_member, d_wrong_member, d_is_tables, d_check_sides, d_Fair_init, d_Fair_hosts, d_Fair_guests, d_Fair_tables, d_Fair_names, d_check_fair, d_wrong_table, d_check_meetings, d_bounds_of, d_lines_with, d_steepest, d_load_at, d_settled_step, d_period_of, d_form_of, d_check_growing, d_grown, d_law_jug] : List DX) ++ ([d_law_pour, d_law_word, d_law_words, d_law_parts, d_law_fair, d_law_in_rows, d_law_in_columns, d_law_growing, d_law_lines, d_law_loads_up_to, d_law_triple, d_law_right_k48, d_law_k48] : List DX)
abbrev hk : PySem.W.Hook := hookB 6 fx fn
def ob (s : PySem.W.SharedT) : He.AlD := obsBG 6 fx fn (HandSHeadRun.getT s)
theorem ob_eq (s : PySem.W.SharedT) : ob s = hk.obs s.abs := obsBG_eq (HandSHeadRun.getT_eq s)
end EgLaw
set_option Elab.async false
set_option linter.all false
set_option maxRecDepth 100000
set_option maxHeartbeats 0
namespace EgLaw
open PySem PySem.Spec PyProof.Rows L2 Eg
theorem run_l (w : World) : RunOb RO 6000 w (fun s => HandSHeadRun.looksF RO.prog (PySem.W.boot_heap w.params) s.abs) true := by
  intro os
  kernel_rfl
theorem run_s (w : World) : RunOb RO 6000 w (fun s => HandSHeadRun.seenQ (PySem.W.view RO.prog [64]) names (importedModules RO.prog.main.body) (fun s => PySem.W.xlAt (PySem.W.view RO.prog [64]) [] s && PySem.W.recOk RO.toRowW.records s) s.abs) (PySem.W.openGood (PySem.W.view RO.prog [64]) names) := by
  intro os
  kernel_rfl
theorem run_o (w : World) : RunOb RO 6000 w ob (hk.val w) := by
  intro os
  kernel_rfl
theorem run (w : World) : HandSHeadRun.RunEq RO (PySem.W.view RO.prog [64]) hk ob 6000 names w := run_join (run_l w) (run_s w) (run_o w)
end EgLaw
set_option Elab.async false
set_option linter.all false
set_option maxRecDepth 100000
set_option maxHeartbeats 0
namespace EgLaw
open PySem PySem.Spec PyProof.Rows L2 Eg
section
variable {P : Program} {w : World} {K : PySem.W.Frag} {mg : Str → Option Value} {base h : Heap} (X : K.In h) (Gn : h.Ns mainGlobals mg) (c : SaysX fx fn K)
include c
theorem fine : sx.fine K = true := by have z := c.facts; unfold fx at z; rw [Bool.and_eq_true] at z; exact z.1
include X Gn
theorem glo_at (i : Nat) {x : Str} (e : glo[i]? = some x := by rfl) : mg x = some (.ref (He.ga K x)) := by
  have z := c.facts; unfold fx at z; rw [Bool.and_eq_true] at z
  exact He.glo_ok X Gn (List.all_eq_true.mp z.2 x (List.mem_of_getElem? e))
omit X Gn
omit c
theorem nds : ∀ c, c ∈ sx.cs → c.fl.Nodup ∧ c.fl.length < 1000 := by decide
include X Gn c
theorem o_is_integer : ∃ fd, d_is_integer.Is K fd ∧ FnG P w K mg base 2 (d_is_integer.ad K) fd ["value"] (Spec (gh sx K) F_is_integer) := by
  obtain ⟨fd, D⟩ := c.def_ 0 (d := d_is_integer) rfl
  have tab : TabOk P w K mg base 0 (gh sx K) tb_is_integer := tab_ok X Gn (fine c) nds (prs := []) fno pno sbn (sbc 0 (sbc 1 (sbc 2 (sbc 3 (sbc 4 (sbc 5 (sbc 6 (sbc 7 (sbc 8 (sbc 9 (sbc 10 (sbc 11 (sbc 12 (sbc 13 sbn)))))))))))))) (sbc 0 (sbc 1 sbn)) (.inl rfl)
  exact ⟨fd, D, fun_ok D rfl tab (know_tab (prs := []) (.inl rfl)) (by decide +kernel) k_is_integer⟩
theorem c_is_integer1 : CalOk P w K mg base 2 (gh sx K) ⟨"is_integer", [], (padF 1 [] F_is_integer)⟩ := by
  obtain ⟨fd, D, F⟩ := o_is_integer (P := P) (w := w) (base := base) X Gn c
  exact cal_all (d := d_is_integer) D F (glo_at X Gn c 0 rfl) rfl fun _ _ _ _ _ _ us hl => match us, hl with | [_], _ => rfl
theorem o_is_within : ∃ fd, d_is_within.Is K fd ∧ FnG P w K mg base 4 (d_is_within.ad K) fd ["value", "least", "most"] (Spec (gh sx K) F_is_within) := by
  obtain ⟨fd, D⟩ := c.def_ 1 (d := d_is_within) rfl
  have tab : TabOk P w K mg base 2 (gh sx K) tb_is_within := tab_ok X Gn (fine c) nds (prs := []) (fco (c_is_integer1 X Gn c) fno) pno sbn sbn sbn (.inl rfl)
  exact ⟨fd, D, fun_ok D rfl tab (know_tab (prs := []) (.inl rfl)) (by decide +kernel) k_is_within⟩
theorem c_is_within3 : CalOk P w K mg base 4 (gh sx K) ⟨"is_within", [], (padF 3 [] F_is_within)⟩ := by
  obtain ⟨fd, D, F⟩ := o_is_within (P := P) (w := w) (base := base) X Gn c
  exact cal_all (d := d_is_within) D F (glo_at X Gn c 1 rfl) rfl fun _ _ _ _ _ _ us hl => match us, hl with | [_, _, _], _ => rfl
theorem o_is_name : ∃ fd, d_is_name.Is K fd ∧ FnG P w K mg base 2 (d_is_name.ad K) fd ["value"] (Spec (gh sx K) F_is_name) := by
  obtain ⟨fd, D⟩ := c.def_ 2 (d := d_is_name) rfl
  have tab : TabOk P w K mg base 0 (gh sx K) tb_is_name := tab_ok X Gn (fine c) nds (prs := []) fno pno (sbc 0 (sbc 1 (sbc 2 sbn))) (sbc 14 (sbc 15 (sbc 16 (sbc 17 (sbc 18 (sbc 19 (sbc 20 sbn))))))) (sbc 2 sbn) (.inl rfl)
  exact ⟨fd, D, fun_ok D rfl tab (know_tab (prs := []) (.inl rfl)) (by decide +kernel) k_is_name⟩
theorem c_is_name1 : CalOk P w K mg base 2 (gh sx K) ⟨"is_name", [], (padF 1 [] F_is_name)⟩ := by
  obtain ⟨fd, D, F⟩ := o_is_name (P := P) (w := w) (base := base) X Gn c
  exact cal_all (d := d_is_name) D F (glo_at X Gn c 2 rfl) rfl fun _ _ _ _ _ _ us hl => match us, hl with | [_], _ => rfl
theorem o_is_row : ∃ fd, d_is_row.Is K fd ∧ FnG P w K mg base 6 (d_is_row.ad K) fd ["value", "many", "most"] (Spec (gh sx K) F_is_row) := by
  obtain ⟨fd, D⟩ := c.def_ 3 (d := d_is_row) rfl
  have tab : TabOk P w K mg base 4 (gh sx K) tb_is_row := tab_ok X Gn (fine c) nds (prs := []) (fco (c_is_within3 X Gn c) fno) pno sbn (sbc 21 (sbc 22 (sbc 23 (sbc 24 (sbc 25 (sbc 26 (sbc 27 sbn))))))) (sbc 3 sbn) (.inl rfl)
  exact ⟨fd, D, fun_ok D rfl tab (know_tab (prs := []) (.inl rfl)) (by decide +kernel) k_is_row⟩
theorem c_is_row3 : CalOk P w K mg base 6 (gh sx K) ⟨"is_row", [], (padF 3 [] F_is_row)⟩ := by
  obtain ⟨fd, D, F⟩ := o_is_row (P := P) (w := w) (base := base) X Gn c
  exact cal_all (d := d_is_row) D F (glo_at X Gn c 3 rfl) rfl fun _ _ _ _ _ _ us hl => match us, hl with | [_, _, _], _ => rfl
theorem o_wrong_row : ∃ fd, d_wrong_row.Is K fd ∧ FnG P w K mg base 8 (d_wrong_row.ad K) fd ["table", "many", "most"] (Spec (gh sx K) F_wrong_row) := by
  obtain ⟨fd, D⟩ := c.def_ 4 (d := d_wrong_row) rfl
  have tab : TabOk P w K mg base 6 (gh sx K) tb_wrong_row := tab_ok X Gn (fine c) nds (prs := []) (fco (c_is_row3 X Gn c) fno) pno sbn sbn sbn (.inl rfl)
  exact ⟨fd, D, fun_ok D rfl tab (know_tab (prs := []) (.inl rfl)) (by decide +kernel) k_wrong_row⟩
theorem c_wrong_row3 : CalOk P w K mg base 8 (gh sx K) ⟨"wrong_row", [], (padF 3 [] F_wrong_row)⟩ := by
  obtain ⟨fd, D, F⟩ := o_wrong_row (P := P) (w := w) (base := base) X Gn c
  exact cal_all (d := d_wrong_row) D F (glo_at X Gn c 4 rfl) rfl fun _ _ _ _ _ _ us hl => match us, hl with | [_, _, _], _ => rfl
theorem o_row_sums : ∃ fd, d_row_sums.Is K fd ∧ FnG P w K mg base 2 (d_row_sums.ad K) fd ["table"] (Spec (gh sx K) F_row_sums) := by
  obtain ⟨fd, D⟩ := c.def_ 5 (d := d_row_sums) rfl
  have tab : TabOk P w K mg base 0 (gh sx K) tb_row_sums := tab_ok X Gn (fine c) nds (prs := []) fno pno sbn sbn sbn (.inl rfl)
  exact ⟨fd, D, fun_ok D rfl tab (know_tab (prs := []) (.inl rfl)) (by decide +kernel) k_row_sums⟩
theorem c_row_sums1 : CalOk P w K mg base 2 (gh sx K) ⟨"row_sums", [], (padF 1 [] F_row_sums)⟩ := by
  obtain ⟨fd, D, F⟩ := o_row_sums (P := P) (w := w) (base := base) X Gn c
  exact cal_all (d := d_row_sums) D F (glo_at X Gn c 5 rfl) rfl fun _ _ _ _ _ _ us hl => match us, hl with | [_], _ => rfl
theorem o_column_sums : ∃ fd, d_column_sums.Is K fd ∧ FnG P w K mg base 2 (d_column_sums.ad K) fd ["table"] (Spec (gh sx K) F_column_sums) := by
  obtain ⟨fd, D⟩ := c.def_ 6 (d := d_column_sums) rfl
  have tab : TabOk P w K mg base 0 (gh sx K) tb_column_sums := tab_ok X Gn (fine c) nds (prs := []) fno pno sbn sbn sbn (.inl rfl)
  exact ⟨fd, D, fun_ok D rfl tab (know_tab (prs := []) (.inl rfl)) (by decide +kernel) k_column_sums⟩
theorem c_column_sums1 : CalOk P w K mg base 2 (gh sx K) ⟨"column_sums", [], (padF 1 [] F_column_sums)⟩ := by
  obtain ⟨fd, D, F⟩ := o_column_sums (P := P) (w := w) (base := base) X Gn c
  exact cal_all (d := d_column_sums) D F (glo_at X Gn c 6 rfl) rfl fun _ _ _ _ _ _ us hl => match us, hl with | [_], _ => rfl
theorem o_whole_sum : ∃ fd, d_whole_sum.Is K fd ∧ FnG P w K mg base 4 (d_whole_sum.ad K) fd ["table"] (Spec (gh sx K) F_whole_sum) := by
  obtain ⟨fd, D⟩ := c.def_ 7 (d := d_whole_sum) rfl
  have tab : TabOk P w K mg base 2 (gh sx K) tb_whole_sum := tab_ok X Gn (fine c) nds (prs := []) (fco (c_row_sums1 X Gn c) fno) pno sbn sbn sbn (.inl rfl)
  exact ⟨fd, D, fun_ok D rfl tab (know_tab (prs := []) (.inl rfl)) (by decide +kernel) k_whole_sum⟩
theorem c_whole_sum1 : CalOk P w K mg base 4 (gh sx K) ⟨"whole_sum", [], (padF 1 [] F_whole_sum)⟩ := by
  obtain ⟨fd, D, F⟩ := o_whole_sum (P := P) (w := w) (base := base) X Gn c
  exact cal_all (d := d_whole_sum) D F (glo_at X Gn c 7 rfl) rfl fun _ _ _ _ _ _ us hl => match us, hl with | [_], _ => rfl
theorem o_is_member : ∃ fd, d_is_member.Is K fd ∧ FnG P w K mg base 6 (d_is_member.ad K) fd ["value"] (Spec (gh sx K) F_is_member) := by
  obtain ⟨fd, D⟩ := c.def_ 8 (d := d_is_member) rfl
  have tab : TabOk P w K mg base 4 (gh sx K) tb_is_member := tab_ok X Gn (fine c) nds (prs := []) (fco (c_is_name1 X Gn c) (fco (c_is_within3 X Gn c) fno)) pno (sbc 3 sbn) (sbc 21 (sbc 22 (sbc 23 (sbc 24 (sbc 25 (sbc 26 (sbc 27 sbn))))))) (sbc 3 sbn) (.inl rfl)
  exact ⟨fd, D, fun_ok D rfl tab (know_tab (prs := []) (.inl rfl)) (by decide +kernel) k_is_member⟩
theorem c_is_member1 : CalOk P w K mg base 6 (gh sx K) ⟨"is_member", [], (padF 1 [] F_is_member)⟩ := by
  obtain ⟨fd, D, F⟩ := o_is_member (P := P) (w := w) (base := base) X Gn c
  exact cal_all (d := d_is_member) D F (glo_at X Gn c 8 rfl) rfl fun _ _ _ _ _ _ us hl => match us, hl with | [_], _ => rfl
theorem o_wrong_member : ∃ fd, d_wrong_member.Is K fd ∧ FnG P w K mg base 8 (d_wrong_member.ad K) fd ["side", "names"] (Spec (gh sx K) F_wrong_member) := by
  obtain ⟨fd, D⟩ := c.def_ 9 (d := d_wrong_member) rfl
  have tab : TabOk P w K mg base 6 (gh sx K) tb_wrong_member := tab_ok X Gn (fine c) nds (prs := []) (fco (c_is_member1 X Gn c) fno) pno (sbc 4 sbn) sbn sbn (.inl rfl)
  exact ⟨fd, D, fun_ok D rfl tab (know_tab (prs := []) (.inl rfl)) (by decide +kernel) k_wrong_member⟩
theorem c_wrong_member2 : CalOk P w K mg base 8 (gh sx K) ⟨"wrong_member", [], (padF 2 [] F_wrong_member)⟩ := by
  obtain ⟨fd, D, F⟩ := o_wrong_member (P := P) (w := w) (base := base) X Gn c
  exact cal_all (d := d_wrong_member) D F (glo_at X Gn c 9 rfl) rfl fun _ _ _ _ _ _ us hl => match us, hl with | [_, _], _ => rfl
theorem o_is_tables : ∃ fd, d_is_tables.Is K fd ∧ FnG P w K mg base 6 (d_is_tables.ad K) fd ["value"] (Spec (gh sx K) F_is_tables) := by
  obtain ⟨fd, D⟩ := c.def_ 10 (d := d_is_tables) rfl
  have tab : TabOk P w K mg base 4 (gh sx K) tb_is_tables := tab_ok X Gn (fine c) nds (prs := []) (fco (c_is_within3 X Gn c) fno) pno (sbc 5 sbn) sbn sbn (.inl rfl)
  exact ⟨fd, D, fun_ok D rfl tab (know_tab (prs := []) (.inl rfl)) (by decide +kernel) k_is_tables⟩
theorem c_is_tables1 : CalOk P w K mg base 6 (gh sx K) ⟨"is_tables", [], (padF 1 [] F_is_tables)⟩ := by
  obtain ⟨fd, D, F⟩ := o_is_tables (P := P) (w := w) (base := base) X Gn c
  exact cal_all (d := d_is_tables) D F (glo_at X Gn c 10 rfl) rfl fun _ _ _ _ _ _ us hl => match us, hl with | [_], _ => rfl
theorem o_check_sides : ∃ fd, d_check_sides.Is K fd ∧ FnG P w K mg base 10 (d_check_sides.ad K) fd ["hosts", "guests"] (Spec (gh sx K) F_check_sides) := by
  obtain ⟨fd, D⟩ := c.def_ 11 (d := d_check_sides) rfl
  have tab : TabOk P w K mg base 8 (gh sx K) tb_check_sides := tab_ok X Gn (fine c) nds (prs := []) (fco (c_wrong_member2 X Gn c) fno) pno sbn (sbc 21 (sbc 22 (sbc 23 (sbc 24 (sbc 25 (sbc 26 (sbc 27 sbn))))))) (sbc 3 sbn) (.inl rfl)
  exact ⟨fd, D, fun_ok D rfl tab (know_tab (prs := []) (.inl rfl)) (by decide +kernel) k_check_sides⟩
theorem c_check_sides2 : CalOk P w K mg base 10 (gh sx K) ⟨"check_sides", [], (padF 2 [] F_check_sides)⟩ := by
  obtain ⟨fd, D, F⟩ := o_check_sides (P := P) (w := w) (base := base) X Gn c
  exact cal_all (d := d_check_sides) D F (glo_at X Gn c 11 rfl) rfl fun _ _ _ _ _ _ us hl => match us, hl with | [_, _], _ => rfl
theorem o_Fair_init : ∃ fd, d_Fair_init.Is K fd ∧ FnG P w K mg base 12 (d_Fair_init.ad K) fd ["self", "hosts", "guests", "tables"] (Spec (gh sx K) F_Fair_init) := by
  obtain ⟨fd, D⟩ := c.def_ 12 (d := d_Fair_init) rfl
  have tab : TabOk P w K mg base 10 (gh sx K) tb_Fair_init := tab_ok X Gn (fine c) nds (prs := []) (fco (c_check_sides2 X Gn c) (fco (c_is_tables1 X Gn c) fno)) pno sbn sbn sbn (.inr rfl)
  exact ⟨fd, D, fun_ok D rfl tab (know_tab (prs := []) (.inr rfl)) (by decide +kernel) k_Fair_init⟩
theorem c_Fair3 : CalOk P w K mg base 13 (gh sx K) ⟨"Fair", [], mkF (sx0.cls []) 0 (padF 4 [] F_Fair_init)⟩ := by
  obtain ⟨fd, D, F⟩ := o_Fair_init (P := P) (w := w) (base := base) X Gn c
  have cal : Cal P w K mg base 12 (gh sx K) [] (padF 4 [] F_Fair_init) (He.ma K (He.ga K "Fair") "__init__") := by
    obtain ⟨vs, hk, FD⟩ := D
    cases hk
    obtain ⟨ds, hd, hb⟩ := FunD.binds1 (ps := ["self", "hosts", "guests", "tables"]) FD 4 1 (by simp) rfl fun T kV doc pm an cdv ct us its hu hi => match us, its, hu, hi with | [_, _, _, _], [_], _, _ => ⟨_, rfl, rfl⟩
    exact cal_pad F hb hd rfl rfl
  have mk : He.Fa.ok K (.mkr "Fair") = true := mkr_of (C := cs_0) (fine c) 0 rfl rfl
  exact cal_cls (sx := sx) (c := 0) (C := cs_0) rfl mk (glo_at X Gn c 38 rfl) (know_tab (prs := []) (.inr rfl)) cal
theorem o_Fair_hosts : ∃ fd, d_Fair_hosts.Is K fd ∧ FnG P w K mg base 2 (d_Fair_hosts.ad K) fd ["self"] (Spec (gh sx K) F_Fair_hosts) := by
  obtain ⟨fd, D⟩ := c.def_ 13 (d := d_Fair_hosts) rfl
  have tab : TabOk P w K mg base 0 (gh sx K) tb_Fair_hosts := tab_ok X Gn (fine c) nds (prs := []) fno pno sbn sbn sbn (.inr rfl)
  exact ⟨fd, D, fun_ok D rfl tab (know_tab (prs := []) (.inr rfl)) (by decide +kernel) k_Fair_hosts⟩
theorem o_Fair_guests : ∃ fd, d_Fair_guests.Is K fd ∧ FnG P w K mg base 2 (d_Fair_guests.ad K) fd ["self"] (Spec (gh sx K) F_Fair_guests) := by
  obtain ⟨fd, D⟩ := c.def_ 14 (d := d_Fair_guests) rfl
  have tab : TabOk P w K mg base 0 (gh sx K) tb_Fair_guests := tab_ok X Gn (fine c) nds (prs := []) fno pno sbn sbn sbn (.inr rfl)
  exact ⟨fd, D, fun_ok D rfl tab (know_tab (prs := []) (.inr rfl)) (by decide +kernel) k_Fair_guests⟩
theorem o_Fair_tables : ∃ fd, d_Fair_tables.Is K fd ∧ FnG P w K mg base 2 (d_Fair_tables.ad K) fd ["self"] (Spec (gh sx K) F_Fair_tables) := by
  obtain ⟨fd, D⟩ := c.def_ 15 (d := d_Fair_tables) rfl
  have tab : TabOk P w K mg base 0 (gh sx K) tb_Fair_tables := tab_ok X Gn (fine c) nds (prs := []) fno pno sbn sbn sbn (.inr rfl)
  exact ⟨fd, D, fun_ok D rfl tab (know_tab (prs := []) (.inr rfl)) (by decide +kernel) k_Fair_tables⟩
theorem o_Fair_names : ∃ fd, d_Fair_names.Is K fd ∧ FnG P w K mg base 2 (d_Fair_names.ad K) fd ["self"] (Spec (gh sx K) F_Fair_names) := by
  obtain ⟨fd, D⟩ := c.def_ 16 (d := d_Fair_names) rfl
  have tab : TabOk P w K mg base 0 (gh sx K) tb_Fair_names := tab_ok X Gn (fine c) nds (prs := []) fno pno sbn sbn sbn (.inr rfl)
  exact ⟨fd, D, fun_ok D rfl tab (know_tab (prs := []) (.inr rfl)) (by decide +kernel) k_Fair_names⟩
theorem props {lv : Nat} (hl : 2 ≤ lv := by decide) : PropsOk P w K mg base lv sx prs := by
  intro k C ps f F h1 h2 h3
  have p_Fair_hosts : Cal P w K mg base lv (gh sx K) [] (padF 1 [] F_Fair_hosts) (pgA K (He.ga K "Fair") "hosts") := by
    obtain ⟨fd, D, F⟩ := o_Fair_hosts (P := P) (w := w) (base := base) X Gn c
    exact (cal_at (d := d_Fair_hosts) D F rfl fun _ _ _ _ _ _ us hl => match us, hl with | [_], _ => rfl).mono (Nat.le_trans (by decide) hl)
  have p_Fair_guests : Cal P w K mg base lv (gh sx K) [] (padF 1 [] F_Fair_guests) (pgA K (He.ga K "Fair") "guests") := by
    obtain ⟨fd, D, F⟩ := o_Fair_guests (P := P) (w := w) (base := base) X Gn c
    exact (cal_at (d := d_Fair_guests) D F rfl fun _ _ _ _ _ _ us hl => match us, hl with | [_], _ => rfl).mono (Nat.le_trans (by decide) hl)
  have p_Fair_tables : Cal P w K mg base lv (gh sx K) [] (padF 1 [] F_Fair_tables) (pgA K (He.ga K "Fair") "tables") := by
    obtain ⟨fd, D, F⟩ := o_Fair_tables (P := P) (w := w) (base := base) X Gn c
    exact (cal_at (d := d_Fair_tables) D F rfl fun _ _ _ _ _ _ us hl => match us, hl with | [_], _ => rfl).mono (Nat.le_trans (by decide) hl)
  have p_Fair_names : Cal P w K mg base lv (gh sx K) [] (padF 1 [] F_Fair_names) (pgA K (He.ga K "Fair") "names") := by
    obtain ⟨fd, D, F⟩ := o_Fair_names (P := P) (w := w) (base := base) X Gn c
    exact (cal_at (d := d_Fair_names) D F rfl fun _ _ _ _ _ _ us hl => match us, hl with | [_], _ => rfl).mono (Nat.le_trans (by decide) hl)
  match k, h1, h2 with
  | 0, h1, h2 =>
    cases h1; cases h2
    rcases look_cons h3 with ⟨rfl, rfl⟩ | ⟨_, h3⟩
    · exact ⟨by decide, p_Fair_hosts⟩
    rcases look_cons h3 with ⟨rfl, rfl⟩ | ⟨_, h3⟩
    · exact ⟨by decide, p_Fair_guests⟩
    rcases look_cons h3 with ⟨rfl, rfl⟩ | ⟨_, h3⟩
    · exact ⟨by decide, p_Fair_tables⟩
    rcases look_cons h3 with ⟨rfl, rfl⟩ | ⟨_, h3⟩
    · exact ⟨by decide, p_Fair_names⟩
    cases h3
  | k + 1, h1, h2 => cases h1
theorem o_check_fair : ∃ fd, d_check_fair.Is K fd ∧ FnG P w K mg base 4 (d_check_fair.ad K) fd ["value"] (Spec (gh sx K) F_check_fair) := by
  obtain ⟨fd, D⟩ := c.def_ 17 (d := d_check_fair) rfl
  have tab : TabOk P w K mg base 2 (gh sx K) tb_check_fair := tab_ok X Gn (fine c) nds (prs := prs) fno (props X Gn c) sbn (sbc 28 (sbc 29 (sbc 30 (sbc 31 (sbc 32 (sbc 33 (sbc 34 sbn))))))) (sbc 4 sbn) (.inr rfl)
  exact ⟨fd, D, fun_ok D rfl tab (know_tab (prs := prs) (.inr rfl)) (by decide +kernel) k_check_fair⟩
theorem c_check_fair1 : CalOk P w K mg base 4 (gh sx K) ⟨"check_fair", [], (padF 1 [] F_check_fair)⟩ := by
  obtain ⟨fd, D, F⟩ := o_check_fair (P := P) (w := w) (base := base) X Gn c
  exact cal_all (d := d_check_fair) D F (glo_at X Gn c 12 rfl) rfl fun _ _ _ _ _ _ us hl => match us, hl with | [_], _ => rfl
theorem o_wrong_table : ∃ fd, d_wrong_table.Is K fd ∧ FnG P w K mg base 10 (d_wrong_table.ad K) fd ["fair", "value", "most"] (Spec (gh sx K) F_wrong_table) := by
  obtain ⟨fd, D⟩ := c.def_ 18 (d := d_wrong_table) rfl
  have tab : TabOk P w K mg base 8 (gh sx K) tb_wrong_table := tab_ok X Gn (fine c) nds (prs := prs) (fco (c_wrong_row3 X Gn c) fno) (props X Gn c) sbn (sbc 21 (sbc 22 (sbc 23 (sbc 24 (sbc 25 (sbc 26 (sbc 27 sbn))))))) (sbc 3 sbn) (.inr rfl)
  exact ⟨fd, D, fun_ok D rfl tab (know_tab (prs := prs) (.inr rfl)) (by decide +kernel) k_wrong_table⟩
theorem c_wrong_table3 : CalOk P w K mg base 10 (gh sx K) ⟨"wrong_table", [], (padF 3 [] F_wrong_table)⟩ := by
  obtain ⟨fd, D, F⟩ := o_wrong_table (P := P) (w := w) (base := base) X Gn c
  exact cal_all (d := d_wrong_table) D F (glo_at X Gn c 13 rfl) rfl fun _ _ _ _ _ _ us hl => match us, hl with | [_, _, _], _ => rfl
theorem o_check_meetings : ∃ fd, d_check_meetings.Is K fd ∧ FnG P w K mg base 12 (d_check_meetings.ad K) fd ["fair", "meetings", "most"] (Spec (gh sx K) F_check_meetings) := by
  obtain ⟨fd, D⟩ := c.def_ 19 (d := d_check_meetings) rfl
  have tab : TabOk P w K mg base 10 (gh sx K) tb_check_meetings := tab_ok X Gn (fine c) nds (prs := []) (fco (c_wrong_table3 X Gn c) fno) pno sbn sbn sbn (.inl rfl)
  exact ⟨fd, D, fun_ok D rfl tab (know_tab (prs := []) (.inl rfl)) (by decide +kernel) k_check_meetings⟩
theorem c_check_meetings3 : CalOk P w K mg base 12 (gh sx K) ⟨"check_meetings", [], (padF 3 [] F_check_meetings)⟩ := by
  obtain ⟨fd, D, F⟩ := o_check_meetings (P := P) (w := w) (base := base) X Gn c
  refine cal_of (d := d_check_meetings) (n := 3) (j := 1) D F (glo_at X Gn c 14 rfl) rfl (fun vs hk FD => ?_) rfl
  cases hk
  exact FunD.binds1 FD 3 1 (by simp) rfl fun T kV doc pm an cdv ct us its hu hi => match us, its, hu, hi with | [_, _, _], [_], _, _ => ⟨_, rfl, rfl⟩
theorem o_bounds_of : ∃ fd, d_bounds_of.Is K fd ∧ FnG P w K mg base 2 (d_bounds_of.ad K) fd ["side"] (Spec (gh sx K) F_bounds_of) := by
  obtain ⟨fd, D⟩ := c.def_ 20 (d := d_bounds_of) rfl
  have tab : TabOk P w K mg base 0 (gh sx K) tb_bounds_of := tab_ok X Gn (fine c) nds (prs := []) fno pno sbn sbn sbn (.inl rfl)
  exact ⟨fd, D, fun_ok D rfl tab (know_tab (prs := []) (.inl rfl)) (by decide +kernel) k_bounds_of⟩
theorem c_bounds_of1 : CalOk P w K mg base 2 (gh sx K) ⟨"bounds_of", [], (padF 1 [] F_bounds_of)⟩ := by
  obtain ⟨fd, D, F⟩ := o_bounds_of (P := P) (w := w) (base := base) X Gn c
  exact cal_all (d := d_bounds_of) D F (glo_at X Gn c 15 rfl) rfl fun _ _ _ _ _ _ us hl => match us, hl with | [_], _ => rfl
theorem o_lines_with : ∃ fd, d_lines_with.Is K fd ∧ FnG P w K mg base 6 (d_lines_with.ad K) fd ["fair", "start", "growth"] (Spec (gh sx K) F_lines_with) := by
  obtain ⟨fd, D⟩ := c.def_ 21 (d := d_lines_with) rfl
  have tab : TabOk P w K mg base 4 (gh sx K) tb_lines_with := tab_ok X Gn (fine c) nds (prs := prs) (fco (c_bounds_of1 X Gn c) (fco (c_row_sums1 X Gn c) (fco (c_column_sums1 X Gn c) (fco (c_whole_sum1 X Gn c) fno)))) (props X Gn c) sbn sbn sbn (.inr rfl)
  exact ⟨fd, D, fun_ok D rfl tab (know_tab (prs := prs) (.inr rfl)) (by decide +kernel) k_lines_with⟩
theorem c_lines_with3 : CalOk P w K mg base 6 (gh sx K) ⟨"lines_with", [], (padF 3 [] F_lines_with)⟩ := by
  obtain ⟨fd, D, F⟩ := o_lines_with (P := P) (w := w) (base := base) X Gn c
  exact cal_all (d := d_lines_with) D F (glo_at X Gn c 16 rfl) rfl fun _ _ _ _ _ _ us hl => match us, hl with | [_, _, _], _ => rfl
theorem o_steepest : ∃ fd, d_steepest.Is K fd ∧ FnG P w K mg base 2 (d_steepest.ad K) fd ["lines"] (Spec (gh sx K) F_steepest) := by
  obtain ⟨fd, D⟩ := c.def_ 22 (d := d_steepest) rfl
  have tab : TabOk P w K mg base 0 (gh sx K) tb_steepest := tab_ok X Gn (fine c) nds (prs := []) fno pno sbn sbn sbn (.inl rfl)
  exact ⟨fd, D, fun_ok D rfl tab (know_tab (prs := []) (.inl rfl)) (by decide +kernel) k_steepest⟩
theorem c_steepest1 : CalOk P w K mg base 2 (gh sx K) ⟨"steepest", [], (padF 1 [] F_steepest)⟩ := by
  obtain ⟨fd, D, F⟩ := o_steepest (P := P) (w := w) (base := base) X Gn c
  exact cal_all (d := d_steepest) D F (glo_at X Gn c 17 rfl) rfl fun _ _ _ _ _ _ us hl => match us, hl with | [_], _ => rfl
theorem o_load_at : ∃ fd, d_load_at.Is K fd ∧ FnG P w K mg base 2 (d_load_at.ad K) fd ["lines", "step"] (Spec (gh sx K) F_load_at) := by
  obtain ⟨fd, D⟩ := c.def_ 23 (d := d_load_at) rfl
  have tab : TabOk P w K mg base 0 (gh sx K) tb_load_at := tab_ok X Gn (fine c) nds (prs := []) fno pno sbn sbn sbn (.inl rfl)
  exact ⟨fd, D, fun_ok D rfl tab (know_tab (prs := []) (.inl rfl)) (by decide +kernel) k_load_at⟩
theorem c_load_at2 : CalOk P w K mg base 2 (gh sx K) ⟨"load_at", [], (padF 2 [] F_load_at)⟩ := by
  obtain ⟨fd, D, F⟩ := o_load_at (P := P) (w := w) (base := base) X Gn c
  exact cal_all (d := d_load_at) D F (glo_at X Gn c 18 rfl) rfl fun _ _ _ _ _ _ us hl => match us, hl with | [_, _], _ => rfl
theorem o_settled_step : ∃ fd, d_settled_step.Is K fd ∧ FnG P w K mg base 4 (d_settled_step.ad K) fd ["lines"] (Spec (gh sx K) F_settled_step) := by
  obtain ⟨fd, D⟩ := c.def_ 24 (d := d_settled_step) rfl
  have tab : TabOk P w K mg base 2 (gh sx K) tb_settled_step := tab_ok X Gn (fine c) nds (prs := []) (fco (c_steepest1 X Gn c) fno) pno sbn sbn sbn (.inl rfl)
  exact ⟨fd, D, fun_ok D rfl tab (know_tab (prs := []) (.inl rfl)) (by decide +kernel) k_settled_step⟩
theorem c_settled_step1 : CalOk P w K mg base 4 (gh sx K) ⟨"settled_step", [], (padF 1 [] F_settled_step)⟩ := by
  obtain ⟨fd, D, F⟩ := o_settled_step (P := P) (w := w) (base := base) X Gn c
  exact cal_all (d := d_settled_step) D F (glo_at X Gn c 19 rfl) rfl fun _ _ _ _ _ _ us hl => match us, hl with | [_], _ => rfl
theorem o_period_of : ∃ fd, d_period_of.Is K fd ∧ FnG P w K mg base 4 (d_period_of.ad K) fd ["lines"] (Spec (gh sx K) F_period_of) := by
  obtain ⟨fd, D⟩ := c.def_ 25 (d := d_period_of) rfl
  have tab : TabOk P w K mg base 2 (gh sx K) tb_period_of := tab_ok X Gn (fine c) nds (prs := []) (fco (c_steepest1 X Gn c) fno) pno sbn sbn sbn (.inl rfl)
  exact ⟨fd, D, fun_ok D rfl tab (know_tab (prs := []) (.inl rfl)) (by decide +kernel) k_period_of⟩
theorem c_period_of1 : CalOk P w K mg base 4 (gh sx K) ⟨"period_of", [], (padF 1 [] F_period_of)⟩ := by
  obtain ⟨fd, D, F⟩ := o_period_of (P := P) (w := w) (base := base) X Gn c
  exact cal_all (d := d_period_of) D F (glo_at X Gn c 20 rfl) rfl fun _ _ _ _ _ _ us hl => match us, hl with | [_], _ => rfl
theorem o_form_of : ∃ fd, d_form_of.Is K fd ∧ FnG P w K mg base 6 (d_form_of.ad K) fd ["lines"] (Spec (gh sx K) F_form_of) := by
  obtain ⟨fd, D⟩ := c.def_ 26 (d := d_form_of) rfl
  have tab : TabOk P w K mg base 4 (gh sx K) tb_form_of := tab_ok X Gn (fine c) nds (prs := []) (fco (c_period_of1 X Gn c) (fco (c_settled_step1 X Gn c) (fco (c_load_at2 X Gn c) fno))) pno sbn sbn sbn (.inl rfl)
  exact ⟨fd, D, fun_ok D rfl tab (know_tab (prs := []) (.inl rfl)) (by decide +kernel) k_form_of⟩
theorem c_form_of1 : CalOk P w K mg base 6 (gh sx K) ⟨"form_of", [], (padF 1 [] F_form_of)⟩ := by
  obtain ⟨fd, D, F⟩ := o_form_of (P := P) (w := w) (base := base) X Gn c
  exact cal_all (d := d_form_of) D F (glo_at X Gn c 21 rfl) rfl fun _ _ _ _ _ _ us hl => match us, hl with | [_], _ => rfl
theorem o_check_growing : ∃ fd, d_check_growing.Is K fd ∧ FnG P w K mg base 14 (d_check_growing.ad K) fd ["fair", "start", "growth"] (Spec (gh sx K) F_check_growing) := by
  obtain ⟨fd, D⟩ := c.def_ 27 (d := d_check_growing) rfl
  have tab : TabOk P w K mg base 12 (gh sx K) tb_check_growing := tab_ok X Gn (fine c) nds (prs := []) (fco (c_check_fair1 X Gn c) (fco (c_check_meetings3 X Gn c) (fco (c_wrong_table3 X Gn c) fno))) pno (sbc 6 (sbc 7 sbn)) sbn sbn (.inl rfl)
  exact ⟨fd, D, fun_ok D rfl tab (know_tab (prs := []) (.inl rfl)) (by decide +kernel) k_check_growing⟩
theorem c_check_growing3 : CalOk P w K mg base 14 (gh sx K) ⟨"check_growing", [], (padF 3 [] F_check_growing)⟩ := by
  obtain ⟨fd, D, F⟩ := o_check_growing (P := P) (w := w) (base := base) X Gn c
  exact cal_all (d := d_check_growing) D F (glo_at X Gn c 22 rfl) rfl fun _ _ _ _ _ _ us hl => match us, hl with | [_, _, _], _ => rfl
theorem o_grown : ∃ fd, d_grown.Is K fd ∧ FnG P w K mg base 16 (d_grown.ad K) fd ["fair", "start", "growth"] (Spec (gh sx K) F_grown) := by
  obtain ⟨fd, D⟩ := c.def_ 28 (d := d_grown) rfl
  have tab : TabOk P w K mg base 14 (gh sx K) tb_grown := tab_ok X Gn (fine c) nds (prs := []) (fco (c_check_growing3 X Gn c) (fco (c_form_of1 X Gn c) (fco (c_lines_with3 X Gn c) fno))) pno sbn sbn sbn (.inl rfl)
  exact ⟨fd, D, fun_ok D rfl tab (know_tab (prs := []) (.inl rfl)) (by decide +kernel) k_grown⟩
theorem c_grown_2_1_0 : CalOk P w K mg base 16 (gh sx K) ⟨"grown", ["growth", "start", "fair"], kwF 0 3 (fun ts => [2, 1, 0].filterMap fun i => ts[i]?) F_grown⟩ := by
  obtain ⟨fd, D, F⟩ := o_grown (P := P) (w := w) (base := base) X Gn c
  exact cal_perm (d := d_grown) [2, 1, 0] D F (glo_at X Gn c 23 rfl) (fun s us ws vs hk FD kin hu hw => by
    cases hk
    exact kwAll FD fun kV doc pm an cdv ct => (match us, ws, hu, hw with | [], [_, _, _], _, _ => rfl)) rfl rfl
theorem c_grown3 : CalOk P w K mg base 16 (gh sx K) ⟨"grown", [], (padF 3 [] F_grown)⟩ := by
  obtain ⟨fd, D, F⟩ := o_grown (P := P) (w := w) (base := base) X Gn c
  exact cal_all (d := d_grown) D F (glo_at X Gn c 23 rfl) rfl fun _ _ _ _ _ _ us hl => match us, hl with | [_, _, _], _ => rfl
theorem o_law_jug : ∃ fd, d_law_jug.Is K fd ∧ FnG P w K mg base 2 (d_law_jug.ad K) fd ["_law_script", "_law_at"] (Spec (gh sx K) F_law_jug) := by
  obtain ⟨fd, D⟩ := c.def_ 29 (d := d_law_jug) rfl
  have tab : TabOk P w K mg base 0 (gh sx K) tb_law_jug := tab_ok X Gn (fine c) nds (prs := []) fno pno sbn sbn sbn (.inl rfl)
  exact ⟨fd, D, fun_ok D rfl tab (know_tab (prs := []) (.inl rfl)) (by decide +kernel) k_law_jug⟩
theorem c_law_jug2 : CalOk P w K mg base 2 (gh sx K) ⟨"_law_jug", [], (padF 2 [] F_law_jug)⟩ := by
  obtain ⟨fd, D, F⟩ := o_law_jug (P := P) (w := w) (base := base) X Gn c
  exact cal_all (d := d_law_jug) D F (glo_at X Gn c 24 rfl) rfl fun _ _ _ _ _ _ us hl => match us, hl with | [_, _], _ => rfl
theorem o_law_pour : ∃ fd, d_law_pour.Is K fd ∧ FnG P w K mg base 2 (d_law_pour.ad K) fd ["_law_jug_here", "_law_many"] (Spec (gh sx K) F_law_pour) := by
  obtain ⟨fd, D⟩ := c.def_ 30 (d := d_law_pour) rfl
  have tab : TabOk P w K mg base 0 (gh sx K) tb_law_pour := tab_ok X Gn (fine c) nds (prs := []) fno pno sbn sbn sbn (.inl rfl)
  exact ⟨fd, D, fun_ok D rfl tab (know_tab (prs := []) (.inl rfl)) (by decide +kernel) k_law_pour⟩
theorem c_law_pour2 : CalOk P w K mg base 2 (gh sx K) ⟨"_law_pour", [], (padF 2 [] F_law_pour)⟩ := by
  obtain ⟨fd, D, F⟩ := o_law_pour (P := P) (w := w) (base := base) X Gn c
  exact cal_all (d := d_law_pour) D F (glo_at X Gn c 25 rfl) rfl fun _ _ _ _ _ _ us hl => match us, hl with | [_, _], _ => rfl
theorem o_law_word : ∃ fd, d_law_word.Is K fd ∧ FnG P w K mg base 4 (d_law_word.ad K) fd ["_law_jug_here"] (Spec (gh sx K) F_law_word) := by
  obtain ⟨fd, D⟩ := c.def_ 31 (d := d_law_word) rfl
  have tab : TabOk P w K mg base 2 (gh sx K) tb_law_word := tab_ok X Gn (fine c) nds (prs := []) (fco (c_law_pour2 X Gn c) fno) pno sbn sbn sbn (.inl rfl)
  exact ⟨fd, D, fun_ok D rfl tab (know_tab (prs := []) (.inl rfl)) (by decide +kernel) k_law_word⟩
theorem c_law_word1 : CalOk P w K mg base 4 (gh sx K) ⟨"_law_word", [], (padF 1 [] F_law_word)⟩ := by
  obtain ⟨fd, D, F⟩ := o_law_word (P := P) (w := w) (base := base) X Gn c
  exact cal_all (d := d_law_word) D F (glo_at X Gn c 26 rfl) rfl fun _ _ _ _ _ _ us hl => match us, hl with | [_], _ => rfl
theorem o_law_words : ∃ fd, d_law_words.Is K fd ∧ FnG P w K mg base 6 (d_law_words.ad K) fd ["_law_jug_here", "_law_many"] (Spec (gh sx K) F_law_words) := by
  obtain ⟨fd, D⟩ := c.def_ 32 (d := d_law_words) rfl
  have tab : TabOk P w K mg base 4 (gh sx K) tb_law_words := tab_ok X Gn (fine c) nds (prs := []) (fco (c_law_word1 X Gn c) fno) pno sbn sbn sbn (.inl rfl)
  exact ⟨fd, D, fun_ok D rfl tab (know_tab (prs := []) (.inl rfl)) (by decide +kernel) k_law_words⟩
theorem c_law_words2 : CalOk P w K mg base 6 (gh sx K) ⟨"_law_words", [], (padF 2 [] F_law_words)⟩ := by
  obtain ⟨fd, D, F⟩ := o_law_words (P := P) (w := w) (base := base) X Gn c
  exact cal_all (d := d_law_words) D F (glo_at X Gn c 27 rfl) rfl fun _ _ _ _ _ _ us hl => match us, hl with | [_, _], _ => rfl
theorem o_law_parts : ∃ fd, d_law_parts.Is K fd ∧ FnG P w K mg base 8 (d_law_parts.ad K) fd ["_law_jug_here", "_law_most_here", "_law_most_there"] (Spec (gh sx K) F_law_parts) := by
  obtain ⟨fd, D⟩ := c.def_ 33 (d := d_law_parts) rfl
  have tab : TabOk P w K mg base 6 (gh sx K) tb_law_parts := tab_ok X Gn (fine c) nds (prs := []) (fco (c_law_pour2 X Gn c) (fco (c_law_words2 X Gn c) fno)) pno sbn sbn sbn (.inl rfl)
  exact ⟨fd, D, fun_ok D rfl tab (know_tab (prs := []) (.inl rfl)) (by decide +kernel) k_law_parts⟩
theorem c_law_parts3 : CalOk P w K mg base 8 (gh sx K) ⟨"_law_parts", [], (padF 3 [] F_law_parts)⟩ := by
  obtain ⟨fd, D, F⟩ := o_law_parts (P := P) (w := w) (base := base) X Gn c
  exact cal_all (d := d_law_parts) D F (glo_at X Gn c 28 rfl) rfl fun _ _ _ _ _ _ us hl => match us, hl with | [_, _, _], _ => rfl
theorem o_law_fair : ∃ fd, d_law_fair.Is K fd ∧ FnG P w K mg base 15 (d_law_fair.ad K) fd ["_law_parts_here"] (Spec (gh sx K) F_law_fair) := by
  obtain ⟨fd, D⟩ := c.def_ 34 (d := d_law_fair) rfl
  have tab : TabOk P w K mg base 13 (gh sx K) tb_law_fair := tab_ok X Gn (fine c) nds (prs := prs) (fco (c_Fair3 X Gn c) fno) (props X Gn c) sbn sbn sbn (.inr rfl)
  exact ⟨fd, D, fun_ok D rfl tab (know_tab (prs := prs) (.inr rfl)) (by decide +kernel) k_law_fair⟩
theorem c_law_fair1 : CalOk P w K mg base 15 (gh sx K) ⟨"_law_fair", [], (padF 1 [] F_law_fair)⟩ := by
  obtain ⟨fd, D, F⟩ := o_law_fair (P := P) (w := w) (base := base) X Gn c
  exact cal_all (d := d_law_fair) D F (glo_at X Gn c 29 rfl) rfl fun _ _ _ _ _ _ us hl => match us, hl with | [_], _ => rfl
theorem o_law_in_rows : ∃ fd, d_law_in_rows.Is K fd ∧ FnG P w K mg base 2 (d_law_in_rows.ad K) fd ["_law_grid"] (Spec (gh sx K) F_law_in_rows) := by
  obtain ⟨fd, D⟩ := c.def_ 35 (d := d_law_in_rows) rfl
  have tab : TabOk P w K mg base 0 (gh sx K) tb_law_in_rows := tab_ok X Gn (fine c) nds (prs := []) fno pno sbn sbn sbn (.inl rfl)
  exact ⟨fd, D, fun_ok D rfl tab (know_tab (prs := []) (.inl rfl)) (by decide +kernel) k_law_in_rows⟩
theorem c_law_in_rows1 : CalOk P w K mg base 2 (gh sx K) ⟨"_law_in_rows", [], (padF 1 [] F_law_in_rows)⟩ := by
  obtain ⟨fd, D, F⟩ := o_law_in_rows (P := P) (w := w) (base := base) X Gn c
  exact cal_all (d := d_law_in_rows) D F (glo_at X Gn c 30 rfl) rfl fun _ _ _ _ _ _ us hl => match us, hl with | [_], _ => rfl
theorem o_law_in_columns : ∃ fd, d_law_in_columns.Is K fd ∧ FnG P w K mg base 2 (d_law_in_columns.ad K) fd ["_law_grid"] (Spec (gh sx K) F_law_in_columns) := by
  obtain ⟨fd, D⟩ := c.def_ 36 (d := d_law_in_columns) rfl
  have tab : TabOk P w K mg base 0 (gh sx K) tb_law_in_columns := tab_ok X Gn (fine c) nds (prs := []) fno pno sbn sbn sbn (.inl rfl)
  exact ⟨fd, D, fun_ok D rfl tab (know_tab (prs := []) (.inl rfl)) (by decide +kernel) k_law_in_columns⟩
theorem c_law_in_columns1 : CalOk P w K mg base 2 (gh sx K) ⟨"_law_in_columns", [], (padF 1 [] F_law_in_columns)⟩ := by
  obtain ⟨fd, D, F⟩ := o_law_in_columns (P := P) (w := w) (base := base) X Gn c
  exact cal_all (d := d_law_in_columns) D F (glo_at X Gn c 31 rfl) rfl fun _ _ _ _ _ _ us hl => match us, hl with | [_], _ => rfl
theorem o_law_growing : ∃ fd, d_law_growing.Is K fd ∧ FnG P w K mg base 10 (d_law_growing.ad K) fd ["_law_jug_here", "_law_most_here", "_law_most_there"] (Spec (gh sx K) F_law_growing) := by
  obtain ⟨fd, D⟩ := c.def_ 37 (d := d_law_growing) rfl
  have tab : TabOk P w K mg base 8 (gh sx K) tb_law_growing := tab_ok X Gn (fine c) nds (prs := []) (fco (c_law_pour2 X Gn c) (fco (c_law_parts3 X Gn c) fno)) pno sbn sbn sbn (.inl rfl)
  exact ⟨fd, D, fun_ok D rfl tab (know_tab (prs := []) (.inl rfl)) (by decide +kernel) k_law_growing⟩
theorem c_law_growing3 : CalOk P w K mg base 10 (gh sx K) ⟨"_law_growing", [], (padF 3 [] F_law_growing)⟩ := by
  obtain ⟨fd, D, F⟩ := o_law_growing (P := P) (w := w) (base := base) X Gn c
  exact cal_all (d := d_law_growing) D F (glo_at X Gn c 32 rfl) rfl fun _ _ _ _ _ _ us hl => match us, hl with | [_, _, _], _ => rfl
theorem o_law_lines : ∃ fd, d_law_lines.Is K fd ∧ FnG P w K mg base 4 (d_law_lines.ad K) fd ["_law_parts_here", "_law_grid", "_law_more"] (Spec (gh sx K) F_law_lines) := by
  obtain ⟨fd, D⟩ := c.def_ 38 (d := d_law_lines) rfl
  have tab : TabOk P w K mg base 2 (gh sx K) tb_law_lines := tab_ok X Gn (fine c) nds (prs := []) (fco (c_law_in_rows1 X Gn c) (fco (c_law_in_columns1 X Gn c) fno)) pno sbn sbn sbn (.inl rfl)
  exact ⟨fd, D, fun_ok D rfl tab (know_tab (prs := []) (.inl rfl)) (by decide +kernel) k_law_lines⟩
theorem c_law_lines3 : CalOk P w K mg base 4 (gh sx K) ⟨"_law_lines", [], (padF 3 [] F_law_lines)⟩ := by
  obtain ⟨fd, D, F⟩ := o_law_lines (P := P) (w := w) (base := base) X Gn c
  exact cal_all (d := d_law_lines) D F (glo_at X Gn c 33 rfl) rfl fun _ _ _ _ _ _ us hl => match us, hl with | [_, _, _], _ => rfl
theorem o_law_loads_up_to : ∃ fd, d_law_loads_up_to.Is K fd ∧ FnG P w K mg base 6 (d_law_loads_up_to.ad K) fd ["_law_parts_here", "_law_grid", "_law_more", "_law_steps"] (Spec (gh sx K) F_law_loads_up_to) := by
  obtain ⟨fd, D⟩ := c.def_ 39 (d := d_law_loads_up_to) rfl
  have tab : TabOk P w K mg base 4 (gh sx K) tb_law_loads_up_to := tab_ok X Gn (fine c) nds (prs := []) (fco (c_law_lines3 X Gn c) fno) pno sbn sbn sbn (.inl rfl)
  exact ⟨fd, D, fun_ok D rfl tab (know_tab (prs := []) (.inl rfl)) (by decide +kernel) k_law_loads_up_to⟩
theorem c_law_loads_up_to4 : CalOk P w K mg base 6 (gh sx K) ⟨"_law_loads_up_to", [], (padF 4 [] F_law_loads_up_to)⟩ := by
  obtain ⟨fd, D, F⟩ := o_law_loads_up_to (P := P) (w := w) (base := base) X Gn c
  exact cal_all (d := d_law_loads_up_to) D F (glo_at X Gn c 34 rfl) rfl fun _ _ _ _ _ _ us hl => match us, hl with | [_, _, _, _], _ => rfl
theorem o_law_triple : ∃ fd, d_law_triple.Is K fd ∧ FnG P w K mg base 2 (d_law_triple.ad K) fd ["_law_loads_here"] (Spec (gh sx K) F_law_triple) := by
  obtain ⟨fd, D⟩ := c.def_ 40 (d := d_law_triple) rfl
  have tab : TabOk P w K mg base 0 (gh sx K) tb_law_triple := tab_ok X Gn (fine c) nds (prs := []) fno pno sbn sbn sbn (.inl rfl)
  exact ⟨fd, D, fun_ok D rfl tab (know_tab (prs := []) (.inl rfl)) (by decide +kernel) k_law_triple⟩
theorem c_law_triple1 : CalOk P w K mg base 2 (gh sx K) ⟨"_law_triple", [], (padF 1 [] F_law_triple)⟩ := by
  obtain ⟨fd, D, F⟩ := o_law_triple (P := P) (w := w) (base := base) X Gn c
  exact cal_all (d := d_law_triple) D F (glo_at X Gn c 35 rfl) rfl fun _ _ _ _ _ _ us hl => match us, hl with | [_], _ => rfl
theorem o_law_right_k48 : ∃ fd, d_law_right_k48.Is K fd ∧ FnG P w K mg base 18 (d_law_right_k48.ad K) fd ["_law_jug_here"] (Spec (gh sx K) F_law_right_k48) := by
  obtain ⟨fd, D⟩ := c.def_ 41 (d := d_law_right_k48) rfl
  have tab : TabOk P w K mg base 16 (gh sx K) tb_law_right_k48 := tab_ok X Gn (fine c) nds (prs := []) (fco (c_law_growing3 X Gn c) (fco (c_law_triple1 X Gn c) (fco (c_law_loads_up_to4 X Gn c) (fco (c_law_fair1 X Gn c) (fco (c_grown_2_1_0 X Gn c) (fco (c_grown3 X Gn c) fno)))))) pno sbn sbn sbn (.inl rfl)
  exact ⟨fd, D, fun_ok D rfl tab (know_tab (prs := []) (.inl rfl)) (by decide +kernel) k_law_right_k48⟩
theorem c_law_right1 : CalOk P w K mg base 18 (gh sx K) ⟨"_law_right", [], (padF 1 [] F_law_right_k48)⟩ := by
  obtain ⟨fd, D, F⟩ := o_law_right_k48 (P := P) (w := w) (base := base) X Gn c
  exact cal_all (d := d_law_right_k48) D F (glo_at X Gn c 36 rfl) rfl fun _ _ _ _ _ _ us hl => match us, hl with | [_], _ => rfl
theorem o_law_k48 : ∃ fd, d_law_k48.Is K fd ∧ FnG P w K mg base 20 (d_law_k48.ad K) fd ["_law_script"] (Spec (gh sx K) F_law_k48) := by
  obtain ⟨fd, D⟩ := c.def_ 42 (d := d_law_k48) rfl
  have tab : TabOk P w K mg base 18 (gh sx K) tb_law_k48 := tab_ok X Gn (fine c) nds (prs := []) (fco (c_law_right1 X Gn c) (fco (c_law_jug2 X Gn c) fno)) pno sbn sbn sbn (.inl rfl)
  exact ⟨fd, D, fun_ok D rfl tab (know_tab (prs := []) (.inl rfl)) (by decide +kernel) k_law_k48⟩
end
theorem facts {P : Program} {w : World} {K : PySem.W.Frag} {h : Heap} {mg : Str → Option Value} {f : Addr} (X : K.In h) (Gn : h.Ns mainGlobals mg) (hfa : mg ("law" : Str) = some (.ref f)) (c : SaysX fx fn K) :
    ∃ (fd : FuncData) (G : Gh), G.K = K ∧ (∀ (s : Shared) (v : Value), BindsTo s fd ⟨[v], []⟩ [("_law_script", v)]) ∧ ∀ ground : Heap, K.In ground → ground.Ns mainGlobals mg → FnG P w K mg ground 20 f fd ["_law_script"] (Spec G F_law_k48) := by
  have e := hfa.symm.trans (glo_at X Gn c 37 (x := "law") rfl)
  cases e
  obtain ⟨fd, D⟩ := c.def_ 42 (d := d_law_k48) rfl
  have D0 := D
  obtain ⟨vs, hk, FD⟩ := D0
  cases hk
  have b := FunD.bindsA (ps := ["_law_script"]) FD fun _ _ _ _ _ _ us hl => match us, hl with | [_], _ => rfl
  refine ⟨fd, gh sx K, rfl, fun s v => b s [v] rfl, fun ground _ _ => ?_⟩
  obtain ⟨fd2, D2, F2⟩ := o_law_k48 (P := P) (w := w) (base := ground) X Gn c
  have : fd2 = fd := fd_eq D2 D
  subst this
  exact F2
end EgLaw
set_option Elab.async false
set_option linter.all false
set_option maxRecDepth 100000
set_option maxHeartbeats 0
open PySem PySem.W PySem.Calls PyProof.Rows
theorem PySem.Challenge.cw_meetrounds_k48_whole_grown_by_own_steps_holds : PySem.Challenge.rw_meetrounds_k48_whole_grown_by_own_steps.Holds := by
  w_on; o_law
  refine HandSHeadRun.head_any (r := OpenLaw.row PySem.Challenge.rw_meetrounds_k48_whole_grown_by_own_steps) (q := view (OpenLaw.row PySem.Challenge.rw_meetrounds_k48_whole_grown_by_own_steps).prog [64]) (H := EgLaw.hk) (ob := EgLaw.ob) (M := 6000) (loose := EgLaw.names) (d := HandSHeadRun.topDef (OpenLaw.row PySem.Challenge.rw_meetrounds_k48_whole_grown_by_own_steps).prog 64) (kwd := []) EgLaw.ob_eq
    (by kernel_rfl) (fun s => by kernel_rfl) EgLaw.run (by kernel_rfl) (by kernel_rfl) (by kernel_rfl) (by rfl) (by first | assumption | decide +kernel) (by decide +kernel) ⟨rfl, rfl, rfl, rfl, rfl, by decide +kernel⟩ ?hw ?hc
  case hw => w_witness2
  case hc =>
    refine Eg.walk_end (l := PySem.Challenge.rw_meetrounds_k48_whole_grown_by_own_steps) (n := 63) (k := 20) (x := "_law_script") rfl (by decide) (by kernel_rfl) ⟨rfl, by decide, by decide⟩ EgLaw.gives_k48 ?F
    intro w mg fa h Y Gn found0
    obtain ⟨K, inH, c⟩ := Y
    have found : mg ("law" : PySem.Str) = some (.ref fa) := by
      have e : (HandSHeadRun.topDef (OpenLaw.row PySem.Challenge.rw_meetrounds_k48_whole_grown_by_own_steps).prog 64).name = ("law" : PySem.Str) := by kernel_rfl
      rw [← e]
      exact found0
    obtain ⟨fd, G, hG, hb, hF⟩ := EgLaw.facts (P := (PySem.Challenge.rw_meetrounds_k48_whole_grown_by_own_steps).prog) (w := w) inH Gn found c
    exact ⟨K, fd, G, inH, hG, hb, hF⟩
