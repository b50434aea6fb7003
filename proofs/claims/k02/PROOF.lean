import PyProof.Rows.All
import Wide.All
import OpenK.AllK
import Wide.FinOn
import HandS.ForMost
import HandS.ForExc
import HandS.CallSlots
import HandS.SortInts
import HandS.Conv
import HandS.Wide
import HandS.IsInst
import HandS.Flow
import HandS.Style
import HandS.Deep
import HandS.More
import PySem.Challenge.RW_ringfloor_k02_near_and_ways
set_option Elab.async false
set_option linter.all false
set_option maxRecDepth 100000
set_option maxHeartbeats 8000000
/-! Mi: a small evaluator for the text's Python, over a store of numbered objects. -/
namespace Mi
open PySem
abbrev DKey := Sum Int Str
inductive Val where
  | non | bl (b : Bool) | int (i : Int) | str (x : Str) | ty (n : String)
  | ref (i : Nat) | tup (vs : List Val) | fro (vs : List Val)
  deriving Inhabited
inductive Ob where
  | lst (xs : List Val) | dK (kvs : List (DKey × Val)) | dT (kvs : List (List DKey × Val)) | xd (fs : List (Str × Val))
  deriving Inhabited
abbrev Store := List Ob
abbrev Env := List (Option Val)
/-- how an expression ends -/
inductive R (α : Type) where
  | ok (a : α) (S : Store) | ex (c : Nat) (d : Option Nat) (S : Store) | bad
def R.bind {α β : Type} (r : R α) (k : α → Store → R β) : R β := match r with
  | .ok a S => k a S
  | .ex c d S => .ex c d S
  | .bad => .bad
@[simp] theorem R.bind_ok {α β : Type} (a : α) (S : Store) (k : α → Store → R β) : (R.ok a S).bind k = k a S := Eq.trans rfl rfl
@[simp] theorem R.bind_ex {α β : Type} (c : Nat) (d : Option Nat) (S : Store) (k : α → Store → R β) : (R.ex c d S).bind k = .ex c d S := Eq.trans rfl rfl
@[simp] theorem R.bind_bad {α β : Type} (k : α → Store → R β) : (R.bad : R α).bind k = .bad := Eq.trans rfl rfl
abbrev Sem := List Val → Store → R Val
inductive O2 where | add | sub | mul | fdiv | mod | pow
inductive Cp where | lt | le | gt | ge | eq | ne | isn | notn | isin | notin
inductive Pr where | len | sum | max | min | max2 | min2 | sorted | abs | str | int | all | any | list | tuple
inductive Me where | append | pop | popAt | insert | index | extend | count | reverse | join | split | get1 | get2
/-- a target -/
inductive Tg where | name (i : Nat) | tup (ts : List Tg)
/-- what is walked -/
inductive IK where | seq | rng1 | rng2 | rng3 | enum | zip | rev
inductive E where
  | var (i : Nat) | cst (v : Val) | lst (es : List E) | tup (es : List E)
  | bin (o : O2) (a b : E) | neg (a : E)
  | cmp (o : Cp) (a b : E) | chain (o p : Cp) (a b c : E)
  | and (a b : E) | or (a b : E) | not (a : E) | ite (c a b : E)
  | sub (a i : E) | slB (a lo hi : E) | slL (a lo : E) | slH (a hi : E) | slA (a : E) | slR (a : E)
  | call (f : Nat) (es : List E) | isi (a : E) (T : String)
  | pr (p : Pr) (es : List E) | me (m : Me) (o : E) (es : List E)
  | lc (own : List Nat) (t : Tg) (k : IK) (its : List E) (ifs : List E) (e : E)
  | dK | dT | dis (ks vs : List E) | lrg1 (a : E) | lrg2 (a b : E)
inductive Stm where
  | asg (t : Tg) (e : E) | set (a i e : E) | aug (i : Nat) (o : O2) (e : E) | augS (a i : E) (o : O2) (e : E)
  | exp (e : E) | ret (e : E) | retn | pass | brk | cnt
  | ifS (c : E) (p q : List Stm) | whl (c : E) (p : List Stm) | for (t : Tg) (k : IK) (its : List E) (p : List Stm)
  | raise (c : Nat) | tri (p : List Stm) (c : Nat) (q : List Stm)
/-! ### values and operators -/
/-- the whole numbers of a list of values -/
def intsOf : List Val → Option (List Int)
  | [] => some []
  | .int i :: r => (intsOf r).map (i :: ·)
  | _ :: _ => none
def blsOf : List Val → Option (List Bool)
  | [] => some []
  | .bl i :: r => (blsOf r).map (i :: ·)
  | _ :: _ => none
def strsOf : List Val → Option (List Str)
  | [] => some []
  | .str i :: r => (strsOf r).map (i :: ·)
  | _ :: _ => none
/-- what a list holds -/
def lstOf (S : Store) : Val → Option (List Val)
  | .ref r => match S[r]? with
    | some (.lst xs) => some xs
    | _ => none
  | .fro xs => some xs
  | _ => none
def seqOf (S : Store) : Val → Option (List Val)
  | .tup xs => some xs
  | v => lstOf S v
/-- how an operation ends: a value and a store, or not at all -/
abbrev P := Option (Val × Store)
def alloc (S : Store) (xs : List Val) : P := if xs.length ≤ sizeLine then some (.ref S.length, S ++ [.lst xs]) else none
def mulOk (i j : Int) : Bool := (decide (-(2 ^ 64) < i) && decide (i < 2 ^ 64)) || (decide (-(2 ^ 64) < j) && decide (j < 2 ^ 64)) || decide (i.natAbs.log2 + j.natAbs.log2 < 900000)
def binop (o : O2) (u v : Val) (S : Store) : P :=
  match o, u, v with
  | .add, .int i, .int j => some (.int (i + j), S)
  | .sub, .int i, .int j => some (.int (i - j), S)
  | .mul, .int i, .int j => if mulOk i j then some (.int (i * j), S) else none
  | .fdiv, .int i, .int j => if 0 < j ∧ j.natAbs.log2 < 9000 then some (.int (i / j), S) else none
  | .mod, .int i, .int j => if 0 < j then some (.int (i % j), S) else none
  | .pow, .int i, .int j => if 0 ≤ j ∧ j ≤ 1000000 ∧ i.natAbs < 2 ^ 64 then some (.int (i ^ j.toNat), S) else none
  | .add, .str x, .str y => if x.length + y.length ≤ sizeLine then some (.str (x ++ y), S) else none
  | .add, .ref r, .ref q => match S[r]?, S[q]? with
    | some (.lst xs), some (.lst ys) => alloc S (xs ++ ys)
    | _, _ => none
  | .mul, .ref r, .int k => match S[r]? with
    | some (.lst xs) => if -(2 ^ 63) ≤ k ∧ k < 2 ^ 63 ∧ xs.length * k.toNat ≤ sizeLine then alloc S (List.replicate k.toNat xs).flatten else none
    | _ => none
  | _, _, _ => none
def flat : Val → Bool
  | .non => true | .bl _ => true | .int _ => true | .str _ => true | _ => false
/-- == of flat values -/
def feq : Val → Val → Bool
  | .non, .non => true
  | .bl a, .bl b => a == b
  | .bl a, .int b => ((if a then 1 else 0) == b)
  | .int a, .bl b => (a == (if b then 1 else 0))
  | .int a, .int b => a == b
  | .str a, .str b => a == b
  | _, _ => false
def allSome {α : Type} : List (Option α) → Option (List α)
  | [] => some []
  | some a :: r => (allSome r).map (a :: ·)
  | none :: _ => none
/-- what a value is, its lists opened, n deep -/
def dat (S : Store) : Nat → Val → Option PyData
  | 0, _ => none
  | n + 1, v => match v with
    | .non => some .none
    | .bl b => some (.bool b)
    | .int i => some (.int i)
    | .tup vs => (allSome (vs.map (dat S n))).map .tuple
    | .fro vs => (allSome (vs.map (dat S n))).map .list
    | .ref r => match S[r]? with
      | some (.lst xs) => (allSome (xs.map (dat S n))).map .list
      | _ => none
    | _ => none
def deep : Nat := 8
def eqF : Val → Val → Option Bool
  | .int a, .int b => some (decide (a = b))
  | .bl a, .bl b => some (decide (a = b))
  | .str a, .str b => some (decide (a = b))
  | .non, .non => some true
  | .non, .int _ => some false | .int _, .non => some false | .non, .bl _ => some false | .bl _, .non => some false | .non, .str _ => some false | .str _, .non => some false
  | .int _, .str _ => some false | .str _, .int _ => some false | .bl _, .str _ => some false | .str _, .bl _ => some false
  | _, _ => none
def eqop (S : Store) (u v : Val) : Option Bool := match eqF u v with
  | some b => some b
  | none => match dat S deep u, dat S deep v with
    | some d, some e => some (PyData.eqv d e)
    | _, _ => none
def keyOf : Val → Option DKey
  | .int i => some (.inl i)
  | .str x => some (.inr x)
  | _ => none
def keysOf : Val → Option (List DKey)
  | .tup vs => allSome (vs.map keyOf)
  | _ => none
def look {κ : Type} [DecidableEq κ] (kvs : List (κ × Val)) (k : κ) : Option Val := (kvs.find? fun kv => decide (kv.1 = k)).map (·.2)
def put {κ : Type} [DecidableEq κ] (kvs : List (κ × Val)) (k : κ) (v : Val) : List (κ × Val) :=
  if (kvs.any fun kv => decide (kv.1 = k)) = true then kvs.map fun kv => if kv.1 = k then (kv.1, v) else kv else kvs ++ [(k, v)]
/-- d[k] of a dict -/
def dget (S : Store) (d k : Val) : Option (Option Val) := match d with
  | .ref r => match S[r]? with
    | some (.dK kvs) => (keyOf k).map (look kvs)
    | some (.dT kvs) => (keysOf k).map (look kvs)
    | _ => none
  | _ => none
def inopS (S : Store) (u v : Val) : Option Bool := match u, v with
  | .str x, .str z => match x.cps.toList with
    | [c] => some (decide (c ∈ z.cps.toList))
    | _ => none
  | u, v => match seqOf S v with
    | some xs => if flat u && xs.all flat then some (xs.any fun y => feq y u) else match lstOf S v with
      | some _ => match dat S deep u, dat S deep v with
        | some d, some (.list ds) => some (ds.any fun z => PyData.eqv z d)
        | _, _ => none
      | none => none
    | none => none
def inop (S : Store) (u v : Val) : Option Bool := match inopS S u v with
  | some b => some b
  | none => (dget S v u).map (·.isSome)
def isNon : Val → Bool
  | .non => true
  | _ => false
def cmpop (o : Cp) (S : Store) (u v : Val) : Option Bool :=
  match o, u, v with
  | .lt, .int i, .int j => some (decide (i < j))
  | .le, .int i, .int j => some (decide (i ≤ j))
  | .gt, .int i, .int j => some (decide (j < i))
  | .ge, .int i, .int j => some (decide (j ≤ i))
  | .eq, u, v => eqop S u v
  | .ne, u, v => (eqop S u v).map (!·)
  | .isn, u, .non => some (isNon u)
  | .notn, u, .non => some (!isNon u)
  | .isin, u, v => inop S u v
  | .notin, u, v => (inop S u v).map (!·)
  | _, _, _ => none
def tru (S : Store) : Val → Option Bool
  | .non => some false
  | .bl b => some b
  | .int i => some (i != 0)
  | .ref r => match S[r]? with
    | some (.lst xs) => some (!xs.isEmpty)
    | some (.dK kvs) => some (!kvs.isEmpty)
    | _ => none
  | .tup xs => some (!xs.isEmpty)
  | .fro xs => some (!xs.isEmpty)
  | _ => none
/-- a value for sure, or bad -/
def R.of {α : Type} (o : Option α) (S : Store) : R α := match o with
  | some a => .ok a S
  | none => .bad
@[simp] theorem R.of_some {α : Type} (a : α) (S : Store) : R.of (some a) S = .ok a S := Eq.trans rfl rfl
@[simp] theorem R.of_none {α : Type} (S : Store) : R.of (none : Option α) S = .bad := Eq.trans rfl rfl
def R.bl (o : Option Bool) (S : Store) : R Val := R.of (o.map .bl) S
@[simp] theorem R.bl_some (b : Bool) (S : Store) : R.bl (some b) S = .ok (.bl b) S := Eq.trans rfl rfl
@[simp] theorem R.bl_none (S : Store) : R.bl none S = .bad := Eq.trans rfl rfl
/-- an operation as an end -/
def R.op (o : P) : R Val := match o with
  | some (v, S) => .ok v S
  | none => .bad
@[simp] theorem R.op_some (v : Val) (S : Store) : R.op (some (v, S)) = .ok v S := Eq.trans rfl rfl
@[simp] theorem R.op_none : R.op none = .bad := Eq.trans rfl rfl
def P.of (o : Option Val) (S : Store) : P := o.map fun v => (v, S)
def itemS (S : Store) (u i : Val) : Option Val := match u, i with
  | .str x, .int i => if x.length ≤ sizeLine then (L2.atI x.cps.toList i).map fun c => .str ⟨#[c]⟩ else none
  | u, i => match seqOf S u, i with
    | some xs, .int i => L2.atI xs i
    | _, _ => none
def item (S : Store) (u i : Val) : Option Val := match itemS S u i with
  | some v => some v
  | none => (dget S u i).join
def cut {α : Type} (xs : List α) (lo hi : Option Int) : List α := (xs.drop (HT.sIx xs.length 0 lo)).take (HT.sIx xs.length xs.length hi - HT.sIx xs.length 0 lo)
def slice (S : Store) (u : Val) (lo hi : Option Int) : P := match lstOf S u with
  | some xs => alloc S (cut xs lo hi)
  | none => none
def intOf : Val → Option Int
  | .int i => some i
  | _ => none
def maxL : List Int → Int
  | [] => 0
  | x :: r => r.foldl max x
def minL : List Int → Int
  | [] => 0
  | x :: r => r.foldl min x
def prim (p : Pr) (us : List Val) (S : Store) : P :=
  match p, us with
  | .len, [.str x] => if x.length ≤ sizeLine then some ((.int x.length), S) else none
  | .len, [.ref r] => match S[r]? with
    | some (.lst xs) => some ((.int xs.length), S)
    | some (.dK kvs) => some ((.int kvs.length), S)
    | _ => none
  | .len, [.tup xs] => some ((.int xs.length), S)
  | .len, [.fro xs] => some ((.int xs.length), S)
  | .sum, [u] => P.of ((lstOf S u).bind fun xs => (intsOf xs).map fun ns => .int ns.sum) S
  | .max, [u] => P.of ((lstOf S u).bind fun xs => (intsOf xs).bind fun ns => if ns.isEmpty then none else some (.int (maxL ns))) S
  | .min, [u] => P.of ((lstOf S u).bind fun xs => (intsOf xs).bind fun ns => if ns.isEmpty then none else some (.int (minL ns))) S
  | .max2, [.int i, .int j] => some ((.int (if j > i then j else i)), S)
  | .min2, [.int i, .int j] => some ((.int (if j < i then j else i)), S)
  | .sorted, [u] => match (lstOf S u).bind intsOf with
    | some ns => alloc S ((ns.mergeSort (fun a b => decide (a ≤ b))).map .int)
    | none => none
  | .abs, [.int i] => some ((.int (if i < 0 then -i else i)), S)
  | .str, [.int i] => if i.natAbs.log2 < 1920 then some ((.str (toString i)), S) else none
  | .int, [.int i] => some ((.int i), S)
  | .int, [.bl k] => some ((.int (if k then 1 else 0)), S)
  | .int, [.str x] => match PySem.intText? x with
    | some n => if x.length ≤ 640 then some ((.int n), S) else none
    | none => none
  | .all, [u] => P.of ((lstOf S u).bind fun xs => (blsOf xs).map fun bs => .bl (bs.all id)) S
  | .any, [u] => P.of ((lstOf S u).bind fun xs => (blsOf xs).map fun bs => .bl (bs.any id)) S
  | .list, [u] => match seqOf S u with
    | some xs => alloc S xs
    | none => none
  | .tuple, [u] => P.of ((seqOf S u).map .tup) S
  | _, _ => none
def find1 (y : Val) : List Val → Nat → Option Nat
  | [], _ => none
  | x :: r, k => if feq x y then some k else find1 y r (k + 1)
def meth (m : Me) (u : Val) (us : List Val) (S : Store) : P :=
  match m, u, us with
  | .append, .ref r, [y] => match S[r]? with
    | some (.lst xs) => if xs.length < sizeLine then some (.non, (S.set r (.lst (xs ++ [y])))) else none
    | _ => none
  | .extend, .ref r, [.ref q] => match S[r]?, S[q]? with
    | some (.lst xs), some (.lst ys) => if xs.length + ys.length ≤ sizeLine then some (.non, (S.set r (.lst (xs ++ ys)))) else none
    | _, _ => none
  | .pop, .ref r, [] => match S[r]? with
    | some (.lst xs) => match xs[xs.length - 1]? with
      | some y => some (y, S.set r (.lst xs.dropLast))
      | none => none
    | _ => none
  | .popAt, .ref r, [.int i] => match S[r]? with
    | some (.lst xs) => if 0 ≤ i ∧ i < 2 ^ 63 then match xs[i.toNat]? with
      | some y => some (y, S.set r (.lst (xs.eraseIdx i.toNat)))
      | none => none else none
    | _ => none
  | .insert, .ref r, [.int i, y] => match S[r]? with
    | some (.lst xs) => if xs.length < sizeLine ∧ 0 ≤ i ∧ i < 2 ^ 63 then some (.non, (S.set r (.lst (xs.take i.toNat ++ [y] ++ xs.drop i.toNat)))) else none
    | _ => none
  | .reverse, .ref r, [] => match S[r]? with
    | some (.lst xs) => some (.non, S.set r (.lst xs.reverse))
    | _ => none
  | .index, u, [y] => match lstOf S u with
    | some xs => if flat y && xs.all flat then P.of ((find1 y xs 0).map fun j => .int (j : Nat)) S else none
    | none => none
  | _, _, _ => none
end Mi
namespace Mi
open PySem
/-- what a text's function does, by its number; how many arguments it takes -/
abbrev Ctx := Nat → Option (Nat × Sem)
/-- turns that a while may take -/
def wmax : Nat := 10000000
inductive IV where
  | items (vs : List Val) | seq (u : Val) | en (u : Val) | zp (u v : Val) | rv (u : Val) (n : Nat)
def IV.next : IV → Nat → Store → Option (Option Val)
  | .items vs, k, _ => some vs[k]?
  | .seq u, k, S => (lstOf S u).map fun xs => xs[k]?
  | .en u, k, S => (lstOf S u).map fun xs => xs[k]?.map fun x => .tup [.int (k : Nat), x]
  | .zp u v, k, S => match lstOf S u, lstOf S v with
    | some xs, some ys => some (match xs[k]?, ys[k]? with
      | some x, some y => some (.tup [x, y])
      | _, _ => none)
    | _, _ => none
  | .rv u n, k, S => if k < n then match lstOf S u with
      | some xs => match xs[n - 1 - k]? with
        | some x => some (some x)
        | none => none
      | none => none else some none
def IV.cnt : IV → Store → Nat
  | .items vs, _ => vs.length
  | .seq u, S => ((lstOf S u).getD []).length
  | .en u, S => ((lstOf S u).getD []).length
  | .zp u v, S => min ((lstOf S u).getD []).length ((lstOf S v).getD []).length
  | .rv _ n, _ => n
def signs (x : Str) : List Val := x.cps.toList.map fun c => .str ⟨#[c]⟩
def rng (lo : Int) (n : Nat) : List Val := (List.range n).map fun (i : Nat) => .int (lo + i)
def small62 (i : Int) : Bool := decide (-(2 ^ 62) ≤ i) && decide (i < 2 ^ 62)
def start (k : IK) (us : List Val) (S : Store) : Option IV :=
  match k, us with
  | .seq, [.tup vs] => some (.items vs)
  | .seq, [.str x] => some (.items (signs x))
  | .seq, [u] => (lstOf S u).map fun _ => .seq u
  | .rng1, [.int n] => if small62 n then some (.items (rng 0 n.toNat)) else none
  | .rng2, [.int i, .int j] => if small62 i && small62 j then some (.items (rng i (j - i).toNat)) else none
  | .enum, [u] => (lstOf S u).map fun _ => .en u
  | .zip, [u, v] => match lstOf S u, lstOf S v with
    | some _, some _ => some (.zp u v)
    | _, _ => none
  | .rev, [u] => (lstOf S u).map fun xs => .rv u xs.length
  | _, _ => none
/- a value laid into a target -/
mutual
def lay (S : Store) : Tg → Val → Env → Option Env
  | .name i, v, ρ => some (ρ.set i (some v))
  | .tup ts, v, ρ => match seqOf S v with
    | some vs => lays S ts vs ρ
    | none => none
def lays (S : Store) : List Tg → List Val → Env → Option Env
  | [], [], ρ => some ρ
  | t :: ts, v :: vs, ρ => (lay S t v ρ).bind fun ρ => lays S ts vs ρ
  | _, _, _ => none
end
def wipeE (ρ : Env) : List Nat → Env
  | [] => ρ
  | v :: vs => (wipeE ρ vs).set v none
/-- a comprehension's turns -/
def cloop (nxt : Nat → Store → Option (Option Val)) (step : Val → Store → R Unit) : Nat → Nat → Store → R Unit
  | F, k, S => match nxt k S with
    | none => .bad
    | some none => .ok () S
    | some (some v) => match F with
      | 0 => .bad
      | F + 1 => match step v S with
        | .ok _ S' => cloop nxt step F (k + 1) S'
        | _ => .bad
/-- put behind the list at D -/
def push (D : Nat) (y : Val) (S : Store) : R Unit := match S[D]? with
  | some (.lst acc) => if acc.length < sizeLine then .ok () (S.set D (.lst (acc ++ [y]))) else .bad
  | _ => .bad
def laidK : List (DKey × Val) → List Val → List Val → Option (List (DKey × Val))
  | acc, [], [] => some acc
  | acc, k :: ks, v :: vs => match keyOf k with
    | some k => laidK (put acc k v) ks vs
    | none => none
  | _, _, _ => none
def tyOf : Val → Option String
  | .non => some "NoneType" | .bl _ => some "bool" | .int _ => some "int" | .str _ => some "str" | .tup _ => some "tuple"
  | _ => none
def tyIn (S : Store) : Val → Option String
  | .ref r => match S[r]? with
    | some (.lst _) => (some "list")
    | some (.dK _) => some "dict"
    | _ => none
  | v => tyOf v
/-- is it what the method is of -/
def recv (m : Me) (S : Store) (u : Val) : Bool := match m with
  | .join => match u with | .str _ => true | _ => false
  | .split => match u with | .str _ => true | _ => false
  | .get1 => false | .get2 => false
  | _ => (lstOf S u).isSome
mutual
def ev (C : Ctx) : E → Env → Store → R Val
  | .var i, ρ, S => match ρ[i]? with
    | some (some v) => .ok v S
    | _ => .bad
  | .cst v, _, S => .ok v S
  | .lst es, ρ, S => (evs C es ρ S).bind fun vs S => R.op (alloc S vs)
  | .tup es, ρ, S => (evs C es ρ S).bind fun vs S => if vs.length ≤ sizeLine then .ok (.tup vs) S else .bad
  | .bin o a b, ρ, S => (ev C a ρ S).bind fun u S => (ev C b ρ S).bind fun v S => R.op (binop o u v S)
  | .neg a, ρ, S => (ev C a ρ S).bind fun u S => R.of ((intOf u).map fun i => .int (-i)) S
  | .cmp o a b, ρ, S => (ev C a ρ S).bind fun u S => (ev C b ρ S).bind fun v S => R.bl (cmpop o S u v) S
  | .chain o p a b c, ρ, S => (ev C a ρ S).bind fun u S => (ev C b ρ S).bind fun v S => (R.of (cmpop o S u v) S).bind fun k S =>
      if k then (ev C c ρ S).bind fun w S => R.bl (cmpop p S v w) S else .ok (.bl false) S
  | .and a b, ρ, S => (ev C a ρ S).bind fun u S => (R.of (tru S u) S).bind fun k S => if k then ev C b ρ S else .ok u S
  | .or a b, ρ, S => (ev C a ρ S).bind fun u S => (R.of (tru S u) S).bind fun k S => if k then .ok u S else ev C b ρ S
  | .not a, ρ, S => (ev C a ρ S).bind fun u S => R.bl ((tru S u).map (!·)) S
  | .ite c a b, ρ, S => (ev C c ρ S).bind fun u S => (R.of (tru S u) S).bind fun k S => if k then ev C a ρ S else ev C b ρ S
  | .sub a i, ρ, S => (ev C a ρ S).bind fun u S => (ev C i ρ S).bind fun v S => R.of (item S u v) S
  | .slB a lo hi, ρ, S => (ev C a ρ S).bind fun u S => (ev C lo ρ S).bind fun i S => match i with
    | .int i => (ev C hi ρ S).bind fun j S => match j with
      | .int j => R.op (slice S u (some i) (some j))
      | _ => .bad
    | _ => .bad
  | .slL a lo, ρ, S => (ev C a ρ S).bind fun u S => (ev C lo ρ S).bind fun i S => match i with
    | .int i => R.op (slice S u (some i) none)
    | _ => .bad
  | .slH a hi, ρ, S => (ev C a ρ S).bind fun u S => (ev C hi ρ S).bind fun j S => match j with
    | .int j => R.op (slice S u none (some j))
    | _ => .bad
  | .slA a, ρ, S => (ev C a ρ S).bind fun u S => R.op (slice S u none none)
  | .slR a, ρ, S => (ev C a ρ S).bind fun u S => match lstOf S u with
    | some xs => R.op (alloc S xs.reverse)
    | none => .bad
  | .call f es, ρ, S => match C f with
    | some (n, g) => (evs C es ρ S).bind fun us S => if us.length = n then g us S else .bad
    | none => .bad
  | .isi a T, ρ, S => (ev C a ρ S).bind fun u S => R.bl ((tyIn S u).bind fun t => L2.kitB t T) S
  | .pr p es, ρ, S => (evs C es ρ S).bind fun us S => R.op (prim p us S)
  | .me m o es, ρ, S => (ev C o ρ S).bind fun u S => if recv m S u then (evs C es ρ S).bind fun us S => R.op (meth m u us S) else .bad
  | .lc own t k its ifs e, ρ, S => (evs C its ρ S).bind fun us S => match start k us S with
    | none => .bad
    | some iv =>
      (cloop iv.next (fun v S1 => match lay S1 t v (wipeE ρ own) with
        | none => .bad
        | some ρ1 => (evT C ifs ρ1 S1).bind fun b S2 => if b then (ev C e ρ1 S2).bind fun y S3 => push S.length y S3 else .ok () S2)
        (iv.cnt S) 0 (S ++ [.lst []])).bind fun _ S1 => .ok (.ref S.length) S1
  | .dK, _, S => .ok (.ref S.length) (S ++ [.dK []])
  | .dT, _, S => .ok (.ref S.length) (S ++ [.dT []])
  | .dis ks vs, ρ, S => .bad
  | .lrg1 a, ρ, S => (ev C a ρ S).bind fun u S => match u with
    | .int n => if n ≤ 1000000 ∧ -(2 ^ 62) ≤ n then R.op (alloc S (rng 0 n.toNat)) else .bad
    | _ => .bad
  | .lrg2 a b, ρ, S => (ev C a ρ S).bind fun u S => (ev C b ρ S).bind fun v S => match u, v with
    | .int i, .int j => if small62 i && small62 j && decide (j - i ≤ 1000000) then R.op (alloc S (rng i (j - i).toNat)) else .bad
    | _, _ => .bad
def evs (C : Ctx) : List E → Env → Store → R (List Val)
  | [], _, S => .ok [] S
  | e :: es, ρ, S => (ev C e ρ S).bind fun v S => (evs C es ρ S).bind fun vs S => .ok (v :: vs) S
/-- a clause's tests: none or one -/
def evT (C : Ctx) : List E → Env → Store → R Bool
  | [], _, S => .ok true S
  | [e], ρ, S => (ev C e ρ S).bind fun u S => R.of (tru S u) S
  | _, _, _ => .bad
end
/-- how a statement ends -/
inductive SO where
  | nx (ρ : Env) (S : Store) | bk (ρ : Env) (S : Store) | ct (ρ : Env) (S : Store) | rt (v : Val) (S : Store) | ex (c : Nat) (d : Option Nat) (ρ : Env) (S : Store) | bad
def R.st {α : Type} (r : R α) (ρ : Env) (k : α → Store → SO) : SO := match r with
  | .ok a S => k a S
  | .ex c d S => .ex c d ρ S
  | .bad => .bad
@[simp] theorem R.st_ok {α : Type} (a : α) (S : Store) (ρ : Env) (k : α → Store → SO) : (R.ok a S).st ρ k = k a S := Eq.trans rfl rfl
@[simp] theorem R.st_ex {α : Type} (c : Nat) (d : Option Nat) (S : Store) (ρ : Env) (k : α → Store → SO) : (R.ex c d S : R α).st ρ k = .ex c d ρ S := Eq.trans rfl rfl
@[simp] theorem R.st_bad {α : Type} (ρ : Env) (k : α → Store → SO) : (R.bad : R α).st ρ k = .bad := Eq.trans rfl rfl
/-- go on behind a statement -/
def SO.then (o : SO) (k : Env → Store → SO) : SO := match o with
  | .nx ρ S => k ρ S
  | o => o
@[simp] theorem SO.then_nx (ρ : Env) (S : Store) (k : Env → Store → SO) : (SO.nx ρ S).then k = k ρ S := Eq.trans rfl rfl
@[simp] theorem SO.then_bk (ρ : Env) (S : Store) (k : Env → Store → SO) : (SO.bk ρ S).then k = .bk ρ S := Eq.trans rfl rfl
@[simp] theorem SO.then_ct (ρ : Env) (S : Store) (k : Env → Store → SO) : (SO.ct ρ S).then k = .ct ρ S := Eq.trans rfl rfl
@[simp] theorem SO.then_rt (v : Val) (S : Store) (k : Env → Store → SO) : (SO.rt v S).then k = .rt v S := Eq.trans rfl rfl
@[simp] theorem SO.then_ex (c : Nat) (d : Option Nat) (ρ : Env) (S : Store) (k : Env → Store → SO) : (SO.ex c d ρ S).then k = .ex c d ρ S := Eq.trans rfl rfl
@[simp] theorem SO.then_bad (k : Env → Store → SO) : SO.bad.then k = .bad := Eq.trans rfl rfl
/-- a for's turns -/
def floop (nxt : Nat → Store → Option (Option Val)) (body : Val → Env → Store → SO) : Nat → Nat → Env → Store → SO
  | F, k, ρ, S => match nxt k S with
    | none => .bad
    | some none => .nx ρ S
    | some (some v) => match F with
      | 0 => .bad
      | F + 1 => match body v ρ S with
        | .nx ρ' S' => floop nxt body F (k + 1) ρ' S'
        | .ct ρ' S' => floop nxt body F (k + 1) ρ' S'
        | .bk ρ' S' => .nx ρ' S'
        | o => o
def wloop (c : Env → Store → R Bool) (body : Env → Store → SO) : Nat → Env → Store → SO
  | F, ρ, S => (c ρ S).st ρ fun k S => if k then match F with
      | 0 => .bad
      | F + 1 => match body ρ S with
        | .nx ρ' S' => wloop c body F ρ' S'
        | .ct ρ' S' => wloop c body F ρ' S'
        | .bk ρ' S' => .nx ρ' S'
        | o => o
    else .nx ρ S
def itemR (S : Store) (u i : Val) : Option Val := match u with
  | .ref _ => item S u i
  | _ => none
/-- u[i] = v -/
def setop (S : Store) (u i v : Val) : Option Store := match u with
  | .ref r => match S[r]? with
    | some (.lst xs) => match i with
      | .int k => (L2.ixN xs.length k).map fun j => S.set r (.lst (xs.set j v))
      | _ => none
    | some (.dK kvs) => if kvs.length < sizeLine then (keyOf i).map fun k => S.set r (.dK (put kvs k v)) else none
    | some (.dT kvs) => if kvs.length < sizeLine then (keysOf i).map fun k => S.set r (.dT (put kvs k v)) else none
    | _ => none
  | _ => none
mutual
def ex (C : Ctx) : Stm → Env → Store → SO
  | .asg t e, ρ, S => (ev C e ρ S).st ρ fun v S => match lay S t v ρ with
    | some ρ => .nx ρ S
    | none => .bad
  | .set a i e, ρ, S => (ev C e ρ S).st ρ fun v S => (ev C a ρ S).st ρ fun u S => (ev C i ρ S).st ρ fun k S => match setop S u k v with
    | some S => .nx ρ S
    | none => .bad
  | .aug i o e, ρ, S => match ρ[i]? with
    | some (some (.int a)) => (ev C e ρ S).st ρ fun v S => match o, v with
      | .add, .int b => .nx (ρ.set i (some (.int (a + b)))) S
      | .sub, .int b => .nx (ρ.set i (some (.int (a - b)))) S
      | _, _ => .bad
    | _ => .bad
  | .augS a i o e, ρ, S => (ev C a ρ S).st ρ fun u S => (ev C i ρ S).st ρ fun k S => match itemR S u k with
    | some (.int x) => (ev C e ρ S).st ρ fun v S => match o, v with
      | .add, .int b => match setop S u k (.int (x + b)) with
        | some S => .nx ρ S
        | none => .bad
      | .sub, .int b => match setop S u k (.int (x - b)) with
        | some S => .nx ρ S
        | none => .bad
      | _, _ => .bad
    | _ => .bad
  | .exp e, ρ, S => (ev C e ρ S).st ρ fun _ S => .nx ρ S
  | .ret e, ρ, S => (ev C e ρ S).st ρ fun v S => .rt v S
  | .retn, _, S => .rt .non S
  | .pass, ρ, S => .nx ρ S
  | .brk, ρ, S => .bk ρ S
  | .cnt, ρ, S => .ct ρ S
  | .ifS c p q, ρ, S => (evT C [c] ρ S).st ρ fun k S => if k then exs C p ρ S else exs C q ρ S
  | .whl c p, ρ, S => wloop (fun ρ S => evT C [c] ρ S) (fun ρ S => exs C p ρ S) wmax ρ S
  | .for t k its p, ρ, S => (evs C its ρ S).st ρ fun us S => match start k us S with
    | none => .bad
    | some iv => floop iv.next (fun v ρ S => match lay S t v ρ with
        | some ρ => exs C p ρ S
        | none => .bad) (iv.cnt S) 0 ρ S
  | .raise c, ρ, S => .bad
  | .tri p c q, ρ, S => .bad
def exs (C : Ctx) : List Stm → Env → Store → SO
  | [], ρ, S => .nx ρ S
  | s :: r, ρ, S => (ex C s ρ S).then fun ρ S => exs C r ρ S
end
/-- a def: its slots, its body -/
def run (C : Ctx) (n : Nat) (body : List Stm) : Sem := fun us S => match exs C body (us.map some ++ List.replicate (n - us.length) none) S with
  | .nx _ S => .ok .non S
  | .rt v S => .ok v S
  | .ex c d _ S => .ex c d S
  | _ => .bad
end Mi
namespace Mi
open PySem L2
/-! ### the store and the tracked heap -/
def ImL (K : PySem.W.Frag) (H : Hp) (a : Addr) (xs : List V) : Prop := (∃ o, H a = some (.frz o (.lst xs))) ∨ SqL K (fun _ => none) a xs
theorem ImL.sq {K : PySem.W.Frag} {H : Hp} {a : Addr} {xs : List V} (h : ImL K H a xs) : SqL K H a xs := by
  rcases h with h | h
  · exact .inl (.inr h)
  · rcases h with (h | ⟨_, h⟩) | h
    · cases h
    · cases h
    · exact .inr h
theorem ImL.of {K : PySem.W.Frag} {H : Hp} {a : Addr} {xs : List V} (hO : Only H) (h : SqL K H a xs) : ImL K H a xs := by
  rcases h with (h | ⟨o, h⟩) | h -- (here)
  · rcases hO a with z | ⟨o, ys, z⟩
    · rw [h] at z; cases z
    · rw [h] at z; cases z
  · exact .inl ⟨o, h⟩
  · exact .inr (.inr h)
mutual
def RV (K : PySem.W.Frag) (m : List Addr) (H : Hp) : Val → V → Prop
  | .non, v => v = .non
  | .bl b, v => v = .bl b
  | .int i, v => v = .int i
  | .str x, v => v = .str x
  | .ty n, v => v = .ty n
  | .ref i, v => ∃ a, m[i]? = some a ∧ v = .ref a
  | .tup us, v => ∃ a vs, v = .ref a ∧ H a = some (.tup vs) ∧ RVs K m H us vs
  | .fro us, v => ∃ a vs, v = .ref a ∧ ImL K H a vs ∧ RVs K m H us vs
def RVs (K : PySem.W.Frag) (m : List Addr) (H : Hp) : List Val → List V → Prop
  | [], vs => vs = []
  | u :: us, vs => ∃ v r, vs = v :: r ∧ RV K m H u v ∧ RVs K m H us r
end
structure Ext (m : List Addr) (H : Hp) (m' : List Addr) (H' : Hp) : Prop where
  pre : m <+: m'
  tup : ∀ a xs, H a = some (.tup xs) → H' a = some (.tup xs)
  frz : ∀ a o u, H a = some (.frz o u) → H' a = some (.frz o u)
section
variable {K : PySem.W.Frag} {m m' m'' : List Addr} {H H' H'' : Hp}
theorem Ext.refl : Ext m H m H := ⟨List.prefix_refl _, fun _ _ h => h, fun _ _ _ h => h⟩
theorem Ext.trans (a : Ext m H m' H') (b : Ext m' H' m'' H'') : Ext m H m'' H'' :=
  ⟨a.pre.trans b.pre, fun c xs h => b.tup c xs (a.tup c xs h), fun c o u h => b.frz c o u (a.frz c o u h)⟩
theorem Ext.ix (e : Ext m H m' H') {i : Nat} {a : Addr} (h : m[i]? = some a) : m'[i]? = some a := by
  obtain ⟨t, rfl⟩ := e.pre
  rw [List.getElem?_append_left (List.getElem?_eq_some_iff.mp h).1]
  exact h
theorem Ext.sqT (e : Ext m H m' H') {a : Addr} {xs : List V} (h : SqT K H a xs) : SqT K H' a xs := by
  rcases h with (h | ⟨o, h⟩) | h -- (here)
  · exact .inl (.inl (e.tup _ _ h))
  · exact .inl (.inr ⟨o, e.frz _ _ _ h⟩)
  · exact .inr h
theorem Ext.imL (e : Ext m H m' H') {a : Addr} {xs : List V} (h : ImL K H a xs) : ImL K H' a xs := by
  rcases h with ⟨o, h⟩ | h
  · exact .inl ⟨o, e.frz _ _ _ h⟩
  · exact .inr h
mutual
theorem RV.ext (e : Ext m H m' H') : ∀ {u : Val} {v : V}, RV K m H u v → RV K m' H' u v
  | .non, _, h => h
  | .bl _, _, h => h
  | .int _, _, h => h
  | .str _, _, h => h
  | .ty _, _, h => h
  | .ref _, _, ⟨a, h, q⟩ => ⟨a, e.ix h, q⟩
  | .tup us, _, ⟨a, vs, q, h, r⟩ => ⟨a, vs, q, e.tup _ _ h, RVs.ext e r⟩
  | .fro us, _, ⟨a, vs, q, h, r⟩ => ⟨a, vs, q, e.imL h, RVs.ext e r⟩
theorem RVs.ext (e : Ext m H m' H') : ∀ {us : List Val} {vs : List V}, RVs K m H us vs → RVs K m' H' us vs
  | [], _, h => h
  | u :: us, _, ⟨v, r, q, h, t⟩ => ⟨v, r, q, RV.ext e h, RVs.ext e t⟩
end
theorem RVs.nil : RVs K m H [] [] := rfl
theorem RVs.cons {u : Val} {v : V} {us : List Val} {vs : List V} (h : RV K m H u v) (t : RVs K m H us vs) : RVs K m H (u :: us) (v :: vs) := ⟨v, vs, rfl, h, t⟩
theorem RVs.len : ∀ {us : List Val} {vs : List V}, RVs K m H us vs → us.length = vs.length
  | [], _, h => by rw [h]; rfl
  | _ :: us, _, ⟨v, r, q, _, t⟩ => by rw [q, List.length_cons, List.length_cons, RVs.len t]
theorem RVs.get : ∀ {us : List Val} {vs : List V} {i : Nat} {u : Val}, RVs K m H us vs → us[i]? = some u → ∃ v, vs[i]? = some v ∧ RV K m H u v
  | [], _, _, _, _, e => by simp at e
  | w :: us, _, 0, u, ⟨v, r, q, h, _⟩, e => by
    simp at e; subst e; subst q
    exact ⟨v, rfl, h⟩
  | w :: us, _, i + 1, u, ⟨v, r, q, _, t⟩, e => by
    subst q
    obtain ⟨x, h1, h2⟩ := RVs.get (i := i) t (by simpa using e)
    exact ⟨x, by simpa using h1, h2⟩ -- (here)
theorem RVs.none {us : List Val} {vs : List V} {i : Nat} (h : RVs K m H us vs) (e : us[i]? = none) : vs[i]? = none := by
  have := h.len
  rw [List.getElem?_eq_none_iff] at e ⊢
  omega
theorem RVs.append : ∀ {us ws : List Val} {vs xs : List V}, RVs K m H us vs → RVs K m H ws xs → RVs K m H (us ++ ws) (vs ++ xs)
  | [], _, _, _, h, t => by rw [h]; exact t
  | _ :: us, _, _, _, ⟨v, r, q, h, t⟩, s => by
    subst q
    exact ⟨v, r ++ _, rfl, h, RVs.append t s⟩
theorem RVs.take : ∀ (n : Nat) {us : List Val} {vs : List V}, RVs K m H us vs → RVs K m H (us.take n) (vs.take n)
  | 0, _, _, _ => rfl
  | _ + 1, [], _, h => by rw [h]; rfl
  | n + 1, _ :: us, _, ⟨v, r, q, h, t⟩ => by
    subst q
    exact ⟨v, r.take n, rfl, h, RVs.take n t⟩
theorem RVs.drop : ∀ (n : Nat) {us : List Val} {vs : List V}, RVs K m H us vs → RVs K m H (us.drop n) (vs.drop n)
  | 0, _, _, h => h
  | _ + 1, [], _, h => by rw [h]; rfl
  | n + 1, _ :: us, _, ⟨v, r, q, h, t⟩ => by
    subst q
    exact RVs.drop n t
theorem RVs.set {u : Val} {v : V} (r : RV K m H u v) : ∀ (i : Nat) {us : List Val} {vs : List V}, RVs K m H us vs → RVs K m H (us.set i u) (vs.set i v)
  | _, [], _, h => by rw [h]; rfl
  | 0, _ :: us, _, ⟨w, t, q, _, h⟩ => by subst q; exact ⟨v, t, rfl, r, h⟩
  | i + 1, _ :: us, _, ⟨w, t, q, g, h⟩ => by subst q; exact ⟨w, t.set i v, rfl, g, RVs.set r i h⟩
theorem RVs.reverse : ∀ {us : List Val} {vs : List V}, RVs K m H us vs → RVs K m H us.reverse vs.reverse
  | [], _, h => by rw [h]; rfl
  | _ :: us, _, ⟨w, t, q, g, h⟩ => by
    subst q
    rw [List.reverse_cons, List.reverse_cons]; exact (RVs.reverse h).append (RVs.cons g RVs.nil)
theorem RVs.dropLast : ∀ {us : List Val} {vs : List V}, RVs K m H us vs → RVs K m H us.dropLast vs.dropLast := fun {us vs} h => by
  rw [List.dropLast_eq_take, List.dropLast_eq_take, h.len]
  exact h.take _
theorem RVs.eraseIdx : ∀ (i : Nat) {us : List Val} {vs : List V}, RVs K m H us vs → RVs K m H (us.eraseIdx i) (vs.eraseIdx i)
  | _, [], _, h => by rw [h]; rfl
  | 0, _ :: us, _, ⟨w, t, q, _, h⟩ => by subst q; exact h
  | i + 1, _ :: us, _, ⟨w, t, q, g, h⟩ => by subst q; exact ⟨w, t.eraseIdx i, rfl, g, RVs.eraseIdx i h⟩
theorem RVs.rep {us : List Val} {vs : List V} (h : RVs K m H us vs) : ∀ k : Nat, RVs K m H (List.replicate k us).flatten (List.replicate k vs).flatten
  | 0 => rfl
  | k + 1 => by
    rw [List.replicate_succ, List.replicate_succ, List.flatten_cons, List.flatten_cons]; exact h.append (RVs.rep h k)
/-- pairs of a key and a value -/
def RKV {κ : Type} (K : PySem.W.Frag) (m : List Addr) (H : Hp) : List (κ × Val) → List (κ × V) → Prop
  | [], ws => ws = []
  | p :: ps, ws => ∃ v r, ws = (p.1, v) :: r ∧ RV K m H p.2 v ∧ RKV K m H ps r
theorem RKV.ext {κ : Type} (e : Ext m H m' H') : ∀ {us : List (κ × Val)} {vs : List (κ × V)}, RKV K m H us vs → RKV K m' H' us vs
  | [], _, h => h
  | u :: us, _, ⟨v, r, q, h, t⟩ => ⟨v, r, q, RV.ext e h, RKV.ext e t⟩
theorem RKV.len {κ : Type} : ∀ {us : List (κ × Val)} {vs : List (κ × V)}, RKV K m H us vs → us.length = vs.length
  | [], _, h => by rw [h]; rfl
  | _ :: us, _, ⟨v, r, q, _, t⟩ => by rw [q, List.length_cons, List.length_cons, RKV.len t]
def ROV (K : PySem.W.Frag) (m : List Addr) (H : Hp) : Option Val → Option V → Prop
  | some u, z => ∃ v, z = some v ∧ RV K m H u v
  | none, z => z = none
theorem RKV.look {κ : Type} [DecidableEq κ] (k : κ) : ∀ {us : List (κ × Val)} {vs : List (κ × V)}, RKV K m H us vs → ROV K m H (look us k) (valV vs k)
  | [], _, h => by rw [h]; rfl
  | p :: us, _, ⟨v, r, q, h, t⟩ => by
    subst q
    have ih := RKV.look k t
    by_cases e : p.1 = k
    · have e1 : Mi.look (p :: us) k = some p.2 := by simp [Mi.look, List.find?_cons, e]
      rw [e1]
      exact ⟨v, by simp [valV, List.find?_cons, e], h⟩
    · have e1 : Mi.look (p :: us) k = Mi.look us k := by simp [Mi.look, List.find?_cons, e]
      have e2 : valV ((p.1, v) :: r) k = valV r k := by simp [valV, List.find?_cons, e]
      rw [e1, e2]
      exact ih
theorem RKV.any {κ : Type} [DecidableEq κ] (k : κ) : ∀ {us : List (κ × Val)} {vs : List (κ × V)}, RKV K m H us vs → (us.any fun kv => decide (kv.1 = k)) = vs.any fun kv => decide (kv.1 = k)
  | [], _, h => by rw [h]; rfl
  | p :: us, _, ⟨v, r, q, h, t⟩ => by
    subst q
    rw [List.any_cons, List.any_cons, RKV.any k t]
theorem RKV.append {κ : Type} : ∀ {us ws : List (κ × Val)} {vs xs : List (κ × V)}, RKV K m H us vs → RKV K m H ws xs → RKV K m H (us ++ ws) (vs ++ xs)
  | [], _, _, _, h, t => by rw [h]; exact t
  | _ :: us, _, _, _, ⟨v, r, q, h, t⟩, s => by
    subst q
    exact ⟨v, r ++ _, rfl, h, RKV.append t s⟩
theorem RKV.repl {κ : Type} [DecidableEq κ] (k : κ) {u : Val} {v : V} (ru : RV K m H u v) : ∀ {us : List (κ × Val)} {vs : List (κ × V)}, RKV K m H us vs →
    RKV K m H (us.map fun kv => if kv.1 = k then (kv.1, u) else kv) (vs.map fun kv => if kv.1 = k then (kv.1, v) else kv)
  | [], _, h => by rw [h]; rfl
  | p :: us, _, ⟨w, r, q, h, t⟩ => by
    subst q
    rw [List.map_cons, List.map_cons]; by_cases e : p.1 = k
    · rw [if_pos e, if_pos (show (p.1, w).1 = k from e)]
      exact ⟨v, _, rfl, ru, RKV.repl k ru t⟩
    · rw [if_neg e, if_neg (show ¬ (p.1, w).1 = k from e)]
      exact ⟨w, _, rfl, h, RKV.repl k ru t⟩
theorem RKV.put {κ : Type} [DecidableEq κ] (k : κ) {u : Val} {v : V} (ru : RV K m H u v) {us : List (κ × Val)} {vs : List (κ × V)} (h : RKV K m H us vs) : RKV K m H (put us k u) (putK vs k v) := by
  unfold Mi.put putK
  rw [RKV.any k h]
  split
  · exact h.repl k ru
  · exact h.append ⟨v, [], rfl, ru, rfl⟩
/-- what stands at an address -/
def OR (K : PySem.W.Frag) (m : List Addr) (H : Hp) : Ob → HO → Prop
  | .lst us, o => ∃ vs, o = .lst vs ∧ RVs K m H us vs
  | .dK kvs, o => ∃ ws, o = .dK ws ∧ RKV K m H kvs ws
  | .dT kvs, o => ∃ ws, o = .dT ws ∧ RKV K m H kvs ws
  | .xd kvs, o => ∃ ws, o = .xd ws ∧ RKV K m H kvs ws
theorem OR.ext (e : Ext m H m' H') {b : Ob} {o : HO} (h : OR K m H b o) : OR K m' H' b o := by
  cases b with
  | lst us => obtain ⟨vs, q, r⟩ := h; exact ⟨vs, q, r.ext e⟩
  | dK us => obtain ⟨vs, q, r⟩ := h; exact ⟨vs, q, r.ext e⟩
  | dT us => obtain ⟨vs, q, r⟩ := h; exact ⟨vs, q, r.ext e⟩
  | xd us => obtain ⟨vs, q, r⟩ := h; exact ⟨vs, q, r.ext e⟩
theorem OR.live {b : Ob} {o : HO} (h : OR K m H b o) : (∀ xs, o ≠ .tup xs) ∧ ∀ ob u, o ≠ .frz ob u := by
  cases b with
  | lst us => obtain ⟨vs, q, r⟩ := h; subst q; exact ⟨fun _ z => (nomatch z), fun _ _ z => (nomatch z)⟩
  | dK us => obtain ⟨vs, q, r⟩ := h; subst q; exact ⟨fun _ z => (nomatch z), fun _ _ z => (nomatch z)⟩
  | dT us => obtain ⟨vs, q, r⟩ := h; subst q; exact ⟨fun _ z => (nomatch z), fun _ _ z => (nomatch z)⟩
  | xd us => obtain ⟨vs, q, r⟩ := h; subst q; exact ⟨fun _ z => (nomatch z), fun _ _ z => (nomatch z)⟩
structure Rel (K : PySem.W.Frag) (m : List Addr) (S : Store) (H : Hp) : Prop where
  len : m.length = S.length
  nd : m.Nodup
  ob : ∀ (i : Nat) b a, S[i]? = some b → m[i]? = some a → ∃ o, H a = some o ∧ OR K m H b o
variable {S S' : Store}
theorem Rel.obj (r : Rel K m S H) {i : Nat} {b : Ob} (h : S[i]? = some b) : ∃ a o, m[i]? = some a ∧ H a = some o ∧ OR K m H b o := by
  have hi : i < m.length := by rw [r.len]; exact (List.getElem?_eq_some_iff.mp h).1
  obtain ⟨o, h1, h2⟩ := r.ob i b m[i] h (List.getElem?_eq_getElem hi)
  exact ⟨m[i], o, List.getElem?_eq_getElem hi, h1, h2⟩
theorem Rel.inj (r : Rel K m S H) {i j : Nat} {a : Addr} (h1 : m[i]? = some a) (h2 : m[j]? = some a) : i = j := by
  obtain ⟨p, e1⟩ := List.getElem?_eq_some_iff.mp h1
  obtain ⟨q, e2⟩ := List.getElem?_eq_some_iff.mp h2
  exact (List.getElem_inj r.nd).mp (e1.trans e2.symm)
theorem Rel.notin (r : Rel K m S H) {p : Addr} (hp : H p = none) : p ∉ m := fun hm => by
  obtain ⟨i, hi, e⟩ := List.mem_iff_getElem.mp hm
  have hS : i < S.length := by rw [← r.len]; exact hi
  obtain ⟨o, h1, _⟩ := r.ob i S[i] p (List.getElem?_eq_getElem hS) (by rw [List.getElem?_eq_getElem hi, e])
  rw [hp] at h1; cases h1
theorem ext_new {p : Addr} {o : HO} (hp : H p = none) : Ext m H (m ++ [p]) (upd H p o) :=
  ⟨List.prefix_append _ _, fun a xs h => by rw [upd_ne (ne_of_none h hp)]; exact h, fun a ob u h => by rw [upd_ne (ne_of_none h hp)]; exact h⟩
theorem ext_upd {p : Addr} {o : HO} (hp : H p = none) : Ext m H m (upd H p o) :=
  ⟨List.prefix_refl _, fun a xs h => by rw [upd_ne (ne_of_none h hp)]; exact h, fun a ob u h => by rw [upd_ne (ne_of_none h hp)]; exact h⟩
/-- an object that is in no store -/
theorem Rel.side (r : Rel K m S H) {p : Addr} {o : HO} (hp : H p = none) : Rel K m S (upd H p o) := by
  refine ⟨r.len, r.nd, fun i b a h1 h2 => ?_⟩
  obtain ⟨o', h3, h4⟩ := r.ob i b a h1 h2
  exact ⟨o', by rw [upd_ne (ne_of_none h3 hp)]; exact h3, h4.ext (ext_upd hp)⟩
/-- a new object -/
theorem Rel.new (r : Rel K m S H) {p : Addr} {b : Ob} {o : HO} (hp : H p = none) (h : OR K m H b o) : Rel K (m ++ [p]) (S ++ [b]) (upd H p o) := by
  refine ⟨by simp [r.len], ?_, fun i c a h1 h2 => ?_⟩
  · rw [List.nodup_append]
    refine ⟨r.nd, List.nodup_cons.mpr ⟨by simp, List.nodup_nil⟩, fun x hx y hy => ?_⟩
    have : y = p := by simpa using hy
    subst this
    intro e
    subst e
    exact r.notin hp hx
  · by_cases hi : i < S.length
    · rw [List.getElem?_append_left hi] at h1
      rw [List.getElem?_append_left (by rw [r.len]; exact hi)] at h2
      obtain ⟨o', h3, h4⟩ := r.ob i c a h1 h2
      exact ⟨o', by rw [upd_ne (ne_of_none h3 hp)]; exact h3, h4.ext (ext_new hp)⟩
    · have e : i = S.length := by
        have := (List.getElem?_eq_some_iff.mp h1).1
        simp at this
        omega
      subst e
      rw [List.getElem?_append_right (Nat.le_refl _)] at h1
      rw [List.getElem?_append_right (by rw [r.len]; exact Nat.le_refl _)] at h2
      simp [r.len] at h1 h2
      subst h1; subst h2
      exact ⟨o, upd_same, h.ext (ext_new hp)⟩
theorem Rel.last (r : Rel K m S H) {p : Addr} : (m ++ [p])[S.length]? = some p := by
  rw [List.getElem?_append_right (by rw [r.len]; exact Nat.le_refl _)]
  simp [r.len]
/-- an object changed -/
theorem Rel.ext_set (r : Rel K m S H) {i : Nat} {a : Addr} {b : Ob} {o : HO} (h1 : S[i]? = some b) (h2 : m[i]? = some a) : Ext m H m (upd H a o) := by
  obtain ⟨o', h3, h4⟩ := r.ob i b a h1 h2
  have hl := h4.live
  refine ⟨List.prefix_refl _, fun c xs h => ?_, fun c ob u h => ?_⟩
  · rw [upd_ne (fun e => by subst e; rw [h3] at h; exact hl.1 xs (Option.some.inj h))]; exact h
  · rw [upd_ne (fun e => by subst e; rw [h3] at h; exact hl.2 ob u (Option.some.inj h))]; exact h
theorem Rel.set (r : Rel K m S H) {i : Nat} {a : Addr} {b c : Ob} {o : HO} (h1 : S[i]? = some b) (h2 : m[i]? = some a) (h : OR K m H c o) : Rel K m (S.set i c) (upd H a o) := by
  have e := r.ext_set (o := o) h1 h2
  refine ⟨by simp [r.len], r.nd, fun j d q h3 h4 => ?_⟩
  by_cases hj : i = j
  · subst hj
    rw [h2] at h4
    have e4 := Option.some.inj h4
    subst e4
    rw [List.getElem?_set_self (List.getElem?_eq_some_iff.mp h1).1] at h3
    have e3 := Option.some.inj h3
    subst e3
    exact ⟨o, upd_same, h.ext e⟩
  · rw [List.getElem?_set_ne hj] at h3
    obtain ⟨o', h5, h6⟩ := r.ob j d q h3 h4
    refine ⟨o', ?_, h6.ext e⟩
    rw [upd_ne (fun z => hj (by subst z; exact r.inj h2 h4))]
    exact h5
/-- lists read -/
theorem Rel.lst (r : Rel K m S H) {u : Val} {v : V} {xs : List Val} (h : lstOf S u = some xs) (ru : RV K m H u v) : ∃ a vs, v = .ref a ∧ SqL K H a vs ∧ RVs K m H xs vs := by
  unfold lstOf at h
  split at h
  · rename_i i
    split at h
    · rename_i ys hS
      cases h
      obtain ⟨a, hm, rfl⟩ := ru
      obtain ⟨o, h1, vs, rfl, h2⟩ := r.ob _ _ _ hS hm
      exact ⟨a, vs, rfl, .of h1, h2⟩
    · cases h
  · cases h
    obtain ⟨a, vs, rfl, h1, h2⟩ := ru
    exact ⟨a, vs, rfl, h1.sq, h2⟩
  · cases h
theorem Rel.lstM (r : Rel K m S H) {i : Nat} {v : V} {xs : List Val} (h : S[i]? = some (.lst xs)) (ru : RV K m H (.ref i) v) : ∃ a vs, v = .ref a ∧ m[i]? = some a ∧ H a = some (.lst vs) ∧ RVs K m H xs vs := by
  obtain ⟨a, hm, rfl⟩ := ru
  obtain ⟨o, h1, vs, rfl, h2⟩ := r.ob _ _ _ h hm
  exact ⟨a, vs, rfl, hm, h1, h2⟩
theorem Rel.seq (r : Rel K m S H) {u : Val} {v : V} {xs : List Val} (h : seqOf S u = some xs) (ru : RV K m H u v) : ∃ a vs, v = .ref a ∧ (SqL K H a vs ∨ SqT K H a vs) ∧ RVs K m H xs vs := by
  unfold seqOf at h
  split at h
  · cases h
    obtain ⟨a, vs, rfl, h1, h2⟩ := ru
    exact ⟨a, vs, rfl, .inr (.of h1), h2⟩
  · obtain ⟨a, vs, e, h1, h2⟩ := r.lst h ru
    exact ⟨a, vs, e, .inl h1, h2⟩
end
end Mi
namespace Mi
open PySem L2
/-! ### operators keep the relation -/
def PO' (K : PySem.W.Frag) (m : List Addr) (H : Hp) (o : P) (Q : VK) : Prop := match o with
  | some (v, S) => ∀ m' H' z, Ext m H m' H' → Rel K m' S H' → RV K m' H' v z → Q z H'
  | none => False
def OB (K : PySem.W.Frag) (H : Hp) (o : Option Bool) (Q : VK) : Prop := match o with
  | some b => Q (.bl b) H
  | none => False
def OV (K : PySem.W.Frag) (m : List Addr) (H : Hp) (o : Option Val) (Q : VK) : Prop := match o with
  | some u => ∀ z, RV K m H u z → Q z H
  | none => False
section
variable {K : PySem.W.Frag} {m : List Addr} {H : Hp} {S : Store}
theorem po_same {v : Val} {z : V} {Q : VK} (h : PO' K m H (some (v, S)) Q) (r : Rel K m S H) (rv : RV K m H v z) : Q z H := h m H z .refl r rv
theorem po_alloc {us : List Val} {vs : List V} {Q : VK} (h : PO' K m H (alloc S us) Q) (r : Rel K m S H) (rv : RVs K m H us vs) :
    vs.length ≤ sizeLine ∧ ∀ p, H p = none → Q (.ref p) (upd H p (.lst vs)) := by
  unfold alloc at h
  split at h
  · rename_i hl
    refine ⟨by rw [← rv.len]; exact hl, fun p hp => ?_⟩
    exact h (m ++ [p]) _ _ (ext_new hp) (r.new hp (b := .lst us) ⟨vs, rfl, rv⟩) ⟨p, r.last, rfl⟩
  · exact h.elim
theorem po_set {i : Nat} {a : Addr} {b c : Ob} {o : HO} {v : Val} {z : V} {Q : VK} (h : PO' K m H (some (v, S.set i c)) Q) (r : Rel K m S H) (h1 : S[i]? = some b) (h2 : m[i]? = some a) (hc : OR K m H c o) (rv : RV K m H v z) :
    Q z (upd H a o) := h m _ z (r.ext_set h1 h2) (r.set h1 h2 hc) (rv.ext (r.ext_set h1 h2))
theorem rv_ints : ∀ {us : List Val} {ns : List Int} {vs : List V}, intsOf us = some ns → RVs K m H us vs → vs = ns.map V.int
  | [], ns, vs, h, r => by cases h; exact r
  | .int i :: us, ns, vs, h, ⟨v, t, q, rv, rt⟩ => by
    unfold intsOf at h
    cases e : intsOf us with
    | none => (rw [e] at h; cases h)
    | some ks =>
      rw [e] at h
      cases h
      have ih := rv_ints e rt
      subst q ih
      rw [show v = .int i from rv]
      rfl
  | .non :: _, _, _, h, _ => by cases h
  | .bl _ :: _, _, _, h, _ => by cases h
  | .str _ :: _, _, _, h, _ => by cases h
  | .ty _ :: _, _, _, h, _ => by cases h
  | .ref _ :: _, _, _, h, _ => by cases h
  | .tup _ :: _, _, _, h, _ => by cases h
  | .fro _ :: _, _, _, h, _ => by cases h
theorem rv_bls : ∀ {us : List Val} {ns : List Bool} {vs : List V}, blsOf us = some ns → RVs K m H us vs → vs = ns.map V.bl
  | [], ns, vs, h, r => by cases h; exact r
  | .bl i :: us, ns, vs, h, ⟨v, t, q, rv, rt⟩ => by
    unfold blsOf at h
    cases e : blsOf us with
    | none => (rw [e] at h; cases h)
    | some ks =>
      rw [e] at h
      cases h
      have ih := rv_bls e rt
      subst q ih
      rw [show v = .bl i from rv]
      rfl
  | .non :: _, _, _, h, _ => by cases h
  | .int _ :: _, _, _, h, _ => by cases h
  | .str _ :: _, _, _, h, _ => by cases h
  | .ty _ :: _, _, _, h, _ => by cases h
  | .ref _ :: _, _, _, h, _ => by cases h
  | .tup _ :: _, _, _, h, _ => by cases h
  | .fro _ :: _, _, _, h, _ => by cases h
theorem rvs_ints : ∀ ns : List Int, RVs K m H (ns.map .int) (ns.map V.int)
  | [] => rfl
  | n :: ns => ⟨_, _, rfl, rfl, rvs_ints ns⟩
theorem rv_flat : ∀ {u : Val} {v : V}, flat u = true → RV K m H u v → flatV v = true
  | .non, _, _, h => by rw [show _ = V.non from h]; rfl
  | .bl _, _, _, h => by rw [show _ = V.bl _ from h]; rfl
  | .int _, _, _, h => by rw [show _ = V.int _ from h]; rfl
  | .str _, _, _, h => by rw [show _ = V.str _ from h]; rfl
  | .ty _, _, e, _ => by cases e
  | .ref _, _, e, _ => by cases e
  | .tup _, _, e, _ => by cases e
  | .fro _, _, e, _ => by cases e
theorem rv_feq : ∀ {u w : Val} {v z : V}, flat u = true → flat w = true → RV K m H u v → RV K m H w z → eqV v z = feq u w := by
  intro u w v z hu hw rv rz
  cases u <;> first | (exact Bool.noConfusion hu) | skip
  all_goals (cases w <;> first | (exact Bool.noConfusion hw) | skip)
  all_goals (rw [show v = _ from rv, show z = _ from rz]; rfl)
theorem rvs_flat : ∀ {us : List Val} {vs : List V}, us.all flat = true → RVs K m H us vs → vs.all flatV = true
  | [], _, _, h => by rw [show _ = [] from h]; rfl
  | u :: us, _, e, ⟨v, t, q, rv, rt⟩ => by
    subst q
    rw [List.all_cons, Bool.and_eq_true] at e ⊢
    exact ⟨rv_flat e.1 rv, rvs_flat e.2 rt⟩
theorem rvs_any {u : Val} {v : V} (hu : flat u = true) (ru : RV K m H u v) : ∀ {us : List Val} {vs : List V}, us.all flat = true → RVs K m H us vs → inV v vs = us.any fun y => feq y u
  | [], _, _, h => by rw [show _ = [] from h]; rfl
  | w :: us, _, e, ⟨z, t, q, rv, rt⟩ => by
    subst q
    rw [List.all_cons, Bool.and_eq_true] at e
    show ((eqV z v) || inV v t) = _
    rw [rvs_any hu ru e.2 rt, List.any_cons, rv_feq e.1 hu rv ru]
/-- data -/
theorem dat_dp (r : Rel K m S H) : ∀ (n : Nat) {u : Val} {v : V} {d : PyData}, dat S n u = some d → RV K m H u v → Dp K H v d ∧ d.canLay0 = true ∧ d.depth ≤ n
  | 0, _, _, _, h, _ => by cases h
  | n + 1, u, v, d, h, rv => by
    have list : ∀ {us : List Val} {vs : List V} {ds : List PyData}, allSome (us.map (dat S n)) = some ds → RVs K m H us vs → DpAll K H vs ds ∧ PyData.canLayAll0 ds = true ∧ PyData.depthAll ds ≤ n := by
      intro us
      induction us with
      | nil => intro vs ds h r; cases h; rw [show vs = [] from r]; exact ⟨.nil, rfl, Nat.zero_le _⟩
      | cons w us ih =>
        intro vs ds h rr
        obtain ⟨z, t, q, rw', rt⟩ := rr
        subst q
        rw [List.map_cons] at h
        cases e : dat S n w with
        | none => (rw [e] at h; cases h)
        | some d1 =>
          rw [e] at h
          unfold allSome at h
          cases e2 : allSome (us.map (dat S n)) with
          | none => rw [e2] at h; cases h
          | some ds1 =>
            rw [e2] at h
            cases h
            obtain ⟨a1, a2, a3⟩ := dat_dp r n e rw'
            obtain ⟨b1, b2, b3⟩ := ih e2 rt
            refine ⟨.cons a1 b1, ?_, ?_⟩
            · show (d1.canLay0 && PyData.canLayAll0 ds1) = true
              rw [a2, b2]; rfl
            · show max d1.depth (PyData.depthAll ds1) ≤ n
              omega
    have fin : ∀ {us : List Val} {f : List PyData → PyData} {d : PyData}, (allSome (us.map (dat S n))).map f = some d → ∃ ds, allSome (us.map (dat S n)) = some ds ∧ d = f ds := by
      intro us f d h
      cases e : allSome (us.map (dat S n)) with
      | none => (rw [e] at h; cases h)
      | some ds => rw [e] at h; cases h; exact ⟨ds, rfl, rfl⟩
    unfold dat at h
    split at h
    · cases h; rw [show v = .non from rv]; exact ⟨.non, rfl, Nat.zero_le _⟩
    · cases h; rw [show v = .bl _ from rv]; exact ⟨.bl _, rfl, Nat.zero_le _⟩
    · cases h; rw [show v = .int _ from rv]; exact ⟨.int _, rfl, Nat.zero_le _⟩
    · obtain ⟨ds, e, rfl⟩ := fin h
      obtain ⟨a, vs, rfl, h1, h2⟩ := rv
      obtain ⟨b1, b2, b3⟩ := list e h2
      exact ⟨.tup (.of h1) b1, b2, Nat.succ_le_succ b3⟩
    · obtain ⟨ds, e, rfl⟩ := fin h
      obtain ⟨a, vs, rfl, h1, h2⟩ := rv
      obtain ⟨b1, b2, b3⟩ := list e h2
      exact ⟨.lst h1.sq b1, b2, Nat.succ_le_succ b3⟩
    · split at h
      · rename_i xs hS
        obtain ⟨ds, e, rfl⟩ := fin h
        obtain ⟨a, vs, rfl, _, h1, h2⟩ := r.lstM hS rv
        obtain ⟨b1, b2, b3⟩ := list e h2
        exact ⟨.lst (.of h1) b1, b2, Nat.succ_le_succ b3⟩
      · cases h
    · cases h
theorem dat_shaped (r : Rel K m S H) {u : Val} {v : V} {d : PyData} (h : dat S deep u = some d) (rv : RV K m H u v) : Dp K H v d ∧ SeqAt.shaped d = true := by
  obtain ⟨h1, h2, h3⟩ := dat_dp r deep h rv
  refine ⟨h1, ?_⟩
  unfold SeqAt.shaped
  rw [h2, Bool.true_and]
  exact decide_eq_true (Nat.le_trans h3 (by decide))
end
section
variable {X : Cx}
theorem or_bin (o : O2) (p : Operator) (hp : p = match o with | .add => .Add | .sub => .Sub | .mul => .Mult | .fdiv => .FloorDiv | .mod => .Mod | .pow => .Pow) :
    OpR X (binaryOp p) (fun x y H Q => ∃ m S u v, Rel X.K m S H ∧ RV X.K m H u x ∧ RV X.K m H v y ∧ PO' X.K m H (binop o u v S) Q) := by
  subst hp
  intro pins s σ H x y v u Q I rx ry h; obtain ⟨m, S, a, b, R, ra, rb, q⟩ := h
  unfold binop at q
  split at q
  · cases ra; cases rb
    exact op_add pins s σ H _ _ v u Q I rx ry ⟨_, _, rfl, rfl, po_same q R rfl⟩
  · cases ra; cases rb
    exact op_sub pins s σ H _ _ v u Q I rx ry ⟨_, _, rfl, rfl, po_same q R rfl⟩
  · cases ra; cases rb
    split at q
    · rename_i hm
      unfold mulOk at hm
      simp only [Bool.or_eq_true, Bool.and_eq_true, decide_eq_true_eq] at hm
      rcases hm with (hm | hm) | hm
      · exact op_mul pins s σ H _ _ v u Q I rx ry ⟨_, _, rfl, rfl, .inl hm, po_same q R rfl⟩
      · exact op_mul pins s σ H _ _ v u Q I rx ry ⟨_, _, rfl, rfl, .inr hm, po_same q R rfl⟩
      · exact op_mulW pins s σ H _ _ v u Q I rx ry ⟨_, _, rfl, rfl, Nat.lt_trans hm (by decide), po_same q R rfl⟩
    · exact q.elim
  · cases ra; cases rb
    split at q
    · rename_i hm
      exact op_fdivW pins s σ H _ _ v u Q I rx ry ⟨_, _, rfl, rfl, hm, po_same q R rfl⟩
    · exact q.elim
  · cases ra; cases rb
    split at q
    · rename_i hm
      exact op_mod pins s σ H _ _ v u Q I rx ry ⟨_, _, rfl, rfl, hm, po_same q R rfl⟩
    · exact q.elim
  · cases ra; cases rb
    split at q
    · rename_i hm
      exact op_pow pins s σ H _ _ v u Q I rx ry ⟨_, _, rfl, rfl, hm, po_same q R rfl⟩
    · exact q.elim
  · cases ra; cases rb
    split at q
    · rename_i hm
      exact op_add_str pins s σ H _ _ v u Q I rx ry ⟨_, _, rfl, rfl, hm, po_same q R rfl⟩
    · exact q.elim
  · split at q
    · rename_i h1 h2
      obtain ⟨a1, v1, rfl, _, e1, r1⟩ := R.lstM h1 ra
      obtain ⟨a2, v2, rfl, _, e2, r2⟩ := R.lstM h2 rb
      obtain ⟨z, q⟩ := po_alloc q R (r1.append r2)
      exact op_cat pins s σ H _ _ v u Q I rx ry ⟨_, _, _, _, rfl, rfl, e1, e2, by rw [← List.length_append]; exact z, q⟩
    · exact q.elim
  · cases rb
    split at q
    · rename_i h1
      obtain ⟨a1, v1, rfl, _, e1, r1⟩ := R.lstM h1 ra
      split at q
      · rename_i hk
        obtain ⟨z, q⟩ := po_alloc q R (r1.rep _)
        exact op_rep pins s σ H _ _ v u Q I rx ry ⟨_, _, _, rfl, rfl, e1, hk.1, hk.2.1, by rw [← r1.len]; exact hk.2.2, q⟩
      · exact q.elim
    · exact q.elim
  · exact q.elim
theorem or_eqop (hu : X.A.units + 64 < cLine) : OpR X (compareOp .Eq) (fun x y H Q => ∃ m S u v, Rel X.K m S H ∧ RV X.K m H u x ∧ RV X.K m H v y ∧ OB X.K H (eqop S u v) Q) := by
  intro pins s σ H x y v u Q I rx ry h; obtain ⟨m, S, a, b, R, ra, rb, q⟩ := h
  unfold eqop at q
  split at q
  · rename_i k hk
    have key : scal x y = true ∧ decide (x = y) = k := by
      unfold eqF at hk
      split at hk <;> first | (cases hk; done) | (cases hk; rw [show x = _ from ra, show y = _ from rb]; exact ⟨rfl, by simp⟩)
    exact op_eq pins s σ H _ _ v u Q I rx ry ⟨key.1, by rw [key.2]; exact q⟩
  · split at q
    · rename_i d e hd he
      obtain ⟨d1, d2⟩ := dat_shaped R hd ra
      obtain ⟨e1, e2⟩ := dat_shaped R he rb
      exact op_eqD hu pins s σ H _ _ v u Q I rx ry ⟨d, e, d1, e1, d2, e2, q⟩
    · exact q.elim
theorem or_neop (hu : X.A.units + 64 < cLine) : OpR X (compareOp .NotEq) (fun x y H Q => ∃ m S u v, Rel X.K m S H ∧ RV X.K m H u x ∧ RV X.K m H v y ∧ OB X.K H ((eqop S u v).map (!·)) Q) := by
  intro pins s σ H x y v u Q I rx ry h; obtain ⟨m, S, a, b, R, ra, rb, q⟩ := h
  unfold eqop at q
  split at q
  · rename_i k hk
    have key : scal x y = true ∧ decide (x = y) = k := by
      unfold eqF at hk
      split at hk <;> first | (cases hk; done) | (cases hk; rw [show x = _ from ra, show y = _ from rb]; exact ⟨rfl, by simp⟩)
    exact op_ne pins s σ H _ _ v u Q I rx ry ⟨key.1, by rw [key.2]; exact q⟩
  · split at q
    · rename_i d e hd he
      obtain ⟨d1, d2⟩ := dat_shaped R hd ra
      obtain ⟨e1, e2⟩ := dat_shaped R he rb
      exact op_neD hu pins s σ H _ _ v u Q I rx ry ⟨d, e, d1, e1, d2, e2, q⟩
    · exact q.elim
theorem or_in (hu : X.A.units + 65 < cLine) : OpR X (compareOp .In) (fun x y H Q => ∃ m S u v, Rel X.K m S H ∧ RV X.K m H u x ∧ RV X.K m H v y ∧ OB X.K H (inopS S u v) Q) := by
  intro pins s σ H x y v u Q I rx ry h; obtain ⟨m, S, a, b, R, ra, rb, q⟩ := h
  unfold inopS at q
  split at q
  · rename_i c z
    split at q
    · rename_i k hk
      have e : c = ⟨#[k]⟩ := by
        cases c with
        | mk cps =>
          have : cps = #[k] := by
            apply Array.ext'
            simpa using hk
          rw [this]
      subst e
      cases ra; cases rb
      exact op_in_sign pins s σ H _ _ v u Q I rx ry ⟨k, z, rfl, rfl, q⟩
    · exact q.elim
  · split at q
    · rename_i xs hs
      split at q
      · rename_i hf
        rw [Bool.and_eq_true] at hf
        obtain ⟨p, vs, rfl, h1, h2⟩ := R.seq hs rb
        have e := rvs_any hf.1 ra hf.2 h2
        exact op_in_seq pins s σ H _ _ v u Q I rx ry ⟨p, vs, rfl, h1, rv_flat hf.1 ra, rvs_flat hf.2 h2, by rw [e]; exact q⟩
      · split at q
        · split at q
          · rename_i d ds hd he
            obtain ⟨d1, d2⟩ := dat_shaped R hd ra
            obtain ⟨e1, e2⟩ := dat_shaped R he rb
            exact op_inD hu pins s σ H _ _ v u Q I rx ry ⟨d, ds, d1, e1, d2, e2, q⟩
          · exact q.elim
        · exact q.elim
    · exact q.elim
theorem or_notin (hu : X.A.units + 65 < cLine) : OpR X (compareOp .NotIn) (fun x y H Q => ∃ m S u v, Rel X.K m S H ∧ RV X.K m H u x ∧ RV X.K m H v y ∧ OB X.K H ((inopS S u v).map (!·)) Q) := by
  intro pins s σ H x y v u Q I rx ry h; obtain ⟨m, S, a, b, R, ra, rb, q⟩ := h
  unfold inopS at q
  split at q
  · rename_i c z
    split at q
    · rename_i k hk
      have e : c = ⟨#[k]⟩ := by
        cases c with
        | mk cps =>
          have : cps = #[k] := by
            apply Array.ext'
            simpa using hk
          rw [this]
      subst e
      cases ra; cases rb
      exact op_notIn_sign pins s σ H _ _ v u Q I rx ry ⟨k, z, rfl, rfl, q⟩
    · exact q.elim
  · split at q
    · rename_i xs hs
      split at q
      · rename_i hf
        rw [Bool.and_eq_true] at hf
        obtain ⟨p, vs, rfl, h1, h2⟩ := R.seq hs rb
        have e := rvs_any hf.1 ra hf.2 h2
        exact op_notIn_seq pins s σ H _ _ v u Q I rx ry ⟨p, vs, rfl, h1, rv_flat hf.1 ra, rvs_flat hf.2 h2, by rw [e]; exact q⟩
      · split at q
        · split at q
          · rename_i d ds hd he
            obtain ⟨d1, d2⟩ := dat_shaped R hd ra
            obtain ⟨e1, e2⟩ := dat_shaped R he rb
            exact op_notInD hu pins s σ H _ _ v u Q I rx ry ⟨d, ds, d1, e1, d2, e2, q⟩
          · exact q.elim
        · exact q.elim
    · exact q.elim
/-- the other comparisons of two values -/
theorem or_cmp (hu : X.A.units + 65 < cLine) (o : Cp) (p : CmpOp) (hp : p = match o with | .lt => .Lt | .le => .LtE | .gt => .Gt | .ge => .GtE | .eq => .Eq | .ne => .NotEq | .isn => .Is | .notn => .IsNot | .isin => .In | .notin => .NotIn)
    (h1 : o ≠ .isin) (h2 : o ≠ .notin) :
    OpR X (compareOp p) (fun x y H Q => ∃ m S u v, Rel X.K m S H ∧ RV X.K m H u x ∧ RV X.K m H v y ∧ OB X.K H (cmpop o S u v) Q) := by
  subst hp
  intro pins s σ H x y v u Q I rx ry h; obtain ⟨m, S, a, b, R, ra, rb, q⟩ := h
  unfold cmpop at q
  split at q
  · cases ra; cases rb
    exact op_lt pins s σ H _ _ v u Q I rx ry ⟨_, _, rfl, rfl, q⟩
  · cases ra; cases rb
    exact op_le pins s σ H _ _ v u Q I rx ry ⟨_, _, rfl, rfl, q⟩
  · cases ra; cases rb
    exact op_gt pins s σ H _ _ v u Q I rx ry ⟨_, _, rfl, rfl, q⟩
  · cases ra; cases rb
    exact op_ge pins s σ H _ _ v u Q I rx ry ⟨_, _, rfl, rfl, q⟩
  · exact or_eqop (by omega) pins s σ H _ _ v u Q I rx ry ⟨m, S, a, b, R, ra, rb, q⟩
  · exact or_neop (by omega) pins s σ H _ _ v u Q I rx ry ⟨m, S, a, b, R, ra, rb, q⟩
  · cases rb
    have e : decide (x = V.non) = isNon a := by
      cases a with
      | non => cases ra; rfl
      | bl _ => cases ra; rfl
      | int _ => cases ra; rfl
      | str _ => cases ra; rfl
      | ty _ => cases ra; rfl
      | ref _ => obtain ⟨c, _, rfl⟩ := ra; rfl
      | tup _ => obtain ⟨c, _, rfl, _⟩ := ra; rfl
      | fro _ => obtain ⟨c, _, rfl, _⟩ := ra; rfl
    exact op_isN pins s σ H _ _ v u Q I rx ry ⟨rfl, by rw [e]; exact q⟩
  · cases rb
    have e : (!decide (x = V.non)) = (!isNon a) := by
      cases a with
      | non => cases ra; rfl
      | bl _ => cases ra; rfl
      | int _ => cases ra; rfl
      | str _ => cases ra; rfl
      | ty _ => cases ra; rfl
      | ref _ => obtain ⟨c, _, rfl⟩ := ra; rfl
      | tup _ => obtain ⟨c, _, rfl, _⟩ := ra; rfl
      | fro _ => obtain ⟨c, _, rfl, _⟩ := ra; rfl
    exact op_notN pins s σ H _ _ v u Q I rx ry ⟨rfl, by rw [e]; exact q⟩
  · exact absurd rfl h1
  · exact absurd rfl h2
  · exact q.elim
theorem un_neg' : UnR X (unaryOp .USub) (fun x H Q => ∃ m S u, Rel X.K m S H ∧ RV X.K m H u x ∧ PO' X.K m H (P.of ((intOf u).map fun i => .int (-i)) S) Q) := by
  intro pins s σ H x v Q I rx h
  obtain ⟨m, S, a, R, ra, q⟩ := h
  cases a <;> first | (exact q.elim) | skip
  cases ra
  exact un_neg pins s σ H _ v Q I rx ⟨_, rfl, po_same q R rfl⟩
/-- places in lists -/
theorem atI_rv {K : PySem.W.Frag} {m : List Addr} {H : Hp} {us : List Val} {vs : List V} {i : Int} {u : Val} (r : RVs K m H us vs) (h : atI us i = some u) : ∃ v, atI vs i = some v ∧ RV K m H u v := by
  unfold atI at h ⊢
  rw [r.len] at h
  cases e : ixN vs.length i with
  | none => (rw [e] at h; cases h)
  | some j =>
    rw [e] at h
    obtain ⟨v, h1, h2⟩ := r.get (show us[j]? = some u from h)
    exact ⟨v, h1, h2⟩
theorem ix_item : IxR X (fun x y H Q => ∃ m S u v, Rel X.K m S H ∧ RV X.K m H u x ∧ RV X.K m H v y ∧ OV X.K m H (itemS S u v) Q) := by
  intro value sl pins s σ H x y v u Q I rx ry h hs
  obtain ⟨m, S, a, b, R, ra, rb, q⟩ := h
  unfold itemS at q
  split at q
  · cases ra; cases rb
    split at q
    · rename_i hz
      cases e : atI (Array.toList _) _ with
      | none => rw [e] at q; exact q.elim
      | some c =>
        rw [e] at q
        exact ix_str value sl pins s σ H _ _ v u Q I rx ry ⟨_, _, c, rfl, rfl, hz, e, q _ rfl⟩ hs
    · exact q.elim
  · split at q
    · rename_i xs i hsq _
      obtain ⟨p, vs, rfl, h1, h2⟩ := R.seq hsq ra
      cases rb
      cases e : atI xs i with
      | none => rw [e] at q; exact q.elim
      | some c =>
        rw [e] at q
        obtain ⟨z, e2, rz⟩ := atI_rv h2 e
        rcases h1 with h1 | h1
        · exact ix_list value sl pins s σ H _ _ v u Q I rx ry ⟨p, vs, i, z, rfl, rfl, h1, e2, q z rz⟩ hs
        · exact ix_tup value sl pins s σ H _ _ v u Q I rx ry ⟨p, vs, i, z, rfl, rfl, h1, e2, q z rz⟩ hs
    · exact q.elim
theorem cut_rv {K : PySem.W.Frag} {m : List Addr} {H : Hp} {us : List Val} {vs : List V} (lo hi : Option Int) (r : RVs K m H us vs) : RVs K m H (cut us lo hi) (cutV vs lo hi) := by
  unfold cut cutV
  rw [r.len]
  exact (r.drop _).take _
theorem sl_slice : SlR X (fun x lo hi H Q => ∃ m S u, Rel X.K m S H ∧ RV X.K m H u x ∧ PO' X.K m H (slice S u lo hi) Q) := by
  intro pins s σ H x v vl vu lo hi sl Q I rx hs pl pu h; obtain ⟨m, S, a, R, ra, q⟩ := h
  unfold slice at q
  split at q
  · rename_i xs hx
    obtain ⟨p, vs, rfl, h1, h2⟩ := R.lst hx ra
    exact sl_list pins s σ H _ v vl vu lo hi sl Q I rx hs pl pu ⟨p, vs, rfl, h1, (po_alloc q R (cut_rv lo hi h2)).2⟩
  · exact q.elim
end
end Mi
namespace Mi
open PySem L2
theorem foldl_max (r : List Int) : ∀ x : Int, r.foldl max x ∈ x :: r ∧ ∀ y ∈ x :: r, y ≤ r.foldl max x := by
  induction r with
  | nil => intro x; exact ⟨by simp, fun y hy => by simp at hy; subst hy; exact Int.le_refl _⟩
  | cons a r ih =>
    intro x
    obtain ⟨h1, h2⟩ := ih (max x a)
    rw [List.foldl_cons]
    refine ⟨?_, fun y hy => ?_⟩
    · rcases List.mem_cons.mp h1 with h | h
      · rw [h]
        by_cases c : x ≤ a
        · rw [Int.max_eq_right c]; simp
        · rw [Int.max_eq_left (by omega)]; simp
      · simp [h]
    · have h3 := h2 (max x a) (by simp)
      rcases List.mem_cons.mp hy with h | h -- (here)
      · subst h; have := Int.le_max_left y a; omega
      · rcases List.mem_cons.mp h with h | h
        · subst h; have := Int.le_max_right x y; omega
        · exact h2 y (by simp [h])
theorem foldl_min (r : List Int) : ∀ x : Int, r.foldl min x ∈ x :: r ∧ ∀ y ∈ x :: r, r.foldl min x ≤ y := by
  induction r with
  | nil => intro x; exact ⟨by simp, fun y hy => by simp at hy; subst hy; exact Int.le_refl _⟩
  | cons a r ih =>
    intro x
    obtain ⟨h1, h2⟩ := ih (min x a)
    rw [List.foldl_cons]
    refine ⟨?_, fun y hy => ?_⟩
    · rcases List.mem_cons.mp h1 with h | h
      · rw [h]
        by_cases c : x ≤ a
        · rw [Int.min_eq_left c]; simp
        · rw [Int.min_eq_right (by omega)]; simp
      · simp [h]
    · have h3 := h2 (min x a) (by simp)
      rcases List.mem_cons.mp hy with h | h -- (here)
      · subst h; have := Int.min_le_left y a; omega
      · rcases List.mem_cons.mp h with h | h
        · subst h; have := Int.min_le_right x y; omega
        · exact h2 y (by simp [h])
theorem maxL_mem {ns : List Int} (h : ns ≠ []) : maxL ns ∈ ns ∧ ∀ y ∈ ns, y ≤ maxL ns := by
  cases ns with
  | nil => exact absurd rfl h
  | cons x r => exact foldl_max r x
theorem minL_mem {ns : List Int} (h : ns ≠ []) : minL ns ∈ ns ∧ ∀ y ∈ ns, minL ns ≤ y := by
  cases ns with
  | nil => exact absurd rfl h
  | cons x r => exact foldl_min r x
theorem sort_same {a b : List Int} (hp : a.Perm b) (h : a.Pairwise (· ≤ ·)) : a = b.mergeSort (fun a b => decide (a ≤ b)) := by
  have h2 : (b.mergeSort (fun a b => decide (a ≤ b))).Pairwise (· ≤ ·) := by
    have := List.pairwise_mergeSort (le := fun a b : Int => decide (a ≤ b)) (fun a b c h1 h2 => by simp at h1 h2 ⊢; omega) (fun a b => by simp; omega) b
    exact this.imp fun h => by simpa using h
  exact List.Perm.eq_of_pairwise (fun a b _ _ h1 h2 => Int.le_antisymm h1 h2) h h2 (hp.trans (List.mergeSort_perm b _).symm)
/-- the value that a primitive's name holds, the name -/
def prF : Pr → Value
  | .len => .builtin "len" | .sum => .builtin "sum" | .max => .builtin "max" | .max2 => .builtin "max" | .min => .builtin "min" | .min2 => .builtin "min" | .sorted => .builtin "sorted" | .abs => .builtin "abs"
  | .all => .builtin "all" | .any => .builtin "any" | .str => .type "str" | .int => .type "int" | .list => .type "list" | .tuple => .type "tuple"
section
variable {X : Cx}
theorem cr_prim (hc : X.calm = true) (p : Pr) : CallR X (prF p) (fun xs H Q => ∃ m S us, Rel X.K m S H ∧ RVs X.K m H us xs ∧ PO' X.K m H (prim p us S) Q) := by
  intro pins s σ H xs us Q I r h; obtain ⟨m, S, vs, R, rs, q⟩ := h
  unfold prim at q
  have one : ∀ {u : Val} {xs : List V}, RVs X.K m H [u] xs → ∃ z, xs = [z] ∧ RV X.K m H u z := by
    intro u xs h
    obtain ⟨z, t, rfl, h1, h2⟩ := h
    rw [show t = [] from h2]
    exact ⟨z, rfl, h1⟩
  have two : ∀ {u w : Val} {xs : List V}, RVs X.K m H [u, w] xs → ∃ z y, xs = [z, y] ∧ RV X.K m H u z ∧ RV X.K m H w y := by
    intro u w xs h
    obtain ⟨z, t, rfl, h1, h2⟩ := h
    obtain ⟨y, t, rfl, h3, h4⟩ := h2
    rw [show t = [] from h4]
    exact ⟨z, y, rfl, h1, h3⟩
  have kints : ∀ {u : Val} {z : V} {f : List Int → Option Val}, RV X.K m H u z → PO' X.K m H (P.of ((lstOf S u).bind fun xs => (intsOf xs).bind f) S) Q →
      ∃ a ns w, z = .ref a ∧ SqL X.K H a (ns.map V.int) ∧ f ns = some w ∧ PO' X.K m H (some (w, S)) Q := by
    intro u z f rz q
    cases e : lstOf S u with
    | none => rw [e] at q; exact q.elim
    | some ys =>
      rw [e] at q
      obtain ⟨a, ws, rfl, h1, h2⟩ := R.lst e rz
      cases e2 : intsOf ys with
      | none => rw [Option.bind_some, e2] at q; exact q.elim
      | some ns =>
        rw [Option.bind_some, e2, Option.bind_some] at q
        cases e3 : f ns with
        | none => rw [e3] at q; exact q.elim
        | some w =>
          rw [e3] at q
          have := rv_ints e2 h2
          subst this
          exact ⟨a, ns, w, rfl, h1, e3, q⟩
  have kbls : ∀ {u : Val} {z : V} {f : List Bool → Val}, RV X.K m H u z → PO' X.K m H (P.of ((lstOf S u).bind fun xs => (blsOf xs).map f) S) Q →
      ∃ a ns, z = .ref a ∧ SqL X.K H a (ns.map V.bl) ∧ PO' X.K m H (some (f ns, S)) Q := by
    intro u z f rz q
    cases e : lstOf S u with
    | none => rw [e] at q; exact q.elim
    | some ys =>
      rw [e] at q
      obtain ⟨a, ws, rfl, h1, h2⟩ := R.lst e rz
      cases e2 : blsOf ys with
      | none => rw [Option.bind_some, e2] at q; exact q.elim
      | some ns =>
        rw [Option.bind_some, e2] at q
        have := rv_bls e2 h2
        subst this
        exact ⟨a, ns, rfl, h1, q⟩
  split at q
  · -- len of a text
    obtain ⟨z, rfl, h1⟩ := one rs
    cases h1
    split at q
    · rename_i hl
      exact call_len_str pins s σ H _ us Q I r ⟨_, rfl, hl, po_same q R rfl⟩
    · exact q.elim
  · obtain ⟨z, rfl, h1⟩ := one rs
    split at q
    · rename_i e
      obtain ⟨a, ws, rfl, _, h2, h3⟩ := R.lstM e h1
      exact call_len_seq pins s σ H _ us Q I r ⟨a, ws, rfl, .inl (.of h2), by rw [← h3.len]; exact po_same q R rfl⟩
    · rename_i e
      obtain ⟨a, h4, rfl⟩ := h1
      obtain ⟨o, h5, ws, rfl, h6⟩ := R.ob _ _ _ e h4
      obtain ⟨u, rfl, ru⟩ := vals1 r; cases ru
      exact d_len I (.inl h5) fun t s' I' => ⟨.int ws.length, H, I', ⟨t, rfl⟩, by rw [← h6.len]; exact po_same q R rfl⟩
    · exact q.elim
  · obtain ⟨z, rfl, a, ws, rfl, h2, h3⟩ := one rs
    exact call_len_seq pins s σ H _ us Q I r ⟨a, ws, rfl, .inr (.of h2), by rw [← h3.len]; exact po_same q R rfl⟩
  · obtain ⟨z, rfl, a, ws, rfl, h2, h3⟩ := one rs
    exact call_len_seq pins s σ H _ us Q I r ⟨a, ws, rfl, .inl h2.sq, by rw [← h3.len]; exact po_same q R rfl⟩
  · -- sum
    obtain ⟨z, rfl, h1⟩ := one rs
    obtain ⟨a, ns, w, rfl, h2, e, q⟩ := kints (f := fun ns => some (.int ns.sum)) h1 (by simpa only [Option.map_eq_bind, Function.comp_def] using q)
    cases e
    exact cr_sum hc pins s σ H _ us Q I r ⟨a, ns, rfl, h2, po_same q R rfl⟩
  · obtain ⟨z, rfl, h1⟩ := one rs
    obtain ⟨a, ns, w, rfl, h2, e, q⟩ := kints h1 q
    have hne : ns ≠ [] := by rintro rfl; cases e
    rw [if_neg (by simpa using hne)] at e
    cases e
    obtain ⟨k1, k2⟩ := maxL_mem hne
    exact cr_max hc pins s σ H _ us Q I r ⟨a, ns, rfl, h2, List.length_pos_iff.mpr hne, fun k hk hy => by
      have e : k = maxL ns := Int.le_antisymm (k2 k hk) (hy _ k1)
      rw [e]; exact po_same q R rfl⟩
  · obtain ⟨z, rfl, h1⟩ := one rs
    obtain ⟨a, ns, w, rfl, h2, e, q⟩ := kints h1 q
    have hne : ns ≠ [] := by rintro rfl; cases e
    rw [if_neg (by simpa using hne)] at e
    cases e
    obtain ⟨k1, k2⟩ := minL_mem hne
    exact cr_min hc pins s σ H _ us Q I r ⟨a, ns, rfl, h2, List.length_pos_iff.mpr hne, fun k hk hy => by
      have e : k = minL ns := Int.le_antisymm (hy _ k1) (k2 k hk)
      rw [e]; exact po_same q R rfl⟩
  · obtain ⟨z, y, rfl, h1, h2⟩ := two rs
    cases h1; cases h2
    exact call_max2 hc pins s σ H _ us Q I r ⟨_, _, rfl, po_same q R rfl⟩
  · obtain ⟨z, y, rfl, h1, h2⟩ := two rs
    cases h1; cases h2
    exact call_min2 hc pins s σ H _ us Q I r ⟨_, _, rfl, po_same q R rfl⟩
  · -- sorted
    obtain ⟨z, rfl, h1⟩ := one rs
    split at q
    · rename_i ns hns
      cases e : lstOf S _ with
      | none => rw [e] at hns; cases hns
      | some ys =>
        rw [e] at hns
        obtain ⟨a, ws, rfl, h2, h3⟩ := R.lst e h1
        have := rv_ints hns h3
        subst this
        refine cr_sortedI pins s σ H _ us Q I r ⟨a, ns, rfl, h2, fun ns' p hp hw hn => ?_⟩
        rw [sort_same hp hw]
        exact (po_alloc q R (rvs_ints _)).2 p hn
    · exact q.elim
  · obtain ⟨z, rfl, h1⟩ := one rs
    cases h1
    exact call_abs pins s σ H _ us Q I r ⟨_, rfl, po_same q R rfl⟩
  · obtain ⟨z, rfl, h1⟩ := one rs
    cases h1
    split at q
    · rename_i hl
      exact call_str_int pins s σ H _ us Q I r ⟨_, rfl, hl, po_same q R rfl⟩
    · exact q.elim
  · obtain ⟨z, rfl, h1⟩ := one rs
    cases h1
    exact call_int1 pins s σ H _ us Q I r (.inl ⟨_, rfl, po_same q R rfl⟩)
  · obtain ⟨z, rfl, h1⟩ := one rs
    cases h1
    exact call_int1 pins s σ H _ us Q I r (.inr ⟨_, rfl, po_same q R rfl⟩)
  · obtain ⟨z, rfl, h1⟩ := one rs
    cases h1
    split at q
    · rename_i n hn
      split at q
      · rename_i hl
        exact call_int_str pins s σ H _ us Q I r ⟨_, n, rfl, hn, hl, po_same q R rfl⟩
      · exact q.elim
    · exact q.elim
  · obtain ⟨z, rfl, h1⟩ := one rs
    obtain ⟨a, ns, rfl, h2, q⟩ := kbls (f := fun bs => .bl (bs.all id)) h1 q
    exact cr_all hc pins s σ H _ us Q I r ⟨a, ns, rfl, h2, po_same q R rfl⟩
  · obtain ⟨z, rfl, h1⟩ := one rs
    obtain ⟨a, ns, rfl, h2, q⟩ := kbls (f := fun bs => .bl (bs.any id)) h1 q
    exact cr_any hc pins s σ H _ us Q I r ⟨a, ns, rfl, h2, po_same q R rfl⟩
  · obtain ⟨z, rfl, h1⟩ := one rs
    split at q
    · rename_i e
      obtain ⟨a, ws, rfl, h2, h3⟩ := R.seq e h1
      exact call_list_of pins s σ H _ us Q I r ⟨a, ws, rfl, h2, (po_alloc q R h3).2⟩
    · exact q.elim
  · obtain ⟨z, rfl, h1⟩ := one rs
    cases e : seqOf S _ with
    | none => rw [e] at q; exact q.elim
    | some ys =>
      rw [e] at q
      unfold seqOf at e
      split at e
      · cases e
        obtain ⟨a, ws, rfl, h2, h3⟩ := h1
        exact call_tuple_of pins s σ H _ us Q I r ⟨a, ws, rfl, .inr ⟨.of h2, q m H _ .refl R ⟨a, ws, rfl, h2, h3⟩⟩⟩
      · obtain ⟨a, ws, rfl, h2, h3⟩ := R.lst e h1
        refine call_tuple_of pins s σ H _ us Q I r ⟨a, ws, rfl, .inl ⟨h2, fun l hl => ?_⟩⟩
        have e := ext_upd (m := m) (o := .tup ws) hl
        exact q m _ _ e (R.side hl) ⟨l, ws, rfl, upd_same, h3.ext e⟩
  · exact q.elim
/-! ### methods -/
def meId : Me → String
  | .append => "list.append" | .pop => "list.pop" | .popAt => "list.pop" | .insert => "list.insert" | .index => "list.index" | .extend => "list.extend" | .count => "list.count" | .reverse => "list.reverse"
  | .join => "str.join" | .split => "str.split" | .get1 => "dict.get" | .get2 => "dict.get"
theorem find_rv {K : PySem.W.Frag} {m : List Addr} {H : Hp} {y : Val} {z : V} (hy : flat y = true) (ry : RV K m H y z) : ∀ {us : List Val} {vs : List V} {k j : Nat}, us.all flat = true → RVs K m H us vs → find1 y us k = some j →
    k ≤ j ∧ (∃ w, vs[j - k]? = some w ∧ eqV w z = true) ∧ ∀ (i : Nat) w, i < j - k → vs[i]? = some w → eqV w z = false
  | [], _, _, _, _, _, h => by cases h
  | u :: us, _, k, j, hf, ⟨v, t, q, rv, rt⟩, h => by
    subst q
    rw [List.all_cons, Bool.and_eq_true] at hf; unfold find1 at h
    have e := rv_feq hf.1 hy rv ry
    split at h
    · rename_i c
      cases h
      refine ⟨Nat.le_refl _, ⟨v, by simp, by rw [e]; exact c⟩, fun i w hi => by omega⟩
    · rename_i c
      obtain ⟨h1, ⟨w, h2, h3⟩, h4⟩ := find_rv hy ry hf.2 rt h
      refine ⟨by omega, ⟨w, ?_, h3⟩, fun i w hi hw => ?_⟩
      · rw [show j - k = (j - (k + 1)) + 1 by omega]
        simpa using h2
      · cases i with
        | zero =>
          simp at hw
          subst hw
          rw [e]
          simpa using c
        | succ i => exact h4 i w (by omega) (by simpa using hw)
theorem mt_meth (p : Me) : MtR X (meId p) (fun x xs H Q => ∃ m S u us, Rel X.K m S H ∧ RV X.K m H u x ∧ RVs X.K m H us xs ∧ PO' X.K m H (meth p u us S) Q) := by
  intro pins s σ H x xs v us Q I rx rxs h; obtain ⟨m, S, u, ws, R, ru, rs, q⟩ := h
  unfold meth at q
  have one : ∀ {u : Val} {xs : List V}, RVs X.K m H [u] xs → ∃ z, xs = [z] ∧ RV X.K m H u z := by
    intro u xs h
    obtain ⟨z, t, rfl, h1, h2⟩ := h
    rw [show t = [] from h2]
    exact ⟨z, rfl, h1⟩
  split at q
  · obtain ⟨z, rfl, h1⟩ := one rs
    split at q
    · rename_i e
      obtain ⟨a, ys, rfl, hm, h2, h3⟩ := R.lstM e ru
      split at q
      · rename_i hl
        exact mt_append pins s σ H _ _ v us Q I rx rxs ⟨a, ys, z, rfl, rfl, h2, by rw [← h3.len]; exact hl, po_set q R e hm ⟨_, rfl, h3.append (RVs.cons h1 RVs.nil)⟩ rfl⟩
      · exact q.elim
    · exact q.elim
  · obtain ⟨z, rfl, h1⟩ := one rs
    split at q
    · rename_i e e2
      obtain ⟨a, ys, rfl, hm, h2, h3⟩ := R.lstM e ru
      obtain ⟨b, zs, rfl, hm2, h4, h5⟩ := R.lstM e2 h1
      split at q
      · rename_i hl
        exact mt_extend pins s σ H _ _ v us Q I rx rxs ⟨a, b, ys, zs, rfl, rfl, h2, h4, by rw [← h3.len, ← h5.len]; exact hl, po_set q R e hm ⟨_, rfl, h3.append h5⟩ rfl⟩
      · exact q.elim
    · exact q.elim
  · obtain rfl : xs = [] := rs
    split at q
    · rename_i ys e
      obtain ⟨a, zs, rfl, hm, h2, h3⟩ := R.lstM e ru
      split at q
      · rename_i y hy
        obtain ⟨z, h4, h5⟩ := h3.get hy
        exact mt_pop pins s σ H _ _ v us Q I rx rxs ⟨a, zs, z, rfl, rfl, h2, by rw [← h3.len]; exact h4, po_set q R e hm ⟨_, rfl, h3.dropLast⟩ h5⟩
      · exact q.elim
    · exact q.elim
  · obtain ⟨z, rfl, h1⟩ := one rs
    cases h1
    split at q
    · rename_i ys e
      obtain ⟨a, zs, rfl, hm, h2, h3⟩ := R.lstM e ru
      split at q
      · rename_i hi
        split at q
        · rename_i y hy
          obtain ⟨z, h4, h5⟩ := h3.get hy
          have hk : PySem.seqIndex? _ zs.length = some (Int.toNat _) := (ixN_seq (n := zs.length) (i := _) (j := _) (by
            unfold ixN
            rw [if_pos hi.1, if_pos]
            have := (List.getElem?_eq_some_iff.mp h4).1
            omega)).1
          exact mt_popAt pins s σ H _ _ v us Q I rx rxs ⟨a, zs, _, _, z, rfl, rfl, h2, by omega, hi.2, hk, h4, po_set q R e hm ⟨_, rfl, h3.eraseIdx _⟩ h5⟩
        · exact q.elim
      · exact q.elim
    · exact q.elim
  · obtain ⟨z, t, rfl, h1, h1'⟩ := rs
    obtain ⟨y, rfl, h6⟩ := one h1'
    cases h1
    split at q
    · rename_i ys e
      obtain ⟨a, zs, rfl, hm, h2, h3⟩ := R.lstM e ru
      split at q
      · rename_i hi
        exact mt_insert pins s σ H _ _ v us Q I rx rxs ⟨a, zs, _, y, rfl, rfl, h2, by rw [← h3.len]; exact hi.1, hi.2.1, hi.2.2, po_set q R e hm ⟨_, rfl, ((h3.take _).append (RVs.cons h6 RVs.nil)).append (h3.drop _)⟩ rfl⟩
      · exact q.elim
    · exact q.elim
  · obtain rfl : xs = [] := rs
    split at q
    · rename_i ys e
      obtain ⟨a, zs, rfl, hm, h2, h3⟩ := R.lstM e ru
      exact mt_reverse pins s σ H _ _ v us Q I rx rxs ⟨a, zs, rfl, rfl, h2, po_set q R e hm ⟨_, rfl, h3.reverse⟩ rfl⟩
    · exact q.elim
  · obtain ⟨z, rfl, h1⟩ := one rs
    split at q
    · rename_i e
      obtain ⟨a, zs, rfl, h2, h3⟩ := R.lst e ru
      split at q
      · rename_i hf
        rw [Bool.and_eq_true] at hf
        cases ef : find1 _ _ 0 with
        | none => rw [ef] at q; exact q.elim
        | some j =>
          rw [ef] at q
          obtain ⟨_, ⟨w, h4, h5⟩, h6⟩ := find_rv hf.1 h1 hf.2 h3 ef
          exact mt_index pins s σ H _ _ v us Q I rx rxs ⟨a, zs, z, j, w, rfl, rfl, h2, rv_flat hf.1 h1, rvs_flat hf.2 h3, h4, h5, fun i w hi hw => h6 i w (by omega) hw, po_same q R rfl⟩
      · exact q.elim
    · exact q.elim
  · exact q.elim
end
end Mi
namespace Mi
open PySem L2
/-! ### expressions, by what they are worth -/
def REnv (K : PySem.W.Frag) (m : List Addr) (H : Hp) (ρ : Env) (σ : L2.St) : Prop := ρ.length = σ.length ∧ ∀ (i : Nat) v, ρ[i]? = some (some v) → ∃ z, σ[i]? = some (some z) ∧ RV K m H v z
theorem REnv.ext {K : PySem.W.Frag} {m m' : List Addr} {H H' : Hp} {ρ : Env} {σ : L2.St} (e : Ext m H m' H') (h : REnv K m H ρ σ) : REnv K m' H' ρ σ :=
  ⟨h.1, fun i v hv => let ⟨z, h1, h2⟩ := h.2 i v hv; ⟨z, h1, h2.ext e⟩⟩
def dAt (m : List Addr) (d : Option Nat) : Option Addr := d.bind fun i => m[i]?
/-- the words that stay through a def: the written part, the classes of errors, what is wished of an error -/
structure Wd where
  K : PySem.W.Frag
  cl : Nat → Value
  We : WX
def Pst {α β : Type} (w : Wd) (rel : List Addr → Hp → α → β → Prop) (m : List Addr) (H : Hp) (σ : L2.St) (r : R α) (Q : β → Hp → Prop) : Prop := match r with
  | .ok a S => ∀ m' H' z, Ext m H m' H' → Rel w.K m' S H' → rel m' H' a z → Q z H'
  | .ex c d S => ∀ m' H', Ext m H m' H' → Rel w.K m' S H' → w.We (w.cl c) (dAt m' d) σ H'
  | .bad => False
section
variable {w : Wd} {α β γ δ : Type} {rel : List Addr → Hp → α → β → Prop} {rel' : List Addr → Hp → γ → δ → Prop} {m m' : List Addr} {H H' : Hp} {σ : L2.St}
theorem Pst.mono {r : R α} {Q Q' : β → Hp → Prop} (h : Pst w rel m H σ r Q) (f : ∀ z H, Q z H → Q' z H) : Pst w rel m H σ r Q' := by
  cases r with
  | ok a S => exact fun m' H' z e R rz => f _ _ (h m' H' z e R rz)
  | ex c d S => exact h
  | bad => exact h
theorem Pst.ext {r : R α} {Q : β → Hp → Prop} (e : Ext m H m' H') (h : Pst w rel m H σ r Q) : Pst w rel m' H' σ r Q := by
  cases r with
  | ok a S => exact fun m2 H2 z e2 R rz => h m2 H2 z (e.trans e2) R rz
  | ex c d S => exact fun m2 H2 e2 R => h m2 H2 (e.trans e2) R
  | bad => exact h
theorem Pst.bind {r : R α} {k : α → Store → R γ} {Q : δ → Hp → Prop} (h : Pst w rel' m H σ (r.bind k) Q) :
    Pst w rel m H σ r (fun x H1 => ∃ m1 S1 a, Ext m H m1 H1 ∧ Rel w.K m1 S1 H1 ∧ rel m1 H1 a x ∧ Pst w rel' m1 H1 σ (k a S1) Q) := by
  cases r with
  | ok a S => exact fun m1 H1 z e R rz => ⟨m1, S, a, e, R, rz, h.ext e⟩
  | ex c d S => exact h
  | bad => exact h
end
abbrev RB : List Addr → Hp → Bool → Bool → Prop := fun _ _ a b => b = a
def TEv (w : Wd) (C : Ctx) (e : E) : TE := fun σ H Q => ∃ m S ρ, Rel w.K m S H ∧ REnv w.K m H ρ σ ∧ Pst w (RV w.K) m H σ (ev C e ρ S) Q
def TAv (w : Wd) (C : Ctx) (es : List E) : TA := fun σ H Q => ∃ m S ρ, Rel w.K m S H ∧ REnv w.K m H ρ σ ∧ Pst w (RVs w.K) m H σ (evs C es ρ S) Q
def TTv (w : Wd) (C : Ctx) (es : List E) : TT := fun σ H Q => ∃ m S ρ, Rel w.K m S H ∧ REnv w.K m H ρ σ ∧ Pst w RB m H σ (evT C es ρ S) Q
theorem pe_imp {X : Cx} {e : Expr} {t t' : TE} (h : PE X e t) (f : ∀ σ H Q, t' σ H Q → t σ H Q) : PE X e t' := ⟨fun pins s σ H Q I q => h.run pins s σ H Q I (f _ _ _ q)⟩
theorem pt_imp {X : Cx} {e : Expr} {t t' : TT} (h : PT X e t) (f : ∀ σ H Q, t' σ H Q → t σ H Q) : PT X e t' := ⟨fun pins s σ H Q I q => h.run pins s σ H Q I (f _ _ _ q)⟩
theorem pw_imp {X : Cx} {e : Expr} {t t' : TT} (h : PW X e t) (f : ∀ σ H Q, t' σ H Q → t σ H Q) : PW X e t' := ⟨fun wh pins s σ H Q I q => h.run wh pins s σ H Q I (f _ _ _ q)⟩
theorem pa_imp {X : Cx} {e : List Expr} {t t' : TA} (h : PA X e t) (f : ∀ σ H Q, t' σ H Q → t σ H Q) : PA X e t' := ⟨fun pos pins s σ H Q I q => h.run pos pins s σ H Q I (f _ _ _ q)⟩
theorem ps_imp {X : Cx} {e : Stmt} {t t' : TS} (h : PS X e t) (f : ∀ D σ H, t' D σ H → t D σ H) : PS X e t' := ⟨fun pins s σ H Q I q => h.run pins s σ H Q I (f _ _ _ q)⟩
theorem pss_imp {X : Cx} {e : List Stmt} {t t' : TS} (h : PSs X e t) (f : ∀ D σ H, t' D σ H → t D σ H) : PSs X e t' := ⟨fun pins s σ H Q I q => h.run pins s σ H Q I (f _ _ _ q)⟩
theorem pe_or' {X : Cx} {e : Expr} {t t' : TE} (h : PE X e t) (h' : PE X e t') : PE X e (fun σ H Q => t σ H Q ∨ t' σ H Q) :=
  ⟨fun pins s σ H Q I q => q.elim (h.run pins s σ H Q I) (h'.run pins s σ H Q I)⟩
theorem pi_or' {X : Cx} {tg e : Expr} {t t' : TI} (h : PI X tg e t) (h' : PI X tg e t') : PI X tg e (fun σ H Q => t σ H Q ∨ t' σ H Q) :=
  ⟨fun pins s σ H Q I q => q.elim (h.run pins s σ H Q I) (h'.run pins s σ H Q I)⟩
theorem pg_or' {X : Cx} {tg : Expr} {t t' : TG} (h : PG X tg t) (h' : PG X tg t') : PG X tg (fun v σ H Q => t v σ H Q ∨ t' v σ H Q) :=
  ⟨fun pins s σ H v u Q I r q => q.elim (h.run pins s σ H v u Q I r) (h'.run pins s σ H v u Q I r)⟩
theorem pe_never {X : Cx} {e : Expr} : PE X e (fun _ _ _ => False) := ⟨fun _ _ _ _ _ _ h => h.elim⟩
/-! names of the built-ins that are served -/
def bnames : List Str := ["len", "sum", "max", "min", "sorted", "abs", "all", "any", "str", "int", "list", "tuple", "range", "enumerate", "zip", "reversed", "isinstance", "bool", "dict"]
structure TC where
  sc : Scope
  N : List Str
  own : List (Str × Nat)
  fns : List (Str × Nat)
  cst : List (Str × Val)
  dts : List Nat
/-- a def's promise by what it is worth -/
def spOf (K : PySem.W.Frag) (cl : Nat → Value) (n : Nat) (g : Sem) : Sp := fun vs H Q E => ∃ m S us, Rel K m S H ∧ RVs K m H us vs ∧ us.length = n ∧ match g us S with
  | .ok v S' => ∀ m' H' z, Ext m H m' H' → Rel K m' S' H' → RV K m' H' v z → Q z H'
  | .ex c d S' => ∀ m' H', Ext m H m' H' → Rel K m' S' H' → E (cl c) (dAt m' d) H'
  | .bad => False
structure FnHas (X : Cx) (cl : Nat → Value) (x : Str) (n : Nat) (g : Sem) : Prop where
  has : ∃ k fa fd ps, FnOk X.prog X.w X.K X.mg X.base (L2.CX X.prog X.w) k fa fd ps (spOf X.K cl n g) ∧ Room k X.A ∧ X.mg x = some (.ref fa) ∧ PySem.W.keepIn X.K (.ref fa) = true ∧ Binds X.K fd ps []
structure CxOk (w : Wd) (C : Ctx) (tc : TC) (X : Cx) : Prop where
  K : X.K = w.K
  calm : X.calm = true
  sc : X.env.scope = tc.sc
  N : X.N = tc.N
  nd : tc.N.Nodup
  hu : X.A.units + 65 < cLine
  blt : ∀ x ∈ bnames, X.mg x = none
  fns : ∀ x f n g, tc.fns.lookup x = some f → C f = some (n, g) → FnHas X w.cl x n g
  cst : ∀ x v, tc.cst.lookup x = some v → ∃ u z, X.mg x = some u ∧ RelV z u ∧ ∀ m H, RV X.K m H v z
  tk : Takes X w.We
  sto : ∀ p ∈ tc.own, X.N[p.2]? = some p.1 ∧ Loc X.env.scope p.1 ∧ (X.fn p.1 = true ∨ X.env.scope.names.lookup p.1 = some .local)
/-! lists of arguments without stars -/
def nst : Expr → Bool
  | .Starred .. => false
  | _ => true
theorem starEach_cons {e : Expr} {es : List Expr} {env : PySem.Env} (h : nst e = true) : starEach (e :: es) env = (false, eval e env) :: starEach es env := by
  cases e <;> first | rfl | (exact Bool.noConfusion h)
theorem assignEach_cons {e : Expr} {es : List Expr} {env : PySem.Env} (h : nst e = true) : assignEach (e :: es) env = (false, assign e env) :: assignEach es env := by
  cases e <;> first | rfl | (exact Bool.noConfusion h)
theorem star_any {es : List Expr} {env : PySem.Env} {pos : Pos} (h : es.all nst = true) : (backTo pos (starEach es env)).any (·.1) = false := by
  induction es with
  | nil => rfl
  | cons e es ih =>
    rw [List.all_cons, Bool.and_eq_true] at h; rw [starEach_cons h.1]
    show (false || _) = false
    rw [Bool.false_or]
    exact ih h.2
theorem star_few {es : List Expr} {env : PySem.Env} {pos : Pos} (h : es.all nst = true) : (backTo pos (starEach es env)).all (fun x => !x.1) = true := by
  induction es with
  | nil => rfl
  | cons e es ih =>
    rw [List.all_cons, Bool.and_eq_true] at h; rw [starEach_cons h.1]
    show (true && _) = true
    rw [Bool.true_and]
    exact ih h.2
theorem assign_maps {es : List Expr} {env : PySem.Env} (h : es.all nst = true) : (assignEach es env).length = es.length ∧ (assignEach es env).findIdx? (·.1) = none := by
  induction es with
  | nil => exact ⟨rfl, rfl⟩
  | cons e es ih =>
    rw [List.all_cons, Bool.and_eq_true] at h; rw [assignEach_cons h.1]
    obtain ⟨h1, h2⟩ := ih h.2
    refine ⟨by rw [List.length_cons, List.length_cons, h1], ?_⟩
    rw [List.findIdx?_cons]
    simp [h2]
section
variable {w : Wd} {C : Ctx} {tc : TC} {X : Cx} {a b c : Expr} {a' b' c' : E} {es : List Expr} {es' : List E} {pos : Pos}
theorem se_var {i : Nat} {x : Str} (ok : CxOk w C tc X) (hN : X.N[i]? = some x) (hv : Vis X.env.scope x) (hd : (x == ("__debug__" : Str)) = false) (hcd : (x == ("__classdict__" : Str)) = false) : PE X (.Name x pos) (TEv w C (.var i)) := by
  refine pe_imp (pe_var hN hv hd hcd) fun σ H Q ⟨m, S, ρ, R, En, q⟩ => ?_
  unfold ev at q
  split at q
  · rename_i v hv
    obtain ⟨z, h1, h2⟩ := En.2 _ _ hv
    exact ⟨z, h1, q m H z .refl R h2⟩
  · exact q.elim
theorem se_cst {v : Val} {z : V} (h : PE X a (tC z)) (hv : ∀ m H, RV w.K m H v z) : PE X a (TEv w C (.cst v)) :=
  pe_imp h fun σ H Q ⟨m, S, ρ, R, En, q⟩ => by
    unfold ev at q
    exact q m H z .refl R (hv m H)
theorem sa_nil : PA X [] (TAv w C []) := pa_imp pa_nil fun σ H Q ⟨m, S, ρ, R, En, q⟩ => by
  unfold evs at q
  exact q m H [] .refl R rfl
theorem sa_cons (hn : nst a = true) (ha : PE X a (TEv w C a')) (hs : PA X es (TAv w C es')) : PA X (a :: es) (TAv w C (a' :: es')) :=
  pa_imp (pa_cons ha hs (starEach_cons hn)) fun σ H Q ⟨m, S, ρ, R, En, q⟩ => by
    unfold evs at q
    refine ⟨m, S, ρ, R, En, q.bind.mono fun x H1 ⟨m1, S1, u, e1, R1, r1, q1⟩ => ?_⟩
    refine ⟨m1, S1, ρ, R1, En.ext e1, q1.bind.mono fun xs H2 ⟨m2, S2, us, e2, R2, r2, q2⟩ => ?_⟩
    exact q2 m2 H2 _ .refl R2 ⟨x, xs, rfl, r1.ext e2, r2⟩
theorem se_lst (ok : CxOk w C tc X) (hs : PA X es (TAv w C es')) : PE X (.List es pos) (TEv w C (.lst es')) :=
  pe_imp (pe_lst hs) fun σ H Q ⟨m, S, ρ, R, En, q⟩ => by
    unfold ev at q
    refine ⟨m, S, ρ, R, En, q.bind.mono fun xs H1 ⟨m1, S1, us, e1, R1, r1, q1⟩ => ?_⟩
    refine po_alloc (us := us) ?_ R1 r1
    cases e : alloc S1 us with
    | none => rw [e] at q1; exact q1.elim
    | some p => rw [e] at q1; exact q1
theorem op_pst {m : List Addr} {H : Hp} {σ : L2.St} {o : P} {Q : VK} (h : Pst w (RV w.K) m H σ (R.op o) Q) : PO' w.K m H o Q := by
  cases o with
  | none => exact h
  | some p => exact h
theorem se_tup {k : Nat} (ok : CxOk w C tc X) (hs : PA X es (TAv w C es')) : PE X (.Tuple es k pos) (TEv w C (.tup es')) :=
  pe_imp (pe_tup hs) fun σ H Q ⟨m, S, ρ, R, En, q⟩ => by
    unfold ev at q
    refine ⟨m, S, ρ, R, En, q.bind.mono fun xs H1 ⟨m1, S1, us, e1, R1, r1, q1⟩ => ?_⟩
    split at q1
    · rename_i hl
      refine ⟨by rw [← r1.len]; exact hl, fun p hp => ?_⟩
      have e := ext_upd (m := m1) (o := .tup xs) hp
      exact q1 m1 _ _ e (R1.side hp) ⟨p, xs, rfl, upd_same, r1.ext e⟩
    · exact q1.elim
theorem se_bin {o : O2} {p : Operator} (ok : CxOk w C tc X) (hp : p = match o with | .add => .Add | .sub => .Sub | .mul => .Mult | .fdiv => .FloorDiv | .mod => .Mod | .pow => .Pow)
    (ha : PE X a (TEv w C a')) (hb : PE X b (TEv w C b')) : PE X (.BinOp a p b pos) (TEv w C (.bin o a' b')) :=
  pe_imp (pe_op (or_bin o p hp) ha hb) fun σ H Q ⟨m, S, ρ, R, En, q⟩ => by
    unfold ev at q
    refine ⟨m, S, ρ, R, En, q.bind.mono fun x H1 ⟨m1, S1, u, e1, R1, r1, q1⟩ => ?_⟩
    refine ⟨m1, S1, ρ, R1, En.ext e1, q1.bind.mono fun y H2 ⟨m2, S2, v, e2, R2, r2, q2⟩ => ?_⟩
    rw [ok.K]
    exact ⟨m2, S2, u, v, R2, r1.ext e2, r2, op_pst q2⟩
theorem se_neg (ok : CxOk w C tc X) (ha : PE X a (TEv w C a')) : PE X (.UnaryOp .USub a pos) (TEv w C (.neg a')) :=
  pe_imp (pe_un un_neg' ha) fun σ H Q ⟨m, S, ρ, R, En, q⟩ => by
    unfold ev at q
    refine ⟨m, S, ρ, R, En, q.bind.mono fun x H1 ⟨m1, S1, u, e1, R1, r1, q1⟩ => ?_⟩
    rw [ok.K]
    refine ⟨m1, S1, u, R1, r1, ?_⟩
    cases e : (intOf u) with
    | none => rw [e] at q1; exact q1.elim
    | some i => rw [e] at q1; exact q1
theorem bl_pst {m : List Addr} {H : Hp} {S : Store} {σ : L2.St} {o : Option Bool} {Q : VK} (R : Rel w.K m S H) (h : Pst w (RV w.K) m H σ (Mi.R.bl o S) Q) : OB w.K H o Q := by
  cases o with
  | none => exact h
  | some b => exact h m H _ .refl R rfl
theorem nomark' {o : CmpOp} {b : Expr} (h : (match b with | .Set .. => false | _ => true) = true) : behindInMarks o b = false := by
  cases b <;> first | rfl | (exact Bool.noConfusion h)
def cpOf : Cp → CmpOp
  | .lt => .Lt | .le => .LtE | .gt => .Gt | .ge => .GtE | .eq => .Eq | .ne => .NotEq | .isn => .Is | .notn => .IsNot | .isin => .In | .notin => .NotIn
theorem key_rv {K : PySem.W.Frag} {m : List Addr} {H : Hp} {k : Val} {y : V} {kk : DKey} (e : keyOf k = some kk) (rk : RV K m H k y) : y = kV kk := by
  cases k <;> first | (cases e; done) | (cases e; exact rk)
theorem keys_rv {K : PySem.W.Frag} {m : List Addr} {H : Hp} : ∀ {us : List Val} {vs : List V} {kk : List DKey}, allSome (us.map keyOf) = some kk → RVs K m H us vs → vs = kk.map kV
  | [], vs, kk, h, r => by cases h; exact r
  | u :: us, vs, kk, h, ⟨v, t, q, r1, r2⟩ => by
    subst q
    rw [List.map_cons] at h
    cases e1 : keyOf u with
    | none => rw [e1] at h; cases h
    | some k1 =>
      rw [e1] at h
      unfold allSome at h
      cases e2 : allSome (us.map keyOf) with
      | none => rw [e2] at h; cases h
      | some ks =>
        rw [e2] at h
        cases h
        rw [keys_rv e2 r2, key_rv e1 r1]
        rfl
theorem tkey_rv {K : PySem.W.Frag} {m : List Addr} {H : Hp} {k : Val} {y : V} {kk : List DKey} (e : keysOf k = some kk) (rk : RV K m H k y) : ∃ b, y = .ref b ∧ H b = some (.tup (kk.map kV)) := by
  cases k <;> first | (cases e; done) | skip
  obtain ⟨b, vs, rfl, hq, hr⟩ := rk
  exact ⟨b, rfl, by rw [← keys_rv e hr]; exact hq⟩
theorem dget_DG {K : PySem.W.Frag} {m : List Addr} {S : Store} {H : Hp} {d k : Val} {x y : V} {o : Option Val} (R : Rel K m S H) (rd : RV K m H d x) (rk : RV K m H k y) (h : dget S d k = some o) :
    ∃ p z, x = .ref p ∧ DGet H p y z ∧ ROV K m H o z := by
  cases d with
  | ref r =>
    obtain ⟨p, hp, rfl⟩ := rd
    unfold dget at h
    cases e : S[r]? with
    | none => simp only [e] at h; cases h
    | some b =>
      simp only [e] at h
      obtain ⟨_, h1, h2⟩ := R.ob _ _ _ e hp
      cases b with
      | lst _ => cases h
      | xd _ => cases h
      | dK kvs =>
        obtain ⟨ws, rfl, h2⟩ := h2
        have h : (keyOf k).map (look kvs) = some o := h
        cases ek : keyOf k with
        | none => rw [ek] at h; cases h
        | some kk =>
          rw [ek] at h
          cases h
          rw [key_rv ek rk]
          exact ⟨p, _, rfl, .k h1, h2.look kk⟩
      | dT kvs =>
        obtain ⟨ws, rfl, h2⟩ := h2
        have h : (keysOf k).map (look kvs) = some o := h
        cases ek : keysOf k with
        | none => rw [ek] at h; cases h
        | some kk =>
          rw [ek] at h
          cases h
          obtain ⟨b, rfl, hb⟩ := tkey_rv ek rk
          exact ⟨p, _, rfl, .t h1 hb, h2.look kk⟩
  | _ => cases h
theorem ROV.isSome {K : PySem.W.Frag} {m : List Addr} {H : Hp} {o : Option Val} {z : Option V} (h : ROV K m H o z) : z.isSome = o.isSome := by
  cases o with
  | none => rw [show z = none from h]; rfl
  | some u => obtain ⟨v, rfl, _⟩ := h; rfl
/-- two expressions, then what is made of their values -/
theorem two_pst {k : Val → Val → Store → R Val} {σ : L2.St} {H : Hp} {Q : VK} {r : V → V → Hp → VK → Prop} (h : ∃ m S ρ, Rel w.K m S H ∧ REnv w.K m H ρ σ ∧ Pst w (RV w.K) m H σ ((ev C a' ρ S).bind fun u S => (ev C b' ρ S).bind fun v S => k u v S) Q)
    (f : ∀ m S H x y u v, Rel w.K m S H → RV w.K m H u x → RV w.K m H v y → Pst w (RV w.K) m H σ (k u v S) Q → r x y H Q) : tOp r (TEv w C a') (TEv w C b') σ H Q := by
  obtain ⟨m, S, ρ, R, En, q⟩ := h
  refine ⟨m, S, ρ, R, En, q.bind.mono fun x H1 ⟨m1, S1, u, e1, R1, r1, q1⟩ => ?_⟩
  exact ⟨m1, S1, ρ, R1, En.ext e1, q1.bind.mono fun y H2 ⟨m2, S2, v, e2, R2, r2, q2⟩ => f m2 S2 H2 x y u v R2 (r1.ext e2) r2 q2⟩
/-- .. where which of two ways is taken hangs on the values -/
theorem two_or {k : Val → Val → Store → R Val} {σ : L2.St} {H : Hp} {Q : VK} {r r' : V → V → Hp → VK → Prop} {b : Val → Val → Store → Bool}
    (h : ∃ m S ρ, Rel w.K m S H ∧ REnv w.K m H ρ σ ∧ Pst w (RV w.K) m H σ ((ev C a' ρ S).bind fun u S => (ev C b' ρ S).bind fun v S => k u v S) Q)
    (f : ∀ m S H x y u v, b u v S = true → Rel w.K m S H → RV w.K m H u x → RV w.K m H v y → Pst w (RV w.K) m H σ (k u v S) Q → r x y H Q)
    (f' : ∀ m S H x y u v, b u v S = false → Rel w.K m S H → RV w.K m H u x → RV w.K m H v y → Pst w (RV w.K) m H σ (k u v S) Q → r' x y H Q) :
    tOp r (TEv w C a') (TEv w C b') σ H Q ∨ tOp r' (TEv w C a') (TEv w C b') σ H Q := by
  obtain ⟨m, S, ρ, R, En, q⟩ := h
  have go : ∀ {r : V → V → Hp → VK → Prop}, (∀ u S1 v S2, ev C a' ρ S = .ok u S1 → ev C b' ρ S1 = .ok v S2 → ∀ m H x y, Rel w.K m S2 H → RV w.K m H u x → RV w.K m H v y → Pst w (RV w.K) m H σ (k u v S2) Q → r x y H Q) →
      tOp r (TEv w C a') (TEv w C b') σ H Q := by
    intro r g
    refine ⟨m, S, ρ, R, En, ?_⟩
    cases e1 : ev C a' ρ S with
    | ok u S1 =>
      rw [e1] at q
      intro m1 H1 x x1 R1 r1
      refine ⟨m1, S1, ρ, R1, En.ext x1, ?_⟩
      have q : Pst w (RV w.K) m H σ ((ev C b' ρ S1).bind fun v S => k u v S) Q := q
      cases e2 : ev C b' ρ S1 with
      | ok v S2 =>
        rw [e2] at q
        intro m2 H2 y x2 R2 r2
        exact g u S1 v S2 e1 e2 m2 H2 _ _ R2 (r1.ext x2) r2 (Pst.ext (x1.trans x2) q)
      | ex c d S2 => rw [e2] at q; exact Pst.ext (r := Mi.R.ex c d S2) x1 q
      | bad => rw [e2] at q; exact q
    | ex c d S1 => rw [e1] at q; exact q
    | bad => rw [e1] at q; exact q
  cases e1 : ev C a' ρ S with
  | ok u S1 =>
    cases e2 : ev C b' ρ S1 with
    | ok v S2 =>
      cases eb : b u v S2 with
      | true =>
        refine .inl (go fun u' S1' v' S2' g1 g2 => ?_)
        rw [e1] at g1
        cases g1
        rw [e2] at g2
        cases g2
        exact fun m H x y => f m S2 H x y u v eb
      | false =>
        refine .inr (go fun u' S1' v' S2' g1 g2 => ?_)
        rw [e1] at g1
        cases g1
        rw [e2] at g2
        cases g2
        exact fun m H x y => f' m S2 H x y u v eb
    | ex c d S2 => exact .inl (go fun u' S1' v' S2' g1 g2 => by rw [e1] at g1; cases g1; rw [e2] at g2; cases g2)
    | bad => exact .inl (go fun u' S1' v' S2' g1 g2 => by rw [e1] at g1; cases g1; rw [e2] at g2; cases g2)
  | ex c d S1 => exact .inl (go fun u' S1' v' S2' g1 g2 => by rw [e1] at g1; cases g1)
  | bad => exact .inl (go fun u' S1' v' S2' g1 g2 => by rw [e1] at g1; cases g1)
theorem se_cmp {o : Cp} (ok : CxOk w C tc X) (hm : (match b with | .Set .. => false | _ => true) = true) (ha : PE X a (TEv w C a')) (hb : PE X b (TEv w C b')) : PE X (.Compare a [cpOf o] [b] pos) (TEv w C (.cmp o a' b')) := by
  have hu : X.A.units + 1 < cLine := Nat.lt_of_le_of_lt (Nat.add_le_add_left (by decide) _) ok.hu
  have un : ∀ {σ : L2.St} {H : Hp} {Q : VK}, TEv w C (.cmp o a' b') σ H Q → ∃ m S ρ, Rel w.K m S H ∧ REnv w.K m H ρ σ ∧ Pst w (RV w.K) m H σ ((ev C a' ρ S).bind fun u S => (ev C b' ρ S).bind fun v S => R.bl (cmpop o S u v) S) Q := fun ⟨m, S, ρ, R, En, q⟩ => by
    unfold ev at q
    exact ⟨m, S, ρ, R, En, q⟩
  by_cases h1 : o = .isin
  · subst h1
    have s1 := pe_cmpR (pos := pos) (or_in (X := X) ok.hu) ha hb (nomark' hm)
    have s2 := pe_cmp (pos := pos) (pc_din (X := X) hu ha hb) (nomark' hm)
    refine pe_imp (pe_or' s1 s2) fun σ H Q h => ?_
    refine two_or (b := fun u v S => (inopS S u v).isSome) (r' := fun y x H2 Q => ∃ a o, x = .ref a ∧ DGet H2 a y o ∧ Q (.bl o.isSome) H2) (un h) (fun m S H x y u v hb R r1 r2 q => ?_) (fun m S H x y u v hb R r1 r2 q => ?_)
    · rw [ok.K]
      refine ⟨m, S, u, v, R, r1, r2, ?_⟩
      have q := bl_pst R q
      unfold cmpop inop at q
      cases e : inopS S u v with
      | none => rw [e] at hb; cases hb
      | some k => simp only [e] at q; exact q
    · have q := bl_pst R q
      unfold cmpop inop at q
      cases e : inopS S u v with
      | some k => rw [e] at hb; cases hb
      | none =>
        simp only [e] at q
        cases e2 : dget S v u with
        | none => rw [e2] at q; exact q.elim
        | some o =>
          rw [e2] at q
          obtain ⟨p, z, rfl, h3, h4⟩ := dget_DG R r2 r1 e2
          exact ⟨p, z, rfl, h3, by rw [h4.isSome]; exact q⟩
  · by_cases h2 : o = .notin
    · subst h2
      have s1 := pe_cmpR (pos := pos) (or_notin (X := X) ok.hu) ha hb (nomark' hm)
      have s2 := pe_cmp (pos := pos) (pc_dnotin (X := X) hu ha hb) (nomark' hm)
      refine pe_imp (pe_or' s1 s2) fun σ H Q h => ?_
      refine two_or (b := fun u v S => (inopS S u v).isSome) (r' := fun y x H2 Q => ∃ a o, x = .ref a ∧ DGet H2 a y o ∧ Q (.bl (!o.isSome)) H2) (un h) (fun m S H x y u v hb R r1 r2 q => ?_) (fun m S H x y u v hb R r1 r2 q => ?_)
      · rw [ok.K]
        refine ⟨m, S, u, v, R, r1, r2, ?_⟩
        have q := bl_pst R q
        unfold cmpop inop at q
        cases e : inopS S u v with
        | none => rw [e] at hb; cases hb
        | some k => simp only [e] at q; exact q
      · have q := bl_pst R q
        unfold cmpop inop at q
        cases e : inopS S u v with
        | some k => rw [e] at hb; cases hb
        | none =>
          simp only [e] at q
          cases e2 : dget S v u with
          | none => rw [e2] at q; exact q.elim
          | some o =>
            rw [e2] at q
            obtain ⟨p, z, rfl, h3, h4⟩ := dget_DG R r2 r1 e2
            exact ⟨p, z, rfl, h3, by rw [h4.isSome]; exact q⟩
    · refine pe_imp (pe_cmpR (pos := pos) (or_cmp (X := X) ok.hu o (cpOf o) rfl h1 h2) ha hb (nomark' hm)) fun σ H Q h => ?_
      refine two_pst (un h) fun m S H x y u v R r1 r2 q => ?_
      rw [ok.K]
      exact ⟨m, S, u, v, R, r1, r2, bl_pst R q⟩
end
end Mi
namespace Mi
open PySem L2
section
variable {w : Wd} {C : Ctx} {tc : TC} {X : Cx} {a b c : Expr} {a' b' c' : E} {es : List Expr} {es' : List E} {pos : Pos}
theorem tru_rv {K : PySem.W.Frag} {m : List Addr} {S : Store} {H : Hp} {u : Val} {x : V} {k : Bool} (R : Rel K m S H) (ru : RV K m H u x) (h : tru S u = some k) : TruV K x H k := by
  cases u with
  | non => cases ru; cases h; exact rfl
  | bl b => cases ru; cases h; exact rfl
  | int i => cases ru; cases h; exact rfl
  | str y => cases h
  | ty n => cases h
  | ref r =>
    obtain ⟨p, hp, rfl⟩ := ru
    unfold tru at h
    cases e : S[r]? with
    | none => simp only [e] at h; cases h
    | some b =>
      simp only [e] at h
      obtain ⟨_, h1, h2⟩ := R.ob _ _ _ e hp
      cases b with
      | lst xs =>
        obtain ⟨ws, rfl, h2⟩ := h2
        cases h
        refine .inl ⟨ws, .of h1, ?_⟩
        have := h2.len
        cases xs <;> cases ws <;> first | rfl | cases this
      | dK xs =>
        obtain ⟨ws, rfl, h2⟩ := h2
        cases h
        refine .inr (.inr ⟨ws, h1, ?_⟩)
        have := h2.len
        cases xs <;> cases ws <;> first | rfl | cases this
      | dT _ => cases h
      | xd _ => cases h
  | tup xs =>
    obtain ⟨p, ws, rfl, h1, h2⟩ := ru
    cases h
    refine .inr (.inl ⟨ws, .of h1, ?_⟩)
    have := h2.len
    cases xs <;> cases ws <;> first | rfl | cases this
  | fro xs =>
    obtain ⟨p, ws, rfl, h1, h2⟩ := ru
    cases h
    refine .inl ⟨ws, h1.sq, ?_⟩
    have := h2.len
    cases xs <;> cases ws <;> first | rfl | cases this
theorem of_pst {α β γ : Type} {rel : List Addr → Hp → β → γ → Prop} {m : List Addr} {H : Hp} {S : Store} {σ : L2.St} {o : Option α} {k : α → Store → R β} {Q : γ → Hp → Prop} (h : Pst w rel m H σ ((R.of o S).bind k) Q) : ∃ x, o = some x ∧ Pst w rel m H σ (k x S) Q := by
  cases o with
  | none => exact h.elim
  | some x => exact ⟨x, rfl, h⟩
theorem se_and (ok : CxOk w C tc X) (ha : PE X a (TEv w C a')) (hb : PE X (.BoolOp .And (b :: es) pos) (TEv w C b')) : PE X (.BoolOp .And (a :: b :: es) pos) (TEv w C (.and a' b')) :=
  pe_imp (pe_andT ha hb) fun σ H Q ⟨m, S, ρ, R, En, q⟩ => by
    unfold ev at q
    refine ⟨m, S, ρ, R, En, q.bind.mono fun x H1 ⟨m1, S1, u, e1, R1, r1, q1⟩ => ?_⟩
    obtain ⟨k, ek, q1⟩ := of_pst q1
    rw [ok.K]
    refine ⟨k, tru_rv R1 r1 ek, ?_⟩
    cases k with
    | true => exact ⟨m1, S1, ρ, R1, En.ext e1, q1⟩
    | false => exact q1 m1 H1 x .refl R1 r1
theorem se_or (ok : CxOk w C tc X) (ha : PE X a (TEv w C a')) (hb : PE X (.BoolOp .Or (b :: es) pos) (TEv w C b')) : PE X (.BoolOp .Or (a :: b :: es) pos) (TEv w C (.or a' b')) :=
  pe_imp (pe_orT ha hb) fun σ H Q ⟨m, S, ρ, R, En, q⟩ => by
    unfold ev at q
    refine ⟨m, S, ρ, R, En, q.bind.mono fun x H1 ⟨m1, S1, u, e1, R1, r1, q1⟩ => ?_⟩
    obtain ⟨k, ek, q1⟩ := of_pst q1
    rw [ok.K]
    refine ⟨k, tru_rv R1 r1 ek, ?_⟩
    cases k with
    | false => exact ⟨m1, S1, ρ, R1, En.ext e1, q1⟩
    | true => exact q1 m1 H1 x .refl R1 r1
theorem se_not (ok : CxOk w C tc X) (ha : PE X a (TEv w C a')) : PE X (.UnaryOp .Not a pos) (TEv w C (.not a')) :=
  pe_imp (pe_notT ha) fun σ H Q ⟨m, S, ρ, R, En, q⟩ => by
    unfold ev at q
    refine ⟨m, S, ρ, R, En, q.bind.mono fun x H1 ⟨m1, S1, u, e1, R1, r1, q1⟩ => ?_⟩
    have q1 := bl_pst R1 q1
    cases e : tru S1 u with
    | none => rw [e] at q1; exact q1.elim
    | some k =>
      rw [e] at q1
      rw [ok.K]
      exact ⟨k, tru_rv R1 r1 e, q1⟩
theorem se_ite (ok : CxOk w C tc X) (hc : PT X c (TTv w C [c'])) (ha : PE X a (TEv w C a')) (hb : PE X b (TEv w C b')) : PE X (.IfExp c a b pos) (TEv w C (.ite c' a' b')) :=
  pe_imp (pe_ifExp hc ha hb) fun σ H Q ⟨m, S, ρ, R, En, q⟩ => by
    unfold ev at q
    refine ⟨m, S, ρ, R, En, ?_⟩
    have q : Pst w (RV w.K) m H σ ((evT C [c'] ρ S).bind fun k S => if k then ev C a' ρ S else ev C b' ρ S) Q := by
      unfold evT
      cases h : ev C c' ρ S with
      | ok u S1 => rw [h] at q; exact q
      | ex _ _ _ => rw [h] at q; exact q
      | bad => rw [h] at q; exact q
    refine q.bind.mono fun k H1 ⟨m1, S1, k', e1, R1, r1, q1⟩ => ?_
    cases r1
    cases k with
    | true => exact ⟨m1, S1, ρ, R1, En.ext e1, q1⟩
    | false => exact ⟨m1, S1, ρ, R1, En.ext e1, q1⟩
theorem se_sub (ok : CxOk w C tc X) (hs : (match b with | .Slice .. => false | _ => true) = true) (ha : PE X a (TEv w C a')) (hb : PE X b (TEv w C b')) : PE X (.Subscript a b pos) (TEv w C (.sub a' b')) := by
  have hu : X.A.units + 1 < cLine := Nat.lt_of_le_of_lt (Nat.add_le_add_left (by decide) _) ok.hu
  have pl : ∀ o i, subscripted b false o i = operate [o, i] (getItem o i) := by
    cases b <;> first | (intro _ _; rfl) | (exact Bool.noConfusion hs)
  refine pe_imp (pe_or' (pe_ix (ix_item (X := X)) ha hb pl) (pe_dget hu ha hb pl)) fun σ H Q h => ?_
  have un : ∃ m S ρ, Rel w.K m S H ∧ REnv w.K m H ρ σ ∧ Pst w (RV w.K) m H σ ((ev C a' ρ S).bind fun u S => (ev C b' ρ S).bind fun v S => R.of (item S u v) S) Q := by
    obtain ⟨m, S, ρ, R, En, q⟩ := h
    unfold ev at q
    exact ⟨m, S, ρ, R, En, q⟩
  refine two_or (b := fun u v S => (itemS S u v).isSome) (r' := fun x y H2 Q => ∃ a v, x = .ref a ∧ DGet H2 a y (some v) ∧ Q v H2) un (fun m S H x y u v hb R r1 r2 q => ?_) (fun m S H x y u v hb R r1 r2 q => ?_)
  · rw [ok.K]
    refine ⟨m, S, u, v, R, r1, r2, ?_⟩
    unfold item at q
    cases e : itemS S u v with
    | none => rw [e] at hb; cases hb
    | some k => simp only [e] at q; exact fun z rz => q m H z .refl R rz
  · unfold item at q
    cases e : itemS S u v with
    | some k => rw [e] at hb; cases hb
    | none =>
      simp only [e] at q
      cases e2 : dget S u v with
      | none => rw [e2] at q; exact q.elim
      | some o =>
        cases o with
        | none => rw [e2] at q; exact q.elim
        | some k =>
          rw [e2] at q
          obtain ⟨p, z, rfl, h3, z', rfl, h4⟩ := dget_DG R r1 r2 e2
          exact ⟨p, z', rfl, h3, q m H z' .refl R h4⟩
theorem se_slB {p2 : Pos} (ok : CxOk w C tc X) (ha : PE X a (TEv w C a')) (hb : PE X b (TEv w C b')) (hc : PE X c (TEv w C c')) : PE X (.Subscript a (.Slice (some b) (some c) none p2) pos) (TEv w C (.slB a' b' c')) :=
  pe_imp (pe_slice (sl_slice (X := X)) ha (po_some hb) (po_some hc)) fun σ H Q ⟨m, S, ρ, R, En, q⟩ => by
    unfold ev at q
    refine ⟨m, S, ρ, R, En, q.bind.mono fun x H1 ⟨m1, S1, u, e1, R1, r1, q1⟩ => ?_⟩
    refine ⟨m1, S1, ρ, R1, En.ext e1, q1.bind.mono fun y H2 ⟨m2, S2, i, e2, R2, r2, q2⟩ => ?_⟩
    cases i with
    | int n =>
      obtain rfl : y = .int n := r2
      refine ⟨n, rfl, m2, S2, ρ, R2, (En.ext e1).ext e2, q2.bind.mono fun z H3 ⟨m3, S3, j, e3, R3, r3, q3⟩ => ?_⟩
      cases j with
      | int k =>
        obtain rfl : z = .int k := r3
        refine ⟨k, rfl, ?_⟩
        rw [ok.K]
        exact ⟨m3, S3, u, R3, (r1.ext e2).ext e3, op_pst q3⟩
      | _ => exact q3.elim
    | _ => exact q2.elim
theorem se_slL {p2 : Pos} (ok : CxOk w C tc X) (ha : PE X a (TEv w C a')) (hb : PE X b (TEv w C b')) : PE X (.Subscript a (.Slice (some b) none none p2) pos) (TEv w C (.slL a' b')) :=
  pe_imp (pe_slice (sl_slice (X := X)) ha (po_some hb) po_none) fun σ H Q ⟨m, S, ρ, R, En, q⟩ => by
    unfold ev at q
    refine ⟨m, S, ρ, R, En, q.bind.mono fun x H1 ⟨m1, S1, u, e1, R1, r1, q1⟩ => ?_⟩
    refine ⟨m1, S1, ρ, R1, En.ext e1, q1.bind.mono fun y H2 ⟨m2, S2, i, e2, R2, r2, q2⟩ => ?_⟩
    cases i with
    | int n =>
      obtain rfl : y = .int n := r2
      refine ⟨n, rfl, ?_⟩
      rw [ok.K]
      exact ⟨m2, S2, u, R2, r1.ext e2, op_pst q2⟩
    | _ => exact q2.elim
theorem se_slH {p2 : Pos} (ok : CxOk w C tc X) (ha : PE X a (TEv w C a')) (hb : PE X b (TEv w C b')) : PE X (.Subscript a (.Slice none (some b) none p2) pos) (TEv w C (.slH a' b')) :=
  pe_imp (pe_slice (sl_slice (X := X)) ha po_none (po_some hb)) fun σ H Q ⟨m, S, ρ, R, En, q⟩ => by
    unfold ev at q
    refine ⟨m, S, ρ, R, En, q.bind.mono fun x H1 ⟨m1, S1, u, e1, R1, r1, q1⟩ => ?_⟩
    refine ⟨m1, S1, ρ, R1, En.ext e1, q1.bind.mono fun y H2 ⟨m2, S2, i, e2, R2, r2, q2⟩ => ?_⟩
    cases i with
    | int n =>
      obtain rfl : y = .int n := r2
      refine ⟨n, rfl, ?_⟩
      rw [ok.K]
      exact ⟨m2, S2, u, R2, r1.ext e2, op_pst q2⟩
    | _ => exact q2.elim
theorem se_slA {p2 : Pos} (ok : CxOk w C tc X) (ha : PE X a (TEv w C a')) : PE X (.Subscript a (.Slice none none none p2) pos) (TEv w C (.slA a')) :=
  pe_imp (pe_slice (sl_slice (X := X)) ha po_none po_none) fun σ H Q ⟨m, S, ρ, R, En, q⟩ => by
    unfold ev at q
    refine ⟨m, S, ρ, R, En, q.bind.mono fun x H1 ⟨m1, S1, u, e1, R1, r1, q1⟩ => ?_⟩
    show ∃ m S u, Rel X.K m S H1 ∧ RV X.K m H1 u x ∧ PO' X.K m H1 (slice S u none none) Q
    rw [ok.K]
    exact ⟨m1, S1, u, R1, r1, op_pst q1⟩
theorem se_slR {k : Nat} {p1 p2 p3 : Pos} (ok : CxOk w C tc X) (ha : PE X a (TEv w C a')) : PE X (.Subscript a (.Slice none none (some (.UnaryOp .USub (.Constant (.int 1) k p1) p2)) p3) pos) (TEv w C (.slR a')) :=
  pe_imp (pe_revL ha) fun σ H Q ⟨m, S, ρ, R, En, q⟩ => by
    unfold ev at q
    refine ⟨m, S, ρ, R, En, q.bind.mono fun x H1 ⟨m1, S1, u, e1, R1, r1, q1⟩ => ?_⟩
    cases e : lstOf S1 u with
    | none => simp only [e] at q1; exact q1.elim
    | some xs =>
      simp only [e] at q1
      obtain ⟨p, vs, rfl, h1, h2⟩ := R1.lst e r1
      rw [ok.K]
      exact ⟨p, vs, rfl, h1, (po_alloc (op_pst q1) R1 h2.reverse).2⟩
end
end Mi
namespace Mi
open PySem L2
section
variable {w : Wd} {C : Ctx} {tc : TC} {X : Cx} {a b c : Expr} {a' b' c' : E} {es : List Expr} {es' : List E} {pos : Pos}
/-- a text's function is called -/
theorem se_call {x : Str} {p : Pos} {f n : Nat} {g : Sem} (ok : CxOk w C tc X) (hf : C f = some (n, g)) (h : FnHas X w.cl x n g) (hg : Gl X x) (hdb : (x == ("__debug__" : Str)) = false)
    (hn : nst a = true) (hns : es.all nst = true) (ha : PA X (a :: es) (TAv w C es')) : PE X (.Call (.Name x p) (a :: es) [] pos) (TEv w C (.call f es')) := by
  obtain ⟨k, fa, fd, ps, F, hr, hm, hk, hb⟩ := h.has
  refine pe_imp (pe_callS (E := WE w.We) F hr hg hm hk hb (fun σ => passAt ok.tk σ) ha hdb (starEach_cons hn) (star_any hns)) fun σ H Q ⟨m, S, ρ, R, En, q⟩ => ?_
  unfold ev at q
  simp only [hf] at q
  refine ⟨m, S, ρ, R, En, q.bind.mono fun xs H1 ⟨m1, S1, us, e1, R1, r1, q1⟩ => ?_⟩
  split at q1
  · rename_i hl
    rw [ok.K]
    refine ⟨m1, S1, us, R1, r1, hl, ?_⟩
    cases e : g us S1 with
    | ok v S2 => rw [e] at q1; exact q1
    | ex c d S2 => rw [e] at q1; exact q1
    | bad => rw [e] at q1; exact q1
  · exact q1.elim
theorem prF_cases (p : Pr) : (∃ i, prF p = .builtin i) ∨ ∃ T, prF p = .type T := by
  cases p <;> first | exact .inl ⟨_, rfl⟩ | exact .inr ⟨_, rfl⟩
theorem se_pr {x : Str} {p : Pos} {r : Pr} (ok : CxOk w C tc X) (hg : Gl X x) (hm : X.mg x = none) (hv : bootBuiltins x = some (prF r)) (h1 : x ≠ "__name__") (hdb : (x == ("__debug__" : Str)) = false)
    (hn : nst a = true) (hns : es.all nst = true) (ha : PA X (a :: es) (TAv w C es')) : PE X (.Call (.Name x p) (a :: es) [] pos) (TEv w C (.pr r es')) := by
  have key : PE X (.Call (.Name x p) (a :: es) [] pos) (tCB (fun xs H Q => ∃ m S us, Rel X.K m S H ∧ RVs X.K m H us xs ∧ PO' X.K m H (prim r us S) Q) (TAv w C es')) := by
    have c := cr_prim (X := X) ok.calm r
    rcases prF_cases r with ⟨i, e⟩ | ⟨T, e⟩
    · rw [e] at c hv
      exact pe_callB c hg hm hv ha h1 hdb (starEach_cons hn) (star_any hns)
    · rw [e] at c hv
      exact pe_callTy c hg hm hv ha h1 hdb (starEach_cons hn) (star_any hns)
  refine pe_imp key fun σ H Q ⟨m, S, ρ, R, En, q⟩ => ?_
  unfold ev at q
  refine ⟨m, S, ρ, R, En, q.bind.mono fun xs H1 ⟨m1, S1, us, e1, R1, r1, q1⟩ => ?_⟩
  rw [ok.K]
  exact ⟨m1, S1, us, R1, r1, op_pst q1⟩
theorem ty_rv {K : PySem.W.Frag} {m : List Addr} {S : Store} {H : Hp} {u : Val} {x : V} {t : String} (R : Rel K m S H) (ru : RV K m H u x) (h : tyIn S u = some t) : TyX K H x (.type t) := by
  cases u with
  | non => cases ru; cases h; exact .base .non
  | bl b => cases ru; cases h; exact .base (.bl b)
  | int i => cases ru; cases h; exact .base (.int i)
  | str y => cases ru; cases h; exact .base (.str y)
  | ty n => cases h
  | ref r =>
    obtain ⟨p, hp, rfl⟩ := ru
    unfold tyIn at h
    cases e : S[r]? with
    | none => simp only [e] at h; cases h
    | some b =>
      simp only [e] at h
      obtain ⟨_, h1, h2⟩ := R.ob _ _ _ e hp
      cases b with
      | lst xs =>
        obtain ⟨ws, rfl, h2⟩ := h2
        cases h
        exact .base (.lst h1)
      | dK xs =>
        obtain ⟨ws, rfl, h2⟩ := h2
        cases h
        exact .base (.dK h1)
      | dT _ => cases h
      | xd _ => cases h
  | tup xs =>
    obtain ⟨p, ws, rfl, h1, h2⟩ := ru
    cases h
    exact .base (.tup h1)
  | fro xs => cases h
theorem se_isi {x y : Str} {p p2 : Pos} {T : String} (ok : CxOk w C tc X) (hg : Gl X x) (hm : X.mg x = none) (hv : bootBuiltins x = some (.builtin "isinstance")) (h1 : x ≠ "__name__") (hdb : (x == ("__debug__" : Str)) = false)
    (hgy : Gl X y) (hmy : X.mg y = none) (hvy : bootBuiltins y = some (.type T)) (h1y : y ≠ "__name__") (hdby : (y == ("__debug__" : Str)) = false)
    (hn : nst a = true) (ha : PE X a (TEv w C a')) : PE X (.Call (.Name x p) [a, .Name y p2] [] pos) (TEv w C (.isi a' T)) := by
  have hT : PE X (.Name y p2) (tC (.ty T)) := pe_bltn hgy hmy hvy rfl h1y hdby
  have hA : PA X [a, .Name y p2] (tCons (TEv w C a') (tCons (tC (.ty T)) tNil)) := pa_cons ha (pa_cons hT pa_nil (starEach_cons rfl)) (starEach_cons hn)
  refine pe_imp (pe_callB call_isi hg hm hv hA h1 hdb (starEach_cons hn) (star_any rfl)) fun σ H Q ⟨m, S, ρ, R, En, q⟩ => ?_
  unfold ev at q
  refine ⟨m, S, ρ, R, En, q.bind.mono fun x H1 ⟨m1, S1, u, e1, R1, r1, q1⟩ => ?_⟩
  have q1 := bl_pst R1 q1
  cases e : tyIn S1 u with
  | none => rw [e] at q1; exact q1.elim
  | some t =>
    rw [e] at q1
    cases e2 : kitB t T with
    | none => rw [Option.bind_some, e2] at q1; exact q1.elim
    | some k =>
      rw [Option.bind_some, e2] at q1
      refine ⟨x, .ty T, _, _, k, rfl, .ty T, ?_, kit_ty e2, q1⟩
      rw [ok.K]
      exact ty_rv R1 r1 e
theorem attr_base {e : Expr} {f : Str} {env : PySem.Env} {whole : PySem.Sem Value} (h : (match e with | .Call (.Name id _) [] [] _ => id != "super" | _ => true) = true) : attributeBase e f env whole = whole := by
  unfold attributeBase
  split
  · rename_i id _ _
    simp only at h
    rw [if_pos (by simp only [h, Bool.true_or])]
  · rfl
def meT : Me → String
  | .join => "str" | .split => "str" | .get1 => "dict" | .get2 => "dict" | _ => "list"
theorem recv_ty {K : PySem.W.Frag} {m : List Addr} {S : Store} {H : Hp} {u : Val} {x : V} {r : Me} (R : Rel K m S H) (ru : RV K m H u x) (h : recv r S u = true) : tyV K (meT r) x H := by
  have lst : (lstOf S u).isSome = true → tyV K "list" x H := fun h => by
    cases e : lstOf S u with
    | none => (rw [e] at h; cases h)
    | some xs =>
      obtain ⟨p, vs, rfl, h1, _⟩ := R.lst e ru
      exact .inl ⟨rfl, vs, h1⟩
  cases r <;> first | (exact lst h) | (exact Bool.noConfusion h) | (cases u <;> first | (exact Bool.noConfusion h) | (cases ru; exact rfl))
/-- methods with arguments, without -/
theorem se_me {nm : Str} {r : Me} {apos : Pos} (ok : CxOk w C tc X) (pa : PySem.PlainAttrs (meT r)) (slot : PySem.Slot (meT r) nm (meId r)) (hty : PySem.typeOf (.builtin (meId r)) = pure (.type "method_descriptor"))
    (hb : ∀ env whole, attributeBase a nm env whole = whole) (hl : (apos.endLine == pos.line) = true) (hfw : es.length < 28) (hn : nst b = true) (hns : es.all nst = true)
    (ha : PE X a (TEv w C a')) (hA : PA X (b :: es) (TAv w C es')) : PE X (.Call (.Attribute a nm apos) (b :: es) [] pos) (TEv w C (.me r a' es')) := by
  refine pe_imp (pe_bm pa slot hty (mt_meth (X := X) r) ha hA (hb _ _) ?_ hl (starEach_cons hn) (star_any hns)) fun σ H Q ⟨m, S, ρ, R, En, q⟩ => ?_
  · rw [star_few (by rw [List.all_cons, hn, hns]; rfl)]
    simp only [List.length_cons, List.length_nil, Bool.true_and, Bool.and_eq_true, decide_eq_true_eq]
    refine ⟨rfl, ?_⟩
    show es.length + 1 + 0 + 0 < 30
    omega
  · unfold ev at q
    refine ⟨m, S, ρ, R, En, q.bind.mono fun x H1 ⟨m1, S1, u, e1, R1, r1, q1⟩ => ?_⟩
    split at q1
    · rename_i hr
      rw [ok.K]
      refine ⟨recv_ty R1 r1 hr, m1, S1, ρ, R1, En.ext e1, q1.bind.mono fun xs H2 ⟨m2, S2, us, e2, R2, r2, q2⟩ => ?_⟩
      exact ⟨m2, S2, u, us, R2, r1.ext e2, r2, op_pst q2⟩
    · exact q1.elim
theorem se_me0 {nm : Str} {r : Me} {apos : Pos} (ok : CxOk w C tc X) (pa : PySem.PlainAttrs (meT r)) (slot : PySem.Slot (meT r) nm (meId r)) (hty : PySem.typeOf (.builtin (meId r)) = pure (.type "method_descriptor"))
    (hb : ∀ env whole, attributeBase a nm env whole = whole) (hl : (apos.endLine == pos.line) = true) (ha : PE X a (TEv w C a')) : PE X (.Call (.Attribute a nm apos) [] [] pos) (TEv w C (.me r a' [])) := by
  refine pe_imp (pe_bm0 pa slot hty (mt_meth (X := X) r) ha (hb _ _) hl) fun σ H Q ⟨m, S, ρ, R, En, q⟩ => ?_
  unfold ev at q
  refine ⟨m, S, ρ, R, En, q.bind.mono fun x H1 ⟨m1, S1, u, e1, R1, r1, q1⟩ => ?_⟩
  split at q1
  · rename_i hr
    rw [ok.K]
    refine ⟨recv_ty R1 r1 hr, m1, S1, u, [], R1, r1, rfl, ?_⟩
    unfold evs at q1
    exact op_pst q1
  · exact q1.elim
theorem rng_rv {K : PySem.W.Frag} {m : List Addr} {H : Hp} (lo : Int) (n : Nat) : RVs K m H (rng lo n) ((List.range n).map fun (i : Nat) => V.int (lo + i)) := by
  unfold rng
  generalize List.range n = l
  induction l with
  | nil => rfl
  | cons x l ih => exact ⟨_, _, rfl, rfl, ih⟩
theorem se_lrg1 {x y : Str} {p p2 p3 : Pos} (ok : CxOk w C tc X) (hg : Gl X "list") (hgr : Gl X "range") (hn : nst a = true) (ha : PE X a (TEv w C a')) :
    PE X (.Call (.Name "list" p) [.Call (.Name "range" p2) [a] [] p3] [] pos) (TEv w C (.lrg1 a')) := by
  refine pe_imp (pe_listRg ok.calm hg (ok.blt _ (by decide)) (prg_1 hgr (ok.blt _ (by decide)) ha (starEach_cons hn)) (starEach_cons rfl)) fun σ H Q ⟨m, S, ρ, R, En, q⟩ => ?_
  unfold ev at q
  refine ⟨m, S, ρ, R, En, q.bind.mono fun x H1 ⟨m1, S1, u, e1, R1, r1, q1⟩ => ?_⟩
  cases u with
  | int n =>
    obtain rfl : x = .int n := r1
    refine ⟨n, rfl, ?_⟩
    have q1 : Pst w (RV w.K) m1 H1 σ (if n ≤ 1000000 ∧ -(2 ^ 62) ≤ n then Mi.R.op (alloc S1 (rng 0 n.toNat)) else Mi.R.bad) Q := q1
    by_cases hn : n ≤ 1000000 ∧ -(2 ^ 62) ≤ n
    · rw [if_pos hn] at q1
      refine ⟨⟨by omega, by omega, by omega, by omega, by omega⟩, ?_⟩
      have e : rgV 0 n = (List.range n.toNat).map fun (i : Nat) => V.int (0 + i) := by
        unfold rgV
        rw [Int.sub_zero]
      rw [e]
      exact (po_alloc (op_pst q1) R1 (rng_rv 0 n.toNat)).2
    · rw [if_neg hn] at q1
      exact q1.elim
  | _ => exact q1.elim
theorem se_lrg2 {p p2 p3 : Pos} (ok : CxOk w C tc X) (hg : Gl X "list") (hgr : Gl X "range") (hn : nst a = true) (hnb : nst b = true) (ha : PE X a (TEv w C a')) (hb : PE X b (TEv w C b')) :
    PE X (.Call (.Name "list" p) [.Call (.Name "range" p2) [a, b] [] p3] [] pos) (TEv w C (.lrg2 a' b')) := by
  refine pe_imp (pe_listRg ok.calm hg (ok.blt _ (by decide)) (prg_2 hgr (ok.blt _ (by decide)) ha hb (starEach_cons hn) (starEach_cons hnb) (star_any (by rw [List.all_cons, hnb]; rfl))) (starEach_cons rfl)) fun σ H Q ⟨m, S, ρ, R, En, q⟩ => ?_
  unfold ev at q
  refine ⟨m, S, ρ, R, En, q.bind.mono fun x H1 ⟨m1, S1, u, e1, R1, r1, q1⟩ => ?_⟩
  refine ⟨m1, S1, ρ, R1, En.ext e1, q1.bind.mono fun y H2 ⟨m2, S2, v, e2, R2, r2, q2⟩ => ?_⟩
  cases u with
  | int i =>
    cases v with
    | int j =>
      obtain rfl : x = .int i := r1
      obtain rfl : y = .int j := r2
      refine ⟨i, j, rfl, rfl, ?_⟩
      have q2 : Pst w (RV w.K) m2 H2 σ (if (small62 i && small62 j && decide (j - i ≤ 1000000)) = true then Mi.R.op (alloc S2 (rng i (j - i).toNat)) else Mi.R.bad) Q := q2
      by_cases hs : (small62 i && small62 j && decide (j - i ≤ 1000000)) = true
      · rw [if_pos hs] at q2
        simp only [small62, Bool.and_eq_true, decide_eq_true_eq] at hs
        refine ⟨⟨hs.1.1.1, hs.1.1.2, hs.1.2.1, hs.1.2.2, by omega⟩, ?_⟩
        exact (po_alloc (op_pst q2) R2 (rng_rv i (j - i).toNat)).2
      · rw [if_neg hs] at q2
        exact q2.elim
    | _ => exact q2.elim
  | _ => exact q2.elim
theorem se_dK (ok : CxOk w C tc X) : PE X (.Dict [] [] pos) (TEv w C .dK) := pe_imp pe_dnewK fun σ H Q ⟨m, S, ρ, R, En, q⟩ p hp => by
  unfold ev at q
  exact q (m ++ [p]) _ _ (ext_new hp) (R.new hp (b := .dK []) ⟨[], rfl, rfl⟩) ⟨p, R.last, rfl⟩
theorem se_dT (ok : CxOk w C tc X) : PE X (.Dict [] [] pos) (TEv w C .dT) := pe_imp pe_dnewT fun σ H Q ⟨m, S, ρ, R, En, q⟩ p hp => by
  unfold ev at q
  exact q (m ++ [p]) _ _ (ext_new hp) (R.new hp (b := .dT []) ⟨[], rfl, rfl⟩) ⟨p, R.last, rfl⟩
end
end Mi
namespace Mi
open PySem L2
/-! ### targets -/
mutual
def slots : Tg → List Nat
  | .name i => [i]
  | .tup ts => slotss ts
def slotss : List Tg → List Nat
  | [] => []
  | t :: ts => slots t ++ slotss ts
end
theorem wipe_at (σ : L2.St) (j : Nat) : ∀ vs : List Nat, (wipe σ vs)[j]? = if j ∈ vs then (σ[j]?).map fun _ => none else σ[j]?
  | [] => by simp [wipe]
  | v :: vs => by
    unfold wipe
    have ih := wipe_at σ j vs
    have hl := wipe_length σ vs
    by_cases h : v = j
    · subst h
      rw [if_pos (by simp)]
      by_cases hv : v < (wipe σ vs).length -- (here)
      · rw [List.getElem?_set_self hv, List.getElem?_eq_getElem (by rw [← hl]; exact hv)]; rfl
      · rw [List.getElem?_eq_none (by simpa using hv), List.getElem?_eq_none (by omega)]; rfl
    · rw [List.getElem?_set_ne h, ih]
      by_cases h2 : j ∈ vs
      · rw [if_pos h2, if_pos (by simp [h2])]
      · rw [if_neg h2, if_neg (by simp [h2]; exact fun e => h e.symm)]
theorem wipeE_at (σ : Env) (j : Nat) : ∀ vs : List Nat, (wipeE σ vs)[j]? = if j ∈ vs then (σ[j]?).map fun _ => none else σ[j]?
  | [] => by simp [wipeE]
  | v :: vs => by
    unfold wipeE
    have ih := wipeE_at σ j vs
    have hl : (wipeE σ vs).length = σ.length := by
      clear ih
      induction vs with
      | nil => rfl
      | cons a r ih => unfold wipeE; rw [List.length_set, ih]
    by_cases h : v = j
    · subst h
      rw [if_pos (by simp)]
      by_cases hv : v < (wipeE σ vs).length
      · rw [List.getElem?_set_self hv, List.getElem?_eq_getElem (by rw [← hl]; exact hv)]; rfl
      · rw [List.getElem?_eq_none (by simpa using hv), List.getElem?_eq_none (by omega)]; rfl
    · rw [List.getElem?_set_ne h, ih]
      by_cases h2 : j ∈ vs
      · rw [if_pos h2, if_pos (by simp [h2])]
      · rw [if_neg h2, if_neg (by simp [h2]; exact fun e => h e.symm)]
theorem wipeE_length (σ : Env) : ∀ vs : List Nat, (wipeE σ vs).length = σ.length
  | [] => rfl
  | v :: vs => by unfold wipeE; rw [List.length_set, wipeE_length σ vs]
theorem wipe_set {σ : L2.St} {i : Nat} {x : Option V} {vs : List Nat} (h : i ∈ vs) : wipe (σ.set i x) vs = wipe σ vs := by
  apply List.ext_getElem?
  intro j
  rw [wipe_at, wipe_at]
  by_cases hj : j ∈ vs
  · rw [if_pos hj, if_pos hj]
    by_cases e : i = j
    · subst e
      by_cases hv : i < σ.length
      · rw [List.getElem?_set_self hv, List.getElem?_eq_getElem hv]; rfl
      · rw [List.getElem?_eq_none (by simpa using hv), List.getElem?_eq_none (by omega)]
    · rw [List.getElem?_set_ne e]
  · rw [if_neg hj, if_neg hj, List.getElem?_set_ne (fun e : i = j => hj (by rw [← e]; exact h))]
theorem REnv.wipe {K : PySem.W.Frag} {m : List Addr} {H : Hp} {ρ : Env} {σ : L2.St} (h : REnv K m H ρ σ) (vs : List Nat) : REnv K m H (wipeE ρ vs) (wipe σ vs) := by
  refine ⟨by rw [wipeE_length, wipe_length]; exact h.1, fun i v hv => ?_⟩
  rw [wipeE_at] at hv
  rw [wipe_at]
  by_cases hi : i ∈ vs
  · rw [if_pos hi] at hv
    cases e : ρ[i]? with
    | none => rw [e] at hv; cases hv
    | some o => rw [e] at hv; cases hv
  · rw [if_neg hi] at hv ⊢
    exact h.2 i v hv
theorem REnv.set {K : PySem.W.Frag} {m : List Addr} {H : Hp} {ρ : Env} {σ : L2.St} {u : Val} {v : V} (h : REnv K m H ρ σ) (i : Nat) (r : RV K m H u v) : REnv K m H (ρ.set i (some u)) (σ.set i (some v)) := by
  refine ⟨by rw [List.length_set, List.length_set]; exact h.1, fun j x hx => ?_⟩
  by_cases e : i = j
  · subst e
    have hl : i < ρ.length := by
      by_cases c : i < ρ.length
      · exact c
      · rw [List.getElem?_eq_none (by simpa using c)] at hx; cases hx
    rw [List.getElem?_set_self hl] at hx
    cases hx
    exact ⟨v, by rw [List.getElem?_set_self (by rw [← h.1]; exact hl)], r⟩
  · rw [List.getElem?_set_ne e] at hx ⊢
    exact h.2 j x hx
def TGv (w : Wd) (t : Tg) : TG := fun v σ H Q => ∃ m S u ρ ρ', Rel w.K m S H ∧ REnv w.K m H ρ σ ∧ RV w.K m H u v ∧ lay S t u ρ = some ρ' ∧
  ∀ σ', REnv w.K m H ρ' σ' → (∀ vs, (∀ i ∈ slots t, i ∈ vs) → wipe σ' vs = wipe σ vs) → Q σ' H
def TGsv (w : Wd) (ts : List Tg) : TGs := fun vs σ H Q => ∃ m S us ρ ρ', Rel w.K m S H ∧ REnv w.K m H ρ σ ∧ RVs w.K m H us vs ∧ lays S ts us ρ = some ρ' ∧
  ∀ σ', REnv w.K m H ρ' σ' → (∀ vs, (∀ i ∈ slotss ts, i ∈ vs) → wipe σ' vs = wipe σ vs) → Q σ' H
theorem pg_imp {X : Cx} {e : Expr} {t t' : TG} (h : PG X e t) (f : ∀ v σ H Q, t' v σ H Q → t v σ H Q) : PG X e t' := ⟨fun pins s σ H v u Q I r q => h.run pins s σ H v u Q I r (f _ _ _ _ q)⟩
theorem pgs_imp {X : Cx} {e : List Expr} {t t' : TGs} (h : PGs X e t) (f : ∀ v σ H Q, t' v σ H Q → t v σ H Q) : PGs X e t' := ⟨fun pins s σ H v u Q I r q => h.run pins s σ H v u Q I r (f _ _ _ _ q)⟩
section
variable {w : Wd} {C : Ctx} {tc : TC} {X : Cx} {a b c : Expr} {a' b' c' : E} {es : List Expr} {es' : List E} {pos : Pos}
theorem sg_name {x : Str} {i : Nat} (ok : CxOk w C tc X) (h : (x, i) ∈ tc.own) : PG X (.Name x pos) (TGv w (.name i)) := by
  obtain ⟨h1, h2, h3⟩ := ok.sto _ h
  refine pg_imp (pg_name (by rw [ok.N]; exact ok.nd) h1 h2 h3) fun v σ H Q ⟨m, S, u, ρ, ρ', R, En, ru, q, k⟩ => ?_
  unfold lay at q
  cases q
  exact k _ (En.set i ru) fun vs hv => wipe_set (hv i (by simp [slots]))
theorem sgs_nil : PGs X [] (TGsv w []) := pgs_imp pgs_nil fun vs σ H Q ⟨m, S, us, ρ, ρ', R, En, ru, q, k⟩ => by
  cases us with
  | nil =>
    unfold lays at q
    cases q
    exact ⟨ru, k σ En fun _ _ => rfl⟩
  | cons u us => unfold lays at q; cases q
theorem sgs_cons {t : Tg} {ts : List Tg} (hn : nst a = true) (h1 : PG X a (TGv w t)) (h2 : PGs X es (TGsv w ts)) : PGs X (a :: es) (TGsv w (t :: ts)) :=
  pgs_imp (pgs_cons h1 h2 (by rw [assignEach_cons hn]; rfl)) fun vs σ H Q ⟨m, S, us, ρ, ρ', R, En, ru, q, k⟩ => by
    cases us with
    | nil => unfold lays at q; cases q
    | cons u us =>
      obtain ⟨v, r, rfl, r1, r2⟩ := ru
      unfold lays at q
      cases e : lay S t u ρ with
      | none => rw [e] at q; cases q
      | some ρ1 =>
        rw [e] at q
        refine ⟨v, r, rfl, m, S, u, ρ, ρ1, R, En, r1, e, fun σ1 En1 hw => ?_⟩
        refine ⟨m, S, us, ρ1, ρ', R, En1, r2, q, fun σ2 En2 hw2 => k σ2 En2 fun vs hv => ?_⟩
        rw [hw2 vs fun i hi => hv i (by unfold slotss; exact List.mem_append_right _ hi), hw vs fun i hi => hv i (by unfold slotss; exact List.mem_append_left _ hi)]
theorem lays_len {S : Store} : ∀ {ts : List Tg} {us : List Val} {ρ ρ' : Env}, lays S ts us ρ = some ρ' → us.length = ts.length
  | [], [], _, _, _ => rfl
  | [], _ :: _, _, _, h => by unfold lays at h; cases h
  | _ :: _, [], _, _, h => by unfold lays at h; cases h
  | t :: ts, u :: us, ρ, ρ', h => by
    unfold lays at h
    cases e : lay S t u ρ with
    | none => (rw [e] at h; cases h)
    | some ρ1 => rw [e] at h; rw [List.length_cons, List.length_cons, lays_len h]
theorem sg_tup {k : Nat} {ts : List Tg} (ok : CxOk w C tc X) (hn : es.all nst = true) (hl : ts.length = es.length) (h : PGs X es (TGsv w ts)) : PG X (.Tuple es k pos) (TGv w (.tup ts)) := by
  obtain ⟨h1, h2⟩ := assign_maps (env := X.env) hn
  refine pg_imp (pg_or' (pg_tup (n := es.length) ok.calm h h1 h2) (pg_lst (n := es.length) ok.calm h h1 h2)) fun v σ H Q ⟨m, S, u, ρ, ρ', R, En, ru, q, kk⟩ => ?_
  unfold lay at q
  cases e : seqOf S u with
  | none => simp only [e] at q; cases q
  | some us =>
    simp only [e] at q
    obtain ⟨p, vs, rfl, hs, rs⟩ := R.seq e ru
    have len : vs.length = es.length := by rw [← rs.len, lays_len q, hl]
    have fin : TGsv w ts vs σ H Q := ⟨m, S, us, ρ, ρ', R, En, rs, q, fun σ' En' hw => kk σ' En' fun vs hv => hw vs fun i hi => hv i (by unfold slots; exact hi)⟩
    rcases hs with hs | hs
    · exact .inr ⟨p, vs, rfl, by rw [ok.K]; exact hs, len, fin⟩
    · exact .inl ⟨p, vs, rfl, by rw [ok.K]; exact hs, len, fin⟩
/-! ### what is walked -/
def JOk (K : PySem.W.Frag) (m0 : List Addr) (H0 : Hp) (iv : IV) (J : It) : Prop := ∀ m S H i, Ext m0 H0 m H → Rel K m S H → (iv.next i S = some none → J.stop i H) ∧
  ∀ v, iv.next i S = some (some v) → J.go i H ∧ ∀ x H', J.yld i H x H' → Ext m H m H' ∧ Rel K m S H' ∧ RV K m H' v x
def TIv (w : Wd) (C : Ctx) (k : IK) (its : List E) : TI := fun σ H Q => ∃ m S ρ, Rel w.K m S H ∧ REnv w.K m H ρ σ ∧ Pst w (JOk w.K) m H σ ((evs C its ρ S).bind fun us S => R.of (start k us S) S) Q
theorem pi_imp {X : Cx} {tg e : Expr} {t t' : TI} (h : PI X tg e t) (f : ∀ σ H Q, t' σ H Q → t σ H Q) : PI X tg e t' := ⟨fun pins s σ H Q I q => h.run pins s σ H Q I (f _ _ _ q)⟩
theorem jok_seq {K : PySem.W.Frag} {m : List Addr} {H : Hp} {u : Val} {p : Addr} (ru : RV K m H u (.ref p)) : JOk K m H (.seq u) (Itl K p) := by
  intro m1 S1 H1 i e R
  have r1 := ru.ext e
  have at' : ∀ {o : Option Val}, IV.next (.seq u) i S1 = some o → ∃ xs vs, SqL K H1 p vs ∧ RVs K m1 H1 xs vs ∧ xs[i]? = o := fun {o} h => by
    have h : (lstOf S1 u).map (fun xs => xs[i]?) = some o := h
    cases es : lstOf S1 u with
    | none => rw [es] at h; cases h
    | some xs =>
      rw [es] at h
      obtain ⟨q, vs, e2, h1, h2⟩ := R.lst es r1
      cases e2
      exact ⟨xs, vs, h1, h2, Option.some.inj h⟩
  refine ⟨fun h => ?_, fun v h => ?_⟩
  · obtain ⟨xs, vs, h1, h2, h3⟩ := at' h
    refine ⟨vs, h1, ?_⟩
    rw [← h2.len]
    exact List.getElem?_eq_none_iff.mp h3
  · obtain ⟨xs, vs, h1, h2, h3⟩ := at' h
    obtain ⟨z, h3, h4⟩ := h2.get h3
    refine ⟨⟨vs, z, h1, h3⟩, fun x H' ⟨e3, h5⟩ => ?_⟩
    subst e3
    have := h5 vs h1
    rw [h3] at this
    cases this
    exact ⟨.refl, R, h4⟩
theorem jok_enum {K : PySem.W.Frag} {m : List Addr} {H : Hp} {u : Val} {p : Addr} (ru : RV K m H u (.ref p)) : JOk K m H (.en u) (Ite K p) := by
  intro m1 S1 H1 i e R
  have r1 := ru.ext e
  have at' : ∀ {o : Option Val}, IV.next (.en u) i S1 = some o → ∃ xs vs, SqL K H1 p vs ∧ RVs K m1 H1 xs vs ∧ (xs[i]?.map fun x => Val.tup [.int (i : Nat), x]) = o := fun {o} h => by
    have h : (lstOf S1 u).map (fun xs => xs[i]?.map fun x => Val.tup [.int (i : Nat), x]) = some o := h
    cases es : lstOf S1 u with
    | none => rw [es] at h; cases h
    | some xs =>
      rw [es] at h
      obtain ⟨q, vs, e2, h1, h2⟩ := R.lst es r1
      cases e2
      exact ⟨xs, vs, h1, h2, Option.some.inj h⟩
  refine ⟨fun h => ?_, fun v h => ?_⟩
  · obtain ⟨xs, vs, h1, h2, h3⟩ := at' h
    refine ⟨vs, h1, ?_⟩
    rw [← h2.len]
    cases hx : xs[i]? with
    | none => exact List.getElem?_eq_none_iff.mp hx
    | some x => rw [hx] at h3; cases h3
  · obtain ⟨xs, vs, h1, h2, h3⟩ := at' h
    cases hx : xs[i]? with
    | none => rw [hx] at h3; cases h3
    | some y =>
      rw [hx] at h3
      cases h3
      obtain ⟨z, h3, h4⟩ := h2.get hx
      refine ⟨⟨vs, z, h1, h3⟩, fun x H' ⟨T, y', e1, hT, e2, h5⟩ => ?_⟩
      subst e1 e2
      have ez : y' = z := Option.some.inj ((h5 vs h1).symm.trans h3)
      subst ez
      have ee := ext_upd (m := m1) (o := .tup [V.int (i : Nat), y']) hT
      exact ⟨ee, R.side hT, T, _, rfl, upd_same, .cons rfl (.cons (h4.ext ee) .nil)⟩
theorem jok_zip {K : PySem.W.Frag} {m : List Addr} {H : Hp} {u v : Val} {p q : Addr} (ru : RV K m H u (.ref p)) (rv : RV K m H v (.ref q)) : JOk K m H (.zp u v) (Itz K p q) := by
  intro m1 S1 H1 i e R
  have r1 := ru.ext e
  have r2 := rv.ext e
  have at' : ∀ {o : Option Val}, IV.next (.zp u v) i S1 = some o → ∃ xs vs ys ws, SqL K H1 p vs ∧ RVs K m1 H1 xs vs ∧ SqL K H1 q ws ∧ RVs K m1 H1 ys ws ∧ (match xs[i]?, ys[i]? with
      | some x, some y => some (Val.tup [x, y])
      | _, _ => none) = o := fun {o} h => by
    unfold IV.next at h
    cases es : lstOf S1 u with
    | none => simp only [es] at h; cases h
    | some xs =>
      cases et : lstOf S1 v with
      | none => simp only [es, et] at h; cases h
      | some ys =>
        simp only [es, et] at h
        obtain ⟨_, vs, e2, h1, h2⟩ := R.lst es r1
        cases e2
        obtain ⟨_, ws, e2, h3, h4⟩ := R.lst et r2
        cases e2
        exact ⟨xs, vs, ys, ws, h1, h2, h3, h4, Option.some.inj h⟩
  refine ⟨fun h => ?_, fun v h => ?_⟩
  · obtain ⟨xs, vs, ys, ws, h1, h2, h3, h4, h5⟩ := at' h
    refine ⟨vs, ws, h1, h3, ?_⟩
    rw [← h2.len, ← h4.len]
    cases hx : xs[i]? with
    | none => exact .inl (List.getElem?_eq_none_iff.mp hx)
    | some x =>
      cases hy : ys[i]? with
      | none => exact .inr (List.getElem?_eq_none_iff.mp hy)
      | some y => simp only [hx, hy] at h5; cases h5
  · obtain ⟨xs, vs, ys, ws, h1, h2, h3, h4, h5⟩ := at' h
    cases hx : xs[i]? with
    | none => simp only [hx] at h5; cases h5
    | some y =>
      cases hy : ys[i]? with
      | none => simp only [hx, hy] at h5; cases h5
      | some y2 =>
        simp only [hx, hy] at h5
        cases h5
        obtain ⟨z, k1, k2⟩ := h2.get hx
        obtain ⟨z2, k3, k4⟩ := h4.get hy
        refine ⟨⟨vs, ws, z, z2, h1, h3, k1, k3⟩, fun x H' ⟨T, a1, a2, e1, hT, e2, h5, h6⟩ => ?_⟩
        subst e1 e2
        have ez : a1 = z := Option.some.inj ((h5 vs h1).symm.trans k1)
        subst ez
        have ez : a2 = z2 := Option.some.inj ((h6 ws h3).symm.trans k3)
        subst ez
        have ee := ext_upd (m := m1) (o := .tup [a1, a2]) hT
        exact ⟨ee, R.side hT, T, _, rfl, upd_same, .cons (k2.ext ee) (.cons (k4.ext ee) .nil)⟩
theorem jok_rev {K : PySem.W.Frag} {m : List Addr} {H : Hp} {u : Val} {p : Addr} {n : Nat} (ru : RV K m H u (.ref p)) : JOk K m H (.rv u n) (Itv K p n) := by
  intro m1 S1 H1 i e R
  have r1 := ru.ext e
  by_cases hi : i < n
  · have nx : IV.next (.rv u n) i S1 = (match lstOf S1 u with
      | some xs => match xs[n - 1 - i]? with
        | some x => some (some x)
        | none => none
      | none => none) := by
      unfold IV.next
      simp only [hi, if_true] <;> rfl
    rw [nx]
    cases es : lstOf S1 u with
    | none => exact ⟨fun h => (by cases h), fun v h => (by cases h)⟩
    | some xs =>
      obtain ⟨_, vs, e2, h1, h2⟩ := R.lst es r1
      cases e2
      cases hx : xs[n - 1 - i]? with
      | none => simp only [hx]; exact ⟨fun h => (by cases h), fun v h => (by cases h)⟩
      | some y =>
        simp only [hx]
        refine ⟨fun h => (by cases h), fun v h => ?_⟩
        cases h
        obtain ⟨z, k1, k2⟩ := h2.get hx
        refine ⟨⟨hi, vs, z, h1, k1⟩, fun x H' ⟨e3, h5⟩ => ?_⟩
        subst e3
        have := h5 vs h1
        rw [k1] at this
        cases this
        exact ⟨.refl, R, k2⟩
  · have nx : IV.next (.rv u n) i S1 = some none := by
      unfold IV.next
      simp only [hi, if_false]
    rw [nx]
    exact ⟨fun _ => Nat.le_of_not_lt hi, fun v h => (by cases h)⟩
theorem jok_items {K : PySem.W.Frag} {m : List Addr} {H : Hp} {us : List Val} {J : It} {vs : List V} (hl : us.length = vs.length) (hv : ∀ (m1 : List Addr) (H1 : Hp), Ext m H m1 H1 → RVs K m1 H1 us vs)
    (hs : ∀ (m1 : List Addr) i H1, Ext m H m1 H1 → vs.length ≤ i → J.stop i H1) (hg : ∀ (m1 : List Addr) i H1, Ext m H m1 H1 → i < vs.length → J.go i H1 ∧ ∀ x H', J.yld i H1 x H' → H' = H1 ∧ vs[i]? = some x) : JOk K m H (.items us) J := by
  intro m1 S1 H1 i e R
  refine ⟨fun h => ?_, fun v h => ?_⟩
  · have := List.getElem?_eq_none_iff.mp (Option.some.inj h)
    exact hs m1 i H1 e (by omega)
  · have h := Option.some.inj h
    have hi : i < vs.length := by rw [← hl]; exact (List.getElem?_eq_some_iff.mp h).1
    obtain ⟨g1, g2⟩ := hg m1 i H1 e hi
    refine ⟨g1, fun x H' hy => ?_⟩
    obtain ⟨e1, e2⟩ := g2 x H' hy
    subst e1
    obtain ⟨z, h3, h4⟩ := (hv m1 H' e).get h
    rw [e2] at h3
    cases h3
    exact ⟨.refl, R, h4⟩
theorem signs_rv {K : PySem.W.Frag} {m : List Addr} {H : Hp} (x : Str) : RVs K m H (signs x) (x.cps.toList.map fun c => V.str ⟨#[c]⟩) := by
  unfold signs
  generalize x.cps.toList = l
  induction l with
  | nil => rfl
  | cons x l ih => exact ⟨_, _, rfl, rfl, ih⟩
/-- one value, then what is walked of it -/
theorem one_go {k : IK} {σ : L2.St} {H : Hp} {Q : It → Hp → Prop} {r : V → Hp → Prop} {m : List Addr} {S : Store} {ρ : Env} (R : Rel w.K m S H) (En : REnv w.K m H ρ σ)
    (q : Pst w (JOk w.K) m H σ ((evs C [a'] ρ S).bind fun us S => Mi.R.of (start k us S) S) Q)
    (g : ∀ u S1, ev C a' ρ S = .ok u S1 → ∀ m H x, Rel w.K m S1 H → RV w.K m H u x → Pst w (JOk w.K) m H σ (Mi.R.of (start k [u] S1) S1) Q → r x H) : TEv w C a' σ H r := by
  unfold evs at q
  refine ⟨m, S, ρ, R, En, ?_⟩
  cases e1 : ev C a' ρ S with
  | ok u S1 =>
    rw [e1] at q
    intro m1 H1 x x1 R1 r1
    unfold evs at q
    exact g u S1 e1 m1 H1 x R1 r1 (Pst.ext x1 q)
  | ex c d S1 => rw [e1] at q; exact q
  | bad => rw [e1] at q; exact q
theorem of_jok {m : List Addr} {H : Hp} {S : Store} {σ : L2.St} {o : Option IV} {Q : It → Hp → Prop} (h : Pst w (JOk w.K) m H σ (R.of o S) Q) : ∃ iv, o = some iv ∧ ∀ m' H' J, Ext m H m' H' → Rel w.K m' S H' → JOk w.K m' H' iv J → Q J H' := by
  cases o with
  | none => exact h.elim
  | some x => exact ⟨x, rfl, h⟩
theorem si_seq {tg : Expr} (ok : CxOk w C tc X) (ha : PE X a (TEv w C a')) : PI X tg a (TIv w C .seq [a']) := by
  refine pi_imp (pi_or' (pi_list ha) (pi_or' (pi_tup ha) (pi_str ha))) fun σ H Q ⟨m, S, ρ, R, En, q⟩ => ?_
  have lst : ∀ {u : Val} {S1 : Store}, ev C a' ρ S = .ok u S1 → (∀ iv, start .seq [u] S1 = some iv → ∃ xs, lstOf S1 u = some xs ∧ iv = .seq u) → iList X.K (TEv w C a') σ H Q := fun {u S1} e hs => by
    refine one_go R En q fun u' S1' e' m1 H1 x R1 ru q1 => ?_
    rw [e] at e'
    cases e'
    obtain ⟨iv, h1, h2⟩ := of_jok q1
    obtain ⟨xs, h3, rfl⟩ := hs iv h1
    obtain ⟨p, vs, rfl, h4, h5⟩ := R1.lst h3 ru
    rw [ok.K]
    exact ⟨p, rfl, ⟨vs, h4⟩, h2 m1 H1 _ .refl R1 (jok_seq ru)⟩
  have none' : ∀ {x : Option (List Val)} {u : Val} {iv : IV}, (x.map fun _ => IV.seq u) = some iv → ∃ xs, x = some xs ∧ iv = .seq u := fun {x u iv} h => by
    cases x with
    | none => cases h
    | some xs => cases h; exact ⟨xs, rfl, rfl⟩
  cases e1 : ev C a' ρ S with
  | ok u S1 =>
    cases u with
    | tup us =>
      refine .inr (.inl (one_go R En q fun u' S1' e' m1 H1 x R1 ru q1 => ?_))
      rw [e1] at e'
      cases e'
      obtain ⟨iv, h1, h2⟩ := of_jok q1
      cases h1
      obtain ⟨p, vs, rfl, h3, h4⟩ := ru
      rw [ok.K]
      refine ⟨p, rfl, ⟨vs, .of h3⟩, h2 m1 H1 _ .refl R1 (jok_items (vs := vs) h4.len (fun m2 H2 e => h4.ext e) (fun m2 i H2 e h => ⟨vs, .of (e.tup _ _ h3), h⟩) fun m2 i H2 e h => ?_)⟩
      refine ⟨⟨vs, vs[i], .of (e.tup _ _ h3), List.getElem?_eq_getElem h⟩, fun x H' ⟨e3, h5⟩ => ⟨e3, h5 vs (.of (e.tup _ _ h3))⟩⟩
    | str y =>
      refine .inr (.inr (one_go R En q fun u' S1' e' m1 H1 x R1 ru q1 => ?_))
      rw [e1] at e'
      cases e'
      obtain ⟨iv, h1, h2⟩ := of_jok q1
      cases h1
      obtain rfl : x = .str y := ru
      have hz : (y.cps.toList.map fun c => V.str ⟨#[c]⟩).length = y.cps.size := by rw [List.length_map, Array.length_toList]
      refine ⟨y, rfl, h2 m1 H1 _ .refl R1 (jok_items (signs_rv (K := w.K) (m := m1) (H := H1) y).len (fun m2 H2 e => signs_rv y) (fun m2 i H2 e h => by rw [hz] at h; exact h) fun m2 i H2 e h => ?_)⟩
      rw [hz] at h
      refine ⟨h, fun x H' ⟨e3, c, h5, h6⟩ => ⟨e3, ?_⟩⟩
      rw [List.getElem?_map, Array.getElem?_toList, h5, h6]
      rfl
    | _ => exact .inl (lst e1 fun iv h => none' h)
  | ex c d S1 => exact .inl (one_go R En q fun u' S1' e' => by rw [e1] at e'; cases e')
  | bad => exact .inl (one_go R En q fun u' S1' e' => by rw [e1] at e'; cases e')
theorem rng_jok {K : PySem.W.Frag} {m : List Addr} {H : Hp} {lo : Int} {n : Nat} : JOk K m H (.items (rng lo n)) (Itr lo n) := by
  have hz : ((List.range n).map fun (i : Nat) => V.int (lo + i)).length = n := by rw [List.length_map, List.length_range]
  refine jok_items (rng_rv (K := K) (m := m) (H := H) lo n).len (fun m2 H2 e => rng_rv lo n) (fun m2 i H2 e h => by rw [hz] at h; exact h) fun m2 i H2 e h => ?_
  rw [hz] at h
  refine ⟨h, fun x H' ⟨e3, h5⟩ => ⟨e3, ?_⟩⟩
  rw [List.getElem?_map, List.getElem?_range h, h5]
  rfl
theorem si_rng1 {tg : Expr} {p : Pos} (ok : CxOk w C tc X) (hg : Gl X "range") (hn : nst a = true) (ha : PE X a (TEv w C a')) : PI X tg (.Call (.Name "range" p) [a] [] pos) (TIv w C .rng1 [a']) := by
  have hA : PA X [a] (tCons (TEv w C a') tNil) := pa_cons ha pa_nil (starEach_cons hn)
  refine pi_imp (pi_range1 hg (ok.blt _ (by decide)) hA (by rw [starEach_cons hn]; rfl)) fun σ H Q ⟨m, S, ρ, R, En, q⟩ => ?_
  refine one_go R En q fun u S1 e m1 H1 x R1 ru q1 => ?_
  obtain ⟨iv, h1, h2⟩ := of_jok q1
  cases u <;> first | (cases h1; done) | skip
  rename_i n
  obtain rfl : x = .int n := ru
  have h1 : (if small62 n then some (IV.items (rng 0 n.toNat)) else none) = some iv := h1
  by_cases hs : small62 n = true
  · rw [if_pos hs] at h1
    cases h1
    simp only [small62, Bool.and_eq_true, decide_eq_true_eq] at hs
    exact ⟨n, rfl, hs.1, hs.2, h2 m1 H1 _ .refl R1 rng_jok⟩
  · rw [if_neg hs] at h1; cases h1
theorem two_go {k : IK} {σ : L2.St} {H : Hp} {Q : It → Hp → Prop} {r : List V → Hp → Prop} {m : List Addr} {S : Store} {ρ : Env} (R : Rel w.K m S H) (En : REnv w.K m H ρ σ)
    (q : Pst w (JOk w.K) m H σ ((evs C [a', b'] ρ S).bind fun us S => Mi.R.of (start k us S) S) Q)
    (g : ∀ u v m S1 H x y, Rel w.K m S1 H → RV w.K m H u x → RV w.K m H v y → Pst w (JOk w.K) m H σ (Mi.R.of (start k [u, v] S1) S1) Q → r [x, y] H) : tCons (TEv w C a') (tCons (TEv w C b') tNil) σ H r := by
  have q : Pst w (JOk w.K) m H σ ((ev C a' ρ S).bind fun u S => (ev C b' ρ S).bind fun v S => Mi.R.of (start k [u, v] S) S) Q := by
    unfold evs at q
    cases e1 : ev C a' ρ S with
    | ok u S1 =>
      rw [e1] at q
      unfold evs at q
      simp only [Mi.R.bind_ok] at q ⊢
      cases e2 : ev C b' ρ S1 with
      | ok v S2 =>
        rw [e2] at q
        unfold evs at q
        exact q
      | ex c d S2 => rw [e2] at q; exact q
      | bad => rw [e2] at q; exact q
    | ex c d S1 => rw [e1] at q; exact q
    | bad => rw [e1] at q; exact q
  refine ⟨m, S, ρ, R, En, q.bind.mono fun x H1 ⟨m1, S1, u, e1, R1, r1, q1⟩ => ?_⟩
  refine ⟨m1, S1, ρ, R1, En.ext e1, q1.bind.mono fun y H2 ⟨m2, S2, v, e2, R2, r2, q2⟩ => ?_⟩
  exact g u v m2 S2 H2 x y R2 (r1.ext e2) r2 q2
theorem si_rng2 {tg : Expr} {p : Pos} (ok : CxOk w C tc X) (hg : Gl X "range") (hn : nst a = true) (hnb : nst b = true) (ha : PE X a (TEv w C a')) (hb : PE X b (TEv w C b')) :
    PI X tg (.Call (.Name "range" p) [a, b] [] pos) (TIv w C .rng2 [a', b']) := by
  have hA : PA X [a, b] (tCons (TEv w C a') (tCons (TEv w C b') tNil)) := pa_cons ha (pa_cons hb pa_nil (starEach_cons hnb)) (starEach_cons hn)
  refine pi_imp (pi_range2 hg (ok.blt _ (by decide)) hA (by rw [starEach_cons hn, starEach_cons hnb]; rfl) (by rw [starEach_cons hnb]; rfl)) fun σ H Q ⟨m, S, ρ, R, En, q⟩ => ?_
  refine two_go R En q fun u v m1 S1 H1 x y R1 ru rv q1 => ?_
  obtain ⟨iv, h1, h2⟩ := of_jok q1
  cases u <;> first | (cases h1; done) | skip
  rename_i i
  cases v <;> first | (cases h1; done) | skip
  rename_i j
  obtain rfl : x = .int i := ru
  obtain rfl : y = .int j := rv
  have h1 : (if small62 i && small62 j then some (IV.items (rng i (j - i).toNat)) else none) = some iv := h1
  by_cases hs : (small62 i && small62 j) = true
  · rw [if_pos hs] at h1
    cases h1
    simp only [small62, Bool.and_eq_true, decide_eq_true_eq] at hs
    exact ⟨i, j, rfl, ⟨hs.1.1, hs.1.2, hs.2.1, hs.2.2⟩, h2 m1 H1 _ .refl R1 rng_jok⟩
  · rw [if_neg hs] at h1; cases h1
theorem si_enum {elts : List Expr} {kk : Nat} {tpos p : Pos} (ok : CxOk w C tc X) (hg : Gl X "enumerate") (hn : nst a = true) (ha : PE X a (TEv w C a')) :
    PI X (.Tuple elts kk tpos) (.Call (.Name "enumerate" p) [a] [] pos) (TIv w C .enum [a']) := by
  have hA : PA X [a] (tCons (TEv w C a') tNil) := pa_cons ha pa_nil (starEach_cons hn)
  refine pi_imp (pi_enum hg (ok.blt _ (by decide)) hA (by rw [starEach_cons hn]; rfl)) fun σ H Q ⟨m, S, ρ, R, En, q⟩ => ?_
  refine one_go R En q fun u S1 e m1 H1 x R1 ru q1 => ?_
  obtain ⟨iv, h1, h2⟩ := of_jok q1
  have h1 : ((lstOf S1 u).map fun _ => IV.en u) = some iv := h1
  cases e2 : lstOf S1 u with
  | none => rw [e2] at h1; cases h1
  | some xs =>
    rw [e2] at h1
    cases h1
    obtain ⟨p, vs, rfl, h3, h4⟩ := R1.lst e2 ru
    rw [ok.K]
    exact ⟨p, vs, rfl, h3, h2 m1 H1 _ .refl R1 (jok_enum ru)⟩
theorem si_rev {tg : Expr} {p : Pos} (ok : CxOk w C tc X) (hg : Gl X "reversed") (hn : nst a = true) (ha : PE X a (TEv w C a')) : PI X tg (.Call (.Name "reversed" p) [a] [] pos) (TIv w C .rev [a']) := by
  have hA : PA X [a] (tCons (TEv w C a') tNil) := pa_cons ha pa_nil (starEach_cons hn)
  refine pi_imp (pi_reversed hg (ok.blt _ (by decide)) hA (by rw [starEach_cons hn]; rfl)) fun σ H Q ⟨m, S, ρ, R, En, q⟩ => ?_
  refine one_go R En q fun u S1 e m1 H1 x R1 ru q1 => ?_
  obtain ⟨iv, h1, h2⟩ := of_jok q1
  have h1 : ((lstOf S1 u).map fun xs => IV.rv u xs.length) = some iv := h1
  cases e2 : lstOf S1 u with
  | none => rw [e2] at h1; cases h1
  | some xs =>
    rw [e2] at h1
    cases h1
    obtain ⟨p, vs, rfl, h3, h4⟩ := R1.lst e2 ru
    rw [ok.K]
    exact ⟨p, vs, rfl, h3, by rw [← h4.len]; exact h2 m1 H1 _ .refl R1 (jok_rev ru)⟩
theorem si_zip {elts : List Expr} {kk : Nat} {tpos p : Pos} (ok : CxOk w C tc X) (hg : Gl X "zip") (hn : nst a = true) (hnb : nst b = true) (ha : PE X a (TEv w C a')) (hb : PE X b (TEv w C b')) :
    PI X (.Tuple elts kk tpos) (.Call (.Name "zip" p) [a, b] [] pos) (TIv w C .zip [a', b']) := by
  have hA : PA X [a, b] (tCons (TEv w C a') (tCons (TEv w C b') tNil)) := pa_cons ha (pa_cons hb pa_nil (starEach_cons hnb)) (starEach_cons hn)
  refine pi_imp (pi_zip hg (ok.blt _ (by decide)) hA (starEach_cons hn) (star_any (by rw [List.all_cons, hnb]; rfl))) fun σ H Q ⟨m, S, ρ, R, En, q⟩ => ?_
  refine two_go R En q fun u v m1 S1 H1 x y R1 ru rv q1 => ?_
  obtain ⟨iv, h1, h2⟩ := of_jok q1
  have h1 : (match lstOf S1 u, lstOf S1 v with
    | some _, some _ => some (IV.zp u v)
    | _, _ => none) = some iv := h1
  cases e2 : lstOf S1 u with
  | none => simp only [e2] at h1; cases h1
  | some xs =>
    cases e3 : lstOf S1 v with
    | none => simp only [e2, e3] at h1; cases h1
    | some ys =>
      simp only [e2, e3] at h1
      cases h1
      obtain ⟨p, vs, rfl, h3, h4⟩ := R1.lst e2 ru
      obtain ⟨q, ws, rfl, h5, h6⟩ := R1.lst e3 rv
      rw [ok.K]
      exact ⟨p, q, vs, ws, rfl, h3, h5, h2 m1 H1 _ .refl R1 (jok_zip ru rv)⟩
end
end Mi
namespace Mi
open PySem L2
section
variable {w : Wd} {C : Ctx} {tc : TC} {X : Cx} {a b c : Expr} {a' b' c' : E} {es : List Expr} {es' : List E} {pos : Pos}
/-! ### tests -/
def noIf : Expr → Bool
  | .IfExp .. => false
  | .Compare .. => false
  | .BoolOp .. => false
  | .UnaryOp .Not _ _ => false
  | _ => true
theorem st_plain (ok : CxOk w C tc X) (hn : noIf a = true) (ha : PE X a (TEv w C a')) : PT X a (TTv w C [a']) := by
  have ht : ∀ whole, isTrue a X.env whole = (do let v ← whole; standAt a.pos; holding [v] (truthy v)) := by
    cases a <;> first | (intro _; rfl) | (exact Bool.noConfusion hn) | skip
    rename_i o _ _
    cases o <;> first | (intro _; rfl) | (exact Bool.noConfusion hn)
  refine pt_imp (pt_truth ha ht) fun σ H Q ⟨m, S, ρ, R, En, q⟩ => ?_
  unfold evT at q
  refine ⟨m, S, ρ, R, En, q.bind.mono fun x H1 ⟨m1, S1, u, e1, R1, r1, q1⟩ => ?_⟩
  cases e : tru S1 u with
  | none => rw [e] at q1; exact q1.elim
  | some k =>
    rw [e] at q1
    rw [ok.K]
    exact ⟨k, tru_rv R1 r1 e, q1 m1 H1 k .refl R1 rfl⟩
/-- from a bool's expression to its test -/
theorem bl_test {σ : L2.St} {H : Hp} {Q : Bool → Hp → Prop} (hb : ∀ ρ S u S', ev C a' ρ S = .ok u S' → ∃ k, u = .bl k) (h : TTv w C [a'] σ H Q) : tTest (TEv w C a') σ H Q := by
  obtain ⟨m, S, ρ, R, En, q⟩ := h
  unfold evT at q
  refine ⟨m, S, ρ, R, En, ?_⟩
  cases e : ev C a' ρ S with
  | ok u S1 =>
    rw [e] at q
    obtain ⟨k, rfl⟩ := hb _ _ _ _ e
    intro m1 H1 z e1 R1 r1
    exact ⟨k, r1, q m1 H1 k e1 R1 rfl⟩
  | ex c d S1 => rw [e] at q; exact q
  | bad => rw [e] at q; exact q
theorem cmp_bl {o : Cp} : ∀ ρ S u S', ev C (.cmp o a' b') ρ S = .ok u S' → ∃ k, u = .bl k := by
  intro ρ S u S' h
  unfold ev at h
  cases e1 : ev C a' ρ S with
  | ok x S1 =>
    rw [e1] at h
    cases e2 : ev C b' ρ S1 with
    | ok y S2 =>
      simp only [R.bind_ok, e2] at h
      cases e3 : cmpop o S2 x y with
      | none => rw [e3] at h; cases h
      | some k => rw [e3] at h; cases h; exact ⟨k, rfl⟩
    | ex c d S2 => simp only [R.bind_ok, e2] at h; cases h
    | bad => simp only [R.bind_ok, e2] at h; cases h
  | ex c d S1 => rw [e1] at h; cases h
  | bad => rw [e1] at h; cases h
/-- a comparison as a test: by its value's -/
theorem st_cmp {o : Cp} (ok : CxOk w C tc X) (hm : (match b with | .Set .. => false | _ => true) = true) (ha : PE X a (TEv w C a')) (hb : PE X b (TEv w C b')) : PT X (.Compare a [cpOf o] [b] pos) (TTv w C [.cmp o a' b']) := by
  have hu : X.A.units + 1 < cLine := Nat.lt_of_le_of_lt (Nat.add_le_add_left (by decide) _) ok.hu
  have un : ∀ {σ : L2.St} {H : Hp} {Q : VK}, TEv w C (.cmp o a' b') σ H Q → ∃ m S ρ, Rel w.K m S H ∧ REnv w.K m H ρ σ ∧ Pst w (RV w.K) m H σ ((ev C a' ρ S).bind fun u S => (ev C b' ρ S).bind fun v S => R.bl (cmpop o S u v) S) Q := fun ⟨m, S, ρ, R, En, q⟩ => by
    unfold ev at q
    exact ⟨m, S, ρ, R, En, q⟩
  by_cases h1 : o = .isin
  · subst h1
    have s1 := pt_cmpR (pos := pos) (or_in (X := X) ok.hu) ha hb (nomark' hm)
    have s2 := pt_cmp (pos := pos) (pc_din (X := X) hu ha hb) (nomark' hm)
    have s3 : PT X (.Compare a [cpOf .isin] [b] pos) (fun σ H Q => tTest (tOp (fun x y H Q => ∃ m S u v, Rel X.K m S H ∧ RV X.K m H u x ∧ RV X.K m H v y ∧ OB X.K H (inopS S u v) Q) (TEv w C a') (TEv w C b')) σ H Q ∨ tB (tDIn (TEv w C a') (TEv w C b')) σ H Q) :=
      ⟨fun pins s σ H Q I q => q.elim (s1.run pins s σ H Q I) (s2.run pins s σ H Q I)⟩
    refine pt_imp s3 fun σ H Q h => ?_
    have h := bl_test cmp_bl h
    refine two_or (b := fun u v S => (inopS S u v).isSome) (Q := fun x H' => ∃ k, x = .bl k ∧ Q k H') (r' := fun y x H2 Q => ∃ a o, x = .ref a ∧ DGet H2 a y o ∧ Q (.bl o.isSome) H2) (un h) (fun m S H x y u v hb R r1 r2 q => ?_) (fun m S H x y u v hb R r1 r2 q => ?_)
    · rw [ok.K]
      refine ⟨m, S, u, v, R, r1, r2, ?_⟩
      have q := bl_pst R q
      unfold cmpop inop at q
      cases e : inopS S u v with
      | none => rw [e] at hb; cases hb
      | some k => simp only [e] at q; exact q
    · have q := bl_pst R q
      unfold cmpop inop at q
      cases e : inopS S u v with
      | some k => rw [e] at hb; cases hb
      | none =>
        simp only [e] at q
        cases e2 : dget S v u with
        | none => rw [e2] at q; exact q.elim
        | some o =>
          rw [e2] at q
          obtain ⟨p, z, rfl, h3, h4⟩ := dget_DG R r2 r1 e2
          exact ⟨p, z, rfl, h3, by rw [h4.isSome]; exact q⟩
  · by_cases h2 : o = .notin
    · subst h2
      have s1 := pt_cmpR (pos := pos) (or_notin (X := X) ok.hu) ha hb (nomark' hm)
      have s2 := pt_cmp (pos := pos) (pc_dnotin (X := X) hu ha hb) (nomark' hm)
      have s3 : PT X (.Compare a [cpOf .notin] [b] pos) (fun σ H Q => tTest (tOp (fun x y H Q => ∃ m S u v, Rel X.K m S H ∧ RV X.K m H u x ∧ RV X.K m H v y ∧ OB X.K H ((inopS S u v).map (!·)) Q) (TEv w C a') (TEv w C b')) σ H Q ∨ tB (tDNotIn (TEv w C a') (TEv w C b')) σ H Q) :=
        ⟨fun pins s σ H Q I q => q.elim (s1.run pins s σ H Q I) (s2.run pins s σ H Q I)⟩
      refine pt_imp s3 fun σ H Q h => ?_
      have h := bl_test cmp_bl h
      refine two_or (b := fun u v S => (inopS S u v).isSome) (Q := fun x H' => ∃ k, x = .bl k ∧ Q k H') (r' := fun y x H2 Q => ∃ a o, x = .ref a ∧ DGet H2 a y o ∧ Q (.bl (!o.isSome)) H2) (un h) (fun m S H x y u v hb R r1 r2 q => ?_) (fun m S H x y u v hb R r1 r2 q => ?_)
      · rw [ok.K]
        refine ⟨m, S, u, v, R, r1, r2, ?_⟩
        have q := bl_pst R q
        unfold cmpop inop at q
        cases e : inopS S u v with
        | none => rw [e] at hb; cases hb
        | some k => simp only [e] at q; exact q
      · have q := bl_pst R q
        unfold cmpop inop at q
        cases e : inopS S u v with
        | some k => rw [e] at hb; cases hb
        | none =>
          simp only [e] at q
          cases e2 : dget S v u with
          | none => rw [e2] at q; exact q.elim
          | some o =>
            rw [e2] at q
            obtain ⟨p, z, rfl, h3, h4⟩ := dget_DG R r2 r1 e2
            exact ⟨p, z, rfl, h3, by rw [h4.isSome]; exact q⟩
    · refine pt_imp (pt_cmpR (pos := pos) (or_cmp (X := X) ok.hu o (cpOf o) rfl h1 h2) ha hb (nomark' hm)) fun σ H Q h => ?_
      have h := bl_test cmp_bl h
      refine two_pst (un h) fun m S H x y u v R r1 r2 q => ?_
      rw [ok.K]
      exact ⟨m, S, u, v, R, r1, r2, bl_pst R q⟩
theorem chain_pst {o p : Cp} {σ : L2.St} {H : Hp} {Q : VK} {r r' : V → V → Hp → VK → Prop} (h : TEv w C (.chain o p a' b' c') σ H Q)
    (f : ∀ m S H x y u v Q, Rel w.K m S H → RV w.K m H u x → RV w.K m H v y → OB w.K H (cmpop o S u v) Q → r x y H Q) (f' : ∀ m S H x y u v Q, Rel w.K m S H → RV w.K m H u x → RV w.K m H v y → OB w.K H (cmpop p S u v) Q → r' x y H Q) :
    tChain r r' (TEv w C a') (TEv w C b') (TEv w C c') σ H Q := by
  obtain ⟨m, S, ρ, R, En, q⟩ := h
  unfold ev at q
  refine ⟨m, S, ρ, R, En, q.bind.mono fun x H1 ⟨m1, S1, u, e1, R1, r1, q1⟩ => ?_⟩
  refine ⟨m1, S1, ρ, R1, En.ext e1, q1.bind.mono fun y H2 ⟨m2, S2, v, e2, R2, r2, q2⟩ => ?_⟩
  obtain ⟨k, ek, q2⟩ := of_pst q2
  refine f m2 S2 H2 x y u v _ R2 (r1.ext e2) r2 ?_
  rw [ek]
  refine ⟨k, rfl, ?_⟩
  cases k with
  | true =>
    refine ⟨m2, S2, ρ, R2, (En.ext e1).ext e2, Pst.mono (Pst.bind q2) fun z H3 ⟨m3, S3, t, e3, R3, r3, q3⟩ => ?_⟩
    exact f' m3 S3 H3 y z v t _ R3 (r2.ext e3) r3 (bl_pst R3 q3)
  | false => exact q2 m2 H2 _ .refl R2 rfl
theorem se_chain {o p : Cp} (ok : CxOk w C tc X) (h1 : o ≠ .isin) (h2 : o ≠ .notin) (h3 : p ≠ .isin) (h4 : p ≠ .notin) (hm : lastMarks [cpOf o, cpOf p] [b, c] = false) (ha : PE X a (TEv w C a')) (hb : PE X b (TEv w C b')) (hc : PE X c (TEv w C c')) :
    PE X (.Compare a [cpOf o, cpOf p] [b, c] pos) (TEv w C (.chain o p a' b' c')) :=
  pe_imp (pe_chain (or_cmp (X := X) ok.hu o (cpOf o) rfl h1 h2) (or_cmp (X := X) ok.hu p (cpOf p) rfl h3 h4) ha hb hc hm) fun σ H Q h =>
    chain_pst h (fun m S H x y u v Q R r1 r2 q => by rw [ok.K]; exact ⟨m, S, u, v, R, r1, r2, q⟩) (fun m S H x y u v Q R r1 r2 q => by rw [ok.K]; exact ⟨m, S, u, v, R, r1, r2, q⟩)
theorem chain_bl {o p : Cp} : ∀ ρ S u S', ev C (.chain o p a' b' c') ρ S = .ok u S' → ∃ k, u = .bl k := by
  intro ρ S u S' h
  unfold ev at h
  cases e1 : ev C a' ρ S with
  | ok x S1 =>
    rw [e1] at h
    cases e2 : ev C b' ρ S1 with
    | ok y S2 =>
      simp only [R.bind_ok, e2] at h
      cases e3 : cmpop o S2 x y with
      | none => rw [e3] at h; cases h
      | some k =>
        simp only [e3, R.of_some, R.bind_ok] at h
        cases k with
        | false => cases h; exact ⟨false, rfl⟩
        | true =>
          simp only [if_true] at h
          cases e4 : ev C c' ρ S2 with
          | ok z S3 =>
            simp only [e4, R.bind_ok] at h
            cases e5 : cmpop p S3 y z with
            | none => rw [e5] at h; cases h
            | some k => rw [e5] at h; cases h; exact ⟨k, rfl⟩
          | ex c d S2 => simp only [e4] at h; cases h
          | bad => simp only [e4] at h; cases h
    | ex c d S2 => simp only [R.bind_ok, e2] at h; cases h
    | bad => simp only [R.bind_ok, e2] at h; cases h
  | ex c d S1 => rw [e1] at h; cases h
  | bad => rw [e1] at h; cases h
theorem st_chain {o p : Cp} (ok : CxOk w C tc X) (h1 : o ≠ .isin) (h2 : o ≠ .notin) (h3 : p ≠ .isin) (h4 : p ≠ .notin) (hm : lastMarks [cpOf o, cpOf p] [b, c] = false) (ha : PE X a (TEv w C a')) (hb : PE X b (TEv w C b')) (hc : PE X c (TEv w C c')) :
    PT X (.Compare a [cpOf o, cpOf p] [b, c] pos) (TTv w C [.chain o p a' b' c']) :=
  pt_imp (pt_chain (or_cmp (X := X) ok.hu o (cpOf o) rfl h1 h2) (or_cmp (X := X) ok.hu p (cpOf p) rfl h3 h4) ha hb hc hm) fun σ H Q h =>
    chain_pst (bl_test chain_bl h) (fun m S H x y u v Q R r1 r2 q => by rw [ok.K]; exact ⟨m, S, u, v, R, r1, r2, q⟩) (fun m S H x y u v Q R r1 r2 q => by rw [ok.K]; exact ⟨m, S, u, v, R, r1, r2, q⟩)
theorem st_not (ha : PT X a (TTv w C [a'])) : PT X (.UnaryOp .Not a pos) (TTv w C [.not a']) :=
  pt_imp (pt_not ha) fun σ H Q ⟨m, S, ρ, R, En, q⟩ => by
    unfold evT at q
    unfold ev at q
    refine ⟨m, S, ρ, R, En, ?_⟩
    unfold evT
    cases e1 : ev C a' ρ S with
    | ok u S1 =>
      simp only [e1, Mi.R.bind_ok] at q ⊢
      cases e2 : tru S1 u with
      | none => rw [e2] at q; exact q
      | some k =>
        rw [e2] at q
        intro m1 H1 z ee R1 rz
        cases rz
        exact q m1 H1 _ ee R1 rfl
    | ex c d S1 => rw [e1] at q; exact q
    | bad => rw [e1] at q; exact q
theorem evT_and (ρ : Env) (S : Store) : evT C [.and a' b'] ρ S = (evT C [a'] ρ S).bind fun k S => if k then evT C [b'] ρ S else .ok false S := by
  unfold evT
  rw [ev]
  cases e1 : ev C a' ρ S with
  | ok u S1 =>
    simp only [R.bind_ok]
    cases e2 : tru S1 u with
    | none => rfl
    | some k =>
      cases k with
      | true => rfl
      | false => simp only [R.of_some, R.bind_ok, Bool.false_eq_true, if_false, e2]
  | ex c d S1 => rfl
  | bad => rfl
theorem evT_or (ρ : Env) (S : Store) : evT C [.or a' b'] ρ S = (evT C [a'] ρ S).bind fun k S => if k then .ok true S else evT C [b'] ρ S := by
  unfold evT
  rw [ev]
  cases e1 : ev C a' ρ S with
  | ok u S1 =>
    simp only [R.bind_ok]
    cases e2 : tru S1 u with
    | none => rfl
    | some k =>
      cases k with
      | false => rfl
      | true => simp only [R.of_some, R.bind_ok, if_true, e2]
  | ex c d S1 => rfl
  | bad => rfl
theorem st_and (ha : PT X a (TTv w C [a'])) (hb : PW X (.BoolOp .And (b :: es) pos) (TTv w C [b'])) : PW X (.BoolOp .And (a :: b :: es) pos) (TTv w C [.and a' b']) :=
  pw_imp (pw_and ha hb) fun σ H Q ⟨m, S, ρ, R, En, q⟩ => by
    rw [evT_and] at q
    refine ⟨m, S, ρ, R, En, q.bind.mono fun k H1 ⟨m1, S1, k', e1, R1, r1, q1⟩ => ?_⟩
    cases r1
    cases k with
    | true => exact ⟨m1, S1, ρ, R1, En.ext e1, q1⟩
    | false => exact q1 m1 H1 _ .refl R1 rfl
theorem st_or (ha : PT X a (TTv w C [a'])) (hb : PW X (.BoolOp .Or (b :: es) pos) (TTv w C [b'])) : PW X (.BoolOp .Or (a :: b :: es) pos) (TTv w C [.or a' b']) :=
  pw_imp (pw_or ha hb) fun σ H Q ⟨m, S, ρ, R, En, q⟩ => by
    rw [evT_or] at q
    refine ⟨m, S, ρ, R, En, q.bind.mono fun k H1 ⟨m1, S1, k', e1, R1, r1, q1⟩ => ?_⟩
    cases r1
    cases k with
    | false => exact ⟨m1, S1, ρ, R1, En.ext e1, q1⟩
    | true => exact q1 m1 H1 _ .refl R1 rfl
end
end Mi
namespace Mi
open PySem L2
def wF (w : Wd) : Wd := ⟨w.K, w.cl, fun _ _ _ _ => False⟩
theorem cloop_noex {nxt : Nat → Store → Option (Option Val)} {step : Val → Store → R Unit} : ∀ (F k : Nat) (S : Store) c d S', cloop nxt step F k S ≠ .ex c d S'
  | 0, k, S, c, d, S', h => by
    unfold cloop at h
    cases e : nxt k S with
    | none => simp only [e] at h; cases h
    | some o =>
      cases o with
      | none => simp only [e] at h; cases h
      | some v => simp only [e] at h; cases h
  | F + 1, k, S, c, d, S', h => by
    unfold cloop at h
    cases e : nxt k S with
    | none => simp only [e] at h; cases h
    | some o =>
      cases o with
      | none => simp only [e] at h; cases h
      | some v =>
        simp only [e] at h
        cases e2 : step v S with
        | ok u S1 => simp only [e2] at h; exact cloop_noex F (k + 1) S1 c d S' h
        | ex _ _ _ => simp only [e2] at h; cases h
        | bad => simp only [e2] at h; cases h
/-- one turn of a comprehension -/
def cstep (C : Ctx) (own : List Nat) (t : Tg) (ifs : List E) (e : E) (ρ : Env) (D : Nat) : Val → Store → R Unit := fun v S1 => match lay S1 t v (wipeE ρ own) with
  | none => .bad
  | some ρ1 => (evT C ifs ρ1 S1).bind fun b S2 => if b then (ev C e ρ1 S2).bind fun y S3 => push D y S3 else .ok () S2
theorem ev_lc (C : Ctx) (own : List Nat) (t : Tg) (k : IK) (its ifs : List E) (e : E) (ρ : Env) (S : Store) : ev C (.lc own t k its ifs e) ρ S =
    ((evs C its ρ S).bind fun us S => R.of (start k us S) S).bind fun iv S => (cloop iv.next (cstep C own t ifs e ρ S.length) (iv.cnt S) 0 (S ++ [.lst []])).bind fun _ S1 => .ok (.ref S.length) S1 := by
  rw [ev]
  cases h : evs C its ρ S with
  | ok us S1 =>
    simp only [R.bind_ok]
    cases h2 : start k us S1 with
    | none => rfl
    | some iv => rfl
  | ex _ _ _ => rfl
  | bad => rfl
section
variable {w : Wd} {C : Ctx} {tc : TC} {X : Cx} {a b c : Expr} {a' b' c' : E} {es : List Expr} {es' : List E} {pos : Pos}
theorem lc_read {t : Tg} {k : IK} {its ifs : List E} {e : E} {own : List Nat} {σ : L2.St} {H : Hp} {Q : VK} (hown : ∀ i ∈ slots t, i ∈ own) (h : TEv w C (.lc own t k its ifs e) σ H Q) :
    tLc (TIv w C k its) (TGv (wF w) t) (TTv (wF w) C ifs) (TEv (wF w) C e) own σ H Q := by
  obtain ⟨m, S, ρ, R, En, q⟩ := h
  rw [ev_lc] at q
  refine ⟨m, S, ρ, R, En, q.bind.mono fun J H1 ⟨m1, S1, iv, e1, R1, jk, q1⟩ => ?_⟩
  intro D hD
  have En1 := En.ext e1
  generalize hF : iv.cnt S1 = F at q1
  cases hc : cloop iv.next (cstep C own t ifs e ρ S1.length) F 0 (S1 ++ [.lst []]) with
  | ex c d S' => exact absurd hc (cloop_noex _ _ _ _ _ _)
  | bad => rw [hc] at q1; exact q1.elim
  | ok u Sf =>
    rw [hc] at q1
    have q1 : ∀ m' H' z, Ext m1 H1 m' H' → Rel w.K m' Sf H' → RV w.K m' H' (.ref S1.length) z → Q z H' := q1
    have R2 := R1.new (b := .lst []) (o := .lst []) hD ⟨[], rfl, rfl⟩
    have e2 : Ext m1 H1 (m1 ++ [D]) (upd H1 D (.lst [])) := ext_new hD
    refine ⟨fun i n H2 => ∃ m2 S2, Ext (m1 ++ [D]) (upd H1 D (.lst [])) m2 H2 ∧ Rel w.K m2 S2 H2 ∧ cloop iv.next (cstep C own t ifs e ρ S1.length) n i S2 = .ok u Sf, ⟨F, m1 ++ [D], _, .refl, R2, hc⟩, ?_⟩
    rintro i n H2 ⟨m2, S2, e3, R3, hl⟩
    obtain ⟨j1, j2⟩ := jk m2 S2 H2 i (e2.trans e3) R3
    have hDi : m2[S1.length]? = some D := e3.ix R1.last
    unfold cloop at hl
    cases hx : iv.next i S2 with
    | none => simp only [hx] at hl; cases hl
    | some o =>
      cases o with
      | none =>
        simp only [hx] at hl
        cases hl
        exact .inl ⟨j1 hx, q1 m2 H2 _ (e2.trans e3) R3 ⟨D, hDi, rfl⟩⟩
      | some v =>
        cases n with
        | zero => simp only [hx] at hl; cases hl
        | succ n =>
          simp only [hx] at hl
          obtain ⟨g1, g2⟩ := j2 v hx
          refine .inr ⟨g1, fun H' => ∃ m2 S2, Ext (m1 ++ [D]) (upd H1 D (.lst [])) m2 H' ∧ Rel w.K m2 S2 H' ∧ cloop iv.next (cstep C own t ifs e ρ S1.length) n (i + 1) S2 = .ok u Sf, fun H' hN => ⟨n, Nat.lt_succ_self n, hN⟩, fun x H' hy => ?_⟩
          obtain ⟨e4, R4, rv⟩ := g2 x H' hy
          unfold cstep at hl
          cases hlay : lay S2 t v (wipeE ρ own) with
          | none => simp only [hlay] at hl; cases hl
          | some ρ1 =>
            simp only [hlay] at hl
            refine ⟨m2, S2, v, wipeE ρ own, ρ1, R4, ((En1.wipe own).ext ((e2.trans e3).trans e4)), rv, hlay, fun σ2 En2 hw => ⟨?_, ?_⟩⟩
            · rw [hw own hown]
              apply List.ext_getElem?
              intro j
              rw [wipe_at, wipe_at]
              by_cases hj : j ∈ own
              · rw [if_pos hj, if_pos hj]
                cases hh : σ[j]? <;> rfl
              · rw [if_neg hj, if_neg hj]
            · refine ⟨m2, S2, ρ1, R4, En2, ?_⟩
              cases ht : evT C ifs ρ1 S2 with
              | ex _ _ _ => simp only [ht, Mi.R.bind_ex] at hl; cases hl
              | bad => simp only [ht, Mi.R.bind_bad] at hl; cases hl
              | ok b S3 =>
                simp only [ht, Mi.R.bind_ok] at hl
                intro m3 H3 b' e5 R5 rb
                cases rb
                cases b with
                | false =>
                  simp only [Bool.false_eq_true, if_false] at hl ⊢
                  exact ⟨m3, S3, (e3.trans e4).trans e5, R5, hl⟩
                | true =>
                  simp only [if_true] at hl ⊢
                  refine ⟨m3, S3, ρ1, R5, En2.ext e5, ?_⟩
                  cases he : ev C e ρ1 S3 with
                  | ex _ _ _ => simp only [he, Mi.R.bind_ex] at hl; cases hl
                  | bad => simp only [he, Mi.R.bind_bad] at hl; cases hl
                  | ok y S4 =>
                    simp only [he, Mi.R.bind_ok] at hl
                    intro m4 H4 z e6 R6 rz
                    have hDi4 : m4[S1.length]? = some D := ((e3.trans e4).trans (e5.trans e6)).ix R1.last
                    unfold push at hl
                    cases hS : S4[S1.length]? with
                    | none => simp only [hS] at hl; cases hl
                    | some bb =>
                      obtain ⟨o, ho, hor⟩ := R6.ob _ _ _ hS hDi4
                      cases bb with
                      | lst acc =>
                        simp only [hS] at hl
                        obtain ⟨vs, rfl, hvs⟩ := hor
                        by_cases hz : acc.length < sizeLine
                        · simp only [hz, if_true] at hl
                          refine ⟨vs, ho, by rw [← hvs.len]; exact hz, m4, _, ?_, R6.set hS hDi4 (c := .lst (acc ++ [y])) ⟨_, rfl, hvs.append (RVs.cons rz RVs.nil)⟩, hl⟩
                          exact ((e3.trans e4).trans (e5.trans e6)).trans (R6.ext_set hS hDi4)
                        · simp only [hz, if_false] at hl; cases hl
                      | dK _ => simp only [hS] at hl; cases hl
                      | dT _ => simp only [hS] at hl; cases hl
                      | xd _ => simp only [hS] at hl; cases hl
end
end Mi
namespace Mi
open PySem L2
/-! ### from the text to what is evaluated -/
def kindIn (tc : TC) (x : Str) : Option NameKind := tc.sc.names.lookup x
def slotOf (tc : TC) (x : Str) : Option Nat := match kindIn tc x with
  | some .local => tc.N.idxOf? x
  | some .cell => tc.N.idxOf? x
  | some .free => tc.N.idxOf? x
  | _ => none
def isGl (tc : TC) (x : Str) : Bool := match kindIn tc x with
  | some .globalImplicit => x != "__debug__"
  | _ => false
def o2Of : Operator → Option O2
  | .Add => some .add | .Sub => some .sub | .Mult => some .mul | .FloorDiv => some .fdiv | .Mod => some .mod | .Pow => some .pow | _ => none
def cpBack : CmpOp → Cp
  | .Lt => .lt | .LtE => .le | .Gt => .gt | .GtE => .ge | .Eq => .eq | .NotEq => .ne | .Is => .isn | .IsNot => .notn | .In => .isin | .NotIn => .notin
theorem cpOf_back (o : CmpOp) : cpOf (cpBack o) = o := by cases o <;> rfl
def plainCp : Cp → Bool
  | .isin => false | .notin => false | _ => true
def notSet : Expr → Bool
  | .Set .. => false
  | _ => true
def prTab : List (Str × Nat × Pr) := [("len", 1, .len), ("sum", 1, .sum), ("max", 1, .max), ("min", 1, .min), ("max", 2, .max2), ("min", 2, .min2), ("sorted", 1, .sorted), ("abs", 1, .abs), ("str", 1, .str), ("int", 1, .int), ("all", 1, .all), ("any", 1, .any), ("list", 1, .list), ("tuple", 1, .tuple)]
def prOf (x : Str) (n : Nat) : Option Pr := (prTab.find? fun r => decide (r.1 = x) && decide (r.2.1 = n)).map (·.2.2)
def tyTab : List (Str × String) := [("int", "int"), ("bool", "bool"), ("list", "list"), ("tuple", "tuple"), ("str", "str"), ("dict", "dict")]
def meTab : List (Str × Nat × Me) := [("append", 1, .append), ("pop", 0, .pop), ("pop", 1, .popAt), ("insert", 2, .insert), ("index", 1, .index), ("extend", 1, .extend), ("reverse", 0, .reverse)]
def meOf (x : Str) (n : Nat) : Option Me := (meTab.find? fun r => decide (r.1 = x) && decide (r.2.1 = n)).map (·.2.2)
def trs (f : Expr → Option E) : List Expr → Option (List E)
  | [] => some []
  | e :: es => (f e).bind fun x => (trs f es).bind fun xs => some (x :: xs)
def trBo (mk : E → E → E) (f : Expr → Option E) : List Expr → Option E
  | [] => none
  | [a] => f a
  | a :: r => (f a).bind fun x => (trBo mk f r).bind fun y => some (mk x y)
def tgs (f : Expr → Option Tg) : List Expr → Option (List Tg)
  | [] => some []
  | e :: es => (f e).bind fun x => (tgs f es).bind fun xs => some (x :: xs)
def trG (own : List (Str × Nat)) : Nat → Expr → Option Tg
  | 0, _ => none
  | n + 1, e => match e with
    | .Name x _ => (own.lookup x).map .name
    | .Tuple es _ _ => if es.all nst then (tgs (trG own n) es).map .tup else none
    | _ => none
def isTuple : Expr → Bool
  | .Tuple .. => true
  | _ => false
/-- is it a built-in's name here, no function of the text -/
def isB (tc : TC) (x : Str) : Bool := isGl tc x && (tc.fns.lookup x).isNone && decide (x ∈ bnames)
def trI (f : Expr → Option E) (tc : TC) (t it : Expr) : Option (IK × List E) :=
  let seq := (f it).map fun e => (IK.seq, [e])
  match it with
  | .Call (.Name x _) args [] _ => if isB tc x then match args with
      | [a] => if x = "range" then (f a).map fun e => (.rng1, [e]) else if x = "enumerate" ∧ isTuple t = true then (f a).map fun e => (.enum, [e]) else if x = "reversed" then (f a).map fun e => (.rev, [e]) else seq
      | [a, b] => if x = "range" then (f a).bind fun e => (f b).map fun e' => (.rng2, [e, e']) else if x = "zip" ∧ isTuple t = true then (f a).bind fun e => (f b).map fun e' => (.zip, [e, e']) else none
      | _ => none
    else seq
  | _ => seq
/-- the names that a comprehension stores, with their slots -/
def ownOf (tc : TC) (sc : Scope) : List (Str × Nat) := sc.names.filterMap fun (x, k) => match k with
  | .local => (tc.N.idxOf? x).map fun i => (x, i)
  | .cell => (tc.N.idxOf? x).map fun i => (x, i)
  | _ => none
def TC.blk (tc : TC) (sc : Scope) : TC := { tc with sc := relS sc tc.sc, own := ownOf tc sc }
def ownOk (sc : Scope) (own : List (Str × Nat)) : Bool := own.all fun p => match sc.names.lookup p.1 with
  | some .local => true
  | some .cell => true
  | _ => false
def okT : Nat → Expr → Bool
  | 0, _ => false
  | n + 1, e => match e with
    | .IfExp .. => false
    | .UnaryOp .Not a _ => okT n a
    | .BoolOp _ vs _ => vs.all (okT n)
    | _ => true
def notSuper : Expr → Bool
  | .Call (.Name id _) [] [] _ => id != "super"
  | _ => true
def ifsOk (n : Nat) : List Expr → Bool
  | [] => true
  | [c] => okT n c
  | _ => false
def trCall (f : Expr → Option E) (tc : TC) (fn : Expr) (args : List Expr) (pos : Pos) : Option E :=
  match fn with
  | .Name x _ => if isGl tc x then match tc.fns.lookup x with
      | some i => if args.isEmpty then none else (trs f args).map fun es => .call i es
      | none => match args with
        | [a, .Name y _] => if x = "isinstance" then if isB tc y then (f a).bind fun e => (tyTab.lookup y).map fun T => .isi e T else none
            else (prOf x 2).bind fun r => (trs f args).map fun es => .pr r es
        | [.Call (.Name y _) [a] [] _] => if x = "list" ∧ y = "range" ∧ isB tc y = true then (f a).map .lrg1 else (prOf x 1).bind fun r => (trs f args).map fun es => .pr r es
        | [.Call (.Name y _) [a, b] [] _] => if x = "list" ∧ y = "range" ∧ isB tc y = true then (f a).bind fun e => (f b).map fun e' => .lrg2 e e' else (prOf x 1).bind fun r => (trs f args).map fun es => .pr r es
        | _ => (prOf x args.length).bind fun r => (trs f args).map fun es => .pr r es
    else none
  | .Attribute o m apos => if (apos.endLine == pos.line) && notSuper o then
      (meOf m args.length).bind fun r => (f o).bind fun u => (trs f args).map fun es => .me r u es
    else none
  | _ => none
def tr : Nat → TC → Expr → Option E
  | 0, _, _ => none
  | n + 1, tc, e => match e with
    | .Name x _ => if x = "__debug__" ∨ x = "__classdict__" then none else match slotOf tc x with
      | some i => some (.var i)
      | none => if isGl tc x then (tc.cst.lookup x).map .cst else none
    | .Constant c _ _ => match c with
      | .int i => some (.cst (.int i))
      | .bool b => some (.cst (.bl b))
      | .none => some (.cst .non)
      | .str x => some (.cst (.str x))
      | _ => none
    | .BinOp a o b _ => (o2Of o).bind fun p => (tr n tc a).bind fun x => (tr n tc b).map fun y => .bin p x y
    | .UnaryOp o a _ => match o with
      | .USub => (tr n tc a).map .neg
      | .Not => (tr n tc a).map .not
      | _ => none
    | .BoolOp o vs _ => match o with
      | .And => trBo .and (tr n tc) vs
      | .Or => trBo .or (tr n tc) vs
    | .Compare a os bs _ => match os, bs with
      | [o], [b] => if notSet b then (tr n tc a).bind fun x => (tr n tc b).map fun y => .cmp (cpBack o) x y else none
      | [o, p], [b, c] => if plainCp (cpBack o) && plainCp (cpBack p) && notSet b && notSet c then (tr n tc a).bind fun x => (tr n tc b).bind fun y => (tr n tc c).map fun z => .chain (cpBack o) (cpBack p) x y z else none
      | _, _ => none
    | .IfExp c a b _ => if okT n c then (tr n tc c).bind fun z => (tr n tc a).bind fun x => (tr n tc b).map fun y => .ite z x y else none
    | .Subscript a i _ => match i with
      | .Slice lo hi st _ => match lo, hi, st with
        | some l, some h, none => (tr n tc a).bind fun x => (tr n tc l).bind fun y => (tr n tc h).map fun z => .slB x y z
        | some l, none, none => (tr n tc a).bind fun x => (tr n tc l).map fun y => .slL x y
        | none, some h, none => (tr n tc a).bind fun x => (tr n tc h).map fun y => .slH x y
        | none, none, none => (tr n tc a).map .slA
        | none, none, some (.UnaryOp .USub (.Constant (.int 1) _ _) _) => (tr n tc a).map .slR
        | _, _, _ => none
      | i => (tr n tc a).bind fun x => (tr n tc i).map fun y => .sub x y
    | .List es _ => (trs (tr n tc) es).map .lst
    | .Tuple es _ _ => (trs (tr n tc) es).map .tup
    | .Dict ks vs pos => match ks, vs with
      | [], [] => if pos.line ∈ tc.dts then some .dT else some .dK
      | _, _ => none
    | .Call f args kws pos => match kws with
      | [] => trCall (tr n tc) tc f args pos
      | _ => none
    | .ListComp elt gens sc _ => match gens with
      | [⟨t, it, ifs, 0⟩] => if blkC tc.N tc.sc sc (ownOf tc sc) && ownOk sc (ownOf tc sc) && notSet it && ifsOk n ifs then
          (trG (ownOf tc sc) n t).bind fun t' => (trI (tr n tc) tc t it).bind fun r => (trs (tr n (tc.blk sc)) ifs).bind fun cs => (tr n (tc.blk sc) elt).map fun e => .lc ((ownOf tc sc).map (·.2)) t' r.1 r.2 cs e
        else none
      | _ => none
    | _ => none
/-! ### it is sound -/
theorem idx_get {N : List Str} {x : Str} {i : Nat} (h : N.idxOf? x = some i) : N[i]? = some x := by
  unfold List.idxOf? at h
  obtain ⟨hi, h1, _⟩ := List.findIdx?_eq_some_iff_getElem.mp h
  rw [List.getElem?_eq_getElem hi]
  simpa using h1
theorem bnd {α β : Type} {o : Option α} {f : α → Option β} {b : β} (h : o.bind f = some b) : ∃ a, o = some a ∧ f a = some b := by
  cases o with
  | none => cases h
  | some a => exact ⟨a, rfl, h⟩
theorem mpp {α β : Type} {o : Option α} {f : α → β} {b : β} (h : o.map f = some b) : ∃ a, o = some a ∧ f a = b := by
  cases o with
  | none => cases h
  | some a => exact ⟨a, rfl, Option.some.inj h⟩
theorem tr_nst {n : Nat} {tc : TC} {e : Expr} {e' : E} (h : tr n tc e = some e') : nst e = true := by
  cases n with
  | zero => cases h
  | succ n => cases e <;> first | rfl | (cases h)
theorem isGl_gl {w : Wd} {C : Ctx} {tc : TC} {X : Cx} {x : Str} (ok : CxOk w C tc X) (h : isGl tc x = true) : Gl X x ∧ (x == ("__debug__" : Str)) = false := by
  unfold isGl kindIn at h
  split at h
  · rename_i e
    refine ⟨?_, by simpa using h⟩
    show X.env.scope.names.lookup x = _
    rw [ok.sc]
    exact e
  · cases h
theorem pr_has : ∀ r ∈ prTab, bootBuiltins r.1 = some (prF r.2.2) ∧ r.1 ∈ bnames ∧ r.1 ≠ "__name__" := by
  intro r hr
  simp only [prTab, List.mem_cons, List.not_mem_nil, or_false] at hr
  rcases hr with rfl | rfl | rfl | rfl | rfl | rfl | rfl | rfl | rfl | rfl | rfl | rfl | rfl | rfl <;> exact ⟨by decide +kernel, by decide +kernel, by decide +kernel⟩
theorem prOf_has {x : Str} {n : Nat} {r : Pr} (h : prOf x n = some r) : bootBuiltins x = some (prF r) ∧ x ∈ bnames ∧ x ≠ "__name__" := by
  unfold prOf at h
  obtain ⟨t, h1, rfl⟩ := mpp h
  have h2 := List.find?_some h1
  have h3 := pr_has t (List.mem_of_find?_eq_some h1)
  simp only [Bool.and_eq_true, decide_eq_true_eq] at h2; rw [← h2.1]
  exact h3
theorem ty_has : ∀ r ∈ tyTab, bootBuiltins r.1 = some (.type r.2) ∧ r.1 ≠ "__name__" := by
  intro r hr
  simp only [tyTab, List.mem_cons, List.not_mem_nil, or_false] at hr
  rcases hr with rfl | rfl | rfl | rfl | rfl | rfl <;> exact ⟨by decide +kernel, by decide +kernel⟩
structure MeOk (nm : Str) (r : Me) : Prop where
  pa : PySem.PlainAttrs (meT r)
  sl : PySem.Slot (meT r) nm (meId r)
  ty : PySem.typeOf (.builtin (meId r)) = pure (.type "method_descriptor")
theorem me_has : ∀ r ∈ meTab, MeOk r.1 r.2.2 ∧ r.2.1 < 28 := by
  intro r hr
  simp only [meTab, List.mem_cons, List.not_mem_nil, or_false] at hr
  rcases hr with rfl | rfl | rfl | rfl | rfl | rfl | rfl
  · exact ⟨⟨PySem.F.plainAttrs_list, PySem.F.slot_list_append, PySem.F.type_list_append⟩, by decide⟩
  · exact ⟨⟨PySem.F.plainAttrs_list, PySem.F.slot_list_pop, PySem.F.type_list_pop⟩, by decide⟩
  · exact ⟨⟨PySem.F.plainAttrs_list, PySem.F.slot_list_pop, PySem.F.type_list_pop⟩, by decide⟩
  · exact ⟨⟨PySem.F.plainAttrs_list, PySem.F.slot_list_insert, PySem.F.type_list_insert⟩, by decide⟩
  · exact ⟨⟨PySem.F.plainAttrs_list, PySem.F.slot_list_index, PySem.F.type_list_index⟩, by decide⟩
  · exact ⟨⟨PySem.F.plainAttrs_list, PySem.F.slot_list_extend, PySem.F.type_list_extend⟩, by decide⟩
  · exact ⟨⟨PySem.F.plainAttrs_list, PySem.F.slot_list_reverse, PySem.F.type_list_reverse⟩, by decide⟩
theorem meOf_has {x : Str} {n : Nat} {r : Me} (h : meOf x n = some r) : MeOk x r ∧ n < 28 := by
  unfold meOf at h
  obtain ⟨t, h1, rfl⟩ := mpp h
  have h2 := List.find?_some h1
  have h3 := me_has t (List.mem_of_find?_eq_some h1)
  simp only [Bool.and_eq_true, decide_eq_true_eq] at h2; rw [← h2.1, ← h2.2]
  exact h3
end Mi
namespace Mi
open PySem L2
section
variable {w : Wd} {C : Ctx} {tc : TC} {X : Cx}
theorem notSet_m {b : Expr} (h : notSet b = true) : (match (generalizing := false) b with | .Set .. => false | _ => true) = true := by
  cases b <;> first | rfl | (exact Bool.noConfusion h)
theorem trs_ok {f : Expr → Option E} (hf : ∀ e e', f e = some e' → nst e = true ∧ PE X e (TEv w C e')) : ∀ {es : List Expr} {es' : List E}, trs f es = some es' → PA X es (TAv w C es') ∧ es.all nst = true
  | [], es', h => by cases h; exact ⟨sa_nil, rfl⟩
  | e :: es, es', h => by
    unfold trs at h
    obtain ⟨x, h1, h⟩ := bnd h
    obtain ⟨xs, h2, h⟩ := bnd h
    cases h
    obtain ⟨a1, a2⟩ := hf e x h1
    obtain ⟨b1, b2⟩ := trs_ok hf h2
    exact ⟨sa_cons a1 a2 b1, by rw [List.all_cons, a1, b2]; rfl⟩
theorem trBo_and {pos : Pos} (ok : CxOk w C tc X) {f : Expr → Option E} (hf : ∀ e e', f e = some e' → PE X e (TEv w C e')) : ∀ {es : List Expr} {e' : E}, trBo .and f es = some e' → PE X (.BoolOp .And es pos) (TEv w C e')
  | [], _, h => by cases h
  | [a], e', h => pe_one (hf a e' h)
  | a :: b :: r, e', h => by
    unfold trBo at h
    obtain ⟨x, h1, h⟩ := bnd h
    obtain ⟨y, h2, h⟩ := bnd h
    cases h
    exact se_and ok (hf a x h1) (trBo_and ok hf h2)
theorem trBo_or {pos : Pos} (ok : CxOk w C tc X) {f : Expr → Option E} (hf : ∀ e e', f e = some e' → PE X e (TEv w C e')) : ∀ {es : List Expr} {e' : E}, trBo .or f es = some e' → PE X (.BoolOp .Or es pos) (TEv w C e')
  | [], _, h => by cases h
  | [a], e', h => pe_one (hf a e' h)
  | a :: b :: r, e', h => by
    unfold trBo at h
    obtain ⟨x, h1, h⟩ := bnd h
    obtain ⟨y, h2, h⟩ := bnd h
    cases h
    exact se_or ok (hf a x h1) (trBo_or ok hf h2)
theorem trBo_andT {pos : Pos} {f : Expr → Option E} : ∀ {es : List Expr} {e' : E}, (∀ e e', e ∈ es → f e = some e' → PT X e (TTv w C [e'])) → trBo .and f es = some e' → PW X (.BoolOp .And es pos) (TTv w C [e'])
  | [], _, _, h => by cases h
  | [a], e', hf, h => pw_and1 (hf a e' (by simp) h)
  | a :: b :: r, e', hf, h => by
    unfold trBo at h
    obtain ⟨x, h1, h⟩ := bnd h
    obtain ⟨y, h2, h⟩ := bnd h
    cases h
    exact st_and (hf a x (by simp) h1) (trBo_andT (fun e e' he => hf e e' (List.mem_cons_of_mem _ he)) h2)
theorem trBo_orT {pos : Pos} {f : Expr → Option E} : ∀ {es : List Expr} {e' : E}, (∀ e e', e ∈ es → f e = some e' → PT X e (TTv w C [e'])) → trBo .or f es = some e' → PW X (.BoolOp .Or es pos) (TTv w C [e'])
  | [], _, _, h => by cases h
  | [a], e', hf, h => pw_or1 (hf a e' (by simp) h)
  | a :: b :: r, e', hf, h => by
    unfold trBo at h
    obtain ⟨x, h1, h⟩ := bnd h
    obtain ⟨y, h2, h⟩ := bnd h
    cases h
    exact st_or (hf a x (by simp) h1) (trBo_orT (fun e e' he => hf e e' (List.mem_cons_of_mem _ he)) h2)
theorem trG_ok (ok : CxOk w C tc X) : ∀ (n : Nat) {t : Expr} {t' : Tg}, trG tc.own n t = some t' → PG X t (TGv w t') ∧ ∀ i ∈ slots t', i ∈ tc.own.map (·.2)
  | 0, _, _, h => by cases h
  | n + 1, t, t', h => by
    unfold trG at h
    split at h
    · obtain ⟨i, h1, rfl⟩ := mpp h
      have hm := PySem.mem_of_lookup h1
      refine ⟨sg_name ok hm, fun j hj => ?_⟩
      have : j = i := by simpa [slots] using hj
      subst this
      exact List.mem_map.mpr ⟨_, hm, rfl⟩
    · rename_i es _ _
      split at h
      · rename_i hn
        obtain ⟨ts, h1, rfl⟩ := mpp h
        have all : ∀ {es : List Expr} {ts : List Tg}, es.all nst = true → tgs (trG tc.own n) es = some ts → PGs X es (TGsv w ts) ∧ ts.length = es.length ∧ ∀ i ∈ slotss ts, i ∈ tc.own.map (·.2) := by
          intro es
          induction es with
          | nil => intro ts _ h; cases h; exact ⟨sgs_nil, rfl, fun i hi => by simp [slotss] at hi⟩
          | cons e es ih =>
            intro ts hn h
            rw [List.all_cons, Bool.and_eq_true] at hn
            unfold tgs at h
            obtain ⟨x, h1, h⟩ := bnd h
            obtain ⟨xs, h2, h⟩ := bnd h
            cases h
            obtain ⟨a1, a2⟩ := trG_ok ok n h1
            obtain ⟨b1, b2, b3⟩ := ih hn.2 h2
            refine ⟨sgs_cons hn.1 a1 b1, by rw [List.length_cons, List.length_cons, b2], fun i hi => ?_⟩
            unfold slotss at hi
            rcases List.mem_append.mp hi with hi | hi
            · exact a2 i hi
            · exact b3 i hi
        obtain ⟨b1, b2, b3⟩ := all hn h1
        exact ⟨sg_tup ok hn b2 b1, fun i hi => b3 i (by unfold slots at hi; exact hi)⟩
      · cases h
    · cases h
theorem isB_has {x : Str} (ok : CxOk w C tc X) (h : isB tc x = true) : Gl X x ∧ X.mg x = none ∧ (x == ("__debug__" : Str)) = false := by
  unfold isB at h
  simp only [Bool.and_eq_true, decide_eq_true_eq] at h; obtain ⟨g1, g2⟩ := isGl_gl ok h.1.1
  exact ⟨g1, ok.blt x h.2, g2⟩
theorem trI_ok {f : Expr → Option E} (ok : CxOk w C tc X) (hf : ∀ e e', f e = some e' → nst e = true ∧ PE X e (TEv w C e')) {t it : Expr} {r : IK × List E} (h : trI f tc t it = some r) : PI X t it (TIv w C r.1 r.2) := by
  have seq : ∀ {it : Expr} {r : IK × List E}, ((f it).map fun e => (IK.seq, [e])) = some r → PI X t it (TIv w C r.1 r.2) := by
    intro it r h
    obtain ⟨e, h1, rfl⟩ := mpp h
    exact si_seq ok (hf _ _ h1).2
  have tup : isTuple t = true → ∃ es k p, t = .Tuple es k p := by
    intro h
    cases t <;> first | exact ⟨_, _, _, rfl⟩ | exact Bool.noConfusion h
  unfold trI at h
  split at h
  · rename_i x p args q
    split at h
    · rename_i hb
      obtain ⟨g1, g2, g3⟩ := isB_has ok hb
      split at h
      · rename_i a
        split at h
        · rename_i hx
          subst hx
          obtain ⟨e, h1, rfl⟩ := mpp h
          obtain ⟨a1, a2⟩ := hf _ _ h1
          exact si_rng1 ok g1 a1 a2
        · split at h
          · rename_i hx
            obtain ⟨rfl, ht⟩ := hx
            obtain ⟨e, h1, rfl⟩ := mpp h
            obtain ⟨a1, a2⟩ := hf _ _ h1
            obtain ⟨es, k, pp, rfl⟩ := tup ht
            exact si_enum ok g1 a1 a2
          · split at h
            · rename_i hx
              subst hx
              obtain ⟨e, h1, rfl⟩ := mpp h
              obtain ⟨a1, a2⟩ := hf _ _ h1
              exact si_rev ok g1 a1 a2
            · exact seq h
      · rename_i a b
        split at h
        · rename_i hx
          subst hx
          obtain ⟨e, h1, h⟩ := bnd h
          obtain ⟨e2, h2, rfl⟩ := mpp h
          obtain ⟨a1, a2⟩ := hf _ _ h1
          obtain ⟨b1, b2⟩ := hf _ _ h2
          exact si_rng2 ok g1 a1 b1 a2 b2
        · split at h
          · rename_i hx
            obtain ⟨rfl, ht⟩ := hx
            obtain ⟨e, h1, h⟩ := bnd h
            obtain ⟨e2, h2, rfl⟩ := mpp h
            obtain ⟨a1, a2⟩ := hf _ _ h1
            obtain ⟨b1, b2⟩ := hf _ _ h2
            obtain ⟨es, k, pp, rfl⟩ := tup ht
            exact si_zip ok g1 a1 b1 a2 b2
          · cases h
      · cases h
    · exact seq h
  · exact seq h
theorem trCall_ok {f : Expr → Option E} (ok : CxOk w C tc X) (hf : ∀ e e', f e = some e' → nst e = true ∧ PE X e (TEv w C e')) {fn : Expr} {args : List Expr} {pos : Pos} {r : E} (h : trCall f tc fn args pos = some r) : PE X (.Call fn args [] pos) (TEv w C r) := by
  have prim : ∀ {x : Str} {p : Pos} {k : Nat} {args : List Expr} {r : E}, isGl tc x = true → k = args.length → ((prOf x k).bind fun r => (trs f args).map fun es => E.pr r es) = some r → PE X (.Call (.Name x p) args [] pos) (TEv w C r) := by
    intro x p k args r hg hk h
    obtain ⟨q, h1, h⟩ := bnd h
    obtain ⟨es, h2, rfl⟩ := mpp h
    obtain ⟨g1, g2⟩ := isGl_gl ok hg
    obtain ⟨b1, b2, b3⟩ := prOf_has h1
    obtain ⟨a1, a2⟩ := trs_ok hf h2
    cases args with
    | nil =>
      subst hk
      exfalso
      unfold prOf at h1
      obtain ⟨t, h3, _⟩ := mpp h1
      have h4 := List.find?_some h3
      have h5 := List.mem_of_find?_eq_some h3
      simp only [Bool.and_eq_true, decide_eq_true_eq] at h4
      have : ∀ t ∈ prTab, t.2.1 ≠ 0 := by decide
      exact this t h5 h4.2
    | cons a es =>
      rw [List.all_cons, Bool.and_eq_true] at a2
      exact se_pr ok g1 (ok.blt _ b2) b1 b3 g2 a2.1 a2.2 a1
  unfold trCall at h
  split at h
  · rename_i x p
    split at h
    · rename_i hg
      obtain ⟨g1, g2⟩ := isGl_gl ok hg
      split at h
      · rename_i i hi
        split at h
        · cases h
        · obtain ⟨es, h2, rfl⟩ := mpp h
          obtain ⟨a1, a2⟩ := trs_ok hf h2
          cases args with
          | nil => rename_i hh; exact absurd rfl hh
          | cons a es =>
            rw [List.all_cons, Bool.and_eq_true] at a2
            cases hC : C i with
            | none =>
              refine pe_imp pe_never fun σ H Q ⟨m, S, ρ, R, En, q⟩ => ?_
              unfold ev at q
              simp only [hC] at q
              exact q
            | some ng =>
              obtain ⟨n, g⟩ := ng
              exact se_call ok hC (ok.fns x i n g hi hC) g1 g2 a2.1 a2.2 a1
      · split at h
        · rename_i a y p2
          split at h
          · rename_i hx
            subst hx
            split at h
            · rename_i hb
              obtain ⟨e, h1, h⟩ := bnd h
              obtain ⟨T, h2, rfl⟩ := mpp h
              obtain ⟨k1, k2, k3⟩ := isB_has ok hb
              obtain ⟨t1, t2⟩ := ty_has _ (PySem.mem_of_lookup h2)
              obtain ⟨a1, a2⟩ := hf _ _ h1
              exact se_isi ok g1 (ok.blt _ (by decide)) PyProof.Rows.boot_isinstance (by decide) g2 k1 k2 t1 t2 k3 a1 a2
            · cases h
          · exact prim hg rfl h
        · rename_i y p3 a p4 _
          split at h
          · rename_i hx
            obtain ⟨rfl, rfl, hb⟩ := hx
            obtain ⟨e, h1, rfl⟩ := mpp h
            obtain ⟨k1, k2, k3⟩ := isB_has ok hb
            obtain ⟨a1, a2⟩ := hf _ _ h1
            exact se_lrg1 (x := "list") (y := "range") ok g1 k1 a1 a2
          · exact prim hg rfl h
        · rename_i y p3 a b p4 _
          split at h
          · rename_i hx
            obtain ⟨rfl, rfl, hb⟩ := hx
            obtain ⟨e, h1, h⟩ := bnd h
            obtain ⟨e2, h2, rfl⟩ := mpp h
            obtain ⟨k1, k2, k3⟩ := isB_has ok hb
            obtain ⟨a1, a2⟩ := hf _ _ h1
            obtain ⟨b1, b2⟩ := hf _ _ h2
            exact se_lrg2 ok g1 k1 a1 b1 a2 b2
          · exact prim hg rfl h
        · exact prim hg rfl h
    · cases h
  · rename_i o m apos
    split at h
    · rename_i hh
      rw [Bool.and_eq_true] at hh
      obtain ⟨q, h1, h⟩ := bnd h
      obtain ⟨u, h2, h⟩ := bnd h
      obtain ⟨es, h3, rfl⟩ := mpp h
      obtain ⟨⟨m1, m2, m3⟩, m4⟩ := meOf_has h1
      obtain ⟨a1, a2⟩ := trs_ok hf h3
      have hb : ∀ env whole, attributeBase o m env whole = whole := fun env whole => attr_base (by
        have := hh.2
        unfold notSuper at this
        exact this)
      cases args with
      | nil =>
        cases h3
        exact se_me0 ok m1 m2 m3 hb hh.1 (hf _ _ h2).2
      | cons a es =>
        rw [List.all_cons, Bool.and_eq_true] at a2
        exact se_me ok m1 m2 m3 hb hh.1 (by rw [List.length_cons] at m4; omega) a2.1 a2.2 (hf _ _ h2).2 a1
    · cases h
  · cases h
end
end Mi
namespace Mi
open PySem L2
section
variable {w : Wd} {C : Ctx} {tc : TC} {X : Cx}
theorem notSet_fold {it : Expr} {env : PySem.Env} (h : notSet it = true) : ∀ x, foldedSetIterable it env x = pure x := by
  intro x
  cases it <;> first | rfl | (exact Bool.noConfusion h)
theorem own_mem {sc : Scope} {p : Str × Nat} (h : p ∈ ownOf tc sc) : tc.N[p.2]? = some p.1 := by
  unfold ownOf at h
  obtain ⟨⟨x, k⟩, _, h2⟩ := List.mem_filterMap.mp h
  cases k <;> first | (cases h2; done) | (obtain ⟨i, h3, rfl⟩ := mpp h2; exact idx_get h3)
theorem CxOk.blk (ok : CxOk w C tc X) {sc : Scope} (ho : ownOk sc (ownOf tc sc) = true) (s : Shared) (H : Hp) (Cc : Addr) (cl : List (Str × Addr)) (fp : List Addr) :
    CxOk (wF w) C (tc.blk sc) (X.blk s H sc (compEnvC sc cl Cc X.env) fp) where
  K := ok.K
  calm := ok.calm
  sc := by
    show relabel sc X.env = relS sc tc.sc
    rw [← ok.sc]
    rfl
  N := ok.N
  nd := ok.nd
  hu := ok.hu
  blt := ok.blt
  fns := fun x f n g h1 h2 => by
    obtain ⟨k, fa, fd, ps, F, hr, hm, hk, hb⟩ := (ok.fns x f n g h1 h2).has
    exact ⟨k, fa, fd, ps, F, hr, hm, hk, hb⟩
  cst := ok.cst
  tk := fun u s' ⟨a, B, sI, pins, σ, H, cls, d, e, I, nb, up, sky, na, os, ag, w⟩ => w.elim
  sto := fun p hp => by
    have h1 := own_mem hp
    have h2 := (List.all_eq_true.mp ho) p hp
    refine ⟨by rw [show (X.blk s H sc (compEnvC sc cl Cc X.env) fp).N = X.N from rfl, ok.N]; exact h1, ?_⟩
    split at h2
    · rename_i e
      have h3 : (relabel sc X.env).names.lookup p.1 = some .local := lookup_relS_keep (sc := X.env.scope) (by decide) e
      exact ⟨.inl h3, .inr h3⟩
    · rename_i e
      have h3 : (relabel sc X.env).names.lookup p.1 = some .cell := lookup_relS_keep (sc := X.env.scope) (by decide) e
      refine ⟨.inr h3, .inl ?_⟩
      show (sc.names.lookup p.1 == some .cell) = true
      rw [e]
      rfl
    · cases h2
theorem slot_vis {x : Str} {i : Nat} (ok : CxOk w C tc X) (h : slotOf tc x = some i) : X.N[i]? = some x ∧ Vis X.env.scope x := by
  unfold slotOf kindIn at h
  split at h <;> first | (cases h; done) | skip
  · rename_i e
    exact ⟨by rw [ok.N]; exact idx_get h, .inl (by rw [ok.sc]; exact e)⟩
  · rename_i e
    exact ⟨by rw [ok.N]; exact idx_get h, .inr (.inl (by rw [ok.sc]; exact e))⟩
  · rename_i e
    exact ⟨by rw [ok.N]; exact idx_get h, .inr (.inr (by rw [ok.sc]; exact e))⟩
theorem plain_ne {o : CmpOp} (h : plainCp (cpBack o) = true) : cpBack o ≠ .isin ∧ cpBack o ≠ .notin := by
  cases o <;> first | (cases h; done) | (refine ⟨?_, ?_⟩ <;> (intro e; cases e))
theorem lm2 {o p : CmpOp} {b c : Expr} (h : notSet c = true) : lastMarks [o, p] [b, c] = false := nomark' (notSet_m h)
theorem o2_has {o : Operator} {p : O2} (h : o2Of o = some p) : o = match (generalizing := false) p with | .add => .Add | .sub => .Sub | .mul => .Mult | .fdiv => .FloorDiv | .mod => .Mod | .pow => .Pow := by
  cases o <;> first | (cases h; rfl) | (cases h; done)
theorem trs_pts {f : Expr → Option E} {n : Nat} (hf : ∀ e e', f e = some e' → okT n e = true → PT X e (TTv w C [e'])) {ifs : List Expr} {cs : List E} (h : trs f ifs = some cs) (hn : ifsOk n ifs = true) : PTs X ifs (TTv w C cs) := by
  match ifs, h, hn with
  | [], h, _ =>
    cases h
    refine ⟨fun pins s σ H Q I q => pts_nil.run pins s σ H Q I ?_⟩
    obtain ⟨m, S, ρ, R, En, q⟩ := q
    unfold evT at q
    exact q m H true .refl R rfl
  | [c], h, hn =>
    unfold trs at h
    obtain ⟨x, h1, h⟩ := bnd h
    cases h
    exact pts_one (hf _ _ h1 hn)
  | _ :: _ :: _, _, hn => cases hn
/-- what a text's translation computes is what the text does -/
theorem tr_ok : ∀ (n : Nat) {w : Wd} {tc : TC} {X : Cx} {e : Expr} {e' : E}, CxOk w C tc X → tr n tc e = some e' → PE X e (TEv w C e') ∧ (okT n e = true → PT X e (TTv w C [e'])) := by
  intro n
  induction n with
  | zero => intro w tc X e e' _ h; cases h
  | succ n ih =>
  intro w tc X e e' ok h
  have hE : ∀ {e e'}, tr n tc e = some e' → PE X e (TEv w C e') := fun h => (ih ok h).1
  have hA : ∀ e e', tr n tc e = some e' → nst e = true ∧ PE X e (TEv w C e') := fun e e' h => ⟨tr_nst h, (ih ok h).1⟩
  have plain : ∀ {e : Expr} {e' : E}, noIf e = true → PE X e (TEv w C e') → PE X e (TEv w C e') ∧ (okT (n + 1) e = true → PT X e (TTv w C [e'])) := fun hn h => ⟨h, fun _ => st_plain ok hn h⟩
  unfold tr at h
  split at h
  · rename_i x p
    refine plain rfl ?_
    split at h
    · cases h
    · rename_i hx
      simp only [not_or] at hx
      split at h
      · rename_i i hi
        cases h
        obtain ⟨h1, h2⟩ := slot_vis ok hi
        exact se_var ok h1 h2 (by simpa using hx.1) (by simpa using hx.2)
      · split at h
        · rename_i hg
          obtain ⟨v, h1, rfl⟩ := mpp h
          obtain ⟨g1, g2⟩ := isGl_gl ok hg
          obtain ⟨u, z, c1, c2, c3⟩ := ok.cst _ _ h1
          exact se_cst (pe_glob g1 c1 c2 g2) (by rw [← ok.K]; exact c3)
        · cases h
  · rename_i c k p
    refine plain rfl ?_
    split at h
    · cases h
      exact se_cst pe_int fun m H => rfl
    · cases h
      exact se_cst pe_bl fun m H => rfl
    · cases h
      exact se_cst pe_non fun m H => rfl
    · cases h
      exact se_cst pe_str fun m H => rfl
    · cases h
  · rename_i a o b p
    refine plain rfl ?_
    obtain ⟨q, h1, h⟩ := bnd h
    obtain ⟨x, h2, h⟩ := bnd h
    obtain ⟨y, h3, rfl⟩ := mpp h
    exact se_bin ok (o2_has h1) (hE h2) (hE h3)
  · rename_i o a p
    split at h
    · obtain ⟨x, h1, rfl⟩ := mpp h
      exact plain rfl (se_neg ok (hE h1))
    · obtain ⟨x, h1, rfl⟩ := mpp h
      refine ⟨se_not ok (hE h1), fun ht => ?_⟩
      unfold okT at ht
      exact st_not ((ih ok h1).2 ht)
    · cases h
  · rename_i o vs p
    split at h
    · refine ⟨trBo_and ok (fun e e' h => hE h) h, fun ht => PW.pt ?_⟩
      unfold okT at ht
      exact trBo_andT (fun e e' he h => (ih ok h).2 (List.all_eq_true.mp ht e he)) h
    · refine ⟨trBo_or ok (fun e e' h => hE h) h, fun ht => PW.pt ?_⟩
      unfold okT at ht
      exact trBo_orT (fun e e' he h => (ih ok h).2 (List.all_eq_true.mp ht e he)) h
  · rename_i a os bs p
    split at h
    · rename_i o b
      split at h
      · rename_i hs
        obtain ⟨x, h1, h⟩ := bnd h
        obtain ⟨y, h2, rfl⟩ := mpp h
        have := se_cmp (o := cpBack o) (pos := p) ok (notSet_m hs) (hE h1) (hE h2)
        have t := st_cmp (o := cpBack o) (pos := p) ok (notSet_m hs) (hE h1) (hE h2)
        rw [cpOf_back] at this t
        exact ⟨this, fun _ => t⟩
      · cases h
    · rename_i o q b c
      split at h
      · rename_i hs
        simp only [Bool.and_eq_true] at hs
        obtain ⟨⟨⟨s1, s2⟩, s3⟩, s4⟩ := hs
        obtain ⟨x, h1, h⟩ := bnd h
        obtain ⟨y, h2, h⟩ := bnd h
        obtain ⟨z, h3, rfl⟩ := mpp h
        obtain ⟨n1, n2⟩ := plain_ne s1
        obtain ⟨n3, n4⟩ := plain_ne s2
        have := se_chain (o := cpBack o) (p := cpBack q) (pos := p) ok n1 n2 n3 n4 (lm2 s4) (hE h1) (hE h2) (hE h3)
        have t := st_chain (o := cpBack o) (p := cpBack q) (pos := p) ok n1 n2 n3 n4 (lm2 s4) (hE h1) (hE h2) (hE h3)
        rw [cpOf_back, cpOf_back] at this t
        exact ⟨this, fun _ => t⟩
      · cases h
    · cases h
  · rename_i c a b p
    split at h
    · rename_i hc
      obtain ⟨z, h1, h⟩ := bnd h
      obtain ⟨x, h2, h⟩ := bnd h
      obtain ⟨y, h3, rfl⟩ := mpp h
      refine ⟨se_ite ok ((ih ok h1).2 hc) (hE h2) (hE h3), fun ht => ?_⟩
      unfold okT at ht
      cases ht
    · cases h
  · rename_i a i p
    refine plain rfl ?_
    split at h
    · split at h
      · obtain ⟨x, h1, h⟩ := bnd h
        obtain ⟨y, h2, h⟩ := bnd h
        obtain ⟨z, h3, rfl⟩ := mpp h
        exact se_slB ok (hE h1) (hE h2) (hE h3)
      · obtain ⟨x, h1, h⟩ := bnd h
        obtain ⟨y, h2, rfl⟩ := mpp h
        exact se_slL ok (hE h1) (hE h2)
      · obtain ⟨x, h1, h⟩ := bnd h
        obtain ⟨y, h2, rfl⟩ := mpp h
        exact se_slH ok (hE h1) (hE h2)
      · obtain ⟨x, h1, rfl⟩ := mpp h
        exact se_slA ok (hE h1)
      · obtain ⟨x, h1, rfl⟩ := mpp h
        exact se_slR ok (hE h1)
      · cases h
    · rename_i hns
      obtain ⟨x, h1, h⟩ := bnd h
      obtain ⟨y, h2, rfl⟩ := mpp h
      refine se_sub ok ?_ (hE h1) (hE h2)
      cases i <;> first | rfl | (exact absurd rfl (hns _ _ _ _))
  · rename_i es p
    refine plain rfl ?_
    obtain ⟨x, h1, rfl⟩ := mpp h
    exact se_lst ok (trs_ok hA h1).1
  · rename_i es k p
    refine plain rfl ?_
    obtain ⟨x, h1, rfl⟩ := mpp h
    exact se_tup ok (trs_ok hA h1).1
  · rename_i ks vs p
    refine plain rfl ?_
    split at h
    · split at h
      · cases h; exact se_dT ok
      · cases h; exact se_dK ok
    · cases h
  · rename_i f args kws p
    refine plain rfl ?_
    split at h
    · exact trCall_ok ok hA h
    · cases h
  · rename_i elt gens sc p
    refine plain rfl ?_
    split at h
    · rename_i t it ifs
      split at h
      · rename_i hh
        simp only [Bool.and_eq_true] at hh
        obtain ⟨⟨⟨k1, k2⟩, k3⟩, k4⟩ := hh
        obtain ⟨t', h1, h⟩ := bnd h
        obtain ⟨r, h2, h⟩ := bnd h
        obtain ⟨cs, h3, h⟩ := bnd h
        obtain ⟨e1, h4, rfl⟩ := mpp h
        have hsl := (trG_ok (w := wF w) (C := C) (tc := tc.blk sc) (ok.blk k2 X.s_0 X.H_0 0 [] []) n h1).2
        refine pe_imp (pe_lc (own := ownOf tc sc) ok.calm (by rw [ok.N]; exact ok.nd) (trI_ok ok hA h2) (blkOk_by (by rw [ok.N, ok.sc]; exact k1))
          (fun s H Cc cl fp => (trG_ok (ok.blk k2 s H Cc cl fp) n h1).1) (fun s H Cc cl fp => ?_) (fun s H Cc cl fp => (ih (ok.blk k2 s H Cc cl fp) h4).1) (notSet_fold k3)) (fun σ H Q q => lc_read hsl q)
        exact trs_pts (n := n) (fun e e' he ht => (ih (ok.blk k2 s H Cc cl fp) he).2 ht) h3 k4
      · cases h
    · cases h
  · cases h
end
end Mi
namespace Mi
open PySem L2
/-! ### statements, by what they are worth -/
def Sst (w : Wd) (m : List Addr) (H : Hp) (o : SO) (D : Ends) : Prop := match o with
  | .nx ρ S => ∀ m' H' σ', Ext m H m' H' → Rel w.K m' S H' → REnv w.K m' H' ρ σ' → D.nx σ' H'
  | .bk ρ S => ∀ m' H' σ', Ext m H m' H' → Rel w.K m' S H' → REnv w.K m' H' ρ σ' → D.bk σ' H'
  | .ct ρ S => ∀ m' H' σ', Ext m H m' H' → Rel w.K m' S H' → REnv w.K m' H' ρ σ' → D.ct σ' H'
  | .rt v S => ∀ m' H' z, Ext m H m' H' → Rel w.K m' S H' → RV w.K m' H' v z → D.rt z H'
  | .ex c d ρ S => ∀ m' H' σ', Ext m H m' H' → Rel w.K m' S H' → REnv w.K m' H' ρ σ' → w.We (w.cl c) (dAt m' d) σ' H'
  | .bad => False
theorem Sst.ext {w : Wd} {m m' : List Addr} {H H' : Hp} {o : SO} {D : Ends} (e : Ext m H m' H') (h : Sst w m H o D) : Sst w m' H' o D := by
  cases o with
  | nx ρ S => exact fun m2 H2 σ e2 R En => h m2 H2 σ (e.trans e2) R En
  | bk ρ S => exact fun m2 H2 σ e2 R En => h m2 H2 σ (e.trans e2) R En
  | ct ρ S => exact fun m2 H2 σ e2 R En => h m2 H2 σ (e.trans e2) R En
  | rt v S => exact fun m2 H2 σ e2 R En => h m2 H2 σ (e.trans e2) R En
  | ex c d ρ S => exact fun m2 H2 σ e2 R En => h m2 H2 σ (e.trans e2) R En
  | bad => exact h
theorem st_pst {w : Wd} {α β : Type} {rel : List Addr → Hp → α → β → Prop} {m : List Addr} {H : Hp} {σ : L2.St} {r : R α} {ρ : Env} {k : α → Store → SO} {D : Ends} (En : REnv w.K m H ρ σ) (h : Sst w m H (r.st ρ k) D) :
    Pst w rel m H σ r (fun x H1 => ∃ m1 S1 a, Ext m H m1 H1 ∧ Rel w.K m1 S1 H1 ∧ rel m1 H1 a x ∧ Sst w m1 H1 (k a S1) D) := by
  cases r with
  | ok a S => exact fun m1 H1 z e R rz => ⟨m1, S, a, e, R, rz, Sst.ext e h⟩
  | ex c d S => exact fun m1 H1 e R => h m1 H1 σ e R (En.ext e)
  | bad => exact h
theorem Sst.then {w : Wd} {m : List Addr} {H : Hp} {o : SO} {k : Env → Store → SO} {D : Ends} (h : Sst w m H (o.then k) D) :
    Sst w m H o { D with nx := fun σ' H' => ∃ m' S' ρ', Ext m H m' H' ∧ Rel w.K m' S' H' ∧ REnv w.K m' H' ρ' σ' ∧ Sst w m' H' (k ρ' S') D } := by
  cases o with
  | nx ρ S => exact fun m2 H2 σ e2 R En => ⟨m2, S, ρ, e2, R, En, Sst.ext e2 h⟩
  | bk ρ S => exact h
  | ct ρ S => exact h
  | rt v S => exact h
  | ex c d ρ S => exact h
  | bad => exact h
def T1v (w : Wd) (C : Ctx) (s : Stm) : TS := fun D σ H => ∃ m S ρ, Rel w.K m S H ∧ REnv w.K m H ρ σ ∧ Sst w m H (ex C s ρ S) D
def TSv (w : Wd) (C : Ctx) (p : List Stm) : TS := fun D σ H => ∃ m S ρ, Rel w.K m S H ∧ REnv w.K m H ρ σ ∧ Sst w m H (exs C p ρ S) D
/-- what a body's context has beyond -/
structure SxOk (w : Wd) (C : Ctx) (tc : TC) (X : Cx) : Prop where
  cx : CxOk w C tc X
  pass : PassesOwn (model X.prog X.w) X.A X.env X.xe
  kind : tc.sc.kind = .function
section
variable {w : Wd} {C : Ctx} {tc : TC} {X : Cx} {a b c e : Expr} {a' b' c' e' : E} {es : List Expr} {es' : List E} {pos : Pos} {st : Stmt} {rest p q : List Stmt} {s : Stm} {r p' q' : List Stm}
theorem ss_nil : PSs X [] (TSv w C []) := pss_imp pss_nil fun D σ H ⟨m, S, ρ, R, En, q⟩ => by
  unfold exs at q
  exact q m H σ .refl R En
theorem ss_cons (h1 : PS X st (T1v w C s)) (h2 : PSs X rest (TSv w C r)) : PSs X (st :: rest) (TSv w C (s :: r)) :=
  pss_imp (pss_cons h1 h2) fun D σ H ⟨m, S, ρ, R, En, q⟩ => by
    unfold exs at q
    refine ⟨m, S, ρ, R, En, ?_⟩
    have q := q.then
    have mono : ∀ {o : SO} {D1 D2 : Ends}, D1.rt = D2.rt → D1.bk = D2.bk → D1.ct = D2.ct → (∀ σ H, D1.nx σ H → D2.nx σ H) → Sst w m H o D1 → Sst w m H o D2 := by
      intro o D1 D2 h1 h2 h3 h4 h
      cases o with
      | nx ρ S => exact fun m2 H2 σ e2 R En => h4 _ _ (h m2 H2 σ e2 R En)
      | bk ρ S => unfold Sst at h ⊢; rw [← h2]; exact h
      | ct ρ S => unfold Sst at h ⊢; rw [← h3]; exact h
      | rt v S => unfold Sst at h ⊢; rw [← h1]; exact h
      | ex c d ρ S => exact h
      | bad => exact h
    refine mono ?_ ?_ ?_ ?_ q
    · rfl
    · rfl
    · rfl
    · exact fun σ' H' ⟨m1, S1, ρ1, e1, R1, En1, q1⟩ => ⟨m1, S1, ρ1, R1, En1, q1⟩
theorem s_pass : PS X (.Pass pos) (T1v w C .pass) := ps_imp ps_pass fun D σ H ⟨m, S, ρ, R, En, q⟩ => by
  unfold ex at q
  exact q m H σ .refl R En
theorem s_doc {x j pos'} : PS X (.Expr (.Constant (.str x) j pos) pos') (T1v w C .pass) := ps_imp ps_doc fun D σ H ⟨m, S, ρ, R, En, q⟩ => by
  unfold ex at q
  exact q m H σ .refl R En
theorem s_brk : PS X (.Break pos) (T1v w C .brk) := ps_imp ps_break fun D σ H ⟨m, S, ρ, R, En, q⟩ => by
  unfold ex at q
  exact q m H σ .refl R En
theorem s_cnt : PS X (.Continue pos) (T1v w C .cnt) := ps_imp ps_continue fun D σ H ⟨m, S, ρ, R, En, q⟩ => by
  unfold ex at q
  exact q m H σ .refl R En
theorem s_exp (ha : PE X a (TEv w C a')) (hs : swapsWith a none pos.line X.env = pure false) : PS X (.Expr a pos) (T1v w C (.exp a')) :=
  ps_imp (ps_expr ha hs) fun D σ H ⟨m, S, ρ, R, En, q⟩ => by
    unfold ex at q
    exact ⟨m, S, ρ, R, En, (st_pst En q).mono fun x H1 ⟨m1, S1, u, e1, R1, r1, q1⟩ => q1 m1 H1 σ .refl R1 (En.ext e1)⟩
theorem s_ret (ha : PE X a (TEv w C a')) : PS X (.Return (some a) pos) (T1v w C (.ret a')) :=
  ps_imp (ps_ret ha) fun D σ H ⟨m, S, ρ, R, En, q⟩ => by
    unfold ex at q
    exact ⟨m, S, ρ, R, En, (st_pst En q).mono fun x H1 ⟨m1, S1, u, e1, R1, r1, q1⟩ => q1 m1 H1 x .refl R1 r1⟩
theorem s_retn : PS X (.Return none pos) (T1v w C .retn) := ps_imp ps_retN fun D σ H ⟨m, S, ρ, R, En, q⟩ => by
  unfold ex at q
  exact q m H .non .refl R rfl
theorem s_if (ht : PT X a (TTv w C [a'])) (hp : PSs X p (TSv w C p')) (hq : PSs X q (TSv w C q')) : PS X (.If a p q pos) (T1v w C (.ifS a' p' q')) :=
  ps_imp (ps_if ht hp hq) fun D σ H ⟨m, S, ρ, R, En, q⟩ => by
    unfold ex at q
    refine ⟨m, S, ρ, R, En, (st_pst En q).mono fun k H1 ⟨m1, S1, u, e1, R1, r1, q1⟩ => ?_⟩
    cases r1
    cases k with
    | true => exact ⟨m1, S1, ρ, R1, En.ext e1, q1⟩
    | false => exact ⟨m1, S1, ρ, R1, En.ext e1, q1⟩
theorem s_while (ok : SxOk w C tc X) (ht : PT X a (TTv w C [a'])) (hp : PSs X p (TSv w C p')) : PS X (.While a p [] pos) (T1v w C (.whl a' p')) :=
  ps_imp (ps_while ok.pass ht hp) fun D σ H ⟨m, S, ρ, R, En, q⟩ => by
    unfold ex at q
    refine ⟨fun n σ' H' => ∃ m S ρ, Rel w.K m S H' ∧ REnv w.K m H' ρ σ' ∧ Sst w m H' (wloop (fun ρ S => evT C [a'] ρ S) (fun ρ S => exs C p' ρ S) n ρ S) D, ⟨_, m, S, ρ, R, En, q⟩, ?_⟩
    rintro n σ1 H1 ⟨m1, S1, ρ1, R1, En1, q1⟩
    unfold wloop at q1
    refine ⟨m1, S1, ρ1, R1, En1, (st_pst En1 q1).mono fun k H2 ⟨m2, S2, u, e2, R2, r2, q2⟩ => ?_⟩
    cases r2
    cases k with
    | false => exact q2 m2 H2 σ1 .refl R2 (En1.ext e2)
    | true =>
      cases n with
      | zero => exact q2.elim
      | succ n =>
        simp only [if_true] at q2 ⊢
        refine ⟨fun σ' H' => ∃ m S ρ, Rel w.K m S H' ∧ REnv w.K m H' ρ σ' ∧ Sst w m H' (wloop (fun ρ S => evT C [a'] ρ S) (fun ρ S => exs C p' ρ S) n ρ S) D, fun σ' H' h => ⟨n, Nat.lt_succ_self n, h⟩, m2, S2, ρ1, R2, En1.ext e2, ?_⟩
        cases e : exs C p' ρ1 S2 with
        | nx ρ3 S3 => rw [e] at q2; exact fun m' H' σ' e' R' En' => ⟨m', S3, ρ3, R', En', Sst.ext e' q2⟩
        | ct ρ3 S3 => rw [e] at q2; exact fun m' H' σ' e' R' En' => ⟨m', S3, ρ3, R', En', Sst.ext e' q2⟩
        | bk ρ3 S3 => rw [e] at q2; exact q2
        | rt v S3 => rw [e] at q2; exact q2
        | ex c d ρ3 S3 => rw [e] at q2; exact q2
        | bad => rw [e] at q2; exact q2
theorem s_for {t : Tg} {k : IK} {its : List E} {tg : Expr} (ok : SxOk w C tc X) (hi : PI X tg a (TIv w C k its)) (hg : PG X tg (TGv w t)) (hp : PSs X p (TSv w C p')) (hs : ∀ x, foldedSetIterable a X.env x = pure x) : PS X (.For tg a p [] pos) (T1v w C (.for t k its p')) :=
  ps_imp (ps_for ok.pass ok.cx.calm hi hg hp hs) fun D σ H ⟨m, S, ρ, R, En, q⟩ => by
    unfold ex at q
    generalize hb : (fun (v : Val) (ρ : Env) (S : Store) => match lay S t v ρ with
        | some ρ => exs C p' ρ S
        | none => .bad) = body at q
    have q : Sst w m H (((evs C its ρ S).bind fun us S => Mi.R.of (start k us S) S).st ρ fun iv S => floop iv.next body (iv.cnt S) 0 ρ S) D := by
      cases e : evs C its ρ S with
      | ok us S1 =>
        rw [e] at q
        simp only [Mi.R.bind_ok, Mi.R.st_ok] at q ⊢
        cases e2 : start k us S1 with
        | none => simp only [e2] at q; exact q.elim
        | some iv => simp only [e2] at q; exact q
      | ex c d S1 => rw [e] at q; exact q
      | bad => rw [e] at q; exact q
    refine ⟨m, S, ρ, R, En, (st_pst En q).mono fun J H1 ⟨m1, S1, iv, e1, R1, jk, q1⟩ => ?_⟩
    refine ⟨fun i n σ' H' => ∃ m2 S2 ρ2, Ext m1 H1 m2 H' ∧ Rel w.K m2 S2 H' ∧ REnv w.K m2 H' ρ2 σ' ∧ Sst w m2 H' (floop iv.next body n i ρ2 S2) D, ⟨_, m1, S1, ρ, .refl, R1, En.ext e1, q1⟩, ?_⟩
    rintro i n σ2 H2 ⟨m2, S2, ρ2, e2, R2, En2, q2⟩
    obtain ⟨j1, j2⟩ := jk m2 S2 H2 i e2 R2
    unfold floop at q2
    cases hx : iv.next i S2 with
    | none => rw [hx] at q2; exact q2.elim
    | some o =>
      cases o with
      | none => simp only [hx] at q2; exact .inl ⟨j1 hx, q2 m2 H2 σ2 .refl R2 En2⟩
      | some v =>
        cases n with
        | zero => simp only [hx] at q2; exact q2.elim
        | succ n =>
          simp only [hx] at q2
          obtain ⟨g1, g2⟩ := j2 v hx
          refine .inr ⟨g1, fun σ' H' => ∃ m2 S2 ρ2, Ext m1 H1 m2 H' ∧ Rel w.K m2 S2 H' ∧ REnv w.K m2 H' ρ2 σ' ∧ Sst w m2 H' (floop iv.next body n (i + 1) ρ2 S2) D, fun σ' H' hN => ⟨n, Nat.lt_succ_self n, hN⟩, fun x H' hy => ?_⟩
          obtain ⟨e4, R4, rv⟩ := g2 x H' hy
          rw [← hb] at q2
          cases hl : lay S2 t v ρ2 with
          | none => simp only [hl] at q2; exact q2.elim
          | some ρ3 =>
            simp only [hl] at q2
            refine ⟨m2, S2, v, ρ2, ρ3, R4, En2.ext e4, rv, hl, fun σ' En' _ => ⟨m2, S2, ρ3, R4, En', ?_⟩⟩
            rw [hb] at q2
            cases e : exs C p' ρ3 S2 with
            | nx ρ5 S5 => simp only [e] at q2; exact fun m' H'' σ' e' R' En' => ⟨m', S5, ρ5, (e2.trans e4).trans e', R', En', Sst.ext (e4.trans e') q2⟩
            | ct ρ5 S5 => simp only [e] at q2; exact fun m' H'' σ' e' R' En' => ⟨m', S5, ρ5, (e2.trans e4).trans e', R', En', Sst.ext (e4.trans e') q2⟩
            | bk ρ5 S5 => simp only [e] at q2; exact Sst.ext e4 (o := .nx ρ5 S5) q2
            | rt v5 S5 => simp only [e] at q2; exact Sst.ext e4 (o := .rt v5 S5) q2
            | ex c d ρ5 S5 => simp only [e] at q2; exact Sst.ext e4 (o := .ex c d ρ5 S5) q2
            | bad => simp only [e] at q2; exact q2
/-- what laying leaves of an assignment -/
theorem asg_read {t : Tg} {D : Ends} {σ : L2.St} {H : Hp} (h : T1v w C (.asg t e') D σ H) : tAsg (TEv w C e') (TGv w t) D σ H := by
  obtain ⟨m, S, ρ, R, En, q⟩ := h
  unfold ex at q
  refine ⟨m, S, ρ, R, En, (st_pst En q).mono fun x H1 ⟨m1, S1, u, e1, R1, r1, q1⟩ => ?_⟩
  cases hl : lay S1 t u ρ with
  | none => rw [hl] at q1; exact q1.elim
  | some ρ' => rw [hl] at q1; exact ⟨m1, S1, u, ρ, ρ', R1, En.ext e1, r1, hl, fun σ' En' _ => q1 m1 H1 σ' .refl R1 En'⟩
theorem as_one {tg : Expr} (hn : nst tg = true) : (assignEach [tg] X.env).map (·.2) = [assign tg X.env] := by
  rw [assignEach_cons hn]; rfl
theorem s_asg {tg : Expr} {t : Tg} (hn : nst tg = true) (he : PE X e (TEv w C e')) (hg : PG X tg (TGv w t)) (hs : swapsWithSole [tg] e pos.line X.env = pure false) (hw : swappedStores [tg] e X.env = pure none) : PS X (.Assign [tg] e pos) (T1v w C (.asg t e')) :=
  ps_imp (ps_asg he hg hs hw (as_one hn)) fun D σ H h => asg_read h
/-! u[i] = v -/
def rSetD : TSet := fun u k z H Fin => ∃ d H2, u = .ref d ∧ DPut H d k z H2 ∧ Fin H2
theorem set_dict (hu : X.A.units + 1 < cLine) : PSet X Mi.rSetD := by
  intro pins s σ H o i v ov iv u Q I ro ri rv ⟨a, H', e, g, q⟩
  subst e
  obtain rfl : ov = Value.ref a := ro
  exact d_setItem hu I g ri rv fun _ I1 => ⟨_, I1, q⟩
theorem pset_or {t t' : TSet} (h : PSet X t) (h' : PSet X t') : PSet X (fun o i v H Q => t o i v H Q ∨ t' o i v H Q) :=
  fun pins s σ H o i v ov iv u Q I r1 r2 r3 q => q.elim (h pins s σ H o i v ov iv u Q I r1 r2 r3) (h' pins s σ H o i v ov iv u Q I r1 r2 r3)
theorem setop_rv {K : PySem.W.Frag} {m : List Addr} {S S' : Store} {H : Hp} {u i v : Val} {x y z : V} (R : Rel K m S H) (r1 : RV K m H u x) (r2 : RV K m H i y) (r3 : RV K m H v z) (h : setop S u i v = some S') :
    ∃ p o, x = .ref p ∧ Ext m H m (upd H p o) ∧ Rel K m S' (upd H p o) ∧ ∀ Q : Hp → Prop, Q (upd H p o) → rSetL x y z H Q ∨ rSetD x y z H Q := by
  cases u with
  | ref r =>
    obtain ⟨p, hp, rfl⟩ := r1
    unfold setop at h
    cases e : S[r]? with
    | none => simp only [e] at h; cases h
    | some b =>
      simp only [e] at h
      obtain ⟨_, h1, h2⟩ := R.ob _ _ _ e hp
      cases b with
      | xd _ => cases h
      | lst xs =>
        obtain ⟨vs, rfl, h2⟩ := h2
        cases i with
        | int k =>
          cases r2
          obtain ⟨j, hj, rfl⟩ := mpp h
          refine ⟨p, _, rfl, R.ext_set e hp, R.set e hp (c := .lst (xs.set j v)) ⟨vs.set j z, rfl, RVs.set r3 j h2⟩, fun Q q => .inl ⟨p, vs, k, j, rfl, rfl, h1, by rw [← h2.len]; exact hj, q⟩⟩
        | _ => cases h
      | dK kvs =>
        obtain ⟨ws, rfl, h2⟩ := h2
        simp only at h
        split at h
        · rename_i hz
          obtain ⟨kk, ek, rfl⟩ := mpp h
          have := key_rv ek r2
          subst this
          exact ⟨p, _, rfl, R.ext_set e hp, R.set e hp (c := .dK (put kvs kk v)) ⟨_, rfl, h2.put kk r3⟩, fun Q q => .inr ⟨p, _, rfl, DPut.k h1 (by rw [← h2.len]; exact hz), q⟩⟩
        · cases h
      | dT kvs =>
        obtain ⟨ws, rfl, h2⟩ := h2
        simp only at h
        split at h
        · rename_i hz
          obtain ⟨kk, ek, rfl⟩ := mpp h
          obtain ⟨b, rfl, hb⟩ := tkey_rv ek r2
          exact ⟨p, _, rfl, R.ext_set e hp, R.set e hp (c := .dT (put kvs kk v)) ⟨_, rfl, h2.put kk r3⟩, fun Q q => .inr ⟨p, _, rfl, DPut.t h1 hb (by rw [← h2.len]; exact hz), q⟩⟩
        · cases h
  | _ => cases h
def notSl : Expr → Bool
  | .Slice .. => false
  | _ => true
theorem s_set {p2 : Pos} (ok : CxOk w C tc X) (hs : notSl b = true) (ha : PE X a (TEv w C a')) (hb : PE X b (TEv w C b')) (hc : PE X c (TEv w C c')) (hw : swapsWithSole [.Subscript a b p2] c pos.line X.env = pure false) :
    PS X (.Assign [.Subscript a b p2] c pos) (T1v w C (.set a' b' c')) := by
  have hu : X.A.units + 1 < cLine := Nat.lt_of_le_of_lt (Nat.add_le_add_left (by decide) _) ok.hu
  have pl : ∀ v, assign (.Subscript a b p2) X.env v = (do let ov ← holding [v] (eval a X.env); let iv ← holding [v, ov] (eval b X.env); standAt p2; holding [v, ov, iv] (setItem ov iv v); release [v, ov, iv] []) := by
    cases b <;> first | (intro _; rfl) | (exact Bool.noConfusion hs)
  refine ps_imp (ps_asg hc (pg_sub ha hb (pset_or set_list (set_dict hu)) pl) hw (by cases c <;> rfl) (as_one rfl)) fun D σ H ⟨m, S, ρ, R, En, q⟩ => ?_
  unfold ex at q
  refine ⟨m, S, ρ, R, En, (st_pst En q).mono fun z H1 ⟨m1, S1, v, e1, R1, r1, q1⟩ => ?_⟩
  refine ⟨m1, S1, ρ, R1, En.ext e1, (st_pst (En.ext e1) q1).mono fun x H2 ⟨m2, S2, u, e2, R2, r2, q2⟩ => ?_⟩
  refine ⟨m2, S2, ρ, R2, (En.ext e1).ext e2, (st_pst ((En.ext e1).ext e2) q2).mono fun y H3 ⟨m3, S3, i, e3, R3, r3, q3⟩ => ?_⟩
  cases hh : setop S3 u i v with
  | none => rw [hh] at q3; exact q3.elim
  | some S4 =>
    simp only [hh] at q3
    obtain ⟨pp, o, rfl, ee, RR, fin⟩ := setop_rv R3 (r2.ext e3) r3 ((r1.ext e2).ext e3) hh
    exact fin _ (q3 m3 _ σ ee RR ((((En.ext e1).ext e2).ext e3).ext ee))
end
end Mi
namespace Mi
open PySem L2
section
variable {w : Wd} {C : Ctx} {tc : TC} {X : Cx} {a b c e : Expr} {a' b' c' e' : E} {es : List Expr} {es' : List E} {pos : Pos} {st : Stmt} {rest p q : List Stmt} {s : Stm} {r p' q' : List Stm}
def rGet (K : PySem.W.Frag) : V → V → Hp → VK → Prop := fun x y H Q => rIxL K x y H Q ∨ ∃ p v, x = .ref p ∧ DGet H p y (some v) ∧ Q v H
theorem pget_ref (hu : X.A.units + 1 < cLine) : PGet X (rGet X.K) := by
  rintro pins s σ H x y v u Q I rx ry (⟨p, zs, n, z, rfl, rfl, sq, at', q⟩ | ⟨p, z, rfl, g, q⟩)
  · cases rx
    obtain ⟨tk, rfl⟩ := ry
    obtain ⟨arr, rvs, isl, _⟩ := I.list sq
    obtain ⟨j, ix, jz, _, lo, hi⟩ := atI_get at'
    obtain ⟨c, arrj, rc⟩ := rvs.get jz
    have len := rvs.length
    have big := line63
    have done : EP X pins σ Q c s := ⟨z, H, I, rc, q⟩
    by_cases pos : 0 ≤ n
    · have hj : n.toNat = j := by
        rw [seqIndex_of pos hi] at ix
        exact Option.some.inj ix
      exact wpAny_getItem_list isl.isList pos (by omega) (by rw [hj]; simpa using arrj) done
    · have hj : (n + arr.toArray.size).toNat = j := by
        rw [List.size_toArray, ← len]
        rw [seqIndex_neg (by omega) lo] at ix
        exact Option.some.inj ix
      exact wpAny_getItem_list_neg isl.isList (by omega) (by rw [List.size_toArray] <;> omega) (by omega) (by rw [hj]; simpa using arrj) done
  · cases rx
    exact d_getItem hu I g ry fun _ _ I1 r1 => ⟨z, H, I1, r1, q⟩
theorem itemR_rv {K : PySem.W.Frag} {m : List Addr} {S : Store} {H : Hp} {u i v : Val} {x y : V} (R : Rel K m S H) (r1 : RV K m H u x) (r2 : RV K m H i y) (h : itemR S u i = some v) :
    ∃ z, RV K m H v z ∧ ∀ Q : VK, Q z H → rGet K x y H Q := by
  cases u with
  | ref r =>
    have h : item S (.ref r) i = some v := h
    unfold item at h
    cases e : itemS S (.ref r) i with
    | some v' =>
      rw [e] at h
      cases h
      unfold itemS at e
      split at e
      · rename_i hh; cases hh
      · split at e
        · rename_i xs k hs _
          have hs : lstOf S (.ref r) = some xs := hs
          obtain ⟨p, vs, rfl, h1, h2⟩ := R.lst hs r1
          cases r2
          obtain ⟨z, e2, rz⟩ := atI_rv h2 e
          exact ⟨z, rz, fun Q q => .inl ⟨p, vs, k, z, rfl, rfl, h1, e2, q⟩⟩
        · cases e
    | none =>
      rw [e] at h
      cases e2 : dget S (.ref r) i with
      | none => rw [e2] at h; cases h
      | some o =>
        rw [e2] at h
        cases o with
        | none => cases h
        | some v' =>
          cases h
          obtain ⟨p, z, rfl, h3, z', rfl, h4⟩ := dget_DG R r1 r2 e2
          exact ⟨z', h4, fun Q q => .inr ⟨p, z', rfl, h3, q⟩⟩
  | _ => cases h
def augOp : O2 → Option Operator
  | .add => some .Add | .sub => some .Sub | _ => none
def augF : O2 → Int → Int → Int
  | .add => fun i j => i + j | .sub => fun i j => i - j | _ => fun i _ => i
theorem ip_op {o : O2} {p : Operator} (h : augOp o = some p) : PIp X p (ipI (augF o)) := by
  cases o <;> first | (cases h; exact ip_add) | (cases h; exact ip_sub) | (cases h; done)
theorem s_aug {i : Nat} {x : Str} {o : O2} {op : Operator} {p2 : Pos} (ok : CxOk w C tc X) (hm : (x, i) ∈ tc.own) (ho : augOp o = some op) (ha : PE X a (TEv w C a')) : PS X (.AugAssign (.Name x p2) op a pos) (T1v w C (.aug i o a')) := by
  obtain ⟨h1, h2, h3⟩ := ok.sto _ hm
  refine ps_imp (ps_aug (by rw [ok.N]; exact ok.nd) h1 h2 ha (ip_op ho) h3) fun D σ H ⟨m, S, ρ, R, En, q⟩ => ?_
  unfold ex at q
  cases e : ρ[i]? with
  | none => simp only [e] at q; exact q.elim
  | some v =>
    cases v with
    | none => simp only [e] at q; exact q.elim
    | some v =>
      cases v with
      | int k =>
        simp only [e] at q
        obtain ⟨z, hz, rz⟩ := En.2 _ _ e
        cases rz
        refine ⟨_, hz, m, S, ρ, R, En, (st_pst En q).mono fun y H1 ⟨m1, S1, u, e1, R1, r1, q1⟩ => ?_⟩
        have fin : ∀ {j : Int}, Sst w m1 H1 (.nx (ρ.set i (some (.int j))) S1) D → D.nx (σ.set i (some (.int j))) H1 := fun q1 => q1 m1 H1 _ .refl R1 ((En.ext e1).set i rfl)
        cases o <;> cases u <;> first | (exact q1.elim) | (cases r1; exact ⟨k, _, rfl, rfl, fin q1⟩)
      | _ => simp only [e] at q; exact q.elim
theorem s_augS {o : O2} {op : Operator} {p2 : Pos} (ok : CxOk w C tc X) (hs : notSl b = true) (ho : augOp o = some op) (ha : PE X a (TEv w C a')) (hb : PE X b (TEv w C b')) (hc : PE X c (TEv w C c')) :
    PS X (.AugAssign (.Subscript a b p2) op c pos) (T1v w C (.augS a' b' o c')) := by
  have hu : X.A.units + 1 < cLine := Nat.lt_of_le_of_lt (Nat.add_le_add_left (by decide) _) ok.hu
  have pl : ∀ ov iv new, augStore b ov iv new = (do holding [new, ov, iv] (setItem ov iv new); release [new, ov, iv] []; pure .next) := by
    cases b <;> first | (intros; rfl) | (exact Bool.noConfusion hs)
  refine ps_imp (ps_augS ha hb (pget_ref hu) hc (ip_op ho) (pset_or set_list (set_dict hu)) pl) fun D σ H ⟨m, S, ρ, R, En, q⟩ => ?_
  unfold ex at q
  refine ⟨m, S, ρ, R, En, (st_pst En q).mono fun x H1 ⟨m1, S1, u, e1, R1, r1, q1⟩ => ?_⟩
  have En1 := En.ext e1
  refine ⟨m1, S1, ρ, R1, En1, (st_pst En1 q1).mono fun y H2 ⟨m2, S2, k, e2, R2, r2, q2⟩ => ?_⟩
  have En2 := En1.ext e2
  cases hi : itemR S2 u k with
  | none => simp only [hi] at q2; exact q2.elim
  | some v =>
    cases v with
    | int j =>
      simp only [hi] at q2
      obtain ⟨z, rz, g⟩ := itemR_rv R2 (r1.ext e2) r2 hi
      cases rz
      rw [ok.K]
      refine g _ ⟨m2, S2, ρ, R2, En2, (st_pst En2 q2).mono fun t H3 ⟨m3, S3, d, e3, R3, r3, q3⟩ => ?_⟩
      have En3 := En2.ext e3
      have fin : ∀ {n : Int}, Sst w m3 H3 (match setop S3 u k (.int n) with | some S => .nx ρ S | none => .bad) D → rSetL x y (.int n) H3 (fun H6 => D.nx σ H6) ∨ Mi.rSetD x y (.int n) H3 (fun H6 => D.nx σ H6) := by
        intro n q3
        cases hh : setop S3 u k (.int n) with
        | none => simp only [hh] at q3; exact q3.elim
        | some S4 =>
          simp only [hh] at q3
          obtain ⟨pp, ob, rfl, ee, RR, f⟩ := setop_rv (z := .int n) R3 ((r1.ext e2).ext e3) (r2.ext e3) (show RV w.K m3 H3 (.int n) (.int n) from rfl) hh
          exact f _ (q3 m3 _ σ ee RR (En3.ext ee))
      cases o <;> cases d <;> first | (exact q3.elim) | (cases r3; exact ⟨j, _, rfl, rfl, fin q3⟩)
    | _ => simp only [hi] at q2; exact q2.elim
/-! a, b = x, y with local names -/
theorem s_par {i j : Nat} {x y : Str} {px py pt p3 : Pos} {kt k2 : Nat} (ok : CxOk w C tc X) (hi : X.N[i]? = some x) (hj : X.N[j]? = some y) (hij : i ≠ j) (hx : X.env.scope.names.lookup x = some .local) (hy : X.env.scope.names.lookup y = some .local)
    (hA : PA X [a, b] (TAv w C [a', b'])) (hw : swappedStores [.Tuple [.Name x px, .Name y py] kt pt] (.Tuple [a, b] k2 p3) X.env = pure (some [x, y])) :
    PS X (.Assign [.Tuple [.Name x px, .Name y py] kt pt] (.Tuple [a, b] k2 p3) pos) (T1v w C (.asg (.tup [.name i, .name j]) (.tup [a', b']))) :=
  ps_imp (ps_par ok.calm (by rw [ok.N]; exact ok.nd) hi hj hij hx hy hA hw rfl) fun D σ H ⟨m, S, ρ, R, En, q⟩ => by
    unfold ex at q
    refine ⟨m, S, ρ, R, En, ?_⟩
    have q : Sst w m H ((evs C [a', b'] ρ S).st ρ fun us S => match us with
      | [u, v] => .nx ((ρ.set i (some u)).set j (some v)) S
      | _ => .bad) D := by
      unfold ev at q
      cases e : evs C [a', b'] ρ S with
      | ok us S1 =>
        rw [e] at q
        simp only [Mi.R.bind_ok, Mi.R.st_ok] at q ⊢
        by_cases hz : us.length ≤ sizeLine
        · simp only [hz, if_true, Mi.R.st_ok] at q
          match us, q with
          | [], q => simp only [lay, lays] at q; exact q
          | [_], q => simp only [lay, lays] at q; exact q
          | [u, v], q => simp only [lay, lays] at q; exact q
          | _ :: _ :: _ :: _, q => simp only [lay, lays] at q; exact q
        · simp only [hz, if_false, Mi.R.st_bad] at q; exact q.elim
      | ex c d S1 => rw [e] at q; exact q
      | bad => rw [e] at q; exact q
    refine (st_pst En q).mono fun xs H1 ⟨m1, S1, us, e1, R1, r1, q1⟩ => ?_
    match us, q1, r1 with
    | [u, v], q1, ⟨x1, t1, hh, ru, y1, t2, hh2, rv, hn⟩ =>
      subst hh hh2
      cases hn
      exact ⟨x1, y1, rfl, q1 m1 H1 _ .refl R1 (((En.ext e1).set i ru).set j rv)⟩
    | [], q1, _ => exact q1.elim
    | [_], q1, _ => exact q1.elim
    | _ :: _ :: _ :: _, q1, _ => exact q1.elim
end
end Mi
namespace Mi
open PySem L2
/-! ### statements: from the text to what is done -/
def notComp : Expr → Bool
  | .ListComp .. => false
  | .SetComp .. => false
  | .DictComp .. => false
  | _ => true
def o2Aug : Operator → Option O2
  | .Add => some .add | .Sub => some .sub | _ => none
/-- a comprehension's value goes to the name without a stop -/
def swp (tc : TC) (x : Str) (px : Pos) (sc : Scope) (p : Pos) : Bool :=
  tc.sc.names.lookup x == some .local && px.line == p.line && !(sc.names.any fun (n, k) => n == x && (k == .local || k == .cell))
def isTup : Expr → Bool
  | .Tuple .. => true
  | _ => false
def trGen (n : Nat) (tc : TC) (tg e : Expr) : Option Stm := (trG tc.own n tg).bind fun t => (tr n tc e).map fun x => .asg t x
/-- two names at once, in the order of the machine -/
def parOk (tc : TC) (x y : Str) (px py : Pos) : Bool := tc.sc.names.lookup x == some .local && tc.sc.names.lookup y == some .local && px.line == py.line && !(x == y)
def trA (n : Nat) (tc : TC) (tg e : Expr) : Option Stm := match tg with
  | .Name x px => match e with
    | .ListComp elt gens sc p => if swp tc x px sc p then (tc.own.lookup x).bind fun i => (tr n tc (.ListComp elt gens sc p)).map fun e' => .asg (.name i) e' else trGen n tc (.Name x px) (.ListComp elt gens sc p)
    | e => if notComp e then trGen n tc (.Name x px) e else none
  | .Subscript a i _ => if notSl i && notComp e then (tr n tc a).bind fun x => (tr n tc i).bind fun y => (tr n tc e).map fun z => .set x y z else none
  | .Tuple ts k p => if isTup e then match ts, e with
      | [.Name x px, .Name y py], .Tuple [a, b] _ _ => if parOk tc x y px py then
          if (foldedForSure 8 a && foldedForSure 8 b) then trGen n tc tg e
          else if !(constantsAlone 8 a && constantsAlone 8 b) then
            (tc.N.idxOf? x).bind fun i => (tc.N.idxOf? y).bind fun j => (tr n tc a).bind fun u => (tr n tc b).map fun v => .asg (.tup [.name i, .name j]) (.tup [u, v])
          else none
        else none
      | _, _ => none
    else if notComp e then trGen n tc tg e else none
  | _ => none
def trSl (f : Stmt → Option Stm) : List Stmt → Option (List Stm)
  | [] => some []
  | s :: r => (f s).bind fun x => (trSl f r).map fun xs => x :: xs
def trS : Nat → TC → Stmt → Option Stm
  | 0, _, _ => none
  | n + 1, tc, s => match s with
    | .Pass _ => some .pass
    | .Break _ => some .brk
    | .Continue _ => some .cnt
    | .Return v _ => match v with
      | some e => (tr n tc e).map .ret
      | none => some .retn
    | .Expr e _ => match e with
      | .Constant (.str _) _ _ => some .pass
      | e => if notComp e then (tr n tc e).map .exp else none
    | .If c p q _ => if okT n c then (tr n tc c).bind fun x => (trSl (trS n tc) p).bind fun y => (trSl (trS n tc) q).map fun z => .ifS x y z else none
    | .While c p o _ => match o with
      | [] => if okT n c then (tr n tc c).bind fun x => (trSl (trS n tc) p).map fun y => .whl x y else none
      | _ => none
    | .For t it p o _ => match o with
      | [] => if notSet it then (trG tc.own n t).bind fun t' => (trI (tr n tc) tc t it).bind fun r => (trSl (trS n tc) p).map fun y => .for t' r.1 r.2 y else none
      | _ => none
    | .Assign ts e _ => match ts with
      | [tg] => trA n tc tg e
      | _ => none
    | .AugAssign t o e _ => match t with
      | .Name x _ => (tc.own.lookup x).bind fun i => (o2Aug o).bind fun p => (tr n tc e).map fun y => .aug i p y
      | .Subscript a i _ => if notSl i then (o2Aug o).bind fun p => (tr n tc a).bind fun x => (tr n tc i).bind fun y => (tr n tc e).map fun z => .augS x y p z else none
      | _ => none
    | _ => none
/-! ### it is sound -/
theorem ite_some {α : Type} {c : Bool} {x : Option α} {y : α} (h : (if c = true then x else none) = some y) : c = true ∧ x = some y := by
  cases c with
  | true => exact ⟨rfl, h⟩
  | false => cases h
theorem tr_lc {n : Nat} {tc : TC} {elt : Expr} {gens : List Comprehension} {sc : Scope} {p : Pos} {e' : E} (h : tr n tc (.ListComp elt gens sc p) = some e') :
    ∃ k t it ifs t' r cs e1, n = k + 1 ∧ gens = [⟨t, it, ifs, 0⟩] ∧ blkC tc.N tc.sc sc (ownOf tc sc) = true ∧ ownOk sc (ownOf tc sc) = true ∧ notSet it = true ∧ ifsOk k ifs = true ∧
      trG (ownOf tc sc) k t = some t' ∧ trI (tr k tc) tc t it = some r ∧ trs (tr k (tc.blk sc)) ifs = some cs ∧ tr k (tc.blk sc) elt = some e1 ∧ e' = .lc ((ownOf tc sc).map (·.2)) t' r.1 r.2 cs e1 := by
  cases n with
  | zero => cases h
  | succ k =>
    unfold tr at h
    simp only at h
    split at h
    · rename_i t it ifs
      obtain ⟨hh, h⟩ := ite_some h
      simp only [Bool.and_eq_true] at hh
      obtain ⟨⟨⟨k1, k2⟩, k3⟩, k4⟩ := hh
      obtain ⟨t', h1, h⟩ := bnd h
      obtain ⟨r, h2, h⟩ := bnd h
      obtain ⟨cs, h3, h⟩ := bnd h
      obtain ⟨e1, h4, rfl⟩ := mpp h
      exact ⟨k, t, it, ifs, t', r, cs, e1, rfl, rfl, k1, k2, k3, k4, h1, h2, h3, h4, rfl⟩
    · cases h
section
variable {w : Wd} {C : Ctx} {tc : TC} {X : Cx} {a b c e : Expr} {a' b' c' e' : E} {es : List Expr} {es' : List E} {pos : Pos} {st : Stmt} {rest p q : List Stmt} {s : Stm} {r p' q' : List Stm}
theorem notComp_sw {t : Expr} {l : Nat} {env : PySem.Env} (h : notComp e = true) : swapsWith e (some t) l env = pure false := by
  cases e <;> first | rfl | (exact Bool.noConfusion h)
theorem notComp_swN {l : Nat} {env : PySem.Env} (h : notComp e = true) : swapsWith e none l env = pure false := by
  cases e <;> first | rfl | (exact Bool.noConfusion h)
theorem sole_sw {t : Expr} {l : Nat} {env : PySem.Env} (h : notComp e = true) : swapsWithSole [t] e l env = pure false := by
  have : swapsWithSole [t] e l env = swapsWith e (some t) l env := by unfold swapsWithSole; rfl
  rw [this, notComp_sw h]
theorem block_kind (ok : SxOk w C tc X) : X.env.blockKind = .function := by
  unfold PySem.Env.blockKind
  rw [ok.cx.sc, ok.kind]
  rfl
theorem kind_of (ok : SxOk w C tc X) (x : Str) : X.env.kindOf x = tc.sc.names.lookup x := by
  show X.env.scope.names.lookup x = _
  rw [ok.cx.sc]
theorem swp_sw (ok : SxOk w C tc X) {x : Str} {px p : Pos} {elt : Expr} {gens : List Comprehension} {sc : Scope} {l : Nat} : swapsWith (.ListComp elt gens sc p) (some (.Name x px)) l X.env = pure (swp tc x px sc p) := by
  show (pure (X.env.blockKind == .function && X.env.kindOf x == some .local && px.line == p.line && !(sc.names.any fun (n, k) => n == x && (k == .local || k == .cell))) : PySem.Sem Bool) = _
  rw [block_kind ok, kind_of ok]
  rfl
theorem trGen_ok (n : Nat) {tg : Expr} (ok : SxOk w C tc X) (hn : nst tg = true) (hs : swapsWithSole [tg] e pos.line X.env = pure false) (hw : swappedStores [tg] e X.env = pure none) (h : trGen n tc tg e = some s) : PS X (.Assign [tg] e pos) (T1v w C s) := by
  unfold trGen at h
  obtain ⟨t, h1, h⟩ := bnd h
  obtain ⟨x, h2, rfl⟩ := mpp h
  exact s_asg hn (tr_ok n ok.cx h2).1 (trG_ok ok.cx n h1).1 hs hw
theorem ed2 {x y : Str} (h : x ≠ y) : [x, y].eraseDups.length = 2 := by
  rw [List.eraseDups_cons]
  have : List.filter (fun b => !b == x) [y] = [y] := by
    rw [List.filter_cons_of_pos]
    · rfl
    · simpa using fun e => h e.symm
  rw [this, List.eraseDups_cons]
  rfl
theorem par_sw {x y : Str} {px py pt p3 : Pos} {kt k2 : Nat} (ok : SxOk w C tc X) (h : parOk tc x y px py = true) (ha : nst a = true) (hb : nst b = true) : swappedStores [.Tuple [.Name x px, .Name y py] kt pt] (.Tuple [a, b] k2 p3) X.env =
    if (foldedForSure 8 a && foldedForSure 8 b) then pure none else if (constantsAlone 8 a && constantsAlone 8 b) then (do unsupported "assign.tuple-of-constant-expressions:order-of-the-stores"; pure (some [x, y])) else pure (some [x, y]) := by
  unfold parOk at h
  simp only [Bool.and_eq_true, beq_iff_eq, Bool.not_eq_true', beq_eq_false_iff_ne] at h
  obtain ⟨⟨⟨h1, h2⟩, h3⟩, h4⟩ := h; have k1 : X.env.kindOf x = some .local := by rw [kind_of ok]; exact h1
  have k2 : X.env.kindOf y = some .local := by rw [kind_of ok]; exact h2
  have hl : ((Expr.Name y py).pos.line == (Expr.Name x px).pos.line) = true := by rw [beq_iff_eq]; exact h3.symm
  unfold swappedStores
  have key : ∀ {e : Expr}, nst e = true → (fun | Expr.Starred .. => true | _ => false : Expr → Bool) e = false := by
    intro e h
    cases e <;> first | rfl | (exact Bool.noConfusion h)
  have hst : ([a, b].any fun | .Starred .. => true | _ => false) = false := by
    show (_ || (_ || false)) = false
    rw [Bool.or_false, key ha, key hb]
    rfl
  have hn : ([Expr.Name x px, Expr.Name y py].filterMap fun
    | .Name id pos => if X.env.kindOf id == some .local && pos.line == px.line then some id else none
    | _ => none) = [x, y] := by
    rw [List.filterMap_cons_some (b := x) (by simp [k1]), List.filterMap_cons_some (b := y) (by simp [k2, h3]), List.filterMap_nil]
  simp only [block_kind ok]
  rw [show ([Expr.Name x px, Expr.Name y py].head?.map (·.pos.line)).getD 0 = px.line from rfl]
  generalize hg : List.filterMap _ [Expr.Name x px, Expr.Name y py] = names
  have hn' : names = [x, y] := by rw [← hg]; exact hn
  subst hn'
  generalize hh : List.any [a, b] _ = stars
  have hst' : stars = false := by rw [← hh]; exact hst
  subst hst'
  have e2 : ([x, y].eraseDups.length != [x, y].length) = false := by rw [ed2 h4]; rfl
  rw [e2]
  simp only [List.all_cons, List.all_nil, Bool.and_true]
  by_cases e1 : (foldedForSure 8 a && foldedForSure 8 b) = true
  · simp [e1]
  · by_cases e2 : (constantsAlone 8 a && constantsAlone 8 b) = true
    · simp [e1, e2]
    · simp [e1, e2]
theorem trA_ok (n : Nat) {tg : Expr} (ok : SxOk w C tc X) (h : trA n tc tg e = some s) : PS X (.Assign [tg] e pos) (T1v w C s) := by
  have nt : ∀ {ts k p}, isTup e = false → swappedStores [.Tuple ts k p] e X.env = pure none := by
    intro ts k p h
    cases e <;> first | rfl | (exact Bool.noConfusion h)
  unfold trA at h
  split at h
  · rename_i x px
    split at h
    · rename_i elt gens sc p
      split at h
      · rename_i hs
        obtain ⟨i, h1, h⟩ := bnd h
        obtain ⟨e', h2, rfl⟩ := mpp h
        have hm := PySem.mem_of_lookup h1
        obtain ⟨k, t, it, ifs, t', r, cs, e1, rfl, rfl, k1, k2, k3, k4, q1, q2, q3, q4, rfl⟩ := tr_lc h2
        have hsl := (trG_ok (w := wF w) (C := C) (tc := tc.blk sc) (ok.cx.blk k2 X.s_0 X.H_0 0 [] []) k q1).2
        have hl : X.env.scope.names.lookup x = some .local := by
          unfold swp at hs
          simp only [Bool.and_eq_true, beq_iff_eq] at hs
          rw [ok.cx.sc]
          exact hs.1.1
        have hA : ∀ e e', tr k tc e = some e' → nst e = true ∧ PE X e (TEv w C e') := fun e e' h => ⟨tr_nst h, (tr_ok k ok.cx h).1⟩
        refine ps_imp (ps_setLc (own := ownOf tc sc) ok.cx.calm (by rw [ok.cx.N]; exact ok.cx.nd) (ok.cx.sto _ hm).1 hl (by rw [swp_sw ok, hs]) (trI_ok ok.cx hA q2) (blkOk_by (by rw [ok.cx.N, ok.cx.sc]; exact k1))
          (fun s H Cc cl fp => (trG_ok (ok.cx.blk k2 s H Cc cl fp) k q1).1) (fun s H Cc cl fp => trs_pts (n := k) (fun e e' he ht => (tr_ok k (ok.cx.blk k2 s H Cc cl fp) he).2 ht) q3 k4) (fun s H Cc cl fp => (tr_ok k (ok.cx.blk k2 s H Cc cl fp) q4).1) (notSet_fold k3))
          (fun D σ H q => ?_)
        obtain ⟨m, S, ρ, R, En, q⟩ := asg_read q
        refine lc_read hsl ⟨m, S, ρ, R, En, q.mono fun z H1 ⟨m1, S1, u, ρ1, ρ2, R1, En1, r1, l1, f1⟩ => ?_⟩
        unfold lay at l1
        cases l1
        exact f1 _ (En1.set i r1) (fun vs hv => wipe_set (hv i (by simp [slots])))
      · rename_i hs
        exact trGen_ok n ok rfl (show swapsWith (.ListComp elt gens sc p) (some (.Name x px)) pos.line X.env = pure false by rw [swp_sw ok, Bool.eq_false_iff.mpr hs]) rfl h
    · obtain ⟨hc, h⟩ := ite_some h
      exact trGen_ok n ok rfl (sole_sw hc) (by cases e <;> rfl) h
  · obtain ⟨hc, h⟩ := ite_some h
    rw [Bool.and_eq_true] at hc
    obtain ⟨x, h1, h⟩ := bnd h
    obtain ⟨y, h2, h⟩ := bnd h
    obtain ⟨z, h3, rfl⟩ := mpp h
    exact s_set ok.cx hc.1 (tr_ok n ok.cx h1).1 (tr_ok n ok.cx h2).1 (tr_ok n ok.cx h3).1 (sole_sw hc.2)
  · rename_i ts k p
    split at h
    · split at h
      · rename_i x px y py a b k2 p3 _
        obtain ⟨hp, h⟩ := ite_some h
        split at h
        · rename_i hf
          have nf : ∀ {e : Expr}, foldedForSure 8 e = true → nst e = true := by
            intro e he
            cases e <;> first | rfl | (simp [foldedForSure] at he)
          have hf2 := hf
          rw [Bool.and_eq_true] at hf2
          have hna : nst a = true := nf hf2.1
          have hnb : nst b = true := nf hf2.2
          exact trGen_ok n ok rfl rfl (by rw [par_sw ok hp hna hnb, if_pos hf]) h
        · rename_i hf
          obtain ⟨hc, h⟩ := ite_some h
          obtain ⟨i, h1, h⟩ := bnd h
          obtain ⟨j, h2, h⟩ := bnd h
          obtain ⟨u, h3, h⟩ := bnd h
          obtain ⟨v, h4, rfl⟩ := mpp h
          have hp2 := hp
          unfold parOk at hp2
          simp only [Bool.and_eq_true, beq_iff_eq, Bool.not_eq_true', beq_eq_false_iff_ne] at hp2
          obtain ⟨⟨⟨l1, l2⟩, l3⟩, l4⟩ := hp2
          have g1 := idx_get h1
          have g2 := idx_get h2
          have hA : PA X [a, b] (TAv w C [u, v]) := sa_cons (tr_nst h3) (tr_ok n ok.cx h3).1 (sa_cons (tr_nst h4) (tr_ok n ok.cx h4).1 sa_nil)
          refine s_par ok.cx (by rw [ok.cx.N]; exact g1) (by rw [ok.cx.N]; exact g2) (fun e => l4 ?_) (by rw [ok.cx.sc]; exact l1) (by rw [ok.cx.sc]; exact l2) hA ?_
          · subst e
            rw [g1] at g2
            exact Option.some.inj g2
          · rw [par_sw ok hp (tr_nst h3) (tr_nst h4), if_neg hf]
            have : ¬ (constantsAlone 8 a && constantsAlone 8 b) = true := by
              intro e
              rw [e] at hc
              cases hc
            rw [if_neg this]
      · cases h
    · rename_i hf
      obtain ⟨hc, h⟩ := ite_some h
      exact trGen_ok n ok rfl (sole_sw hc) (nt (Bool.eq_false_iff.mpr hf)) h
  · cases h
theorem trSl_ok {f : Stmt → Option Stm} (hf : ∀ st s, f st = some s → PS X st (T1v w C s)) : ∀ {ss : List Stmt} {ss' : List Stm}, trSl f ss = some ss' → PSs X ss (TSv w C ss')
  | [], _, h => by cases h; exact ss_nil
  | st :: rest, _, h => by
    unfold trSl at h
    obtain ⟨x, h1, h⟩ := bnd h
    obtain ⟨xs, h2, rfl⟩ := mpp h
    exact ss_cons (hf _ _ h1) (trSl_ok hf h2)
theorem aug_has {o : Operator} {p : O2} (h : o2Aug o = some p) : augOp p = some o := by
  cases o <;> first | (cases h; rfl) | (cases h; done)
theorem trS_ok : ∀ (n : Nat) {st : Stmt} {s : Stm}, SxOk w C tc X → trS n tc st = some s → PS X st (T1v w C s) := by
  intro n
  induction n with
  | zero => intro st s _ h; cases h
  | succ n ih =>
  intro st s ok h
  have hE : ∀ {e e'}, tr n tc e = some e' → PE X e (TEv w C e') := fun h => (tr_ok n ok.cx h).1
  have hA : ∀ e e', tr n tc e = some e' → nst e = true ∧ PE X e (TEv w C e') := fun e e' h => ⟨tr_nst h, (tr_ok n ok.cx h).1⟩
  have hS : ∀ {ss ss'}, trSl (trS n tc) ss = some ss' → PSs X ss (TSv w C ss') := fun h => trSl_ok (fun st s h => ih ok h) h
  unfold trS at h
  split at h
  · cases h; exact s_pass
  · cases h; exact s_brk
  · cases h; exact s_cnt
  · split at h
    · obtain ⟨x, h1, rfl⟩ := mpp h
      exact s_ret (hE h1)
    · cases h; exact s_retn
  · split at h
    · cases h; exact s_doc
    · obtain ⟨hc, h⟩ := ite_some h
      obtain ⟨x, h1, rfl⟩ := mpp h
      exact s_exp (hE h1) (notComp_swN hc)
  · obtain ⟨hc, h⟩ := ite_some h
    obtain ⟨x, h1, h⟩ := bnd h
    obtain ⟨y, h2, h⟩ := bnd h
    obtain ⟨z, h3, rfl⟩ := mpp h
    exact s_if ((tr_ok n ok.cx h1).2 hc) (hS h2) (hS h3)
  · split at h
    · obtain ⟨hc, h⟩ := ite_some h
      obtain ⟨x, h1, h⟩ := bnd h
      obtain ⟨y, h2, rfl⟩ := mpp h
      exact s_while ok ((tr_ok n ok.cx h1).2 hc) (hS h2)
    · cases h
  · split at h
    · obtain ⟨hc, h⟩ := ite_some h
      obtain ⟨t', h1, h⟩ := bnd h
      obtain ⟨r, h2, h⟩ := bnd h
      obtain ⟨y, h3, rfl⟩ := mpp h
      exact s_for ok (trI_ok ok.cx hA h2) (trG_ok ok.cx n h1).1 (hS h3) (notSet_fold hc)
    · cases h
  · split at h
    · exact trA_ok n ok h
    · cases h
  · split at h
    · obtain ⟨i, h1, h⟩ := bnd h
      obtain ⟨p, h2, h⟩ := bnd h
      obtain ⟨y, h3, rfl⟩ := mpp h
      exact s_aug ok.cx (PySem.mem_of_lookup h1) (aug_has h2) (hE h3)
    · obtain ⟨hc, h⟩ := ite_some h
      obtain ⟨p, h2, h⟩ := bnd h
      obtain ⟨x, h3, h⟩ := bnd h
      obtain ⟨y, h4, h⟩ := bnd h
      obtain ⟨z, h5, rfl⟩ := mpp h
      exact s_augS ok.cx hc (aug_has h2) (hE h3) (hE h4) (hE h5)
    · cases h
  · cases h
end
end Mi
namespace Mi
open PySem L2
/-! ### defs -/
/-- a def under its name does what g does (its k: how deep it calls) -/
structure FnAt (P : Program) (w : World) (K : PySem.W.Frag) (mg : Str → Option Value) (base : Heap) (cl : Nat → Value) (k : Nat) (x : Str) (n : Nat) (g : Sem) : Prop where
  has : ∃ fa fd ps, FnOk P w K mg base (L2.CX P w) k fa fd ps (spOf K cl n g) ∧ mg x = some (.ref fa) ∧ PySem.W.keepIn K (.ref fa) = true ∧ Binds K fd ps []
theorem FnAt.mono {P : Program} {w : World} {K : PySem.W.Frag} {mg : Str → Option Value} {base : Heap} {cl : Nat → Value} {j k : Nat} {x : Str} {n : Nat} {g : Sem} (h : FnAt P w K mg base cl j x n g) (hk : j ≤ k) : FnAt P w K mg base cl k x n g := by
  obtain ⟨fa, fd, ps, F, r⟩ := h.has
  exact ⟨fa, fd, ps, F.mono hk, r⟩
/-- the promise may be read by any function that is the same where the first gives an answer -/
theorem FnAt.sem {P : Program} {w : World} {K : PySem.W.Frag} {mg : Str → Option Value} {base : Heap} {cl : Nat → Value} {k : Nat} {x : Str} {n : Nat} {g g' : Sem} (h : FnAt P w K mg base cl k x n g) (e : ∀ us S, us.length = n → g' us S = g us S ∨ g' us S = .bad) : FnAt P w K mg base cl k x n g' := by
  obtain ⟨fa, fd, ps, F, r⟩ := h.has
  refine ⟨fa, fd, ps, F.imp fun vs H Q E ⟨m, S, us, R, ru, hl, q⟩ => ⟨m, S, us, R, ru, hl, ?_⟩, r⟩
  rcases e us S hl with e | e
  · rw [← e]; exact q
  · rw [e] at q; exact q.elim
structure TxOk (P : Program) (w : World) (K : PySem.W.Frag) (mg : Str → Option Value) (base : Heap) (cl : Nat → Value) (C : Ctx) (k : Nat) (tc : TC) : Prop where
  blt : ∀ x ∈ bnames, mg x = none
  fns : ∀ x f n g, tc.fns.lookup x = some f → C f = some (n, g) → FnAt P w K mg base cl k x n g
  cst : ∀ x v, tc.cst.lookup x = some v → ∃ u z, mg x = some u ∧ RelV z u ∧ ∀ m H, RV K m H v z
def tcOf (sc : Scope) (N : List Str) (fns : List (Str × Nat)) (cst : List (Str × Val)) (dts : List Nat) : TC :=
  { sc := sc, N := N, own := ownOf { sc := sc, N := N, own := [], fns := fns, cst := cst, dts := dts } sc, fns := fns, cst := cst, dts := dts }
theorem start_env {K : PySem.W.Frag} {m : List Addr} {H : Hp} {us : List Val} {vs : List V} {N : List Str} (r : RVs K m H us vs) : REnv K m H (us.map some ++ List.replicate (N.length - us.length) none) (L2.start N vs) := by
  have hl := r.len
  refine ⟨by unfold L2.start; rw [List.length_append, List.length_append, List.length_map, List.length_map, List.length_replicate, List.length_replicate, hl], fun i v hv => ?_⟩
  unfold L2.start
  by_cases h : i < us.length
  · rw [List.getElem?_append_left (by rw [List.length_map]; exact h), List.getElem?_map] at hv
    rw [List.getElem?_append_left (by rw [List.length_map, ← hl]; exact h), List.getElem?_map]
    cases e : us[i]? with
    | none => rw [e] at hv; cases hv
    | some u =>
      rw [e] at hv
      cases hv
      obtain ⟨z, h1, h2⟩ := r.get e
      exact ⟨z, by rw [h1]; rfl, h2⟩
  · rw [List.getElem?_append_right (by rw [List.length_map]; omega), List.getElem?_replicate] at hv
    split at hv <;> cases hv
/-- a look at a def's scope -/
def scGood (N ps : List Str) (sc : Scope) : Bool := (match sc.kind with | .function => true | _ => false) && !sc.isCoroutine && !sc.isGenerator && decide N.Nodup && decide (N.take ps.length = ps) &&
  ps.all (fun p => decide (sc.names.lookup p = some .local ∨ sc.names.lookup p = some .cell)) && sc.names.all fun y => decide (y.2 ≠ .free)
theorem scGood_ok {N ps : List Str} {sc : Scope} (h : scGood N ps sc = true) : FnScope N ps sc := by
  unfold scGood at h
  simp only [Bool.and_eq_true, Bool.not_eq_true', List.all_eq_true, decide_eq_true_eq] at h
  obtain ⟨⟨⟨⟨⟨⟨k1, k2⟩, k3⟩, k4⟩, k5⟩, k6⟩, k7⟩ := h
  refine ⟨?_, k2, k3, k4, k5, k6, k7⟩
  split at k1
  · assumption
  · cases k1
theorem fn_okX {P : Program} {w : World} {K : PySem.W.Frag} {mg : Str → Option Value} {base : Heap} {cl : Nat → Value} {C : Ctx} {k nf : Nat} {x : Str} {st : Stmt} {fa : Addr} {fd : FuncData} {N ps : List Str} {fns : List (Str × Nat)} {cst : List (Str × Val)} {dts : List Nat} {body : List Stm}
    (F : Fun K x x st fa fd) (hs : scGood N ps (defScope st) = true) (T : TxOk P w K mg base cl C k (tcOf (defScope st) N fns cst dts))
    (ho : ownOk (defScope st) (ownOf (tcOf (defScope st) N fns cst dts) (defScope st)) = true)
    (ht : trSl (trS nf (tcOf (defScope st) N fns cst dts)) (defBody st) = some body) : FnOk P w K mg base (L2.CX P w) (k + 1) fa fd ps (spOf K cl ps.length (run C N.length body)) := by
  have S := scGood_ok hs
  refine F.okX S (fun vs H Q E ⟨m, S, us, R, ru, hl, q⟩ => by rw [← hl, ru.len]) (fun cdv A outer s H vs Q E hr ⟨m, S0, us, R, ru, hl, q⟩ => ?_)
  have ok : SxOk ⟨K, cl, fun c d _ H => E c d H⟩ C (tcOf (defScope st) N fns cst dts) (cxOf (L2.CX P w) P w K mg base N x (defScope st) fa cdv A outer s H E) := by
    refine ⟨⟨rfl, rfl, rfl, rfl, S.nd, ?_, T.blt, fun y f n g h1 h2 => ?_, T.cst, takes_of rfl rfl rfl rfl, fun p hp => ?_⟩, passes_of rfl, S.kind⟩
    · have := hr.un
      show (A.deeper _).units + 65 < cLine
      omega
    · obtain ⟨fa', fd', ps', F', h3, h4, h5⟩ := (T.fns y f n g h1 h2).has
      exact ⟨k, fa', fd', ps', F', hr, h3, h4, h5⟩
    · have h1 : N[p.2]? = some p.1 := own_mem hp
      refine ⟨h1, ?_⟩
      have h2 := (List.all_eq_true.mp ho) p hp
      split at h2
      · rename_i e
        exact ⟨.inl e, .inr e⟩
      · rename_i e
        exact ⟨.inr e, .inl rfl⟩
      · cases h2
  refine ⟨_, trSl_ok (fun st s h => trS_ok nf ok h) ht, m, S0, _, R, start_env (N := N) ru, ?_⟩
  unfold run at q
  cases e : exs C body (us.map some ++ List.replicate (N.length - us.length) none) S0 with
  | nx ρ S1 => rw [e] at q; exact fun m' H' σ' e' R' En' => q m' H' .non e' R' rfl
  | rt v S1 => rw [e] at q; exact fun m' H' z e' R' rz => q m' H' z e' R' rz
  | ex c d ρ S1 => rw [e] at q; exact fun m' H' σ' e' R' En' => q m' H' e' R'
  | bk ρ S1 => rw [e] at q; exact q.elim
  | ct ρ S1 => rw [e] at q; exact q.elim
  | bad => rw [e] at q; exact q.elim
theorem fn_ok {P : Program} {w : World} {K : PySem.W.Frag} {mg : Str → Option Value} {base : Heap} {cl : Nat → Value} {C : Ctx} {k nf : Nat} {x : Str} {st : Stmt} {fa : Addr} {fd : FuncData} {N ps : List Str} {fns : List (Str × Nat)} {cst : List (Str × Val)} {dts : List Nat} {body : List Stm}
    (F : Fun K x x st fa fd) (hm : mg x = some (.ref fa)) (hb : Binds K fd ps []) (hs : scGood N ps (defScope st) = true) (T : TxOk P w K mg base cl C k (tcOf (defScope st) N fns cst dts))
    (ho : ownOk (defScope st) (ownOf (tcOf (defScope st) N fns cst dts) (defScope st)) = true)
    (ht : trSl (trS nf (tcOf (defScope st) N fns cst dts)) (defBody st) = some body) : FnAt P w K mg base cl (k + 1) x ps.length (run C N.length body) :=
  ⟨fa, fd, ps, fn_okX F hs T ho ht, hm, F.kp, hb⟩
end Mi
namespace Mi
open PySem L2
/-! ### a law's defs -/
/-- what a def calls: names, numbers, how many arguments, what they do -/
abbrev Cal := List (Str × Nat × Nat × Sem)
def ctxOf (L : Cal) : Ctx := fun f => (L.find? fun e => e.2.1 == f).map fun e => (e.2.2.1, e.2.2.2)
def fnsOf (L : Cal) : List (Str × Nat) := L.map fun e => (e.1, e.2.1)
def AllAt (P : Program) (w : World) (K : PySem.W.Frag) (mg : Str → Option Value) (base : Heap) (cl : Nat → Value) (k : Nat) (L : Cal) : Prop := ∀ e ∈ L, FnAt P w K mg base cl k e.1 e.2.2.1 e.2.2.2
section
variable {P : Program} {w : World} {K : PySem.W.Frag} {mg : Str → Option Value} {base : Heap} {cl : Nat → Value} {k : Nat}
theorem AllAt.nil : AllAt P w K mg base cl k [] := fun e h => nomatch h
theorem AllAt.cons {x : Str} {f n : Nat} {g : Sem} {L : Cal} (h : FnAt P w K mg base cl k x n g) (t : AllAt P w K mg base cl k L) : AllAt P w K mg base cl k ((x, f, n, g) :: L) := fun e he => by
  rcases List.mem_cons.mp he with rfl | he -- (here)
  · exact h
  · exact t e he
theorem cal_find {L : Cal} {f n : Nat} {g : Sem} {x : Str} (hn : (L.map fun e => e.2.1).Nodup) (h : (fnsOf L).lookup x = some f) (hc : ctxOf L f = some (n, g)) : ∃ e ∈ L, e.1 = x ∧ e.2.2 = (n, g) := by
  have h1 := PySem.mem_of_lookup h
  unfold fnsOf at h1
  obtain ⟨e, he, hx⟩ := List.mem_map.mp h1
  unfold ctxOf at hc
  obtain ⟨e2, h2, h3⟩ := mpp hc
  have h4 := List.mem_of_find?_eq_some h2
  have h5 : e2.2.1 = f := by simpa using List.find?_some h2
  have hx1 : e.1 = x := congrArg Prod.fst hx
  have hx2 : e.2.1 = f := congrArg Prod.snd hx
  have : e = e2 := by
    have key : ∀ {l : Cal}, (l.map fun e => e.2.1).Nodup → e ∈ l → e2 ∈ l → e = e2 := by
      intro l
      induction l with
      | nil => intro _ h; cases h
      | cons a l ih =>
        intro hn h h'
        rw [List.map_cons, List.nodup_cons] at hn; rcases List.mem_cons.mp h with rfl | h6
        · rcases List.mem_cons.mp h' with rfl | h'
          · rfl
          · exact absurd (List.mem_map.mpr ⟨e2, h', h5.trans hx2.symm⟩) hn.1
        · rcases List.mem_cons.mp h' with rfl | h'
          · exact absurd (List.mem_map.mpr ⟨e, h6, hx2.trans h5.symm⟩) hn.1
          · exact ih hn.2 h6 h'
    exact key hn he h4
  subst this
  exact ⟨e, he, hx1, h3⟩
theorem txOf {L : Cal} {sc : Scope} {N : List Str} {cst : List (Str × Val)} {dts : List Nat} (hb : ∀ x ∈ bnames, mg x = none) (hn : (L.map fun e => e.2.1).Nodup) (h : AllAt P w K mg base cl k L) (hc : ∀ x v, cst.lookup x = some v → ∃ u z, mg x = some u ∧ RelV z u ∧ ∀ m H, RV K m H v z) :
    TxOk P w K mg base cl (ctxOf L) k (tcOf sc N (fnsOf L) cst dts) :=
  ⟨hb, fun x f n g h1 h2 => by
    obtain ⟨e, he, hx, hg⟩ := cal_find hn h1 h2
    have := h e he
    rw [hx] at this
    rw [show e.2.2.1 = n from congrArg Prod.fst hg, show e.2.2.2 = g from congrArg Prod.snd hg] at this
    exact this, hc⟩
theorem cst_nil : ∀ x v, ([] : List (Str × Val)).lookup x = some v → ∃ u z, mg x = some u ∧ RelV z u ∧ ∀ m H, RV K m H v z := fun x v h => by cases h
end
/-- nothing is let out of the law -/
theorem cx_none {P : Program} {w : World} {o : List PySem.Env} {H : Hp} {s s' : Shared} {e : Value} (h : L2.CX P w o H s (fun _ _ _ => False) e s') : False := by
  obtain ⟨_, _, _, _, _, _, _, _, _, _, _, _, z⟩ := h; exact z
/-- a script of whole numbers as the law's value -/
def scr (ns : List Int) : Val := .fro (ns.map .int)
theorem scr_rvs {K : PySem.W.Frag} {m : List Addr} {H : Hp} : ∀ ns : List Int, RVs K m H (ns.map .int) (ns.map V.int)
  | [] => rfl
  | n :: r => ⟨.int n, r.map V.int, rfl, rfl, scr_rvs r⟩
theorem sp_law {K : PySem.W.Frag} {cl : Nat → Value} {g : Sem} {H : Hp} {a : Addr} {ns : List Int} (hO : Only H) (hS : SqL K H a (ns.map V.int)) (h : ∃ S, g [scr ns] [] = .ok (.bl true) S) : spOf K cl 1 g [.ref a] H (fun v _ => v = .bl true) fun _ _ _ => False := by
  obtain ⟨S, h⟩ := h
  refine ⟨[], [], [scr ns], ⟨rfl, List.nodup_nil, fun i b a hb => by cases hb⟩, ⟨.ref a, [], rfl, ⟨a, ns.map V.int, rfl, .of hO hS, scr_rvs ns⟩, rfl⟩, rfl, ?_⟩
  rw [h]
  exact fun m' H' z e R rz => rz
end Mi
namespace Mi
open PySem L2
/-! ### plain reasoning -/
def RT {α : Type} (r : R α) (Q : α → Store → Prop) : Prop := match r with
  | .ok a S => Q a S
  | _ => False
@[simp] theorem RT_ok {α : Type} (a : α) (S : Store) (Q : α → Store → Prop) : RT (.ok a S) Q ↔ Q a S := Iff.trans Iff.rfl Iff.rfl
@[simp] theorem RT_bind {α β : Type} (r : R α) (k : α → Store → R β) (Q : β → Store → Prop) : RT (r.bind k) Q ↔ RT r (fun a S => RT (k a S) Q) := by
  cases r <;> exact Iff.rfl
theorem RT.mono {α : Type} {r : R α} {Q Q' : α → Store → Prop} (h : RT r Q) (f : ∀ a S, Q a S → Q' a S) : RT r Q' := by
  cases r with
  | ok a S => exact f a S h
  | ex _ _ _ => exact h
  | bad => exact h
theorem RT.get {α : Type} {r : R α} {Q : α → Store → Prop} (h : RT r Q) : ∃ a S, r = .ok a S ∧ Q a S := by
  cases r with
  | ok a S => exact ⟨a, S, rfl, h⟩
  | ex _ _ _ => exact h.elim
  | bad => exact h.elim
theorem RT.eq {α : Type} {r : R α} {a : α} {S : Store} {Q : α → Store → Prop} (e : r = .ok a S) (h : Q a S) : RT r Q := by rw [e]; exact h
def ST (o : SO) (N : Env → Store → Prop) (T : Val → Store → Prop) (B Ct : Env → Store → Prop) : Prop := match o with
  | .nx ρ S => N ρ S
  | .rt v S => T v S
  | .bk ρ S => B ρ S
  | .ct ρ S => Ct ρ S
  | _ => False
section
variable {N : Env → Store → Prop} {T : Val → Store → Prop} {B Ct : Env → Store → Prop}
@[simp] theorem ST_nx (ρ : Env) (S : Store) : ST (.nx ρ S) N T B Ct ↔ N ρ S := Iff.trans Iff.rfl Iff.rfl
@[simp] theorem ST_rt (v : Val) (S : Store) : ST (.rt v S) N T B Ct ↔ T v S := Iff.trans Iff.rfl Iff.rfl
@[simp] theorem ST_bk (ρ : Env) (S : Store) : ST (.bk ρ S) N T B Ct ↔ B ρ S := Iff.trans Iff.rfl Iff.rfl
@[simp] theorem ST_ct (ρ : Env) (S : Store) : ST (.ct ρ S) N T B Ct ↔ Ct ρ S := Iff.trans Iff.rfl Iff.rfl
@[simp] theorem ST_st {α : Type} (r : R α) (ρ : Env) (k : α → Store → SO) : ST (r.st ρ k) N T B Ct ↔ RT r (fun a S => ST (k a S) N T B Ct) := by
  cases r <;> exact Iff.rfl
@[simp] theorem ST_then (o : SO) (k : Env → Store → SO) : ST (o.then k) N T B Ct ↔ ST o (fun ρ S => ST (k ρ S) N T B Ct) T B Ct := by
  cases o <;> exact Iff.rfl
theorem ST.mono {o : SO} {N' : Env → Store → Prop} {T' : Val → Store → Prop} {B' Ct' : Env → Store → Prop} (h : ST o N T B Ct) (hN : ∀ ρ S, N ρ S → N' ρ S) (hT : ∀ v S, T v S → T' v S) (hB : ∀ ρ S, B ρ S → B' ρ S) (hC : ∀ ρ S, Ct ρ S → Ct' ρ S) : ST o N' T' B' Ct' := by
  cases o with
  | nx ρ S => exact hN _ _ h
  | rt v S => exact hT _ _ h
  | bk ρ S => exact hB _ _ h
  | ct ρ S => exact hC _ _ h
  | ex c d ρ S => exact h
  | bad => exact h
end
theorem RT_run {C : Ctx} {n : Nat} {body : List Stm} {us : List Val} {S : Store} {Q : Val → Store → Prop} : RT (run C n body us S) Q ↔ ST (exs C body (us.map some ++ List.replicate (n - us.length) none) S) (fun _ S => Q .non S) Q (fun _ _ => False) (fun _ _ => False) := by
  unfold run
  cases exs C body (us.map some ++ List.replicate (n - us.length) none) S <;> exact Iff.rfl
def SO.fin : SO → R Val
  | .nx _ S => .ok .non S
  | .rt v S => .ok v S
  | .ex c d _ S => .ex c d S
  | _ => .bad
@[simp] theorem fin_nx (ρ : Env) (S : Store) : (SO.nx ρ S).fin = .ok .non S := Eq.trans rfl rfl
@[simp] theorem fin_rt (v : Val) (S : Store) : (SO.rt v S).fin = .ok v S := Eq.trans rfl rfl
@[simp] theorem fin_ite (c : Prop) [Decidable c] (a b : SO) : (if c then a else b).fin = if c then a.fin else b.fin := by
  by_cases h : c
  · rw [if_pos h, if_pos h]
  · rw [if_neg h, if_neg h]
@[simp] theorem then_ite (c : Prop) [Decidable c] (a b : SO) (k : Env → Store → SO) : (if c then a else b).then k = if c then a.then k else b.then k := by
  by_cases h : c
  · rw [if_pos h, if_pos h]
  · rw [if_neg h, if_neg h]
theorem run_fin (C : Ctx) (n : Nat) (body : List Stm) (us : List Val) (S : Store) : Mi.run C n body us S = (exs C body (us.map some ++ List.replicate (n - us.length) none) S).fin := by
  unfold Mi.run
  cases exs C body (us.map some ++ List.replicate (n - us.length) none) S <;> rfl
/-! what each form does, for simp -/
section
variable (C : Ctx) (ρ : Env) (S : Store)
@[simp] theorem ev_var (i : Nat) : ev C (.var i) ρ S = match ρ[i]? with | some (some v) => .ok v S | _ => .bad := by first | (rw [ev]; done) | (rw [ev]; rfl)
@[simp] theorem ev_cst (v : Val) : ev C (.cst v) ρ S = .ok v S := by first | (rw [ev]; done) | (rw [ev]; rfl)
@[simp] theorem ev_lst (es : List E) : ev C (.lst es) ρ S = (evs C es ρ S).bind fun vs S => R.op (alloc S vs) := by first | (rw [ev]; done) | (rw [ev]; rfl)
@[simp] theorem ev_tup (es : List E) : ev C (.tup es) ρ S = (evs C es ρ S).bind fun vs S => if vs.length ≤ sizeLine then .ok (.tup vs) S else .bad := by first | (rw [ev]; done) | (rw [ev]; rfl)
@[simp] theorem ev_bin (o : O2) (a b : E) : ev C (.bin o a b) ρ S = (ev C a ρ S).bind fun u S => (ev C b ρ S).bind fun v S => R.op (binop o u v S) := by first | (rw [ev]; done) | (rw [ev]; rfl)
@[simp] theorem ev_neg (a : E) : ev C (.neg a) ρ S = (ev C a ρ S).bind fun u S => R.of ((intOf u).map fun i => .int (-i)) S := by first | (rw [ev]; done) | (rw [ev]; rfl)
@[simp] theorem ev_cmp (o : Cp) (a b : E) : ev C (.cmp o a b) ρ S = (ev C a ρ S).bind fun u S => (ev C b ρ S).bind fun v S => R.bl (cmpop o S u v) S := by first | (rw [ev]; done) | (rw [ev]; rfl)
@[simp] theorem ev_chain (o p : Cp) (a b c : E) : ev C (.chain o p a b c) ρ S = (ev C a ρ S).bind fun u S => (ev C b ρ S).bind fun v S => (R.of (cmpop o S u v) S).bind fun k S =>
      if k then (ev C c ρ S).bind fun w S => R.bl (cmpop p S v w) S else .ok (.bl false) S := by first | (rw [ev]; done) | (rw [ev]; rfl)
@[simp] theorem ev_and (a b : E) : ev C (.and a b) ρ S = (ev C a ρ S).bind fun u S => (R.of (tru S u) S).bind fun k S => if k then ev C b ρ S else .ok u S := by first | (rw [ev]; done) | (rw [ev]; rfl)
@[simp] theorem ev_or (a b : E) : ev C (.or a b) ρ S = (ev C a ρ S).bind fun u S => (R.of (tru S u) S).bind fun k S => if k then .ok u S else ev C b ρ S := by first | (rw [ev]; done) | (rw [ev]; rfl)
@[simp] theorem ev_not (a : E) : ev C (.not a) ρ S = (ev C a ρ S).bind fun u S => R.bl ((tru S u).map (!·)) S := by first | (rw [ev]; done) | (rw [ev]; rfl)
@[simp] theorem ev_ite (c a b : E) : ev C (.ite c a b) ρ S = (ev C c ρ S).bind fun u S => (R.of (tru S u) S).bind fun k S => if k then ev C a ρ S else ev C b ρ S := by first | (rw [ev]; done) | (rw [ev]; rfl)
@[simp] theorem ev_sub (a i : E) : ev C (.sub a i) ρ S = (ev C a ρ S).bind fun u S => (ev C i ρ S).bind fun v S => R.of (item S u v) S := by first | (rw [ev]; done) | (rw [ev]; rfl)
@[simp] theorem ev_slB (a lo hi : E) : ev C (.slB a lo hi) ρ S = (ev C a ρ S).bind fun u S => (ev C lo ρ S).bind fun i S => match i with
    | .int i => (ev C hi ρ S).bind fun j S => match j with
      | .int j => R.op (slice S u (some i) (some j))
      | _ => .bad
    | _ => .bad := by first | (rw [ev]; done) | (rw [ev]; rfl)
@[simp] theorem ev_slL (a lo : E) : ev C (.slL a lo) ρ S = (ev C a ρ S).bind fun u S => (ev C lo ρ S).bind fun i S => match i with
    | .int i => R.op (slice S u (some i) none)
    | _ => .bad := by first | (rw [ev]; done) | (rw [ev]; rfl)
@[simp] theorem ev_slH (a hi : E) : ev C (.slH a hi) ρ S = (ev C a ρ S).bind fun u S => (ev C hi ρ S).bind fun j S => match j with
    | .int j => R.op (slice S u none (some j))
    | _ => .bad := by first | (rw [ev]; done) | (rw [ev]; rfl)
@[simp] theorem ev_slA (a : E) : ev C (.slA a) ρ S = (ev C a ρ S).bind fun u S => R.op (slice S u none none) := by first | (rw [ev]; done) | (rw [ev]; rfl)
@[simp] theorem ev_slR (a : E) : ev C (.slR a) ρ S = (ev C a ρ S).bind fun u S => match lstOf S u with
    | some xs => R.op (alloc S xs.reverse)
    | none => .bad := by first | (rw [ev]; done) | (rw [ev]; rfl)
@[simp] theorem ev_call (f : Nat) (es : List E) : ev C (.call f es) ρ S = match C f with
    | some (n, g) => (evs C es ρ S).bind fun us S => if us.length = n then g us S else .bad
    | none => .bad := by first | (rw [ev]; done) | (rw [ev]; rfl)
@[simp] theorem ev_isi (a : E) (T : String) : ev C (.isi a T) ρ S = (ev C a ρ S).bind fun u S => R.bl ((tyIn S u).bind fun t => L2.kitB t T) S := by first | (rw [ev]; done) | (rw [ev]; rfl)
@[simp] theorem ev_pr (p : Pr) (es : List E) : ev C (.pr p es) ρ S = (evs C es ρ S).bind fun us S => R.op (prim p us S) := by first | (rw [ev]; done) | (rw [ev]; rfl)
@[simp] theorem ev_me (m : Me) (o : E) (es : List E) : ev C (.me m o es) ρ S = (ev C o ρ S).bind fun u S => if recv m S u then (evs C es ρ S).bind fun us S => R.op (meth m u us S) else .bad := by first | (rw [ev]; done) | (rw [ev]; rfl)
@[simp] theorem ev_dK : ev C .dK ρ S = .ok (.ref S.length) (S ++ [.dK []]) := by first | (rw [ev]; done) | (rw [ev]; rfl)
@[simp] theorem ev_dT : ev C .dT ρ S = .ok (.ref S.length) (S ++ [.dT []]) := by first | (rw [ev]; done) | (rw [ev]; rfl)
@[simp] theorem ev_lrg1 (a : E) : ev C (.lrg1 a) ρ S = (ev C a ρ S).bind fun u S => match u with
    | .int n => if n ≤ 1000000 ∧ -(2 ^ 62) ≤ n then R.op (alloc S (rng 0 n.toNat)) else .bad
    | _ => .bad := by first | (rw [ev]; done) | (rw [ev]; rfl)
@[simp] theorem ev_lrg2 (a b : E) : ev C (.lrg2 a b) ρ S = (ev C a ρ S).bind fun u S => (ev C b ρ S).bind fun v S => match u, v with
    | .int i, .int j => if small62 i && small62 j && decide (j - i ≤ 1000000) then R.op (alloc S (rng i (j - i).toNat)) else .bad
    | _, _ => .bad := by first | (rw [ev]; done) | (rw [ev]; rfl)
@[simp] theorem evs_nil : evs C [] ρ S = .ok [] S := by first | (rw [evs]; done) | (rw [evs]; rfl)
@[simp] theorem evs_cons (e : E) (es : List E) : evs C (e :: es) ρ S = (ev C e ρ S).bind fun v S => (evs C es ρ S).bind fun vs S => .ok (v :: vs) S := by first | (rw [evs]; done) | (rw [evs]; rfl)
@[simp] theorem evT_nil : evT C [] ρ S = .ok true S := by first | (rw [evT]; done) | (rw [evT]; rfl)
@[simp] theorem evT_one (e : E) : evT C [e] ρ S = (ev C e ρ S).bind fun u S => R.of (tru S u) S := by first | (rw [evT]; done) | (rw [evT]; rfl)
@[simp] theorem ex_asg (t : Tg) (e : E) : ex C (.asg t e) ρ S = (ev C e ρ S).st ρ fun v S => match lay S t v ρ with
    | some ρ => .nx ρ S
    | none => .bad := by first | (rw [ex]; done) | (rw [ex]; rfl)
@[simp] theorem ex_set (a i e : E) : ex C (.set a i e) ρ S = (ev C e ρ S).st ρ fun v S => (ev C a ρ S).st ρ fun u S => (ev C i ρ S).st ρ fun k S => match setop S u k v with
    | some S => .nx ρ S
    | none => .bad := by first | (rw [ex]; done) | (rw [ex]; rfl)
@[simp] theorem ex_aug (i : Nat) (o : O2) (e : E) : ex C (.aug i o e) ρ S = match ρ[i]? with
    | some (some (.int a)) => (ev C e ρ S).st ρ fun v S => match o, v with
      | .add, .int b => .nx (ρ.set i (some (.int (a + b)))) S
      | .sub, .int b => .nx (ρ.set i (some (.int (a - b)))) S
      | _, _ => .bad
    | _ => .bad := by first | (rw [ex]; done) | (rw [ex]; rfl)
@[simp] theorem ex_exp (e : E) : ex C (.exp e) ρ S = (ev C e ρ S).st ρ fun _ S => .nx ρ S := by first | (rw [ex]; done) | (rw [ex]; rfl)
@[simp] theorem ex_ret (e : E) : ex C (.ret e) ρ S = (ev C e ρ S).st ρ fun v S => .rt v S := by first | (rw [ex]; done) | (rw [ex]; rfl)
@[simp] theorem ex_retn : ex C .retn ρ S = .rt .non S := by first | (rw [ex]; done) | (rw [ex]; rfl)
@[simp] theorem ex_pass : ex C .pass ρ S = .nx ρ S := by first | (rw [ex]; done) | (rw [ex]; rfl)
@[simp] theorem ex_brk : ex C .brk ρ S = .bk ρ S := by first | (rw [ex]; done) | (rw [ex]; rfl)
@[simp] theorem ex_cnt : ex C .cnt ρ S = .ct ρ S := by first | (rw [ex]; done) | (rw [ex]; rfl)
@[simp] theorem ex_if (c : E) (p q : List Stm) : ex C (.ifS c p q) ρ S = (evT C [c] ρ S).st ρ fun k S => if k then exs C p ρ S else exs C q ρ S := by first | (rw [ex]; done) | (rw [ex]; rfl)
def forB (C : Ctx) (t : Tg) (p : List Stm) : Val → Env → Store → SO := fun v ρ S => match lay S t v ρ with
  | some ρ => exs C p ρ S
  | none => .bad
def forL (C : Ctx) (t : Tg) (p : List Stm) (ρ : Env) (S : Store) : Option IV → SO
  | none => .bad
  | some iv => floop iv.next (forB C t p) (iv.cnt S) 0 ρ S
@[simp] theorem ex_for (t : Tg) (k : IK) (its : List E) (p : List Stm) : ex C (.for t k its p) ρ S = (evs C its ρ S).st ρ fun us S => forL C t p ρ S (start k us S) := by
  rw [ex]
  cases evs C its ρ S with
  | ok us S1 =>
    show (match start k us S1 with | none => _ | some iv => _) = forL C t p ρ S1 (start k us S1)
    cases start k us S1 <;> rfl
  | ex _ _ _ => rfl
  | bad => rfl
def whT (C : Ctx) (c : E) : Env → Store → R Bool := fun ρ S => evT C [c] ρ S
def whB (C : Ctx) (p : List Stm) : Env → Store → SO := fun ρ S => exs C p ρ S
@[simp] theorem ex_whl (c : E) (p : List Stm) : ex C (.whl c p) ρ S = wloop (whT C c) (whB C p) wmax ρ S := by rw [ex]; rfl
@[simp] theorem exs_nil : exs C [] ρ S = .nx ρ S := by first | (rw [exs]; done) | (rw [exs]; rfl)
@[simp] theorem exs_cons (s : Stm) (r : List Stm) : exs C (s :: r) ρ S = (ex C s ρ S).then fun ρ S => exs C r ρ S := by first | (rw [exs]; done) | (rw [exs]; rfl)
def lcL (C : Ctx) (own : List Nat) (t : Tg) (ifs : List E) (e : E) (ρ : Env) (S : Store) : Option IV → R Val
  | none => .bad
  | some iv => (cloop iv.next (cstep C own t ifs e ρ S.length) (iv.cnt S) 0 (S ++ [.lst []])).bind fun _ S1 => .ok (.ref S.length) S1
@[simp] theorem ev_lc' (own : List Nat) (t : Tg) (k : IK) (its ifs : List E) (e : E) : ev C (.lc own t k its ifs e) ρ S = (evs C its ρ S).bind fun us S => lcL C own t ifs e ρ S (start k us S) := by
  rw [ev_lc]
  cases evs C its ρ S with
  | ok us S1 =>
    simp only [R.bind_ok]
    cases start k us S1 <;> rfl
  | ex _ _ _ => rfl
  | bad => rfl
@[simp] theorem lay_name (i : Nat) (v : Val) : lay S (.name i) v ρ = some (ρ.set i (some v)) := by rw [lay]
@[simp] theorem lay_tup (ts : List Tg) (v : Val) : lay S (.tup ts) v ρ = match seqOf S v with
    | some vs => lays S ts vs ρ
    | none => none := by first | (rw [lay]; done) | (rw [lay]; rfl)
@[simp] theorem lays_nil : lays S [] [] ρ = some ρ := by rw [lays]
@[simp] theorem lays_cons (t : Tg) (ts : List Tg) (v : Val) (vs : List Val) : lays S (t :: ts) (v :: vs) ρ = (lay S t v ρ).bind fun ρ => lays S ts vs ρ := by rw [lays]
end
/-! values' own -/
section
variable (S : Store) (i j : Int)
@[simp] theorem bin_add : binop .add (.int i) (.int j) S = some (.int (i + j), S) := Eq.trans rfl rfl
@[simp] theorem bin_sub : binop .sub (.int i) (.int j) S = some (.int (i - j), S) := Eq.trans rfl rfl
@[simp] theorem bin_mul : binop .mul (.int i) (.int j) S = if mulOk i j then some (.int (i * j), S) else none := Eq.trans rfl rfl
@[simp] theorem bin_fdiv : binop .fdiv (.int i) (.int j) S = if 0 < j ∧ j.natAbs.log2 < 9000 then some (.int (i / j), S) else none := Eq.trans rfl rfl
@[simp] theorem bin_mod : binop .mod (.int i) (.int j) S = if 0 < j then some (.int (i % j), S) else none := Eq.trans rfl rfl
@[simp] theorem bin_pow : binop .pow (.int i) (.int j) S = if 0 ≤ j ∧ j ≤ 1000000 ∧ i.natAbs < 2 ^ 64 then some (.int (i ^ j.toNat), S) else none := Eq.trans rfl rfl
@[simp] theorem bin_addL (r q : Nat) : binop .add (.ref r) (.ref q) S = match S[r]?, S[q]? with
    | some (.lst xs), some (.lst ys) => alloc S (xs ++ ys)
    | _, _ => none := Eq.trans rfl rfl
@[simp] theorem bin_mulL (r : Nat) (k : Int) : binop .mul (.ref r) (.int k) S = match S[r]? with
    | some (.lst xs) => if -(2 ^ 63) ≤ k ∧ k < 2 ^ 63 ∧ xs.length * k.toNat ≤ sizeLine then alloc S (List.replicate k.toNat xs).flatten else none
    | _ => none := Eq.trans rfl rfl
@[simp] theorem cmp_lt : cmpop .lt S (.int i) (.int j) = some (decide (i < j)) := Eq.trans rfl rfl
@[simp] theorem cmp_le : cmpop .le S (.int i) (.int j) = some (decide (i ≤ j)) := Eq.trans rfl rfl
@[simp] theorem cmp_gt : cmpop .gt S (.int i) (.int j) = some (decide (j < i)) := Eq.trans rfl rfl
@[simp] theorem cmp_ge : cmpop .ge S (.int i) (.int j) = some (decide (j ≤ i)) := Eq.trans rfl rfl
@[simp] theorem cmp_eq (u v : Val) : cmpop .eq S u v = eqop S u v := Eq.trans rfl rfl
@[simp] theorem cmp_ne (u v : Val) : cmpop .ne S u v = (eqop S u v).map (!·) := Eq.trans rfl rfl
@[simp] theorem cmp_isn (u : Val) : cmpop .isn S u .non = some (isNon u) := Eq.trans rfl rfl
@[simp] theorem cmp_notn (u : Val) : cmpop .notn S u .non = some (!isNon u) := Eq.trans rfl rfl
@[simp] theorem cmp_in (u v : Val) : cmpop .isin S u v = inop S u v := Eq.trans rfl rfl
@[simp] theorem cmp_notin (u v : Val) : cmpop .notin S u v = (inop S u v).map (!·) := Eq.trans rfl rfl
@[simp] theorem eq_int : eqop S (.int i) (.int j) = some (decide (i = j)) := Eq.trans rfl rfl
@[simp] theorem eq_bl (a b : Bool) : eqop S (.bl a) (.bl b) = some (decide (a = b)) := Eq.trans rfl rfl
@[simp] theorem isNon_non : isNon .non = true := Eq.trans rfl rfl
@[simp] theorem isNon_int : isNon (.int i) = false := Eq.trans rfl rfl
@[simp] theorem isNon_tup (vs : List Val) : isNon (.tup vs) = false := Eq.trans rfl rfl
@[simp] theorem isNon_ref (r : Nat) : isNon (.ref r) = false := Eq.trans rfl rfl
@[simp] theorem tru_bl (b : Bool) : tru S (.bl b) = some b := Eq.trans rfl rfl
@[simp] theorem tru_int : tru S (.int i) = some (i != 0) := Eq.trans rfl rfl
@[simp] theorem tru_non : tru S .non = some false := Eq.trans rfl rfl
@[simp] theorem lstOf_ref (r : Nat) : lstOf S (.ref r) = match S[r]? with | some (.lst xs) => some xs | _ => none := Eq.trans rfl rfl
@[simp] theorem lstOf_fro (xs : List Val) : lstOf S (.fro xs) = some xs := Eq.trans rfl rfl
@[simp] theorem lstOf_tup (xs : List Val) : lstOf S (.tup xs) = none := Eq.trans rfl rfl
@[simp] theorem seqOf_tup (xs : List Val) : seqOf S (.tup xs) = some xs := Eq.trans rfl rfl
@[simp] theorem seqOf_ref (r : Nat) : seqOf S (.ref r) = match S[r]? with | some (.lst xs) => some xs | _ => none := Eq.trans rfl rfl
@[simp] theorem seqOf_fro (xs : List Val) : seqOf S (.fro xs) = some xs := Eq.trans rfl rfl
@[simp] theorem intOf_int : intOf (.int i) = some i := Eq.trans rfl rfl
@[simp] theorem sz_le {n : Nat} (h : n ≤ 1000000) : (n ≤ sizeLine) = True := eq_true (Nat.le_trans h (by decide))
@[simp] theorem sz_lt {n : Nat} (h : n ≤ 1000000) : (n < sizeLine) = True := eq_true (Nat.lt_of_le_of_lt h (by decide))
@[simp] theorem alloc_small (xs : List Val) (h : xs.length ≤ 1000000) : alloc S xs = some (.ref S.length, S ++ [.lst xs]) := by unfold alloc; rw [if_pos (Nat.le_trans h (by decide))]
@[simp] theorem len_ref (r : Nat) : prim .len [.ref r] S = match S[r]? with
    | some (.lst xs) => some ((.int xs.length), S)
    | some (.dK kvs) => some ((.int kvs.length), S)
    | _ => none := Eq.trans rfl rfl
@[simp] theorem len_fro (xs : List Val) : prim .len [.fro xs] S = some ((.int xs.length), S) := Eq.trans rfl rfl
@[simp] theorem len_tup (xs : List Val) : prim .len [.tup xs] S = some ((.int xs.length), S) := Eq.trans rfl rfl
@[simp] theorem app_ref (r : Nat) (y : Val) : meth .append (.ref r) [y] S = match S[r]? with
    | some (.lst xs) => if xs.length < sizeLine then some (.non, (S.set r (.lst (xs ++ [y])))) else none
    | _ => none := Eq.trans rfl rfl
@[simp] theorem rec_app (u : Val) : recv .append S u = (lstOf S u).isSome := Eq.trans rfl rfl
@[simp] theorem start_rng1 (n : Int) : start .rng1 [.int n] S = if small62 n then some (.items (rng 0 n.toNat)) else none := Eq.trans rfl rfl
@[simp] theorem start_rng2 : start .rng2 [.int i, .int j] S = if small62 i && small62 j then some (.items (rng i (j - i).toNat)) else none := Eq.trans rfl rfl
@[simp] theorem start_tup (vs : List Val) : start .seq [.tup vs] S = some (.items vs) := Eq.trans rfl rfl
@[simp] theorem start_ref (r : Nat) : start .seq [.ref r] S = (lstOf S (.ref r)).map fun _ => .seq (.ref r) := Eq.trans rfl rfl
@[simp] theorem start_fro (xs : List Val) : start .seq [.fro xs] S = some (.seq (.fro xs)) := Eq.trans rfl rfl
@[simp] theorem start_enum (u : Val) : start .enum [u] S = (lstOf S u).map fun _ => .en u := Eq.trans rfl rfl
@[simp] theorem start_zip (u v : Val) : start .zip [u, v] S = match lstOf S u, lstOf S v with
    | some _, some _ => some (.zp u v)
    | _, _ => none := Eq.trans rfl rfl
@[simp] theorem forL_some (C : Ctx) (t : Tg) (p : List Stm) (ρ : Env) (iv : IV) : forL C t p ρ S (some iv) = floop iv.next (forB C t p) (iv.cnt S) 0 ρ S := Eq.trans rfl rfl
@[simp] theorem lcL_some (C : Ctx) (own : List Nat) (t : Tg) (ifs : List E) (e : E) (ρ : Env) (iv : IV) : lcL C own t ifs e ρ S (some iv) = (cloop iv.next (cstep C own t ifs e ρ S.length) (iv.cnt S) 0 (S ++ [.lst []])).bind fun _ S1 => .ok (.ref S.length) S1 := Eq.trans rfl rfl
@[simp] theorem cnt_items (vs : List Val) : (IV.items vs).cnt S = vs.length := Eq.trans rfl rfl
@[simp] theorem small62_of {i : Int} (h : -1000000 ≤ i ∧ i ≤ 1000000) : small62 i = true := by
  unfold small62
  simp only [Bool.and_eq_true, decide_eq_true_eq]; omega
theorem mulOk_l {i j : Int} (h : -(2 ^ 64) < i ∧ i < 2 ^ 64) : mulOk i j = true := by
  unfold mulOk
  simp only [Bool.or_eq_true, Bool.and_eq_true, decide_eq_true_eq]
  exact .inl (.inl h)
theorem mulOk_r {i j : Int} (h : -(2 ^ 64) < j ∧ j < 2 ^ 64) : mulOk i j = true := by
  unfold mulOk
  simp only [Bool.or_eq_true, Bool.and_eq_true, decide_eq_true_eq]
  exact .inl (.inr h)
theorem item_lst {r : Nat} {xs : List Val} {i : Nat} {v : Val} (h : S[r]? = some (.lst xs)) (hi : xs[i]? = some v) (hl : i < 2 ^ 62) : item S (.ref r) (.int i) = some v := by
  unfold item itemS
  simp only [seqOf_ref, h]
  have : L2.atI xs (i : Int) = some v := L2.atI_nat hi
  rw [this]
theorem item_tup {vs : List Val} {i : Nat} {v : Val} (hi : vs[i]? = some v) : item S (.tup vs) (.int i) = some v := by
  unfold item itemS
  simp only [seqOf_tup]
  have : L2.atI vs (i : Int) = some v := L2.atI_nat hi
  rw [this]
theorem item_fro {vs : List Val} {i : Nat} {v : Val} (hi : vs[i]? = some v) : item S (.fro vs) (.int i) = some v := by
  unfold item itemS
  simp only [seqOf_fro]
  have : L2.atI vs (i : Int) = some v := L2.atI_nat hi
  rw [this]
@[simp] theorem set_last (S : Store) (a b : Ob) : (S ++ [a]).set S.length b = S ++ [b] := by
  rw [List.set_append_right _ _ (Nat.le_refl _), Nat.sub_self]
  rfl
theorem push_ok {D : Nat} {y : Val} {S : Store} {acc : List Val} (h : S[D]? = some (.lst acc)) (hl : acc.length < sizeLine) : push D y S = .ok () (S.set D (.lst (acc ++ [y]))) := by
  unfold push
  simp only [h, hl, if_true]
end
theorem line_big : (1000000 : Nat) < sizeLine := by decide
/-! ### loops -/
section
variable {nxt : Nat → Store → Option (Option Val)} {body : Val → Env → Store → SO} {N : Env → Store → Prop} {T : Val → Store → Prop} {B Ct : Env → Store → Prop}
theorem floop_rule (I : Nat → Env → Store → Prop) (n : Nat) (step : ∀ k ρ S, k < n → I k ρ S → ∃ v, nxt k S = some (some v) ∧ ST (body v ρ S) (I (k + 1)) T N (I (k + 1)))
    (fin : ∀ ρ S, I n ρ S → nxt n S = some none ∧ N ρ S) : ∀ F k ρ S, n ≤ k + F → k ≤ n → I k ρ S → ST (floop nxt body F k ρ S) N T B Ct := by
  intro F
  induction F with
  | zero =>
    intro k ρ S h1 h2 h3
    have hk : k = n := by omega
    rw [hk] at h3 ⊢
    obtain ⟨h4, h5⟩ := fin ρ S h3
    unfold floop
    simp only [h4]
    exact h5
  | succ F ih =>
    intro k ρ S h1 h2 h3
    by_cases hk : k = n
    · rw [hk] at h3 ⊢
      obtain ⟨h4, h5⟩ := fin ρ S h3
      unfold floop
      simp only [h4]
      exact h5
    · obtain ⟨v, h4, h5⟩ := step k ρ S (by omega) h3
      unfold floop
      simp only [h4]
      cases e : body v ρ S with
      | nx ρ' S' => rw [e] at h5; exact ih (k + 1) ρ' S' (by omega) (by omega) h5
      | ct ρ' S' => rw [e] at h5; exact ih (k + 1) ρ' S' (by omega) (by omega) h5
      | bk ρ' S' => rw [e] at h5; exact h5
      | rt v S' => rw [e] at h5; exact h5
      | ex c d ρ' S' => rw [e] at h5; exact h5
      | bad => rw [e] at h5; exact h5
/-- over fixed items -/
theorem for_items (vs : List Val) (I : Nat → Env → Store → Prop) {ρ : Env} {S : Store} (h0 : I 0 ρ S) (step : ∀ k v ρ S, vs[k]? = some v → I k ρ S → ST (body v ρ S) (I (k + 1)) T N (I (k + 1)))
    (fin : ∀ ρ S, I vs.length ρ S → N ρ S) : ST (floop (IV.items vs).next body vs.length 0 ρ S) N T B Ct := by
  refine floop_rule I vs.length (fun k ρ S hk h => ?_) (fun ρ S h => ⟨?_, fin ρ S h⟩) _ _ _ _ (by omega) (by omega) h0
  · exact ⟨vs[k], by show some vs[k]? = _; rw [List.getElem?_eq_getElem hk], step k _ ρ S (List.getElem?_eq_getElem hk) h⟩
  · show some vs[vs.length]? = _
    rw [List.getElem?_eq_none (Nat.le_refl _)]
/-- over range(lo, lo + n) -/
theorem for_rng (lo : Int) (n : Nat) (I : Nat → Env → Store → Prop) {ρ : Env} {S : Store} (h0 : I 0 ρ S) (step : ∀ k ρ S, k < n → I k ρ S → ST (body (.int (lo + k)) ρ S) (I (k + 1)) T N (I (k + 1)))
    (fin : ∀ ρ S, I n ρ S → N ρ S) : ST (floop (IV.items (rng lo n)).next body (rng lo n).length 0 ρ S) N T B Ct := by
  have hl : (rng lo n).length = n := by unfold rng; rw [List.length_map, List.length_range]
  refine for_items (rng lo n) I h0 (fun k v ρ S hv h => ?_) (fun ρ S h => fin ρ S (by rw [hl] at h; exact h))
  have hk : k < n := by
    have := (List.getElem?_eq_some_iff.mp hv).1
    rwa [hl] at this
  unfold rng at hv
  rw [List.getElem?_map, List.getElem?_range hk] at hv
  cases hv
  exact step k ρ S hk h
/-- over a list that stays as it is -/
theorem for_list (u : Val) (vs : List Val) (I : Nat → Env → Store → Prop) {ρ : Env} {S : Store} (hu : ∀ k ρ S, I k ρ S → lstOf S u = some vs) (h0 : I 0 ρ S) (step : ∀ k v ρ S, vs[k]? = some v → I k ρ S → ST (body v ρ S) (I (k + 1)) T N (I (k + 1)))
    (fin : ∀ ρ S, I vs.length ρ S → N ρ S) : ST (floop (IV.seq u).next body ((IV.seq u).cnt S) 0 ρ S) N T B Ct := by
  have nx : ∀ k ρ S, I k ρ S → ∀ j, (IV.seq u).next j S = some vs[j]? := fun k ρ S h j => by
    show (lstOf S u).map _ = _
    rw [hu k ρ S h]
    rfl
  have hc : (IV.seq u).cnt S = vs.length := by
    show ((lstOf S u).getD []).length = _
    rw [hu 0 ρ S h0]
    rfl
  rw [hc]
  refine floop_rule I vs.length (fun k ρ S hk h => ?_) (fun ρ S h => ⟨?_, fin ρ S h⟩) _ _ _ _ (by omega) (by omega) h0
  · exact ⟨vs[k], by rw [nx k ρ S h, List.getElem?_eq_getElem hk], step k _ ρ S (List.getElem?_eq_getElem hk) h⟩
  · rw [nx _ ρ S h, List.getElem?_eq_none (Nat.le_refl _)]
end
section
variable {nxt : Nat → Store → Option (Option Val)} {step : Val → Store → R Unit} {Q : Unit → Store → Prop}
theorem cloop_rule (I : Nat → Store → Prop) (n : Nat) (hs : ∀ k S, k < n → I k S → ∃ v, nxt k S = some (some v) ∧ RT (step v S) (fun _ S => I (k + 1) S))
    (fin : ∀ S, I n S → nxt n S = some none ∧ Q () S) : ∀ F k S, n ≤ k + F → k ≤ n → I k S → RT (cloop nxt step F k S) Q := by
  intro F
  induction F with
  | zero =>
    intro k S h1 h2 h3
    have hk : k = n := by omega
    rw [hk] at h3 ⊢
    obtain ⟨h4, h5⟩ := fin S h3
    unfold cloop
    simp only [h4]
    exact h5
  | succ F ih =>
    intro k S h1 h2 h3
    by_cases hk : k = n
    · rw [hk] at h3 ⊢
      obtain ⟨h4, h5⟩ := fin S h3
      unfold cloop
      simp only [h4]
      exact h5
    · obtain ⟨v, h4, h5⟩ := hs k S (by omega) h3
      unfold cloop
      simp only [h4]
      obtain ⟨u, S', h6, h7⟩ := h5.get
      rw [h6]
      exact ih (k + 1) S' (by omega) (by omega) h7
/-- a comprehension by an invariant: the list so far, what else is new -/
theorem lc_rule {S : Store} {iv : IV} {Q : Val → Store → Prop} (vs : List Val) (I : Nat → Store → Prop) (hn : ∀ k S1 j, I k S1 → iv.next j S1 = some vs[j]?) (h0 : I 0 (S ++ [.lst []])) (hc : vs.length ≤ iv.cnt S)
    (hs : ∀ k v S1, vs[k]? = some v → I k S1 → RT (step v S1) (fun _ S => I (k + 1) S)) (fin : ∀ S1, I vs.length S1 → Q (.ref S.length) S1) :
    RT ((cloop iv.next step (iv.cnt S) 0 (S ++ [.lst []])).bind fun _ S1 => .ok (.ref S.length) S1) Q := by
  rw [RT_bind]
  refine cloop_rule I vs.length (fun k S1 hk h => ?_) (fun S1 h => ⟨?_, fin S1 h⟩) _ _ _ (by omega) (by omega) h0
  · exact ⟨vs[k], by rw [hn k S1 k h, List.getElem?_eq_getElem hk], hs k _ S1 (List.getElem?_eq_getElem hk) h⟩
  · rw [hn _ S1 _ h, List.getElem?_eq_none (Nat.le_refl _)]
/-- a comprehension whose steps change nothing: some items picked, each one's value -/
theorem lc_pick {S : Store} {iv : IV} (vs : List Val) (p : Val → Bool) (f : Val → Val) (hn : ∀ acc j, iv.next j (S ++ [.lst acc]) = some vs[j]?) (hc : vs.length ≤ iv.cnt S) (hz : vs.length ≤ 1000000)
    (hs : ∀ v ∈ vs, ∀ acc, step v (S ++ [.lst acc]) = if p v then push S.length (f v) (S ++ [.lst acc]) else .ok () (S ++ [.lst acc])) :
    cloop iv.next step (iv.cnt S) 0 (S ++ [.lst []]) = .ok () (S ++ [.lst ((vs.filter p).map f)]) := by
  have : RT (cloop iv.next step (iv.cnt S) 0 (S ++ [.lst []])) (fun _ S1 => S1 = S ++ [.lst ((vs.filter p).map f)]) := by
    refine cloop_rule (fun k S1 => S1 = S ++ [.lst (((vs.take k).filter p).map f)]) vs.length (fun k S1 hk h => ?_) (fun S1 h => ?_) _ _ _ (by omega) (by omega) (by rw [List.take_zero]; rfl)
    · subst h
      refine ⟨vs[k], by rw [hn, List.getElem?_eq_getElem hk], ?_⟩
      have e1 : vs.take (k + 1) = vs.take k ++ [vs[k]] := by rw [List.take_add_one, List.getElem?_eq_getElem hk]; rfl
      rw [hs _ (List.getElem_mem hk), e1, List.filter_append, List.map_append]
      have hl : (((vs.take k).filter p).map f).length < sizeLine := by
        rw [List.length_map]
        have h1 := List.length_filter_le p (vs.take k)
        have h2 := List.length_take_le k vs
        have h3 := line_big
        have h4 : (vs.take k).length ≤ vs.length := by rw [List.length_take]; omega
        omega
      by_cases hp : p vs[k] = true
      · rw [if_pos hp, push_ok (List.getElem?_concat_length ..) hl, set_last]
        show S ++ [Ob.lst (_ ++ [f vs[k]])] = S ++ [Ob.lst (_ ++ (List.filter p [vs[k]]).map f)]
        rw [List.filter_cons_of_pos hp]
        rfl
      · rw [if_neg hp]
        show S ++ [Ob.lst _] = S ++ [Ob.lst (_ ++ (List.filter p [vs[k]]).map f)]
        rw [List.filter_cons_of_neg hp]
        simp
    · subst h
      rw [List.take_length]
      exact ⟨by rw [hn, List.getElem?_eq_none (Nat.le_refl _)], rfl⟩
  obtain ⟨u, S1, h1, h2⟩ := this.get
  rw [h1, h2]
end
end Mi
namespace Mi
open PySem L2
/-! ### stores that grow; lists and rows in a store -/
theorem get_app {S : Store} {i : Nat} {o : Ob} (T : Store) (h : S[i]? = some o) : (S ++ T)[i]? = some o := by
  rw [List.getElem?_append_left (List.getElem?_eq_some_iff.mp h).1]; exact h
theorem get_lt {S : Store} {i : Nat} {o : Ob} (h : S[i]? = some o) : i < S.length := (List.getElem?_eq_some_iff.mp h).1
@[simp] theorem get_end (S : Store) (a : Ob) (T : Store) : (S ++ a :: T)[S.length]? = some a := by
  rw [List.getElem?_append_right (Nat.le_refl _), Nat.sub_self]; rfl
theorem set_app {S : Store} {i : Nat} (o : Ob) (T : Store) (h : i < S.length) : (S ++ T).set i o = S.set i o ++ T := by
  rw [List.set_append_left _ _ h]
@[simp] theorem set_end (S : Store) (a b : Ob) (T : Store) : (S ++ a :: T).set S.length b = S ++ b :: T := by
  rw [List.set_append_right _ _ (Nat.le_refl _), Nat.sub_self]; rfl
def obI (xs : List Int) : Ob := .lst (xs.map .int)
/-- v is a list of lists of whole numbers -/
def Rw (S : Store) (v : Val) (L : List (List Int)) : Prop := ∃ (r : Nat) (rs : List Nat), v = .ref r ∧ S[r]? = some (.lst (rs.map .ref)) ∧ rs.length = L.length ∧ ∀ (p q : Nat) (row : List Int), rs[p]? = some q → L[p]? = some row → S[q]? = some (obI row)
theorem Rw.app {S : Store} {v : Val} {L : List (List Int)} (T : Store) (h : Rw S v L) : Rw (S ++ T) v L := by
  obtain ⟨r, rs, e, h1, h2, h3⟩ := h
  exact ⟨r, rs, e, get_app T h1, h2, fun p q row hp hq => get_app T (h3 p q row hp hq)⟩
theorem allSome_map {α β : Type} {f : α → Option β} {g : α → β} : ∀ {xs : List α}, (∀ x ∈ xs, f x = some (g x)) → allSome (xs.map f) = some (xs.map g)
  | [], _ => rfl
  | x :: r, h => by
    have ih := allSome_map (xs := r) fun y hy => h y (List.mem_cons_of_mem _ hy)
    rw [List.map_cons, h x List.mem_cons_self]
    show (allSome (r.map f)).map _ = _
    rw [ih]
    rfl
theorem dat_ints (S : Store) (n : Nat) (xs : List Int) : allSome ((xs.map Val.int).map (dat S (n + 1))) = some (xs.map PyData.int) := by
  rw [List.map_map]
  exact allSome_map fun x _ => by show dat S (n + 1) (.int x) = _; rw [dat]
def dRow (xs : List Int) : PyData := .list (xs.map .int)
theorem dat_row {S : Store} {q n : Nat} {row : List Int} (h : S[q]? = some (obI row)) : dat S (n + 2) (.ref q) = some (dRow row) := by
  rw [dat]
  unfold obI at h
  simp only [h]
  rw [dat_ints]
  rfl
theorem dat_rw {S : Store} {v : Val} {n : Nat} {L : List (List Int)} (h : Rw S v L) : dat S (n + 3) v = some (.list (L.map dRow)) := by
  obtain ⟨r, rs, rfl, h1, h2, h3⟩ := h
  rw [dat]
  simp only [h1]
  have : allSome ((rs.map Val.ref).map (dat S (n + 2))) = some (L.map dRow) := by
    rw [List.map_map]
    clear h1
    induction rs generalizing L with
    | nil =>
      cases L with
      | nil => rfl
      | cons _ _ => cases h2
    | cons q rs ih =>
      cases L with
      | nil => cases h2
      | cons row L =>
        have e1 : dat S (n + 2) (.ref q) = some (dRow row) := dat_row (h3 0 q row rfl rfl)
        have e2 := ih (L := L) (by simpa using h2) fun p q' row' hp hq => h3 (p + 1) q' row' hp hq
        rw [List.map_cons]
        show allSome (dat S (n + 2) (.ref q) :: _) = _
        rw [e1]
        show (allSome (rs.map _)).map _ = _
        rw [e2]
        rfl
  rw [this]
  rfl
theorem eqvAll_ints : ∀ xs ys : List Int, PyData.eqvAll (xs.map .int) (ys.map .int) = decide (xs = ys)
  | [], [] => by rw [List.map_nil, PyData.eqvAll]; rfl
  | [], _ :: _ => by rw [List.map_nil, List.map_cons, PyData.eqvAll]; rfl
  | _ :: _, [] => by rw [List.map_nil, List.map_cons, PyData.eqvAll]; rfl
  | x :: xs, y :: ys => by
    rw [List.map_cons, List.map_cons, PyData.eqvAll, PyData.eqv, eqvAll_ints xs ys]
    by_cases h : x = y
    · subst h
      simp
    · simp [h]
theorem eqv_dRow (xs ys : List Int) : PyData.eqv (dRow xs) (dRow ys) = decide (xs = ys) := by
  unfold dRow
  rw [PyData.eqv, eqvAll_ints]
theorem eqvAll_rows : ∀ L M : List (List Int), PyData.eqvAll (L.map dRow) (M.map dRow) = decide (L = M)
  | [], [] => by rw [List.map_nil, PyData.eqvAll]; rfl
  | [], _ :: _ => by rw [List.map_nil, List.map_cons, PyData.eqvAll]; rfl
  | _ :: _, [] => by rw [List.map_nil, List.map_cons, PyData.eqvAll]; rfl
  | x :: xs, y :: ys => by
    rw [List.map_cons, List.map_cons, PyData.eqvAll, eqv_dRow, eqvAll_rows xs ys]
    by_cases h : x = y
    · subst h
      simp
    · simp [h]
theorem eqF_ref (r q : Nat) : eqF (.ref r) (.ref q) = none := rfl
/-- == of two lists of lists -/
theorem eq_rw {S : Store} {u v : Val} {L M : List (List Int)} (h : Rw S u L) (h' : Rw S v M) : eqop S u v = some (decide (L = M)) := by
  have e1 := dat_rw (n := 5) h
  have e2 := dat_rw (n := 5) h'
  obtain ⟨r, rs, rfl, _⟩ := h
  obtain ⟨q, qs, rfl, _⟩ := h'
  unfold eqop
  rw [eqF_ref]
  show (match dat S 8 (.ref r), dat S 8 (.ref q) with | some d, some e => some (PyData.eqv d e) | _, _ => none) = _
  rw [e1, e2]
  show some (PyData.eqv (.list _) (.list _)) = _
  rw [PyData.eqv, eqvAll_rows]
theorem eq_row {S : Store} {r q : Nat} {xs ys : List Int} (h : S[r]? = some (obI xs)) (h' : S[q]? = some (obI ys)) : eqop S (.ref r) (.ref q) = some (decide (xs = ys)) := by
  have e1 := dat_row (n := 6) h
  have e2 := dat_row (n := 6) h'
  unfold eqop
  rw [eqF_ref]
  show (match dat S 8 (.ref r), dat S 8 (.ref q) with | some d, some e => some (PyData.eqv d e) | _, _ => none) = _
  rw [e1, e2]
  show some (PyData.eqv (dRow _) (dRow _)) = _
  rw [eqv_dRow]
/-- a comprehension over a list of given things, whose steps change nothing -/
theorem lc_pickM {α : Type} {S : Store} {iv : IV} {step : Val → Store → R Unit} (xs : List α) (g : α → Val) (p : α → Bool) (f : α → Val) (hn : ∀ acc j, iv.next j (S ++ [.lst acc]) = some (xs.map g)[j]?) (hc : xs.length ≤ iv.cnt S) (hz : xs.length ≤ 1000000)
    (hs : ∀ x ∈ xs, ∀ acc, step (g x) (S ++ [.lst acc]) = if p x = true then push S.length (f x) (S ++ [.lst acc]) else .ok () (S ++ [.lst acc])) :
    cloop iv.next step (iv.cnt S) 0 (S ++ [.lst []]) = .ok () (S ++ [.lst ((xs.filter p).map f)]) := by
  have : RT (cloop iv.next step (iv.cnt S) 0 (S ++ [.lst []])) (fun _ S1 => S1 = S ++ [.lst ((xs.filter p).map f)]) := by
    refine cloop_rule (fun k S1 => S1 = S ++ [.lst (((xs.take k).filter p).map f)]) xs.length (fun k S1 hk h => ?_) (fun S1 h => ?_) _ _ _ (by omega) (by omega) (by rw [List.take_zero]; rfl)
    · subst h
      refine ⟨g xs[k], by rw [hn, List.getElem?_map, List.getElem?_eq_getElem hk]; rfl, ?_⟩
      have e1 : xs.take (k + 1) = xs.take k ++ [xs[k]] := by rw [List.take_add_one, List.getElem?_eq_getElem hk]; rfl
      rw [hs _ (List.getElem_mem hk), e1, List.filter_append, List.map_append]
      have hl : (((xs.take k).filter p).map f).length < PySem.sizeLine := by
        rw [List.length_map]
        have h1 := List.length_filter_le p (xs.take k)
        have h4 : (xs.take k).length ≤ xs.length := by rw [List.length_take]; omega
        have h3 := line_big
        omega
      by_cases hp : p xs[k] = true
      · rw [if_pos hp, push_ok (List.getElem?_concat_length ..) hl, set_last]
        show S ++ [Ob.lst (_ ++ [f xs[k]])] = S ++ [Ob.lst (_ ++ (List.filter p [xs[k]]).map f)]
        rw [List.filter_cons_of_pos hp]
        rfl
      · rw [if_neg hp]
        show S ++ [Ob.lst _] = S ++ [Ob.lst (_ ++ (List.filter p [xs[k]]).map f)]
        rw [List.filter_cons_of_neg hp]
        simp
    · subst h
      rw [List.take_length]
      exact ⟨by rw [hn, List.getElem?_eq_none (by rw [List.length_map]; exact Nat.le_refl _)], rfl⟩
  obtain ⟨u, S1, h1, h2⟩ := this.get
  rw [h1, h2]
theorem intsOf_map : ∀ xs : List Int, intsOf (xs.map .int) = some xs
  | [] => rfl
  | x :: r => by rw [List.map_cons, intsOf, intsOf_map r]; rfl
theorem seq_next {S : Store} {r : Nat} {xs : List Val} (h : S[r]? = some (.lst xs)) (j : Nat) : (IV.seq (.ref r)).next j S = some xs[j]? := by
  show (lstOf S (.ref r)).map _ = _
  simp only [lstOf_ref, h]
  rfl
theorem seq_cnt {S : Store} {r : Nat} {xs : List Val} (h : S[r]? = some (.lst xs)) : (IV.seq (.ref r)).cnt S = xs.length := by
  show ((lstOf S (.ref r)).getD []).length = _
  simp only [lstOf_ref, h]
  rfl
/-- sorted -/
def srt (xs : List Int) : List Int := xs.mergeSort (fun a b => decide (a ≤ b))
theorem sorted_at {S : Store} {r : Nat} {xs : List Int} (h : S[r]? = some (obI xs)) (hz : xs.length ≤ 1000000) : prim .sorted [.ref r] S = some (.ref S.length, S ++ [obI (srt xs)]) := by
  show (match (lstOf S (.ref r)).bind intsOf with | some ns => alloc S ((ns.mergeSort (fun a b => decide (a ≤ b))).map .int) | none => none) = _
  unfold obI at h
  simp only [lstOf_ref, h, Option.bind_some, intsOf_map]
  exact alloc_small _ _ (by rw [List.length_map, List.length_mergeSort]; exact hz)
theorem perm_sorted_eq : ∀ {xs ys : List Int}, xs.Perm ys → xs.Pairwise (· ≤ ·) → ys.Pairwise (· ≤ ·) → xs = ys
  | [], ys, h, _, _ => (List.nil_perm.mp h).symm
  | x :: xs, [], h, _, _ => absurd h.length_eq (by simp)
  | x :: xs, y :: ys, h, h1, h2 => by
    rw [List.pairwise_cons] at h1 h2
    have e : x = y := by
      have m1 : x ∈ y :: ys := h.mem_iff.mp List.mem_cons_self
      have m2 : y ∈ x :: xs := h.mem_iff.mpr List.mem_cons_self
      rcases List.mem_cons.mp m1 with e | m1
      · exact e
      · rcases List.mem_cons.mp m2 with e | m2
        · exact e.symm
        · have := h1.1 y m2
          have := h2.1 x m1
          omega
    subst e
    rw [perm_sorted_eq (List.Perm.cons_inv h) h1.2 h2.2]
theorem srt_eq {xs ys : List Int} (h : xs.Perm ys) (hs : ys.Pairwise (· ≤ ·)) : srt xs = ys := by
  refine perm_sorted_eq ((List.mergeSort_perm xs _).trans h) ?_ hs
  have := List.pairwise_mergeSort (le := fun a b : Int => decide (a ≤ b)) (fun a b c h1 h2 => by simp only [decide_eq_true_eq] at *; omega) (fun a b => by simp only [Bool.or_eq_true, decide_eq_true_eq]; omega) xs
  exact this.imp fun h => by simpa using h
/-- a list of lists, the rows right behind it -/
def rowsAt (D : Nat) (rows : List (List Int)) : Store := .lst ((List.range rows.length).map fun i => .ref (D + 1 + i)) :: rows.map obI
theorem rowsAt_len (D : Nat) (rows : List (List Int)) : (rowsAt D rows).length = rows.length + 1 := by unfold rowsAt; rw [List.length_cons, List.length_map]
theorem rowsAt_top (S T : Store) (rows : List (List Int)) : (S ++ (rowsAt S.length rows ++ T))[S.length]? = some (.lst ((List.range rows.length).map fun i => .ref (S.length + 1 + i))) := get_end ..
theorem rowsAt_row {rows : List (List Int)} {p : Nat} {row : List Int} (S T : Store) (h : rows[p]? = some row) : (S ++ (rowsAt S.length rows ++ T))[S.length + 1 + p]? = some (obI row) := by
  have hp := (List.getElem?_eq_some_iff.mp h).1
  rw [List.getElem?_append_right (by omega), show S.length + 1 + p - S.length = p + 1 by omega]
  show (_ :: (rows.map obI ++ T))[p + 1]? = _
  rw [List.getElem?_cons_succ, List.getElem?_append_left (by rw [List.length_map]; exact hp), List.getElem?_map, h]
  rfl
theorem rowsAt_set (S T : Store) (rows : List (List Int)) (p : Nat) (row : List Int) (hp : p < rows.length) : (S ++ (rowsAt S.length rows ++ T)).set (S.length + 1 + p) (obI row) = S ++ (rowsAt S.length (rows.set p row) ++ T) := by
  rw [List.set_append_right _ _ (by omega), show S.length + 1 + p - S.length = p + 1 by omega]
  show S ++ (_ :: (rows.map obI ++ T)).set (p + 1) _ = _
  rw [List.set_cons_succ, List.set_append_left _ _ (by rw [List.length_map]; exact hp), ← List.map_set]
  unfold rowsAt
  rw [List.length_set]
  rfl
theorem rowsAt_rw (S T : Store) (rows : List (List Int)) : Rw (S ++ (rowsAt S.length rows ++ T)) (.ref S.length) rows := by
  refine ⟨S.length, (List.range rows.length).map fun i => S.length + 1 + i, rfl, by rw [rowsAt_top, List.map_map]; rfl, by rw [List.length_map, List.length_range], fun p q row hp hq => ?_⟩
  have h := (List.getElem?_eq_some_iff.mp hq).1
  rw [List.getElem?_map, List.getElem?_range h] at hp
  cases hp
  exact rowsAt_row S T hq
end Mi
namespace Lk02
open PySem L2 Mi
def top (i : Nat) : Stmt := PySem.Challenge.pw_ringfloor_k02_near_and_ways.main.body.getD i (.Pass ⟨0, 0, 0, 0⟩)
abbrev s_near_places : Stmt := top 1
def N_near_places : List Str := ["web", "rows", "place", "one", "two", "row"]
def f_near_places : List (Str × Nat) := []
def t_near_places : TC := tcOf (defScope s_near_places) N_near_places f_near_places [] []
abbrev s_ways_of : Stmt := top 2
def N_ways_of : List Str := ["web", "count", "row", "more"]
def f_ways_of : List (Str × Nat) := [("near_places", 0)]
def t_ways_of : TC := tcOf (defScope s_ways_of) N_ways_of f_ways_of [] []
abbrev s_l_mixed : Stmt := top 4
def N_l_mixed : List Str := ["_law_cell", "_law_k", "_law_whole_here"]
def f_l_mixed : List (Str × Nat) := []
def t_l_mixed : TC := tcOf (defScope s_l_mixed) N_l_mixed f_l_mixed [] []
abbrev s_l_box : Stmt := top 5
def N_l_box : List Str := ["_law_script", "_law_k", "_law_cell"]
def f_l_box : List (Str × Nat) := [("_law_mixed", 2)]
def t_l_box : TC := tcOf (defScope s_l_box) N_l_box f_l_box [] []
abbrev s_l_take : Stmt := top 6
def N_l_take : List Str := ["_law_box_here", "_law_size", "_law_found"]
def f_l_take : List (Str × Nat) := [("_law_mixed", 2)]
def t_l_take : TC := tcOf (defScope s_l_take) N_l_take f_l_take [] []
abbrev s_l_whole : Stmt := top 7
def N_l_whole : List Str := ["_law_found"]
def f_l_whole : List (Str × Nat) := []
def t_l_whole : TC := tcOf (defScope s_l_whole) N_l_whole f_l_whole [] []
abbrev s_l_ties : Stmt := top 8
def N_l_ties : List Str := ["_law_box_here", "_law_many", "_law_thin", "_law_ties_here", "_law_one", "_law_two"]
def f_l_ties : List (Str × Nat) := [("_law_take", 4)]
def t_l_ties : TC := tcOf (defScope s_l_ties) N_l_ties f_l_ties [] []
abbrev s_l_row_alike : Stmt := top 9
def N_l_row_alike : List Str := ["_law_told", "_law_due", "_law_found"]
def f_l_row_alike : List (Str × Nat) := [("_law_whole", 5)]
def t_l_row_alike : TC := tcOf (defScope s_l_row_alike) N_l_row_alike f_l_row_alike [] []
abbrev s_l_rows_alike : Stmt := top 10
def N_l_rows_alike : List Str := ["_law_told", "_law_due", "_law_row", "_law_want"]
def f_l_rows_alike : List (Str × Nat) := [("_law_row_alike", 7)]
def t_l_rows_alike : TC := tcOf (defScope s_l_rows_alike) N_l_rows_alike f_l_rows_alike [] []
abbrev s_l_near : Stmt := top 11
def N_l_near : List Str := ["_law_many", "_law_ties_here", "_law_near_here", "_law_place", "_law_row", "_law_low", "_law_high"]
def f_l_near : List (Str × Nat) := []
def t_l_near : TC := tcOf (defScope s_l_near) N_l_near f_l_near [] []
abbrev s_l_ways : Stmt := top 12
def N_l_ways : List Str := ["_law_near_here", "_law_ways_here", "_law_row", "_law_more"]
def f_l_ways : List (Str × Nat) := []
def t_l_ways : TC := tcOf (defScope s_l_ways) N_l_ways f_l_ways [] []
abbrev s_l_law : Stmt := top 13
def N_l_law : List Str := ["_law_script", "_law_box_here", "_law_many", "_law_ties_here", "_law_due", "_law_handed", "_law_count", "_law_told", "_law_row", "_law_left", "_law_at"]
def f_l_law : List (Str × Nat) := [("near_places", 0), ("ways_of", 1), ("_law_box", 3), ("_law_take", 4), ("_law_whole", 5), ("_law_ties", 6), ("_law_rows_alike", 8), ("_law_near", 9), ("_law_ways", 10)]
def t_l_law : TC := tcOf (defScope s_l_law) N_l_law f_l_law [] []
def B_near_places : List Stm := [(.asg (.name 1) (.lc [2] (.name 2) .rng1 [(.sub (.var 0) (.cst (.int 0)))] [] (.lst []))), (.for (.tup [(.name 3), (.name 4)]) .seq [(.sub (.var 0) (.cst (.int 1)))] [(.exp (.me .append (.sub (.var 1) (.var 3)) [(.var 4)])), (.exp (.me .append (.sub (.var 1) (.var 4)) [(.var 3)]))]), (.ret (.lc [5] (.name 5) .seq [(.var 1)] [] (.pr .sorted [(.var 5)])))]
noncomputable def L_near_places : Cal := []
theorem x_near_places : ∃ f : Sem, f = run (ctxOf L_near_places) 6 B_near_places := ⟨_, rfl⟩
noncomputable def F_near_places : Sem := x_near_places.choose
theorem F_near_places_eq : F_near_places = run (ctxOf L_near_places) 6 B_near_places := x_near_places.choose_spec
theorem b_near_places : trSl (trS 60 t_near_places) (defBody s_near_places) = some B_near_places := by kernel_rfl
def B_ways_of : List Stm := [(.asg (.name 1) (.cst (.int 1))), (.for (.name 2) .seq [(.call 0 [(.var 0)])] [(.for (.name 3) .rng2 [(.cst (.int 2)), (.pr .len [(.var 2)])] [(.asg (.name 1) (.bin .mul (.var 1) (.var 3)))])]), (.ret (.var 1))]
noncomputable def L_ways_of : Cal := [("near_places", 0, 1, F_near_places)]
theorem x_ways_of : ∃ f : Sem, f = run (ctxOf L_ways_of) 4 B_ways_of := ⟨_, rfl⟩
noncomputable def F_ways_of : Sem := x_ways_of.choose
theorem F_ways_of_eq : F_ways_of = run (ctxOf L_ways_of) 4 B_ways_of := x_ways_of.choose_spec
theorem b_ways_of : trSl (trS 60 t_ways_of) (defBody s_ways_of) = some B_ways_of := by kernel_rfl
def B_l_mixed : List Stm := [(.asg (.name 2) (.bin .mod (.bin .pow (.bin .add (.bin .add (.bin .add (.bin .mod (.var 0) (.cst (.int 2147483647))) (.bin .mul (.bin .mul (.cst (.int 1009)) (.var 1)) (.var 1))) (.bin .mul (.cst (.int 48611)) (.var 1))) (.cst (.int 17))) (.cst (.int 5))) (.cst (.int 2147483647)))), (.ret (.bin .mod (.bin .add (.bin .mul (.var 2) (.cst (.int 39373))) (.bin .mul (.cst (.int 7919)) (.var 1))) (.cst (.int 1000000007))))]
noncomputable def L_l_mixed : Cal := []
theorem x_l_mixed : ∃ f : Sem, f = run (ctxOf L_l_mixed) 3 B_l_mixed := ⟨_, rfl⟩
noncomputable def F_l_mixed : Sem := x_l_mixed.choose
theorem F_l_mixed_eq : F_l_mixed = run (ctxOf L_l_mixed) 3 B_l_mixed := x_l_mixed.choose_spec
theorem b_l_mixed : trSl (trS 60 t_l_mixed) (defBody s_l_mixed) = some B_l_mixed := by kernel_rfl
def B_l_box : List Stm := [(.asg (.name 2) (.call 2 [(.bin .add (.var 1) (.cst (.int 5))), (.var 1)])), (.ifS (.cmp .lt (.var 1) (.pr .len [(.var 0)])) [(.asg (.name 2) (.sub (.var 0) (.var 1)))] [(.ifS (.cmp .gt (.pr .len [(.var 0)]) (.cst (.int 0))) [(.asg (.name 2) (.call 2 [(.sub (.var 0) (.bin .mod (.var 1) (.pr .len [(.var 0)]))), (.var 1)]))] [])]), (.ifS (.cmp .ge (.var 2) (.bin .pow (.cst (.int 10)) (.cst (.int 18)))) [(.ret (.lst [(.var 2), (.cst (.int 0)), (.var 2)]))] []), (.ret (.lst [(.cst (.int 0)), (.cst (.int 0)), (.var 2)]))]
noncomputable def L_l_box : Cal := [("_law_mixed", 2, 2, F_l_mixed)]
theorem x_l_box : ∃ f : Sem, f = run (ctxOf L_l_box) 3 B_l_box := ⟨_, rfl⟩
noncomputable def F_l_box : Sem := x_l_box.choose
theorem F_l_box_eq : F_l_box = run (ctxOf L_l_box) 3 B_l_box := x_l_box.choose_spec
theorem b_l_box : trSl (trS 60 t_l_box) (defBody s_l_box) = some B_l_box := by kernel_rfl
def B_l_take : List Stm := [(.set (.var 0) (.cst (.int 1)) (.bin .add (.sub (.var 0) (.cst (.int 1))) (.cst (.int 1)))), (.ifS (.cmp .gt (.sub (.var 0) (.cst (.int 0))) (.cst (.int 0))) [(.asg (.name 2) (.bin .mod (.sub (.var 0) (.cst (.int 0))) (.var 1))), (.set (.var 0) (.cst (.int 0)) (.bin .fdiv (.sub (.var 0) (.cst (.int 0))) (.var 1))), (.ret (.var 2))] []), (.ret (.bin .mod (.call 2 [(.sub (.var 0) (.cst (.int 2))), (.sub (.var 0) (.cst (.int 1)))]) (.var 1)))]
noncomputable def L_l_take : Cal := [("_law_mixed", 2, 2, F_l_mixed)]
theorem x_l_take : ∃ f : Sem, f = run (ctxOf L_l_take) 3 B_l_take := ⟨_, rfl⟩
noncomputable def F_l_take : Sem := x_l_take.choose
theorem F_l_take_eq : F_l_take = run (ctxOf L_l_take) 3 B_l_take := x_l_take.choose_spec
theorem b_l_take : trSl (trS 60 t_l_take) (defBody s_l_take) = some B_l_take := by kernel_rfl
def B_l_whole : List Stm := [(.ret (.and (.isi (.var 0) "int") (.not (.isi (.var 0) "bool"))))]
noncomputable def L_l_whole : Cal := []
theorem x_l_whole : ∃ f : Sem, f = run (ctxOf L_l_whole) 1 B_l_whole := ⟨_, rfl⟩
noncomputable def F_l_whole : Sem := x_l_whole.choose
theorem F_l_whole_eq : F_l_whole = run (ctxOf L_l_whole) 1 B_l_whole := x_l_whole.choose_spec
theorem b_l_whole : trSl (trS 60 t_l_whole) (defBody s_l_whole) = some B_l_whole := by kernel_rfl
def B_l_ties : List Stm := [(.asg (.name 3) (.lst [])), (.for (.name 4) .rng1 [(.var 1)] [(.for (.name 5) .rng2 [(.bin .add (.var 4) (.cst (.int 1))), (.var 1)] [(.ifS (.cmp .eq (.call 4 [(.var 0), (.var 2)]) (.cst (.int 0))) [(.exp (.me .append (.var 3) [(.tup [(.var 4), (.var 5)])]))] [])])]), (.ret (.var 3))]
noncomputable def L_l_ties : Cal := [("_law_take", 4, 2, F_l_take)]
theorem x_l_ties : ∃ f : Sem, f = run (ctxOf L_l_ties) 6 B_l_ties := ⟨_, rfl⟩
noncomputable def F_l_ties : Sem := x_l_ties.choose
theorem F_l_ties_eq : F_l_ties = run (ctxOf L_l_ties) 6 B_l_ties := x_l_ties.choose_spec
theorem b_l_ties : trSl (trS 60 t_l_ties) (defBody s_l_ties) = some B_l_ties := by kernel_rfl
def B_l_row_alike : List Stm := [(.ifS (.or (.not (.isi (.var 0) "list")) (.cmp .ne (.pr .len [(.var 0)]) (.pr .len [(.var 1)]))) [(.ret (.cst (.bl false)))] []), (.ret (.and (.pr .all [(.lc [2] (.name 2) .seq [(.var 0)] [] (.call 5 [(.var 2)]))]) (.cmp .eq (.var 0) (.var 1))))]
noncomputable def L_l_row_alike : Cal := [("_law_whole", 5, 1, F_l_whole)]
theorem x_l_row_alike : ∃ f : Sem, f = run (ctxOf L_l_row_alike) 3 B_l_row_alike := ⟨_, rfl⟩
noncomputable def F_l_row_alike : Sem := x_l_row_alike.choose
theorem F_l_row_alike_eq : F_l_row_alike = run (ctxOf L_l_row_alike) 3 B_l_row_alike := x_l_row_alike.choose_spec
theorem b_l_row_alike : trSl (trS 60 t_l_row_alike) (defBody s_l_row_alike) = some B_l_row_alike := by kernel_rfl
def B_l_rows_alike : List Stm := [(.ifS (.or (.not (.isi (.var 0) "list")) (.cmp .ne (.pr .len [(.var 0)]) (.pr .len [(.var 1)]))) [(.ret (.cst (.bl false)))] []), (.ret (.pr .all [(.lc [2, 3] (.tup [(.name 2), (.name 3)]) .zip [(.var 0), (.var 1)] [] (.call 7 [(.var 2), (.var 3)]))]))]
noncomputable def L_l_rows_alike : Cal := [("_law_row_alike", 7, 2, F_l_row_alike)]
theorem x_l_rows_alike : ∃ f : Sem, f = run (ctxOf L_l_rows_alike) 4 B_l_rows_alike := ⟨_, rfl⟩
noncomputable def F_l_rows_alike : Sem := x_l_rows_alike.choose
theorem F_l_rows_alike_eq : F_l_rows_alike = run (ctxOf L_l_rows_alike) 4 B_l_rows_alike := x_l_rows_alike.choose_spec
theorem b_l_rows_alike : trSl (trS 60 t_l_rows_alike) (defBody s_l_rows_alike) = some B_l_rows_alike := by kernel_rfl
def B_l_near : List Stm := [(.asg (.name 2) (.lst [])), (.for (.name 3) .rng1 [(.var 0)] [(.asg (.name 4) (.lc [5, 6] (.tup [(.name 5), (.name 6)]) .seq [(.var 1)] [(.cmp .eq (.var 6) (.var 3))] (.var 5))), (.exp (.me .append (.var 2) [(.bin .add (.var 4) (.lc [5, 6] (.tup [(.name 5), (.name 6)]) .seq [(.var 1)] [(.cmp .eq (.var 5) (.var 3))] (.var 6)))]))]), (.ret (.var 2))]
noncomputable def L_l_near : Cal := []
theorem x_l_near : ∃ f : Sem, f = run (ctxOf L_l_near) 7 B_l_near := ⟨_, rfl⟩
noncomputable def F_l_near : Sem := x_l_near.choose
theorem F_l_near_eq : F_l_near = run (ctxOf L_l_near) 7 B_l_near := x_l_near.choose_spec
theorem b_l_near : trSl (trS 60 t_l_near) (defBody s_l_near) = some B_l_near := by kernel_rfl
def B_l_ways : List Stm := [(.asg (.name 1) (.cst (.int 1))), (.for (.name 2) .seq [(.var 0)] [(.for (.name 3) .rng2 [(.cst (.int 2)), (.pr .len [(.var 2)])] [(.asg (.name 1) (.bin .mul (.var 1) (.var 3)))])]), (.ret (.var 1))]
noncomputable def L_l_ways : Cal := []
theorem x_l_ways : ∃ f : Sem, f = run (ctxOf L_l_ways) 4 B_l_ways := ⟨_, rfl⟩
noncomputable def F_l_ways : Sem := x_l_ways.choose
theorem F_l_ways_eq : F_l_ways = run (ctxOf L_l_ways) 4 B_l_ways := x_l_ways.choose_spec
theorem b_l_ways : trSl (trS 60 t_l_ways) (defBody s_l_ways) = some B_l_ways := by kernel_rfl
def B_l_law : List Stm := [(.asg (.name 1) (.call 3 [(.var 0), (.cst (.int 0))])), (.asg (.name 2) (.call 4 [(.var 1), (.cst (.int 13))])), (.asg (.name 3) (.call 6 [(.var 1), (.var 2), (.bin .add (.cst (.int 1)) (.call 4 [(.var 1), (.cst (.int 9))]))])), (.asg (.name 4) (.call 9 [(.var 2), (.var 3)])), (.asg (.name 5) (.tup [(.var 2), (.pr .list [(.var 3)])])), (.asg (.name 6) (.call 1 [(.var 5)])), (.asg (.name 7) (.call 0 [(.var 5)])), (.ifS (.or (.not (.call 5 [(.var 6)])) (.or (.cmp .ne (.var 6) (.call 10 [(.var 4)])) (.not (.call 8 [(.var 7), (.var 4)])))) [(.ret (.cst (.bl false)))] []), (.ifS (.cmp .ne (.var 5) (.tup [(.var 2), (.var 3)])) [(.ret (.cst (.bl false)))] []), (.for (.name 8) .seq [(.var 7)] [(.exp (.me .append (.var 8) [(.cst (.int 0))]))]), (.asg (.name 9) (.lc [8] (.name 8) .seq [(.var 4)] [] (.bin .add (.var 8) (.lst [(.cst (.int 0))])))), (.ifS (.or (.cmp .ne (.var 7) (.var 9)) (.not (.call 8 [(.call 0 [(.var 5)]), (.var 4)]))) [(.ret (.cst (.bl false)))] []), (.ifS (.cmp .gt (.pr .len [(.var 3)]) (.cst (.int 0))) [(.asg (.name 10) (.call 4 [(.call 3 [(.var 0), (.cst (.int 1))]), (.pr .len [(.var 3)])])), (.exp (.me .popAt (.sub (.var 5) (.cst (.int 1))) [(.var 10)])), (.asg (.name 4) (.call 9 [(.var 2), (.bin .add (.slH (.var 3) (.var 10)) (.slL (.var 3) (.bin .add (.var 10) (.cst (.int 1)))))]))] []), (.ifS (.or (.not (.call 8 [(.call 0 [(.var 5)]), (.var 4)])) (.cmp .ne (.call 1 [(.var 5)]) (.call 10 [(.var 4)]))) [(.ret (.cst (.bl false)))] []), (.ret (.cmp .eq (.var 7) (.var 9)))]
noncomputable def L_l_law : Cal := [("near_places", 0, 1, F_near_places), ("ways_of", 1, 1, F_ways_of), ("_law_box", 3, 2, F_l_box), ("_law_take", 4, 2, F_l_take), ("_law_whole", 5, 1, F_l_whole), ("_law_ties", 6, 3, F_l_ties), ("_law_rows_alike", 8, 2, F_l_rows_alike), ("_law_near", 9, 2, F_l_near), ("_law_ways", 10, 1, F_l_ways)]
theorem x_l_law : ∃ f : Sem, f = run (ctxOf L_l_law) 11 B_l_law := ⟨_, rfl⟩
noncomputable def F_l_law : Sem := x_l_law.choose
theorem F_l_law_eq : F_l_law = run (ctxOf L_l_law) 11 B_l_law := x_l_law.choose_spec
theorem b_l_law : trSl (trS 60 t_l_law) (defBody s_l_law) = some B_l_law := by kernel_rfl
section
variable {P : Program} {w : World} {K : PySem.W.Frag} {mg : Str → Option Value} {base : Heap} {cl : Nat → Value}
theorem at_near_places {fa : Addr} {fd : FuncData} (F : Fun K "near_places" "near_places" s_near_places fa fd) (hm : mg "near_places" = some (.ref fa)) (hB : Binds K fd ["web"] []) (hb : ∀ x ∈ bnames, mg x = none) : FnAt P w K mg base cl 1 "near_places" 1 F_near_places :=
  F_near_places_eq ▸ fn_ok (k := 0) (N := N_near_places) F hm hB (by decide +kernel) (txOf (L := L_near_places) hb (by decide) .nil cst_nil) (by decide +kernel) b_near_places
theorem at_ways_of {fa : Addr} {fd : FuncData} (F : Fun K "ways_of" "ways_of" s_ways_of fa fd) (hm : mg "ways_of" = some (.ref fa)) (hB : Binds K fd ["web"] []) (hb : ∀ x ∈ bnames, mg x = none) (h_near_places : FnAt P w K mg base cl 1 "near_places" 1 F_near_places) : FnAt P w K mg base cl 2 "ways_of" 1 F_ways_of :=
  F_ways_of_eq ▸ fn_ok (k := 1) (N := N_ways_of) F hm hB (by decide +kernel) (txOf (L := L_ways_of) hb (by decide) (.cons (h_near_places.mono (by decide)) .nil) cst_nil) (by decide +kernel) b_ways_of
theorem at_l_mixed {fa : Addr} {fd : FuncData} (F : Fun K "_law_mixed" "_law_mixed" s_l_mixed fa fd) (hm : mg "_law_mixed" = some (.ref fa)) (hB : Binds K fd ["_law_cell", "_law_k"] []) (hb : ∀ x ∈ bnames, mg x = none) : FnAt P w K mg base cl 1 "_law_mixed" 2 F_l_mixed :=
  F_l_mixed_eq ▸ fn_ok (k := 0) (N := N_l_mixed) F hm hB (by decide +kernel) (txOf (L := L_l_mixed) hb (by decide) .nil cst_nil) (by decide +kernel) b_l_mixed
theorem at_l_box {fa : Addr} {fd : FuncData} (F : Fun K "_law_box" "_law_box" s_l_box fa fd) (hm : mg "_law_box" = some (.ref fa)) (hB : Binds K fd ["_law_script", "_law_k"] []) (hb : ∀ x ∈ bnames, mg x = none) (h_l_mixed : FnAt P w K mg base cl 1 "_law_mixed" 2 F_l_mixed) : FnAt P w K mg base cl 2 "_law_box" 2 F_l_box :=
  F_l_box_eq ▸ fn_ok (k := 1) (N := N_l_box) F hm hB (by decide +kernel) (txOf (L := L_l_box) hb (by decide) (.cons (h_l_mixed.mono (by decide)) .nil) cst_nil) (by decide +kernel) b_l_box
theorem at_l_take {fa : Addr} {fd : FuncData} (F : Fun K "_law_take" "_law_take" s_l_take fa fd) (hm : mg "_law_take" = some (.ref fa)) (hB : Binds K fd ["_law_box_here", "_law_size"] []) (hb : ∀ x ∈ bnames, mg x = none) (h_l_mixed : FnAt P w K mg base cl 1 "_law_mixed" 2 F_l_mixed) : FnAt P w K mg base cl 2 "_law_take" 2 F_l_take :=
  F_l_take_eq ▸ fn_ok (k := 1) (N := N_l_take) F hm hB (by decide +kernel) (txOf (L := L_l_take) hb (by decide) (.cons (h_l_mixed.mono (by decide)) .nil) cst_nil) (by decide +kernel) b_l_take
theorem at_l_whole {fa : Addr} {fd : FuncData} (F : Fun K "_law_whole" "_law_whole" s_l_whole fa fd) (hm : mg "_law_whole" = some (.ref fa)) (hB : Binds K fd ["_law_found"] []) (hb : ∀ x ∈ bnames, mg x = none) : FnAt P w K mg base cl 1 "_law_whole" 1 F_l_whole :=
  F_l_whole_eq ▸ fn_ok (k := 0) (N := N_l_whole) F hm hB (by decide +kernel) (txOf (L := L_l_whole) hb (by decide) .nil cst_nil) (by decide +kernel) b_l_whole
theorem at_l_ties {fa : Addr} {fd : FuncData} (F : Fun K "_law_ties" "_law_ties" s_l_ties fa fd) (hm : mg "_law_ties" = some (.ref fa)) (hB : Binds K fd ["_law_box_here", "_law_many", "_law_thin"] []) (hb : ∀ x ∈ bnames, mg x = none) (h_l_take : FnAt P w K mg base cl 2 "_law_take" 2 F_l_take) : FnAt P w K mg base cl 3 "_law_ties" 3 F_l_ties :=
  F_l_ties_eq ▸ fn_ok (k := 2) (N := N_l_ties) F hm hB (by decide +kernel) (txOf (L := L_l_ties) hb (by decide) (.cons (h_l_take.mono (by decide)) .nil) cst_nil) (by decide +kernel) b_l_ties
theorem at_l_row_alike {fa : Addr} {fd : FuncData} (F : Fun K "_law_row_alike" "_law_row_alike" s_l_row_alike fa fd) (hm : mg "_law_row_alike" = some (.ref fa)) (hB : Binds K fd ["_law_told", "_law_due"] []) (hb : ∀ x ∈ bnames, mg x = none) (h_l_whole : FnAt P w K mg base cl 1 "_law_whole" 1 F_l_whole) : FnAt P w K mg base cl 2 "_law_row_alike" 2 F_l_row_alike :=
  F_l_row_alike_eq ▸ fn_ok (k := 1) (N := N_l_row_alike) F hm hB (by decide +kernel) (txOf (L := L_l_row_alike) hb (by decide) (.cons (h_l_whole.mono (by decide)) .nil) cst_nil) (by decide +kernel) b_l_row_alike
theorem at_l_rows_alike {fa : Addr} {fd : FuncData} (F : Fun K "_law_rows_alike" "_law_rows_alike" s_l_rows_alike fa fd) (hm : mg "_law_rows_alike" = some (.ref fa)) (hB : Binds K fd ["_law_told", "_law_due"] []) (hb : ∀ x ∈ bnames, mg x = none) (h_l_row_alike : FnAt P w K mg base cl 2 "_law_row_alike" 2 F_l_row_alike) : FnAt P w K mg base cl 3 "_law_rows_alike" 2 F_l_rows_alike :=
  F_l_rows_alike_eq ▸ fn_ok (k := 2) (N := N_l_rows_alike) F hm hB (by decide +kernel) (txOf (L := L_l_rows_alike) hb (by decide) (.cons (h_l_row_alike.mono (by decide)) .nil) cst_nil) (by decide +kernel) b_l_rows_alike
theorem at_l_near {fa : Addr} {fd : FuncData} (F : Fun K "_law_near" "_law_near" s_l_near fa fd) (hm : mg "_law_near" = some (.ref fa)) (hB : Binds K fd ["_law_many", "_law_ties_here"] []) (hb : ∀ x ∈ bnames, mg x = none) : FnAt P w K mg base cl 1 "_law_near" 2 F_l_near :=
  F_l_near_eq ▸ fn_ok (k := 0) (N := N_l_near) F hm hB (by decide +kernel) (txOf (L := L_l_near) hb (by decide) .nil cst_nil) (by decide +kernel) b_l_near
theorem at_l_ways {fa : Addr} {fd : FuncData} (F : Fun K "_law_ways" "_law_ways" s_l_ways fa fd) (hm : mg "_law_ways" = some (.ref fa)) (hB : Binds K fd ["_law_near_here"] []) (hb : ∀ x ∈ bnames, mg x = none) : FnAt P w K mg base cl 1 "_law_ways" 1 F_l_ways :=
  F_l_ways_eq ▸ fn_ok (k := 0) (N := N_l_ways) F hm hB (by decide +kernel) (txOf (L := L_l_ways) hb (by decide) .nil cst_nil) (by decide +kernel) b_l_ways
theorem at_l_law {fa : Addr} {fd : FuncData} (F : Fun K "law" "law" s_l_law fa fd) (hb : ∀ x ∈ bnames, mg x = none) (h_near_places : FnAt P w K mg base cl 1 "near_places" 1 F_near_places) (h_ways_of : FnAt P w K mg base cl 2 "ways_of" 1 F_ways_of) (h_l_box : FnAt P w K mg base cl 2 "_law_box" 2 F_l_box) (h_l_take : FnAt P w K mg base cl 2 "_law_take" 2 F_l_take) (h_l_whole : FnAt P w K mg base cl 1 "_law_whole" 1 F_l_whole) (h_l_ties : FnAt P w K mg base cl 3 "_law_ties" 3 F_l_ties) (h_l_rows_alike : FnAt P w K mg base cl 3 "_law_rows_alike" 2 F_l_rows_alike) (h_l_near : FnAt P w K mg base cl 1 "_law_near" 2 F_l_near) (h_l_ways : FnAt P w K mg base cl 1 "_law_ways" 1 F_l_ways) : FnOk P w K mg base (L2.CX P w) 4 fa fd ["_law_script"] (spOf K cl 1 F_l_law) :=
  F_l_law_eq ▸ fn_okX (k := 3) (N := N_l_law) F (by decide +kernel) (txOf (L := L_l_law) hb (by decide) (.cons (h_near_places.mono (by decide)) (.cons (h_ways_of.mono (by decide)) (.cons (h_l_box.mono (by decide)) (.cons (h_l_take.mono (by decide)) (.cons (h_l_whole.mono (by decide)) (.cons (h_l_ties.mono (by decide)) (.cons (h_l_rows_alike.mono (by decide)) (.cons (h_l_near.mono (by decide)) (.cons (h_l_ways.mono (by decide)) .nil))))))))) cst_nil) (by decide +kernel) b_l_law
end
theorem all_mk {l : PySem.W.OpenLaw} {w : World} {K : PySem.W.Frag} {h : Heap} {mg : Str → Option Value} {cl : Nat → Value} {fa f0 f1 f2 f3 f4 f5 f6 f7 f8 f9 f10 f11 : Addr} (X : K.In h) (G : h.Ns mainGlobals mg) (hfa : mg "law" = some (.ref fa))
    {d0 e0 d1 e1 d2 e2 d3 e3 d4 e4 d5 e5 d6 e6 d7 e7 d8 e8 d9 e9 d10 e10 d11 e11 : Option Addr} {sl0 sl1 sl2 sl3 sl4 sl5 sl6 sl7 sl8 sl9 sl10 sl11 : Array (Option Value)} {oc0 kv0 dc0 pm0 cd0 ct0 oc1 kv1 dc1 pm1 cd1 ct1 oc2 kv2 dc2 pm2 cd2 ct2 oc3 kv3 dc3 pm3 cd3 ct3 oc4 kv4 dc4 pm4 cd4 ct4 oc5 kv5 dc5 pm5 cd5 ct5 oc6 kv6 dc6 pm6 cd6 ct6 oc7 kv7 dc7 pm7 cd7 ct7 oc8 kv8 dc8 pm8 cd8 ct8 oc9 kv9 dc9 pm9 cd9 ct9 oc10 kv10 dc10 pm10 cd10 ct10 oc11 kv11 dc11 pm11 cd11 ct11 : Value}
    (a0 : PySem.W.nsIn K mainGlobals "near_places" = some (some (.ref f0))) (l0 : K.lookup f0 = some ⟨oc0, d0, .func (PySem.W.fnOf "near_places" "near_places" (defArgs s_near_places) (defBody s_near_places) (defScope s_near_places) .none kv0 dc0 pm0 e0 cd0 ct0), sl0⟩) (c0 : PySem.W.codeIn K cd0 "near_places" = true) (k0 : PySem.W.keepIn K (.ref f0) = true)
    (a1 : PySem.W.nsIn K mainGlobals "ways_of" = some (some (.ref f1))) (l1 : K.lookup f1 = some ⟨oc1, d1, .func (PySem.W.fnOf "ways_of" "ways_of" (defArgs s_ways_of) (defBody s_ways_of) (defScope s_ways_of) .none kv1 dc1 pm1 e1 cd1 ct1), sl1⟩) (c1 : PySem.W.codeIn K cd1 "ways_of" = true) (k1 : PySem.W.keepIn K (.ref f1) = true)
    (a2 : PySem.W.nsIn K mainGlobals "_law_mixed" = some (some (.ref f2))) (l2 : K.lookup f2 = some ⟨oc2, d2, .func (PySem.W.fnOf "_law_mixed" "_law_mixed" (defArgs s_l_mixed) (defBody s_l_mixed) (defScope s_l_mixed) .none kv2 dc2 pm2 e2 cd2 ct2), sl2⟩) (c2 : PySem.W.codeIn K cd2 "_law_mixed" = true) (k2 : PySem.W.keepIn K (.ref f2) = true)
    (a3 : PySem.W.nsIn K mainGlobals "_law_box" = some (some (.ref f3))) (l3 : K.lookup f3 = some ⟨oc3, d3, .func (PySem.W.fnOf "_law_box" "_law_box" (defArgs s_l_box) (defBody s_l_box) (defScope s_l_box) .none kv3 dc3 pm3 e3 cd3 ct3), sl3⟩) (c3 : PySem.W.codeIn K cd3 "_law_box" = true) (k3 : PySem.W.keepIn K (.ref f3) = true)
    (a4 : PySem.W.nsIn K mainGlobals "_law_take" = some (some (.ref f4))) (l4 : K.lookup f4 = some ⟨oc4, d4, .func (PySem.W.fnOf "_law_take" "_law_take" (defArgs s_l_take) (defBody s_l_take) (defScope s_l_take) .none kv4 dc4 pm4 e4 cd4 ct4), sl4⟩) (c4 : PySem.W.codeIn K cd4 "_law_take" = true) (k4 : PySem.W.keepIn K (.ref f4) = true)
    (a5 : PySem.W.nsIn K mainGlobals "_law_whole" = some (some (.ref f5))) (l5 : K.lookup f5 = some ⟨oc5, d5, .func (PySem.W.fnOf "_law_whole" "_law_whole" (defArgs s_l_whole) (defBody s_l_whole) (defScope s_l_whole) .none kv5 dc5 pm5 e5 cd5 ct5), sl5⟩) (c5 : PySem.W.codeIn K cd5 "_law_whole" = true) (k5 : PySem.W.keepIn K (.ref f5) = true)
    (a6 : PySem.W.nsIn K mainGlobals "_law_ties" = some (some (.ref f6))) (l6 : K.lookup f6 = some ⟨oc6, d6, .func (PySem.W.fnOf "_law_ties" "_law_ties" (defArgs s_l_ties) (defBody s_l_ties) (defScope s_l_ties) .none kv6 dc6 pm6 e6 cd6 ct6), sl6⟩) (c6 : PySem.W.codeIn K cd6 "_law_ties" = true) (k6 : PySem.W.keepIn K (.ref f6) = true)
    (a7 : PySem.W.nsIn K mainGlobals "_law_row_alike" = some (some (.ref f7))) (l7 : K.lookup f7 = some ⟨oc7, d7, .func (PySem.W.fnOf "_law_row_alike" "_law_row_alike" (defArgs s_l_row_alike) (defBody s_l_row_alike) (defScope s_l_row_alike) .none kv7 dc7 pm7 e7 cd7 ct7), sl7⟩) (c7 : PySem.W.codeIn K cd7 "_law_row_alike" = true) (k7 : PySem.W.keepIn K (.ref f7) = true)
    (a8 : PySem.W.nsIn K mainGlobals "_law_rows_alike" = some (some (.ref f8))) (l8 : K.lookup f8 = some ⟨oc8, d8, .func (PySem.W.fnOf "_law_rows_alike" "_law_rows_alike" (defArgs s_l_rows_alike) (defBody s_l_rows_alike) (defScope s_l_rows_alike) .none kv8 dc8 pm8 e8 cd8 ct8), sl8⟩) (c8 : PySem.W.codeIn K cd8 "_law_rows_alike" = true) (k8 : PySem.W.keepIn K (.ref f8) = true)
    (a9 : PySem.W.nsIn K mainGlobals "_law_near" = some (some (.ref f9))) (l9 : K.lookup f9 = some ⟨oc9, d9, .func (PySem.W.fnOf "_law_near" "_law_near" (defArgs s_l_near) (defBody s_l_near) (defScope s_l_near) .none kv9 dc9 pm9 e9 cd9 ct9), sl9⟩) (c9 : PySem.W.codeIn K cd9 "_law_near" = true) (k9 : PySem.W.keepIn K (.ref f9) = true)
    (a10 : PySem.W.nsIn K mainGlobals "_law_ways" = some (some (.ref f10))) (l10 : K.lookup f10 = some ⟨oc10, d10, .func (PySem.W.fnOf "_law_ways" "_law_ways" (defArgs s_l_ways) (defBody s_l_ways) (defScope s_l_ways) .none kv10 dc10 pm10 e10 cd10 ct10), sl10⟩) (c10 : PySem.W.codeIn K cd10 "_law_ways" = true) (k10 : PySem.W.keepIn K (.ref f10) = true)
    (a11 : PySem.W.nsIn K mainGlobals "law" = some (some (.ref f11))) (l11 : K.lookup f11 = some ⟨oc11, d11, .func (PySem.W.fnOf "law" "law" (defArgs s_l_law) (defBody s_l_law) (defScope s_l_law) .none kv11 dc11 pm11 e11 cd11 ct11), sl11⟩) (c11 : PySem.W.codeIn K cd11 "law" = true) (k11 : PySem.W.keepIn K (.ref f11) = true)
    (z0 : PySem.W.nsIn K mainGlobals "len" = some none) (z1 : PySem.W.nsIn K mainGlobals "sum" = some none) (z2 : PySem.W.nsIn K mainGlobals "max" = some none) (z3 : PySem.W.nsIn K mainGlobals "min" = some none) (z4 : PySem.W.nsIn K mainGlobals "sorted" = some none) (z5 : PySem.W.nsIn K mainGlobals "abs" = some none) (z6 : PySem.W.nsIn K mainGlobals "all" = some none) (z7 : PySem.W.nsIn K mainGlobals "any" = some none) (z8 : PySem.W.nsIn K mainGlobals "str" = some none) (z9 : PySem.W.nsIn K mainGlobals "int" = some none) (z10 : PySem.W.nsIn K mainGlobals "list" = some none) (z11 : PySem.W.nsIn K mainGlobals "tuple" = some none) (z12 : PySem.W.nsIn K mainGlobals "range" = some none) (z13 : PySem.W.nsIn K mainGlobals "enumerate" = some none) (z14 : PySem.W.nsIn K mainGlobals "zip" = some none) (z15 : PySem.W.nsIn K mainGlobals "reversed" = some none) (z16 : PySem.W.nsIn K mainGlobals "isinstance" = some none) (z17 : PySem.W.nsIn K mainGlobals "bool" = some none) (z18 : PySem.W.nsIn K mainGlobals "dict" = some none) :
    ∃ fd : FuncData, (∀ (s : Shared) (v : Value), BindsTo s fd ⟨[v], []⟩ [("_law_script", v)]) ∧ ∀ base : Heap, K.In base → base.Ns mainGlobals mg → FnOk l.prog w K mg base (L2.CX l.prog w) 4 fa fd ["_law_script"] (spOf K cl 1 F_l_law) := by
  have e := hfa.symm.trans (PySem.W.mg_of X G a11)
  cases e
  have hb : ∀ x ∈ bnames, mg x = none := by
    intro x hx
    simp only [bnames, List.mem_cons, List.not_mem_nil, or_false] at hx
    rcases hx with rfl | rfl | rfl | rfl | rfl | rfl | rfl | rfl | rfl | rfl | rfl | rfl | rfl | rfl | rfl | rfl | rfl | rfl | rfl
    · exact PySem.W.mg_none_of X G z0
    · exact PySem.W.mg_none_of X G z1
    · exact PySem.W.mg_none_of X G z2
    · exact PySem.W.mg_none_of X G z3
    · exact PySem.W.mg_none_of X G z4
    · exact PySem.W.mg_none_of X G z5
    · exact PySem.W.mg_none_of X G z6
    · exact PySem.W.mg_none_of X G z7
    · exact PySem.W.mg_none_of X G z8
    · exact PySem.W.mg_none_of X G z9
    · exact PySem.W.mg_none_of X G z10
    · exact PySem.W.mg_none_of X G z11
    · exact PySem.W.mg_none_of X G z12
    · exact PySem.W.mg_none_of X G z13
    · exact PySem.W.mg_none_of X G z14
    · exact PySem.W.mg_none_of X G z15
    · exact PySem.W.mg_none_of X G z16
    · exact PySem.W.mg_none_of X G z17
    · exact PySem.W.mg_none_of X G z18
  have F0 := fun_mk (st := s_near_places) l0 c0 k0
  have b0 := F0.binds (ps := ["web"]) fun _ _ _ _ _ _ us hl => match us, hl with | [_], _ => rfl
  have F1 := fun_mk (st := s_ways_of) l1 c1 k1
  have b1 := F1.binds (ps := ["web"]) fun _ _ _ _ _ _ us hl => match us, hl with | [_], _ => rfl
  have F2 := fun_mk (st := s_l_mixed) l2 c2 k2
  have b2 := F2.binds (ps := ["_law_cell", "_law_k"]) fun _ _ _ _ _ _ us hl => match us, hl with | [_, _], _ => rfl
  have F3 := fun_mk (st := s_l_box) l3 c3 k3
  have b3 := F3.binds (ps := ["_law_script", "_law_k"]) fun _ _ _ _ _ _ us hl => match us, hl with | [_, _], _ => rfl
  have F4 := fun_mk (st := s_l_take) l4 c4 k4
  have b4 := F4.binds (ps := ["_law_box_here", "_law_size"]) fun _ _ _ _ _ _ us hl => match us, hl with | [_, _], _ => rfl
  have F5 := fun_mk (st := s_l_whole) l5 c5 k5
  have b5 := F5.binds (ps := ["_law_found"]) fun _ _ _ _ _ _ us hl => match us, hl with | [_], _ => rfl
  have F6 := fun_mk (st := s_l_ties) l6 c6 k6
  have b6 := F6.binds (ps := ["_law_box_here", "_law_many", "_law_thin"]) fun _ _ _ _ _ _ us hl => match us, hl with | [_, _, _], _ => rfl
  have F7 := fun_mk (st := s_l_row_alike) l7 c7 k7
  have b7 := F7.binds (ps := ["_law_told", "_law_due"]) fun _ _ _ _ _ _ us hl => match us, hl with | [_, _], _ => rfl
  have F8 := fun_mk (st := s_l_rows_alike) l8 c8 k8
  have b8 := F8.binds (ps := ["_law_told", "_law_due"]) fun _ _ _ _ _ _ us hl => match us, hl with | [_, _], _ => rfl
  have F9 := fun_mk (st := s_l_near) l9 c9 k9
  have b9 := F9.binds (ps := ["_law_many", "_law_ties_here"]) fun _ _ _ _ _ _ us hl => match us, hl with | [_, _], _ => rfl
  have F10 := fun_mk (st := s_l_ways) l10 c10 k10
  have b10 := F10.binds (ps := ["_law_near_here"]) fun _ _ _ _ _ _ us hl => match us, hl with | [_], _ => rfl
  have F11 := fun_mk (st := s_l_law) l11 c11 k11
  refine ⟨PySem.W.fnOf "law" "law" (defArgs s_l_law) (defBody s_l_law) (defScope s_l_law) .none kv11 dc11 pm11 e11 cd11 ct11, fun s v => .of_eq rfl, fun base _ _ => ?_⟩
  have h0 : FnAt l.prog w K mg base cl 1 "near_places" 1 F_near_places := at_near_places F0 (PySem.W.mg_of X G a0) b0 hb
  have h1 : FnAt l.prog w K mg base cl 2 "ways_of" 1 F_ways_of := at_ways_of F1 (PySem.W.mg_of X G a1) b1 hb h0
  have h2 : FnAt l.prog w K mg base cl 1 "_law_mixed" 2 F_l_mixed := at_l_mixed F2 (PySem.W.mg_of X G a2) b2 hb
  have h3 : FnAt l.prog w K mg base cl 2 "_law_box" 2 F_l_box := at_l_box F3 (PySem.W.mg_of X G a3) b3 hb h2
  have h4 : FnAt l.prog w K mg base cl 2 "_law_take" 2 F_l_take := at_l_take F4 (PySem.W.mg_of X G a4) b4 hb h2
  have h5 : FnAt l.prog w K mg base cl 1 "_law_whole" 1 F_l_whole := at_l_whole F5 (PySem.W.mg_of X G a5) b5 hb
  have h6 : FnAt l.prog w K mg base cl 3 "_law_ties" 3 F_l_ties := at_l_ties F6 (PySem.W.mg_of X G a6) b6 hb h4
  have h7 : FnAt l.prog w K mg base cl 2 "_law_row_alike" 2 F_l_row_alike := at_l_row_alike F7 (PySem.W.mg_of X G a7) b7 hb h5
  have h8 : FnAt l.prog w K mg base cl 3 "_law_rows_alike" 2 F_l_rows_alike := at_l_rows_alike F8 (PySem.W.mg_of X G a8) b8 hb h7
  have h9 : FnAt l.prog w K mg base cl 1 "_law_near" 2 F_l_near := at_l_near F9 (PySem.W.mg_of X G a9) b9 hb
  have h10 : FnAt l.prog w K mg base cl 1 "_law_ways" 1 F_l_ways := at_l_ways F10 (PySem.W.mg_of X G a10) b10 hb
  exact at_l_law F11 hb h0 h1 h3 h4 h5 h6 h8 h9 h10
end Lk02
namespace Lk02
open PySem L2 Mi
def mix (c k : Int) : Int := ((c % 2147483647 + 1009 * k * k + 48611 * k + 17) ^ 5 % 2147483647 * 39373 + 7919 * k) % 1000000007
theorem mix_nn (c k : Int) : 0 ≤ mix c k := Int.emod_nonneg _ (by decide)
theorem F_mixed_eq (c k : Int) (S : Store) (h0 : 0 ≤ k) (h1 : k ≤ 1000000) : F_l_mixed [.int c, .int k] S = .ok (.int (mix c k)) S := by
  have a1 : mulOk 1009 k = true := mulOk_l (by decide)
  have a2 : mulOk (1009 * k) k = true := mulOk_r (by omega)
  have a3 : mulOk 48611 k = true := mulOk_l (by decide)
  have a4 : mulOk 7919 k = true := mulOk_l (by decide)
  have hk : 0 ≤ 1009 * k * k ∧ 1009 * k * k ≤ 1009 * 1000000 * 1000000 := by
    have h2 : 1009 * k ≤ 1009 * 1000000 := by omega
    exact ⟨Int.mul_nonneg (by omega) h0, Int.mul_le_mul h2 h1 h0 (by decide)⟩
  have hc := Int.emod_nonneg c (b := 2147483647) (by decide)
  have hc2 := Int.emod_lt_of_pos c (b := 2147483647) (by decide)
  have a5 : (c % 2147483647 + 1009 * k * k + 48611 * k + 17).natAbs < 2 ^ 64 := by omega
  generalize hb : c % 2147483647 + 1009 * k * k + 48611 * k + 17 = b at a5
  have a6 : ∀ x : Int, mulOk x 39373 = true := fun x => mulOk_r (by decide)
  simp [F_l_mixed_eq, run_fin, B_l_mixed, a1, a2, a3, a4, a6, hb, a5, mix]
def Box (S : Store) (b : Nat) (j : Int) : Prop := ∃ a c : Int, 0 ≤ a ∧ S[b]? = some (.lst [.int a, .int j, .int c])
theorem fro_at {ns : List Int} {k : Nat} (h : k < ns.length) : (ns.map Val.int)[k]? = some (.int ns[k]) := by
  rw [List.getElem?_map, List.getElem?_eq_getElem h]; rfl
theorem F_box_ok (ns : List Int) (k : Nat) (S : Store) (h1 : k ≤ 1000) : ∃ a c : Int, 0 ≤ a ∧ F_l_box [scr ns, .int k] S = .ok (.ref S.length) (S ++ [.lst [.int a, .int 0, .int c]]) := by
  have m1 := F_mixed_eq ((k : Int) + 5) k S (by omega) (by omega)
  have cal : ctxOf L_l_box 2 = some (2, F_l_mixed) := rfl
  by_cases h : k < ns.length
  · have i1 := item_fro (S := S) (fro_at h)
    have h' : (k : Int) < ns.length := by omega
    generalize ns[k] = c at i1
    by_cases hg : (1000000000000000000 : Int) ≤ c
    · refine ⟨c, c, by omega, ?_⟩
      simp [F_l_box_eq, run_fin, B_l_box, cal, m1, scr, h', i1, hg]
    · refine ⟨0, c, by omega, ?_⟩
      simp [F_l_box_eq, run_fin, B_l_box, cal, m1, scr, h', i1, hg]
  · have h' : ¬ (k : Int) < ns.length := by omega
    by_cases hz : ns.length = 0
    · have hz' : ns = [] := List.length_eq_zero_iff.mp hz
      subst hz'
      have h'' : ¬ (k : Int) < 0 := by omega
      generalize mix (k + 5) k = c at m1
      by_cases hg : (1000000000000000000 : Int) ≤ c
      · refine ⟨c, c, by omega, ?_⟩
        simp [F_l_box_eq, run_fin, B_l_box, cal, m1, scr, h'', hg]
      · refine ⟨0, c, by omega, ?_⟩
        simp [F_l_box_eq, run_fin, B_l_box, cal, m1, scr, h'', hg]
    · have hp : k % ns.length < ns.length := Nat.mod_lt _ (by omega)
      have i1 := item_fro (S := S) (fro_at hp)
      rw [Int.natCast_emod] at i1
      have m2 := F_mixed_eq ns[k % ns.length] k S (by omega) (by omega)
      have hz' : 0 < ns.length := by omega
      generalize ns[k % ns.length] = c' at i1 m2
      generalize mix c' k = c at m2
      by_cases hg : (1000000000000000000 : Int) ≤ c
      · refine ⟨c, c, by omega, ?_⟩
        simp [F_l_box_eq, run_fin, B_l_box, cal, m1, scr, h', hz', i1, m2, hg]
      · refine ⟨0, c, by omega, ?_⟩
        simp [F_l_box_eq, run_fin, B_l_box, cal, m1, scr, h', hz', i1, m2, hg]
theorem F_take_ok {S : Store} {b : Nat} {a j c n : Int} (h : S[b]? = some (.lst [.int a, .int j, .int c])) (ha : 0 ≤ a) (hj : 0 ≤ j) (hj2 : j ≤ 100000) (hn : 0 < n) (hn2 : n ≤ 1000000) :
    ∃ d a' : Int, 0 ≤ d ∧ d < n ∧ 0 ≤ a' ∧ F_l_take [.ref b, .int n] S = .ok (.int d) (S.set b (.lst [.int a', .int (j + 1), .int c])) := by
  have hb := (List.getElem?_eq_some_iff.mp h).1
  have i1 : item S (.ref b) (.int 1) = some (.int j) := item_lst S (i := 1) h rfl (by decide)
  have g1 : ∀ o, (S.set b o)[b]? = some o := fun o => by rw [List.getElem?_set_self hb]
  have m1 := F_mixed_eq c (j + 1) (S.set b (.lst [.int a, .int (j + 1), .int c])) (by omega) (by omega)
  have lg : n.natAbs.log2 < 9000 := by
    have : n.natAbs < 2 ^ 9000 := Nat.lt_of_le_of_lt (show n.natAbs ≤ 2 ^ 20 by omega) (Nat.pow_lt_pow_right (by decide) (by decide))
    by_cases hz : n.natAbs = 0
    · rw [hz]; decide
    · exact (Nat.log2_lt hz).mpr this
  have cal : ctxOf L_l_take 2 = some (2, F_l_mixed) := rfl
  have i2 : ∀ x : Int, item (S.set b (.lst [.int x, .int (j + 1), .int c])) (.ref b) (.int 0) = some (.int x) := fun x => item_lst _ (i := 0) (g1 _) rfl (by decide)
  have i3 : ∀ x : Int, item (S.set b (.lst [.int x, .int (j + 1), .int c])) (.ref b) (.int 1) = some (.int (j + 1)) := fun x => item_lst _ (i := 1) (g1 _) rfl (by decide)
  have i4 : ∀ x : Int, item (S.set b (.lst [.int x, .int (j + 1), .int c])) (.ref b) (.int 2) = some (.int c) := fun x => item_lst _ (i := 2) (g1 _) rfl (by decide)
  have s1 : setop S (.ref b) (.int 1) (.int (j + 1)) = some (S.set b (.lst [.int a, .int (j + 1), .int c])) := by
    unfold setop
    simp only [h]
    rfl
  have s2 : ∀ x y : Int, setop (S.set b (.lst [.int x, .int (j + 1), .int c])) (.ref b) (.int 0) (.int y) = some (S.set b (.lst [.int y, .int (j + 1), .int c])) := fun x y => by
    unfold setop
    simp only [g1]
    show some ((S.set b _).set b _) = _
    rw [List.set_set]
    rfl
  by_cases hp : 0 < a
  · refine ⟨a % n, a / n, Int.emod_nonneg _ (by omega), Int.emod_lt_of_pos _ hn, Int.ediv_nonneg ha (by omega), ?_⟩
    simp [F_l_take_eq, run_fin, B_l_take, i1, s1, i2, i3, i4, s2, hp, hn, lg]
  · refine ⟨mix c (j + 1) % n, a, Int.emod_nonneg _ (by omega), Int.emod_lt_of_pos _ hn, ha, ?_⟩
    simp [F_l_take_eq, run_fin, B_l_take, i1, s1, i2, i3, i4, s2, hp, hn, lg, cal, m1]
end Lk02
namespace Lk02
open PySem L2 Mi
@[simp] theorem kit_ii : L2.kitB "int" "int" = some true := by decide
@[simp] theorem kit_ib : L2.kitB "int" "bool" = some false := by decide
@[simp] theorem kit_ll : L2.kitB "list" "list" = some true := by decide
theorem F_whole_eq (x : Int) (S : Store) : F_l_whole [.int x] S = .ok (.bl true) S := by
  simp [F_l_whole_eq, run_fin, B_l_whole, tyIn, tyOf]
theorem bls_true (n : Nat) : blsOf (List.replicate n (Val.bl true)) = some (List.replicate n true) := by
  induction n with
  | zero => rfl
  | succ n ih => rw [List.replicate_succ, List.replicate_succ, blsOf, ih]; rfl
theorem cal_ra : ctxOf L_l_row_alike 5 = some (1, F_l_whole) := rfl
theorem all_true {S : Store} {r n : Nat} (h : S[r]? = some (.lst (List.replicate n (.bl true)))) : prim .all [.ref r] S = some (.bl true, S) := by
  have : (List.replicate n true).all id = true := by rw [List.all_eq_true]; intro x hx; rw [List.mem_replicate] at hx; exact hx.2
  show P.of ((lstOf S (.ref r)).bind fun xs => (blsOf xs).map fun bs => .bl (bs.all id)) S = _
  simp only [lstOf_ref, h]
  show P.of ((blsOf _).map _) S = _
  rw [bls_true]
  show some (Val.bl (List.all _ id), S) = _
  rw [this]
theorem F_row_alike_eq {S : Store} {r q : Nat} {xs : List Int} (h : S[r]? = some (obI xs)) (h' : S[q]? = some (obI xs)) (hz : xs.length ≤ 1000000) : F_l_row_alike [.ref r, .ref q] S = .ok (.bl true) (S ++ [.lst (List.replicate xs.length (.bl true))]) := by
  have e1 : S[r]? = some (.lst (xs.map Val.int)) := h
  have e2 : S[q]? = some (.lst (xs.map Val.int)) := h'
  have g1 : ∀ T, (S ++ T)[r]? = some (obI xs) := fun T => get_app T h
  have g2 : ∀ T, (S ++ T)[q]? = some (obI xs) := fun T => get_app T h'
  have lc : cloop (IV.seq (.ref r)).next (cstep (ctxOf L_l_row_alike) [2] (.name 2) [] (.call 5 [.var 2]) [some (.ref r), some (.ref q), none] S.length) ((IV.seq (.ref r)).cnt S) 0 (S ++ [.lst []]) = .ok () (S ++ [.lst (List.replicate xs.length (.bl true))]) := by
    have hc : (IV.seq (.ref r)).cnt S = (xs.map Val.int).length := by show ((lstOf S (.ref r)).getD []).length = _; simp [e1]
    have := lc_pick (S := S) (iv := .seq (.ref r)) (step := cstep (ctxOf L_l_row_alike) [2] (.name 2) [] (.call 5 [.var 2]) [some (.ref r), some (.ref q), none] S.length) (xs.map Val.int) (fun _ => true) (fun _ => .bl true) (fun acc j => ?_) (by rw [hc]; exact Nat.le_refl _) (by rw [List.length_map]; exact hz) (fun v hv acc => ?_)
    · rw [this]
      have : ((xs.map Val.int).filter fun _ => true).map (fun _ => Val.bl true) = List.replicate xs.length (.bl true) := by
        rw [List.filter_eq_self.mpr (fun _ _ => rfl), List.map_map]
        exact List.map_const' ..
      rw [this]
    · show (lstOf _ (.ref r)).map _ = _
      simp only [lstOf_ref, g1, obI]
      rfl
    · obtain ⟨x, _, rfl⟩ := List.mem_map.mp hv
      simp [cstep, wipeE, cal_ra, F_whole_eq]
  have al := all_true (S := S ++ [.lst (List.replicate xs.length (.bl true))]) (r := S.length) (n := xs.length) (get_end ..)
  have eqq := eq_row (g1 [.lst (List.replicate xs.length (.bl true))]) (g2 [.lst (List.replicate xs.length (.bl true))])
  simp [F_l_row_alike_eq, run_fin, B_l_row_alike, tyIn, e1, e2, lc, al, eqq]
theorem cal_rs : ctxOf L_l_rows_alike 7 = some (2, F_l_row_alike) := rfl
theorem F_rows_alike_ok {S : Store} {v w : Val} {L : List (List Int)} (h : Rw S v L) (h' : Rw S w L) (hz : L.length ≤ 1000) (hr : ∀ row ∈ L, row.length ≤ 1000000) : ∃ T, F_l_rows_alike [v, w] S = .ok (.bl true) (S ++ T) := by
  obtain ⟨r, rs, rfl, a1, a2, a3⟩ := h
  obtain ⟨q, qs, rfl, b1, b2, b3⟩ := h'
  have lc : RT ((cloop (IV.zp (.ref r) (.ref q)).next (cstep (ctxOf L_l_rows_alike) [2, 3] (.tup [.name 2, .name 3]) [] (.call 7 [.var 2, .var 3]) [some (.ref r), some (.ref q), none, none] S.length) ((IV.zp (.ref r) (.ref q)).cnt S) 0 (S ++ [.lst []])).bind fun _ S1 => R.ok (Val.ref S.length) S1)
      (fun v S1 => v = Val.ref S.length ∧ ∃ T, S1 = S ++ Ob.lst (List.replicate L.length (.bl true)) :: T) := by
    have hl : (List.zipWith (fun x y => Val.tup [.ref x, .ref y]) rs qs).length = L.length := by rw [List.length_zipWith, a2, b2, Nat.min_self]
    refine lc_rule (List.zipWith (fun x y => Val.tup [.ref x, .ref y]) rs qs) (fun k S1 => ∃ T, S1 = S ++ Ob.lst (List.replicate k (.bl true)) :: T) (fun k S1 j ⟨T, e⟩ => ?_) ⟨[], rfl⟩ ?_ (fun k v S1 hv ⟨T, e⟩ => ?_) (fun S1 ⟨T, e⟩ => ⟨rfl, T, by rw [e, hl]⟩)
    · subst e
      show (match lstOf _ (.ref r), lstOf _ (.ref q) with | some xs, some ys => some (match xs[j]?, ys[j]? with | some x, some y => some (Val.tup [x, y]) | _, _ => none) | _, _ => none) = _
      simp only [lstOf_ref, get_app _ a1, get_app _ b1, List.getElem?_map, List.getElem?_zipWith]
      cases rs[j]? <;> cases qs[j]? <;> rfl
    · show _ ≤ min ((lstOf S (.ref r)).getD []).length ((lstOf S (.ref q)).getD []).length
      simp only [lstOf_ref, a1, b1, Option.getD_some, List.length_map, a2, b2, hl, Nat.min_self]
      exact Nat.le_refl _
    · subst e
      have hk : k < L.length := by rw [← hl]; exact (List.getElem?_eq_some_iff.mp hv).1
      rw [List.getElem?_zipWith] at hv
      have ek1 : rs[k]? = some rs[k] := List.getElem?_eq_getElem (by omega)
      have ek2 : qs[k]? = some qs[k] := List.getElem?_eq_getElem (by omega)
      rw [ek1, ek2] at hv
      cases hv
      have c1 := get_app (.lst (List.replicate k (.bl true)) :: T) (a3 k _ _ ek1 (List.getElem?_eq_getElem hk))
      have c2 := get_app (.lst (List.replicate k (.bl true)) :: T) (b3 k _ _ ek2 (List.getElem?_eq_getElem hk))
      have f := F_row_alike_eq c1 c2 (hr _ (List.getElem_mem hk))
      have p : ∀ Z, push S.length (.bl true) (S ++ .lst (List.replicate k (.bl true)) :: Z) = .ok () (S ++ .lst (List.replicate (k + 1) (.bl true)) :: Z) := fun Z => by
        rw [push_ok (get_end ..) (by rw [List.length_replicate]; have := line_big; omega), set_end, ← List.replicate_succ']
      simp only [List.append_assoc, List.cons_append] at f
      simp [cstep, wipeE, cal_rs, f, p]
  obtain ⟨v, S1, e1, rfl, T, rfl⟩ := lc.get
  have al := all_true (S := S ++ .lst (List.replicate L.length (.bl true)) :: T) (r := S.length) (n := L.length) (get_end ..)
  refine ⟨.lst (List.replicate L.length (.bl true)) :: T, ?_⟩
  simp [F_l_rows_alike_eq, run_fin, B_l_rows_alike, tyIn, a1, b1, a2, b2, e1, al]
end Lk02
namespace Lk02
open Mi
/-- a tie as the law makes it -/
def pv (p : Nat × Nat) : Val := .tup [.int p.1, .int p.2]
def lex (p q : Nat × Nat) : Prop := p.1 < q.1 ∨ (p.1 = q.1 ∧ p.2 < q.2)
/-- ties of n places, in their order, all before (one, two) -/
structure Ties (n one two : Nat) (l : List (Nat × Nat)) : Prop where
  ord : l.Pairwise lex
  ok : ∀ p ∈ l, p.1 < p.2 ∧ p.2 < n
  bef : ∀ p ∈ l, p.1 < one ∨ (p.1 = one ∧ p.2 < two)
theorem Ties.add {n one two : Nat} {l : List (Nat × Nat)} (h : Ties n one two l) (h1 : one < two) (h2 : two < n) : Ties n one (two + 1) (l ++ [(one, two)]) := by
  refine ⟨?_, ?_, ?_⟩
  · rw [List.pairwise_append]
    refine ⟨h.ord, List.pairwise_singleton .., fun p hp q hq => ?_⟩
    rw [List.mem_singleton] at hq
    subst hq
    exact h.bef p hp
  · intro p hp
    rcases List.mem_append.mp hp with hp | hp -- (here)
    · exact h.ok p hp
    · rw [List.mem_singleton] at hp
      subst hp
      exact ⟨h1, h2⟩
  · intro p hp
    rcases List.mem_append.mp hp with hp | hp -- (here)
    · rcases h.bef p hp with e | e
      · exact .inl e
      · exact .inr ⟨e.1, by omega⟩
    · rw [List.mem_singleton] at hp
      subst hp
      exact .inr ⟨rfl, by show two < two + 1; omega⟩
theorem Ties.weak {n one two one' two' : Nat} {l : List (Nat × Nat)} (h : Ties n one two l) (hw : one < one' ∨ (one = one' ∧ two ≤ two')) : Ties n one' two' l :=
  ⟨h.ord, h.ok, fun p hp => by
    rcases h.bef p hp with e | e
    · rcases hw with w | w
      · exact .inl (by omega)
      · exact .inl (by omega)
    · rcases hw with w | w
      · exact .inl (by omega)
      · exact .inr ⟨by omega, by omega⟩⟩
theorem set_same {S : Store} {b : Nat} {o : Ob} (h : S[b]? = some o) : S.set b o = S := by
  apply List.ext_getElem?
  intro i
  rw [List.getElem?_set]
  by_cases e : b = i
  · subst e
    rw [if_pos rfl, h, if_pos (get_lt h)]
  · rw [if_neg e]
/-- the box as it stands, the list so far -/
def St (S : Store) (b : Nat) (c a' j' : Int) (l : List (Nat × Nat)) : Store := S.set b (.lst [.int a', .int j', .int c]) ++ [.lst (l.map pv)]
theorem cal_ti : ctxOf L_l_ties 4 = some (2, F_l_take) := rfl
/-- in the loops: before (one, two), after m takes -/
def TInv (S : Store) (b n : Nat) (t c j : Int) (m one two : Nat) (x : Option Val) (ρ : Env) (S1 : Store) : Prop := ∃ y, ρ = [some (.ref b), some (.int n), some (.int t), some (.ref S.length), x, y] ∧
  ∃ (a' j' : Int) (l : List (Nat × Nat)), 0 ≤ a' ∧ 0 ≤ j' ∧ j' ≤ j + m ∧ l.length ≤ m ∧ Ties n one two l ∧ S1 = St S b c a' j' l
theorem F_ties_ok {S : Store} {b n : Nat} {a j c t : Int} (h : S[b]? = some (.lst [.int a, .int j, .int c])) (ha : 0 ≤ a) (hj : 0 ≤ j) (hj2 : j ≤ 1000) (hn : n ≤ 30) (ht : 0 < t) (ht2 : t ≤ 1000) :
    ∃ (a' j' : Int) (l : List (Nat × Nat)), 0 ≤ a' ∧ 0 ≤ j' ∧ j' ≤ j + 900 ∧ Ties n n 0 l ∧ l.length ≤ 900 ∧ F_l_ties [.ref b, .int n, .int t] S = .ok (.ref S.length) (S.set b (.lst [.int a', .int j', .int c]) ++ [.lst (l.map pv)]) := by
  have hb := get_lt h
  have main : RT (F_l_ties [.ref b, .int n, .int t] S) (fun v S1 => v = .ref S.length ∧ ∃ (a' j' : Int) (l : List (Nat × Nat)), 0 ≤ a' ∧ 0 ≤ j' ∧ j' ≤ j + 900 ∧ Ties n n 0 l ∧ l.length ≤ 900 ∧ S1 = St S b c a' j' l) := by
    rw [F_l_ties_eq, RT_run]
    have hs : small62 (n : Int) = true := small62_of (by omega)
    simp [B_l_ties, hs]
    refine for_rng 0 n (fun k ρ S1 => ∃ x, TInv S b n t c j (k * 30) k 0 x ρ S1) ⟨none, none, rfl, a, j, [], ha, hj, by omega, by simp, ⟨.nil, by simp, by simp⟩, ?_⟩ (fun k ρ S1 hk hI => ?_) (fun ρ S1 hI => ?_)
    · unfold St
      rw [set_same h]
      rfl
    · obtain ⟨x, y, hρ, a1, j1, l1, ha1, hj1, hj2', hl1, T1, hS⟩ := hI
      have hs2 : small62 ((k : Int) + 1) = true := small62_of (by omega)
      subst hρ
      simp [forB, hs, hs2]
      have hm : ((n : Int) - ((k : Int) + 1)).toNat = n - (k + 1) := by omega
      rw [hm]
      refine for_rng ((k : Int) + 1) (n - (k + 1)) (fun i ρ S1 => TInv S b n t c j (k * 30 + i) k (k + 1 + i) (some (.int k)) ρ S1) ⟨y, rfl, a1, j1, l1, ha1, hj1, by omega, by omega, T1.weak (.inr ⟨rfl, by omega⟩), hS⟩ (fun i ρ S1 hi hI => ?_) (fun ρ S1 hI => ?_)
      · obtain ⟨y, hρ, a2, j2, l2, ha2, hj2, hj2'', hl2, T2, hS⟩ := hI
        subst hρ
        have g : S1[b]? = some (.lst [.int a2, .int j2, .int c]) := by
          rw [hS]
          exact get_app _ (by rw [List.getElem?_set_self hb])
        obtain ⟨d, a3, d1, d2, d3, tk⟩ := F_take_ok g ha2 hj2 (by omega) ht (by omega)
        have e3 : S1.set b (.lst [.int a3, .int (j2 + 1), .int c]) = St S b c a3 (j2 + 1) l2 := by
          rw [hS]
          unfold St
          rw [set_app _ _ (by rw [List.length_set]; exact hb), List.set_set]
        rw [e3] at tk
        have ci : ((k : Int) + 1 + (i : Int)) = ((k + 1 + i : Nat) : Int) := by omega
        by_cases hd : d = 0
        · have gl : (St S b c a3 (j2 + 1) l2)[S.length]? = some (.lst (l2.map pv)) := by
            unfold St
            have := get_end (S.set b (.lst [.int a3, .int (j2 + 1), .int c])) (.lst (l2.map pv)) []
            rwa [List.length_set] at this
          have gs : (St S b c a3 (j2 + 1) l2).set S.length (.lst (l2.map pv ++ [pv (k, k + 1 + i)])) = St S b c a3 (j2 + 1) (l2 ++ [(k, k + 1 + i)]) := by
            unfold St
            have := set_end (S.set b (.lst [.int a3, .int (j2 + 1), .int c])) (.lst (l2.map pv)) (.lst (l2.map pv ++ [pv (k, k + 1 + i)])) []
            rw [List.length_set] at this
            rw [this, List.map_append]
            rfl
          have pe : Val.tup [.int (k : Int), .int ((k : Int) + 1 + i)] = pv (k, k + 1 + i) := by
            rw [ci]; rfl
          have hz2 : l2.length ≤ 1000000 := by omega
          simp [forB, cal_ti, tk, hd, gl, pe, hz2, gs]
          exact ⟨_, rfl, a3, j2 + 1, l2 ++ [(k, k + 1 + i)], d3, by omega, by omega, by rw [List.length_append]; show _ + 1 ≤ _; omega, T2.add (by omega) (by omega), rfl⟩
        · simp [forB, cal_ti, tk, hd]
          exact ⟨_, rfl, a3, j2 + 1, l2, d3, by omega, by omega, by omega, T2.weak (.inr ⟨rfl, by omega⟩), rfl⟩
      · obtain ⟨y, hρ, a2, j2, l2, ha2, hj2, hj2'', hl2, T2, hS⟩ := hI
        subst hρ
        exact ⟨some (.int k), y, rfl, a2, j2, l2, ha2, hj2, by omega, by omega, T2.weak (.inl (by omega)), hS⟩
    · obtain ⟨x, y, hρ, a1, j1, l1, ha1, hj1, hj2', hl1, T1, hS⟩ := hI
      subst hρ
      subst hS
      simp
      exact ⟨a1, ha1, j1, hj1, by omega, l1, T1, by omega, rfl⟩
  obtain ⟨v, S1, e1, rfl, a', j', l, h1, h2, h3, h4, h5, rfl⟩ := main.get
  exact ⟨a', j', l, h1, h2, h3, h4, h5, e1⟩
end Lk02
namespace Lk02
open Mi
/-- the near places of p, rising -/
def nearOf (l : List (Nat × Nat)) (p : Nat) : List Int := ((l.filter fun t => decide (t.2 = p)).map fun t => (t.1 : Int)) ++ ((l.filter fun t => decide (t.1 = p)).map fun t => (t.2 : Int))
def nearL (l : List (Nat × Nat)) (n : Nat) : List (List Int) := (List.range n).map (nearOf l)
theorem lowHigh {S : Store} {tr k n : Nat} {l : List (Nat × Nat)} {x4 : Option Val} {D : Nat} {y5 y6 : Option Val} (h : S[tr]? = some (.lst (l.map pv))) (hz : l.length ≤ 1000000) :
    cloop (IV.seq (.ref tr)).next (cstep (ctxOf L_l_near) [5, 6] (.tup [.name 5, .name 6]) [.cmp .eq (.var 6) (.var 3)] (.var 5) [some (.int n), some (.ref tr), some (.ref D), some (.int k), x4, y5, y6] S.length) ((IV.seq (.ref tr)).cnt S) 0 (S ++ [.lst []])
      = .ok () (S ++ [obI ((l.filter fun t => decide (t.2 = k)).map fun t => (t.1 : Int))]) := by
  rw [lc_pickM l pv (fun t => decide (t.2 = k)) (fun t => .int t.1) (fun acc j => seq_next (get_app _ h) j) (by rw [seq_cnt h, List.length_map]; exact Nat.le_refl _) hz (fun t _ acc => ?_)]
  · unfold obI
    rw [List.map_map]
    rfl
  · obtain ⟨t1, t2⟩ := t
    have e : decide ((t2 : Int) = (k : Int)) = decide (t2 = k) := by
      by_cases hh : t2 = k
      · subst hh; simp
      · rw [decide_eq_false hh, decide_eq_false (by omega)]
    by_cases hh : t2 = k
    · subst hh
      simp [cstep, wipeE, pv]
    · have hh' : ¬ (t2 : Int) = k := by omega
      simp [cstep, wipeE, pv, hh, hh']
theorem highLow {S : Store} {tr k n : Nat} {l : List (Nat × Nat)} {x4 : Option Val} {D : Nat} {y5 y6 : Option Val} (h : S[tr]? = some (.lst (l.map pv))) (hz : l.length ≤ 1000000) :
    cloop (IV.seq (.ref tr)).next (cstep (ctxOf L_l_near) [5, 6] (.tup [.name 5, .name 6]) [.cmp .eq (.var 5) (.var 3)] (.var 6) [some (.int n), some (.ref tr), some (.ref D), some (.int k), x4, y5, y6] S.length) ((IV.seq (.ref tr)).cnt S) 0 (S ++ [.lst []])
      = .ok () (S ++ [obI ((l.filter fun t => decide (t.1 = k)).map fun t => (t.2 : Int))]) := by
  rw [lc_pickM l pv (fun t => decide (t.1 = k)) (fun t => .int t.2) (fun acc j => seq_next (get_app _ h) j) (by rw [seq_cnt h, List.length_map]; exact Nat.le_refl _) hz (fun t _ acc => ?_)]
  · unfold obI
    rw [List.map_map]
    rfl
  · obtain ⟨t1, t2⟩ := t
    by_cases hh : t1 = k
    · subst hh
      simp [cstep, wipeE, pv]
    · have hh' : ¬ (t1 : Int) = k := by omega
      simp [cstep, wipeE, pv, hh, hh']
def NInv (S : Store) (n tr : Nat) (l : List (Nat × Nat)) (k : Nat) (ρ : Env) (S1 : Store) : Prop := ∃ x3 x4 x5 x6, ρ = [some (.int n), some (.ref tr), some (.ref S.length), x3, x4, x5, x6] ∧
  ∃ (rs : List Nat) (T : Store), S1 = S ++ .lst (rs.map .ref) :: T ∧ rs.length = k ∧ ∀ p q, rs[p]? = some q → S.length < q ∧ S1[q]? = some (obI (nearOf l p))
theorem F_near_ok {S : Store} {n tr : Nat} {l : List (Nat × Nat)} (h : S[tr]? = some (.lst (l.map pv))) (hz : l.length ≤ 1000) (hn : n ≤ 1000) : ∃ T, F_l_near [.int n, .ref tr] S = .ok (.ref S.length) (S ++ T) ∧ Rw (S ++ T) (.ref S.length) (nearL l n) := by
  have main : RT (F_l_near [.int n, .ref tr] S) (fun v S1 => v = .ref S.length ∧ (∃ T, S1 = S ++ T) ∧ Rw S1 (.ref S.length) (nearL l n)) := by
    rw [F_l_near_eq, RT_run]
    have hs : small62 (n : Int) = true := small62_of (by omega)
    simp [B_l_near, hs]
    refine for_rng 0 n (fun k ρ S1 => NInv S n tr l k ρ S1) ⟨none, none, none, none, rfl, [], [], rfl, rfl, fun p q hp => by cases hp⟩ (fun k ρ S1 hk hI => ?_) (fun ρ S1 hI => ?_)
    · obtain ⟨x3, x4, x5, x6, hρ, rs, T, hS, hl, hr⟩ := hI
      subst hρ
      have g : S1[tr]? = some (.lst (l.map pv)) := by rw [hS]; exact get_app _ h
      have c1 := lowHigh (k := k) (n := n) (x4 := x4) (D := S.length) (y5 := x5) (y6 := x6) g (by omega)
      have g2 := get_app [obI ((l.filter fun t => decide (t.2 = k)).map fun t => (t.1 : Int))] g
      have c2 := highLow (k := k) (n := n) (x4 := some (.ref S1.length)) (D := S.length) (y5 := x5) (y6 := x6) g2 (by omega)
      have f1 := List.length_filter_le (fun t : Nat × Nat => decide (t.2 = k)) l
      have f2 := List.length_filter_le (fun t : Nat × Nat => decide (t.1 = k)) l
      generalize hA : (l.filter fun t => decide (t.2 = k)).map (fun t => (t.1 : Int)) = A at c1 c2 g2
      generalize hB : (l.filter fun t => decide (t.1 = k)).map (fun t => (t.2 : Int)) = B at c2
      have la : A.length ≤ 1000 := by rw [← hA, List.length_map]; omega
      have lb : B.length ≤ 1000 := by rw [← hB, List.length_map]; omega
      simp only [List.length_append, List.length_singleton, List.append_assoc, List.cons_append, List.nil_append] at c2 g2
      have i2 : (S1 ++ [obI A, obI B])[S1.length + 1]? = some (obI B) := by
        rw [List.getElem?_append_right (by omega), show S1.length + 1 - S1.length = 1 by omega]; rfl
      have i3 : ∀ Z, (S1 ++ Z)[S.length]? = some (.lst (rs.map .ref)) := fun Z => by
        rw [hS]; exact get_app _ (get_end ..)
      have lz : rs.length ≤ 1000000 := by omega
      have lab : A.length + B.length ≤ 1000000 := by omega
      unfold obI at c1 c2 g2 i2
      simp [forB, g, c1, c2, g2, i2, i3, lz, lab]
      have hset : (S1 ++ [Ob.lst (A.map .int), Ob.lst (B.map .int), Ob.lst (A.map .int ++ B.map .int)]).set S.length (Ob.lst (rs.map .ref ++ [.ref (S1.length + 1 + 1)])) = S ++ Ob.lst ((rs ++ [S1.length + 1 + 1]).map .ref) :: (T ++ [Ob.lst (A.map .int), Ob.lst (B.map .int), Ob.lst (A.map .int ++ B.map .int)]) := by
        rw [hS, List.append_assoc, List.cons_append, set_end, List.map_append]
        rfl
      rw [hset]
      refine ⟨_, _, _, _, rfl, rs ++ [S1.length + 1 + 1], T ++ [Ob.lst (A.map .int), Ob.lst (B.map .int), Ob.lst (A.map .int ++ B.map .int)], rfl, by rw [List.length_append]; show _ + 1 = _; omega, fun p q hp => ?_⟩
      have hlen : S1.length = S.length + 1 + T.length := by rw [hS, List.length_append, List.length_cons]; omega
      have skip : ∀ (a b : Ob) (Z : Store) (i : Nat), S.length < i → (S ++ a :: Z)[i]? = (S ++ b :: Z)[i]? := fun a b Z i hi => by
        rw [List.getElem?_append_right (by omega), List.getElem?_append_right (by omega), show i - S.length = (i - S.length - 1) + 1 by omega, List.getElem?_cons_succ, List.getElem?_cons_succ]
      by_cases hp2 : p < rs.length
      · rw [List.getElem?_append_left hp2] at hp
        obtain ⟨h5, h6⟩ := hr p q hp
        refine ⟨h5, ?_⟩
        rw [skip _ (.lst (rs.map .ref)) _ _ h5]
        rw [hS] at h6
        have := get_app [Ob.lst (A.map .int), Ob.lst (B.map .int), Ob.lst (A.map .int ++ B.map .int)] h6
        rwa [List.append_assoc, List.cons_append] at this
      · rw [List.getElem?_append_right (by omega)] at hp
        have hp3 : p = k := by
          have := (List.getElem?_eq_some_iff.mp hp).1
          simp at this
          omega
        subst hp3
        rw [hl, Nat.sub_self] at hp
        cases hp
        refine ⟨by omega, ?_⟩
        rw [skip _ (.lst (rs.map .ref)) _ _ (by omega)]
        have : S ++ Ob.lst (rs.map .ref) :: (T ++ [Ob.lst (A.map .int), Ob.lst (B.map .int), Ob.lst (A.map .int ++ B.map .int)]) = S1 ++ [Ob.lst (A.map .int), Ob.lst (B.map .int), Ob.lst (A.map .int ++ B.map .int)] := by
          rw [hS, List.append_assoc, List.cons_append]
        rw [this, List.getElem?_append_right (by omega), show S1.length + 1 + 1 - S1.length = 2 by omega]
        unfold nearOf obI
        rw [hA, hB, List.map_append]
        rfl
    · obtain ⟨x3, x4, x5, x6, hρ, rs, T, hS, hl, hr⟩ := hI
      subst hρ
      simp
      refine ⟨⟨_, hS⟩, S.length, rs, rfl, by rw [hS]; exact get_end .., by unfold nearL; rw [List.length_map, List.length_range, hl], fun p q row hp hq => ?_⟩
      have hpn := (List.getElem?_eq_some_iff.mp hq).1
      unfold nearL at hq hpn
      rw [List.length_map, List.length_range] at hpn
      rw [List.getElem?_map, List.getElem?_range hpn] at hq
      cases hq
      exact (hr p q hp).2
  obtain ⟨v, S1, e1, rfl, ⟨T, rfl⟩, r⟩ := main.get
  exact ⟨T, e1, r⟩
end Lk02
namespace Lk02
open Mi
/-! near_places -/
def cont (l : List (Nat × Nat)) (p : Nat) : List Int := l.flatMap fun t => (if t.1 = p then [(t.2 : Int)] else []) ++ (if t.2 = p then [(t.1 : Int)] else [])
def contL (l : List (Nat × Nat)) (n : Nat) : List (List Int) := (List.range n).map (cont l)
theorem contL_at {l : List (Nat × Nat)} {n p : Nat} (h : p < n) : (contL l n)[p]? = some (cont l p) := by
  unfold contL; rw [List.getElem?_map, List.getElem?_range h]; rfl
theorem contL_len (l : List (Nat × Nat)) (n : Nat) : (contL l n).length = n := by unfold contL; rw [List.length_map, List.length_range]
theorem cont_app (l : List (Nat × Nat)) (t : Nat × Nat) (p : Nat) : cont (l ++ [t]) p = cont l p ++ ((if t.1 = p then [(t.2 : Int)] else []) ++ (if t.2 = p then [(t.1 : Int)] else [])) := by
  unfold cont; rw [List.flatMap_append]; simp
theorem contL_add {l : List (Nat × Nat)} {n a b : Nat} (ha : a < n) (hb : b < n) (hab : a ≠ b) : ((contL l n).set a (cont l a ++ [(b : Int)])).set b (cont l b ++ [(a : Int)]) = contL (l ++ [(a, b)]) n := by
  apply List.ext_getElem?
  intro i
  rw [List.getElem?_set, List.getElem?_set, List.length_set, contL_len]
  by_cases hi : i < n
  · rw [contL_at hi, contL_at hi, cont_app]
    by_cases e1 : b = i
    · subst e1
      rw [if_pos rfl, if_pos hb, if_neg hab, if_pos rfl]
      rfl
    · rw [if_neg e1]
      by_cases e2 : a = i
      · subst e2
        rw [if_pos rfl, if_pos ha, if_pos rfl, if_neg e1]
        rfl
      · rw [if_neg e2, if_neg e2, if_neg e1]
        simp
  · have z : ∀ l, (contL l n)[i]? = none := fun l => List.getElem?_eq_none (by rw [contL_len]; omega)
    rw [z, z, if_neg (by omega), if_neg (by omega)]
theorem cont_len (l : List (Nat × Nat)) (p : Nat) : (cont l p).length ≤ 2 * l.length := by
  induction l with
  | nil => exact Nat.zero_le _
  | cons t r ih =>
    unfold cont at ih ⊢
    rw [List.flatMap_cons, List.length_append, List.length_append, List.length_cons]
    have : (if t.1 = p then [(t.2 : Int)] else []).length ≤ 1 := by split <;> simp
    have : (if t.2 = p then [(t.1 : Int)] else []).length ≤ 1 := by split <;> simp
    omega
def PInv (S : Store) (w : Val) (n : Nat) (l : List (Nat × Nat)) (k : Nat) (ρ : Env) (S1 : Store) : Prop := ∃ x2 x3 x4 x5, ρ = [some w, some (.ref S.length), x2, x3, x4, x5] ∧ S1 = S ++ rowsAt S.length (contL (l.take k) n)
theorem bare_rows (C : Ctx) (S : Store) (w : Val) (n : Nat) (x1 x2 x3 x4 x5 : Option Val) (hn : n ≤ 1000) : RT ((cloop (IV.items (rng 0 n)).next (cstep C [2] (.name 2) [] (.lst []) [some w, x1, x2, x3, x4, x5] S.length) (rng 0 n).length 0 (S ++ [.lst []])).bind fun _ S1 => R.ok (Val.ref S.length) S1)
    (fun v S1 => v = .ref S.length ∧ S1 = S ++ rowsAt S.length (contL [] n)) := by
  have hl : (rng 0 n).length = n := by unfold rng; rw [List.length_map, List.length_range]
  refine lc_rule (iv := .items (rng 0 n)) (rng 0 n) (fun k S1 => S1 = S ++ rowsAt S.length (contL [] k)) (fun k S1 j _ => rfl) rfl (Nat.le_refl _) (fun k v S1 hv hI => ?_) (fun S1 hI => ⟨rfl, by rw [hl] at hI; exact hI⟩)
  have hk : k < n := by rw [← hl]; exact (List.getElem?_eq_some_iff.mp hv).1
  subst hI
  have e0 : ∀ k, contL [] k = List.replicate k [] := fun k => by
    unfold contL
    rw [List.eq_replicate_iff]
    refine ⟨by rw [List.length_map, List.length_range], fun b hb => ?_⟩
    obtain ⟨p, _, rfl⟩ := List.mem_map.mp hb
    rfl
  rw [e0]
  have hr : ∀ k, rowsAt S.length (List.replicate k []) = .lst ((List.range k).map fun i => .ref (S.length + 1 + i)) :: List.replicate k (.lst []) := fun k => by
    unfold rowsAt
    rw [List.length_replicate, List.map_replicate]
    rfl
  rw [hr]
  have hlen : (S ++ Ob.lst ((List.range k).map fun i => Val.ref (S.length + 1 + i)) :: List.replicate k (.lst [])).length = S.length + 1 + k := by
    rw [List.length_append, List.length_cons, List.length_replicate]; omega
  have hp : push S.length (.ref (S.length + 1 + k)) (S ++ Ob.lst ((List.range k).map fun i => Val.ref (S.length + 1 + i)) :: (List.replicate k (.lst []) ++ [.lst []])) = .ok () (S ++ Ob.lst ((List.range (k + 1)).map fun i => Val.ref (S.length + 1 + i)) :: List.replicate (k + 1) (.lst [])) := by
    rw [push_ok (get_end ..) (by rw [List.length_map, List.length_range]; have := line_big; omega), set_end, List.range_succ, List.map_append, ← List.replicate_succ']
    rfl
  have hr2 := hr (k + 1)
  simp [cstep, wipeE, hlen]
  exact RT.eq hp (by rw [e0, hr])
theorem pv_ext {t : Nat × Nat} : pv t = .tup [.int t.1, .int t.2] := rfl
/-- the last list: each row sorted -/
theorem sort_rows (C : Ctx) (S : Store) (D n : Nat) (rows : List (List Int)) (w : Val) (x2 x3 x4 x5 : Option Val) (hD : D + 1 + rows.length = S.length) (hn : rows.length ≤ 1000) (hr : ∀ row ∈ rows, row.length ≤ 100000) (h : ∃ S0, S = S0 ++ rowsAt S0.length rows ∧ S0.length = D) :
    RT ((cloop (IV.seq (.ref D)).next (cstep C [5] (.name 5) [] (.pr .sorted [.var 5]) [some w, some (.ref D), x2, x3, x4, x5] S.length) ((IV.seq (.ref D)).cnt S) 0 (S ++ [.lst []])).bind fun _ S1 => R.ok (Val.ref S.length) S1)
    (fun v S1 => v = .ref S.length ∧ S1 = S ++ rowsAt S.length (rows.map srt)) := by
  obtain ⟨S0, hS, hL⟩ := h
  have top : ∀ Z, (S ++ Z)[D]? = some (.lst ((List.range rows.length).map fun i => .ref (D + 1 + i))) := fun Z => by
    rw [hS, ← hL, List.append_assoc]; exact rowsAt_top S0 Z rows
  have row : ∀ Z (p : Nat) row, rows[p]? = some row → (S ++ Z)[D + 1 + p]? = some (obI row) := fun Z p row hp => by
    rw [hS, ← hL, List.append_assoc]; exact rowsAt_row S0 Z hp
  have top0 := top []
  rw [List.append_nil] at top0
  refine lc_rule (iv := .seq (.ref D)) ((List.range rows.length).map fun i => .ref (D + 1 + i)) (fun k S1 => S1 = S ++ rowsAt S.length ((rows.take k).map srt)) (fun k S1 j hI => ?_) rfl (by rw [seq_cnt top0]; exact Nat.le_refl _) (fun k v S1 hv hI => ?_) (fun S1 hI => ⟨rfl, ?_⟩)
  · subst hI
    exact seq_next (top _) j
  · have hk : k < rows.length := by have := (List.getElem?_eq_some_iff.mp hv).1; simpa using this
    subst hI
    rw [List.getElem?_map, List.getElem?_range hk] at hv
    cases hv
    have e1 : rows.take (k + 1) = rows.take k ++ [rows[k]] := by rw [List.take_add_one, List.getElem?_eq_getElem hk]; rfl
    have hlt : (rows.take k).length = k := by rw [List.length_take]; omega
    have so := sorted_at (row (rowsAt S.length ((rows.take k).map srt)) k _ (List.getElem?_eq_getElem hk)) (by have := hr _ (List.getElem_mem hk); omega)
    have hlen : (S ++ rowsAt S.length ((rows.take k).map srt)).length = S.length + 1 + k := by
      rw [List.length_append, rowsAt_len, List.length_map, hlt]; omega
    rw [hlen] at so
    have pu : push S.length (.ref (S.length + 1 + k)) (S ++ rowsAt S.length ((rows.take k).map srt) ++ [obI (srt rows[k])]) = .ok () (S ++ rowsAt S.length ((rows.take (k + 1)).map srt)) := by
      rw [List.append_assoc]
      have hg : (S ++ (rowsAt S.length ((rows.take k).map srt) ++ [obI (srt rows[k])]))[S.length]? = _ := rowsAt_top S [obI (srt rows[k])] ((rows.take k).map srt)
      rw [push_ok hg (by rw [List.length_map, List.length_range, List.length_map, hlt]; have := line_big; omega)]
      unfold rowsAt
      rw [List.cons_append, set_end, e1, List.map_append, List.map_append, List.length_append, List.length_map, hlt]
      show _ = R.ok () (S ++ Ob.lst ((List.range (k + 1)).map _) :: _)
      rw [List.range_succ, List.map_append]
      rfl
    generalize (rows.take k).map srt = Q at so pu
    generalize (rows.take (k + 1)).map srt = Q' at pu
    rw [List.append_assoc] at pu so
    simp [cstep, wipeE, so]
    exact RT.eq pu rfl
  · rw [List.length_map, List.length_range, List.take_length] at hI
    exact hI
theorem F_np_ok {S : Store} {n tr : Nat} {l : List (Nat × Nat)} (h : S[tr]? = some (.lst (l.map pv))) (ht : ∀ t ∈ l, t.1 < n ∧ t.2 < n ∧ t.1 ≠ t.2) (hn : n ≤ 1000) (hz : l.length ≤ 1000) :
    F_near_places [.tup [.int n, .ref tr]] S = .ok (.ref (S ++ rowsAt S.length (contL l n)).length) (S ++ rowsAt S.length (contL l n) ++ rowsAt (S ++ rowsAt S.length (contL l n)).length ((contL l n).map srt)) := by
  have main : RT (F_near_places [.tup [.int n, .ref tr]] S) (fun v S1 => v = .ref (S ++ rowsAt S.length (contL l n)).length ∧ S1 = S ++ rowsAt S.length (contL l n) ++ rowsAt (S ++ rowsAt S.length (contL l n)).length ((contL l n).map srt)) := by
    rw [F_near_places_eq, RT_run]
    have hs : small62 (n : Int) = true := small62_of (by omega)
    have i0 : ∀ S, item S (.tup [.int n, .ref tr]) (.int 0) = some (.int n) := fun S => item_tup S (i := 0) rfl
    have i1 : ∀ S, item S (.tup [.int n, .ref tr]) (.int 1) = some (.ref tr) := fun S => item_tup S (i := 1) rfl
    simp only [B_near_places, List.map_cons, List.map_nil, exs_cons, ST_then, ex_asg, ST_st, ev_lc', evs_cons, evs_nil]
    simp [i0, hs]
    have br := bare_rows (ctxOf L_near_places) S (.tup [.int n, .ref tr]) n none none none none none hn
    rw [RT_bind] at br
    refine RT.mono br fun _ S1 hh => ?_
    obtain ⟨-, hS⟩ := hh
    subst hS
    have g : ∀ Z, (S ++ Z)[tr]? = some (.lst (l.map pv)) := fun Z => get_app Z h
    simp [i1, g]
    refine for_list (.ref tr) (l.map pv) (fun k ρ S1 => PInv S (.tup [.int n, .ref tr]) n l k ρ S1) (fun k ρ S1 hI => ?_) ⟨none, none, none, none, rfl, rfl⟩ (fun k v ρ S1 hv hI => ?_) (fun ρ S1 hI => ?_)
    · obtain ⟨x2, x3, x4, x5, hρ, hS⟩ := hI
      subst hS
      simp [g]
    · obtain ⟨x2, x3, x4, x5, hρ, hS⟩ := hI
      have hk : k < l.length := by have := (List.getElem?_eq_some_iff.mp hv).1; simpa using this
      rw [List.getElem?_map, List.getElem?_eq_getElem hk] at hv
      have hm := ht _ (List.getElem_mem hk)
      have e1 : l.take (k + 1) = l.take k ++ [l[k]] := by rw [List.take_add_one, List.getElem?_eq_getElem hk]; rfl
      have hcl := cont_len (l.take k)
      have hlt : (l.take k).length ≤ 1000 := by rw [List.length_take]; omega
      unfold PInv
      rw [e1]
      generalize l.take k = m at hS hcl hlt ⊢
      generalize l[k] = t at hv hm ⊢
      obtain ⟨a, b⟩ := t
      obtain ⟨ha, hb, hab⟩ := hm
      have ha : a < n := ha
      have hb : b < n := hb
      have hab : a ≠ b := hab
      cases hv
      subst hρ
      subst hS
      have top : ∀ rows : List (List Int), (S ++ rowsAt S.length rows)[S.length]? = some (.lst ((List.range rows.length).map fun i => .ref (S.length + 1 + i))) := fun rows => by
        have := rowsAt_top S [] rows; rwa [List.append_nil] at this
      have it : ∀ (rows : List (List Int)) (p : Nat), rows.length = n → p < n → item (S ++ rowsAt S.length rows) (.ref S.length) (.int p) = some (.ref (S.length + 1 + p)) := fun rows p hl hp =>
        item_lst _ (top rows) (by rw [List.getElem?_map, List.getElem?_range (by omega)]; rfl) (by omega)
      have ro : ∀ (rows : List (List Int)) (p : Nat) row, rows[p]? = some row → (S ++ rowsAt S.length rows)[S.length + 1 + p]? = some (.lst (row.map .int)) := fun rows p row hp => by
        have := rowsAt_row S [] hp; rwa [List.append_nil] at this
      have st : ∀ (rows : List (List Int)) (p : Nat) (row : List Int), p < rows.length → (S ++ rowsAt S.length rows).set (S.length + 1 + p) (.lst (row.map .int)) = S ++ rowsAt S.length (rows.set p row) := fun rows p row hp => by
        have := rowsAt_set S [] rows p row hp; rwa [List.append_nil, List.append_nil] at this
      have la := hcl a
      have lb := hcl b
      have ca := contL_at (l := m) ha
      have cb : ((contL m n).set a (cont m a ++ [(b : Int)]))[b]? = some (cont m b) := by rw [List.getElem?_set_ne hab]; exact contL_at hb
      have s1 : (S ++ rowsAt S.length (contL m n)).set (S.length + 1 + a) (.lst ((cont m a).map .int ++ [.int b])) = S ++ rowsAt S.length ((contL m n).set a (cont m a ++ [(b : Int)])) := by
        rw [← st _ _ _ (by rw [contL_len]; exact ha), List.map_append]; rfl
      have s2 : (S ++ rowsAt S.length ((contL m n).set a (cont m a ++ [(b : Int)]))).set (S.length + 1 + b) (.lst ((cont m b).map .int ++ [.int a])) = S ++ rowsAt S.length (contL (m ++ [(a, b)]) n) := by
        have := st ((contL m n).set a (cont m a ++ [(b : Int)])) b (cont m b ++ [(a : Int)]) (by rw [List.length_set, contL_len]; exact hb)
        rw [contL_add ha hb hab, List.map_append] at this
        exact this
      have g1 := it (contL m n) a (contL_len ..) ha
      have g2 := it ((contL m n).set a (cont m a ++ [(b : Int)])) b (by rw [List.length_set, contL_len]) hb
      have r1 := ro _ _ _ ca
      have r2 := ro _ _ _ cb
      have z1 : (cont m a).length ≤ 1000000 := by omega
      have z2 : (cont m b).length ≤ 1000000 := by omega
      generalize S ++ rowsAt S.length (contL m n) = U at g1 r1 s1 ⊢
      generalize S ++ rowsAt S.length ((contL m n).set a (cont m a ++ [(b : Int)])) = U2 at s1 g2 r2 s2
      simp [forB, pv, g1, r1, s1, z1, g2, r2, s2, z2]
    · obtain ⟨x2, x3, x4, x5, hρ, hS⟩ := hI
      rw [List.length_map, List.take_length] at hS
      subst hρ
      have top := rowsAt_top S [] (contL l n)
      rw [List.append_nil, ← hS] at top
      have so := sort_rows (ctxOf L_near_places) S1 S.length n (contL l n) (.tup [.int n, .ref tr]) x2 x3 x4 x5 (by rw [hS, List.length_append, rowsAt_len]; omega) (by rw [contL_len]; exact hn) (fun row hr => ?_) ⟨S, hS, rfl⟩
      · rw [RT_bind] at so
        simp [top]
        refine RT.mono so fun _ S2 hh => ?_
        obtain ⟨-, hS2⟩ := hh
        exact ⟨by rw [hS, List.length_append], by rw [hS2, hS, List.length_append, List.append_assoc]⟩
      · unfold contL at hr
        obtain ⟨p, _, rfl⟩ := List.mem_map.mp hr
        have := cont_len l p
        omega
  obtain ⟨v, S1, e1, rfl, rfl⟩ := main.get
  exact e1
end Lk02
namespace Lk02
open Mi
theorem cont_perm {l : List (Nat × Nat)} {p : Nat} (h : ∀ t ∈ l, t.1 < t.2) : (cont l p).Perm (nearOf l p) := by
  induction l with
  | nil => exact List.Perm.refl _
  | cons t r ih =>
    have ih := ih fun u hu => h u (List.mem_cons_of_mem _ hu)
    have ht := h t List.mem_cons_self
    have e : cont (t :: r) p = ((if t.1 = p then [(t.2 : Int)] else []) ++ (if t.2 = p then [(t.1 : Int)] else [])) ++ cont r p := by unfold cont; rw [List.flatMap_cons]
    rw [e]
    unfold nearOf at ih ⊢
    by_cases h1 : t.1 = p
    · have h2 : ¬ t.2 = p := by omega
      rw [if_pos h1, if_neg h2, List.filter_cons_of_neg (by simpa using h2), List.filter_cons_of_pos (by simpa using h1), List.map_cons]
      exact (List.Perm.cons _ ih).trans List.perm_middle.symm
    · by_cases h2 : t.2 = p
      · rw [if_neg h1, if_pos h2, List.filter_cons_of_pos (by simpa using h2), List.filter_cons_of_neg (by simpa using h1), List.map_cons]
        exact List.Perm.cons _ ih
      · rw [if_neg h1, if_neg h2, List.filter_cons_of_neg (by simpa using h2), List.filter_cons_of_neg (by simpa using h1)]
        exact ih
theorem near_sorted {l : List (Nat × Nat)} {p : Nat} (ho : l.Pairwise lex) (h : ∀ t ∈ l, t.1 < t.2) : (nearOf l p).Pairwise (· ≤ ·) := by
  unfold nearOf
  rw [List.pairwise_append]
  refine ⟨?_, ?_, ?_⟩
  · rw [List.pairwise_map]
    refine (List.Pairwise.and_mem.mp (ho.filter _)).imp fun {t u} ⟨ht, hu, hl⟩ => ?_
    have h1 : t.2 = p := by simpa using (List.mem_filter.mp ht).2
    have h2 : u.2 = p := by simpa using (List.mem_filter.mp hu).2
    rcases hl with e | e <;> omega
  · rw [List.pairwise_map]
    refine (List.Pairwise.and_mem.mp (ho.filter _)).imp fun {t u} ⟨ht, hu, hl⟩ => ?_
    have h1 : t.1 = p := by simpa using (List.mem_filter.mp ht).2
    have h2 : u.1 = p := by simpa using (List.mem_filter.mp hu).2
    rcases hl with e | e <;> omega
  · intro x hx y hy
    obtain ⟨t, ht, rfl⟩ := List.mem_map.mp hx
    obtain ⟨u, hu, rfl⟩ := List.mem_map.mp hy
    have h1 : t.2 = p := by simpa using (List.mem_filter.mp ht).2
    have h2 : u.1 = p := by simpa using (List.mem_filter.mp hu).2
    have h3 := h t (List.mem_filter.mp ht).1
    have h4 := h u (List.mem_filter.mp hu).1
    omega
theorem contL_srt {l : List (Nat × Nat)} {n : Nat} (ho : l.Pairwise lex) (h : ∀ t ∈ l, t.1 < t.2) : (contL l n).map srt = nearL l n := by
  unfold contL nearL
  rw [List.map_map]
  exact List.map_congr_left fun p _ => srt_eq (cont_perm h) (near_sorted ho h)
/-! the ways -/
def wstep (c : Int) (row : List Int) : Int := (List.range (row.length - 2)).foldl (fun (c : Int) (i : Nat) => c * (2 + (i : Int))) c
def waysL (L : List (List Int)) : Int := L.foldl wstep 1
theorem ways_loop (C : Ctx) {S : Store} {u : Val} {w : Val} {L : List (List Int)} (h : Rw S u L) (hz : ∀ row ∈ L, row.length ≤ 100000) {T : Val → Store → Prop} {B Ct : Env → Store → Prop} {N : Env → Store → Prop} (hN : ∀ x y, N [some w, some (.int (waysL L)), x, y] S) :
    ST (floop (IV.seq u).next (forB C (.name 2) [(.for (.name 3) .rng2 [(.cst (.int 2)), (.pr .len [(.var 2)])] [(.asg (.name 1) (.bin .mul (.var 1) (.var 3)))])]) ((IV.seq u).cnt S) 0 [some w, some (.int 1), none, none] S) N T B Ct := by
  obtain ⟨r, rs, rfl, h1, h2, h3⟩ := h
  refine for_list (.ref r) (rs.map .ref) (fun k ρ S1 => ∃ x y, ρ = [some w, some (.int ((L.take k).foldl wstep 1)), x, y] ∧ S1 = S) (fun k ρ S1 ⟨x, y, _, hS⟩ => by rw [hS]; simp [h1]) ⟨none, none, rfl, rfl⟩ (fun k v ρ S1 hv hI => ?_) (fun ρ S1 hI => ?_)
  · obtain ⟨x, y, hρ, hS⟩ := hI
    have hk : k < rs.length := by have := (List.getElem?_eq_some_iff.mp hv).1; simpa using this
    have hk2 : k < L.length := by omega
    rw [List.getElem?_map, List.getElem?_eq_getElem hk] at hv
    cases hv
    have hr := h3 k _ _ (List.getElem?_eq_getElem hk) (List.getElem?_eq_getElem hk2)
    have hz := hz _ (List.getElem_mem hk2)
    have e1 : (L.take (k + 1)).foldl wstep 1 = wstep ((L.take k).foldl wstep 1) L[k] := by
      rw [List.take_add_one, List.getElem?_eq_getElem hk2, List.foldl_append]; rfl
    rw [e1]
    generalize (L.take k).foldl wstep 1 = c at hρ ⊢
    generalize L[k] = row at hr hz ⊢
    generalize rs[k] = q at hr ⊢
    subst hρ
    subst hS
    have hs : small62 (row.length : Int) = true := small62_of (by omega)
    have hs2 : small62 2 = true := by decide
    unfold obI at hr
    have ht : ((row.length : Int) - 2).toNat = row.length - 2 := by omega
    simp [forB, hr, hs, hs2, ht]
    refine for_rng 2 (row.length - 2) (fun i ρ S1' => ∃ y, ρ = [some w, some (.int ((List.range i).foldl (fun (c : Int) (i : Nat) => c * (2 + (i : Int))) c)), some (.ref q), y] ∧ S1' = S1) ⟨y, rfl, rfl⟩ (fun i ρ S2 hi hI => ?_) (fun ρ S2 hI => ?_)
    · obtain ⟨y, hρ, hS⟩ := hI
      subst hρ
      subst hS
      have mo : mulOk ((List.range i).foldl (fun (c : Int) (i : Nat) => c * (2 + (i : Int))) c) (2 + (i : Int)) = true := mulOk_r (by omega)
      rw [List.range_succ, List.foldl_append]; generalize (List.range i).foldl (fun (c : Int) (i : Nat) => c * (2 + (i : Int))) c = c1 at mo ⊢
      simp [forB, mo]
    · obtain ⟨y, hρ, hS⟩ := hI
      subst hρ
      subst hS
      exact ⟨⟨_, _, rfl⟩, rfl⟩
  · obtain ⟨x, y, hρ, hS⟩ := hI
    subst hρ
    subst hS
    rw [List.length_map, h2, List.take_length]
    exact hN x y
theorem F_lways_eq {S : Store} {u : Val} {L : List (List Int)} (h : Rw S u L) (hz : ∀ row ∈ L, row.length ≤ 100000) : F_l_ways [u] S = .ok (.int (waysL L)) S := by
  have main : RT (F_l_ways [u] S) (fun v S1 => v = .int (waysL L) ∧ S1 = S) := by
    have hh := h
    obtain ⟨r, rs, rfl, h1, h2, h3⟩ := hh
    rw [F_l_ways_eq, RT_run]
    simp [B_l_ways, h1]
    exact ways_loop _ h hz fun x y => by simp
  obtain ⟨v, S1, e1, rfl, rfl⟩ := main.get
  exact e1
theorem cal_wo : ctxOf L_ways_of 0 = some (1, F_near_places) := rfl
theorem F_ways_ok {S : Store} {n tr : Nat} {l : List (Nat × Nat)} (h : S[tr]? = some (.lst (l.map pv))) (ho : l.Pairwise lex) (ht : ∀ t ∈ l, t.1 < t.2 ∧ t.2 < n) (hn : n ≤ 1000) (hz : l.length ≤ 1000) :
    ∃ T, F_ways_of [.tup [.int n, .ref tr]] S = .ok (.int (waysL (nearL l n))) (S ++ T) := by
  have np := F_np_ok h (fun t m => ⟨by have := ht t m; omega, by have := ht t m; omega, by have := ht t m; omega⟩) hn hz
  rw [contL_srt ho fun t m => (ht t m).1] at np
  generalize hU : S ++ rowsAt S.length (contL l n) = U at np
  have rw' : Rw (U ++ rowsAt U.length (nearL l n)) (.ref U.length) (nearL l n) := by
    have := rowsAt_rw U [] (nearL l n)
    rwa [List.append_nil] at this
  have hz2 : ∀ row ∈ nearL l n, row.length ≤ 100000 := fun row hr => by
    unfold nearL at hr
    obtain ⟨p, _, rfl⟩ := List.mem_map.mp hr
    unfold nearOf
    have f1 := List.length_filter_le (fun t : Nat × Nat => decide (t.2 = p)) l
    have f2 := List.length_filter_le (fun t : Nat × Nat => decide (t.1 = p)) l
    rw [List.length_append, List.length_map, List.length_map]
    omega
  have main : RT (F_ways_of [.tup [.int n, .ref tr]] S) (fun v S1 => v = .int (waysL (nearL l n)) ∧ S1 = U ++ rowsAt U.length (nearL l n)) := by
    rw [F_ways_of_eq, RT_run]
    have top := rowsAt_top U [] (nearL l n)
    rw [List.append_nil] at top
    simp [B_ways_of, cal_wo, np, top]
    exact ways_loop _ rw' hz2 fun x y => by simp
  obtain ⟨v, S1, e1, rfl, rfl⟩ := main.get
  exact ⟨rowsAt S.length (contL l n) ++ rowsAt U.length (nearL l n), by rw [e1, ← hU, List.append_assoc]⟩
end Lk02
namespace Lk02
open Mi
def dpv (t : Nat × Nat) : PySem.PyData := .tuple [.int t.1, .int t.2]
theorem dat_pv (S : Store) (k : Nat) (t : Nat × Nat) : dat S (k + 2) (pv t) = some (dpv t) := by
  unfold pv
  rw [dat]
  simp only [List.map_cons, List.map_nil]
  rw [show dat S (k + 1) (.int t.1) = some (.int t.1) by rw [dat], show dat S (k + 1) (.int t.2) = some (.int t.2) by rw [dat]]
  rfl
theorem dat_pvs {S : Store} {r k : Nat} {l : List (Nat × Nat)} (h : S[r]? = some (.lst (l.map pv))) : dat S (k + 3) (.ref r) = some (.list (l.map dpv)) := by
  rw [dat]
  simp only [h]
  rw [List.map_map, allSome_map (f := dat S (k + 2) ∘ pv) (g := dpv) fun t _ => dat_pv S k t]
  rfl
theorem eqv_pvs : ∀ l : List (Nat × Nat), PySem.PyData.eqvAll (l.map dpv) (l.map dpv) = true
  | [] => by rw [List.map_nil, PySem.PyData.eqvAll]
  | t :: r => by
    rw [List.map_cons, PySem.PyData.eqvAll, eqv_pvs r]
    unfold dpv
    simp [PySem.PyData.eqv, PySem.PyData.eqvAll]
theorem eq_handed {S : Store} {n h tr : Nat} {l : List (Nat × Nat)} (h1 : S[h]? = some (.lst (l.map pv))) (h2 : S[tr]? = some (.lst (l.map pv))) : eqop S (.tup [.int n, .ref h]) (.tup [.int n, .ref tr]) = some true := by
  have e : ∀ r, S[r]? = some (.lst (l.map pv)) → dat S 8 (.tup [.int n, .ref r]) = some (.tuple [.int n, .list (l.map dpv)]) := fun r hr => by
    rw [dat]
    simp only [List.map_cons, List.map_nil]
    rw [show dat S 7 (.int n) = some (.int n) by rw [dat], dat_pvs (k := 4) hr]
    rfl
  show (match dat S 8 (.tup [.int n, .ref h]), dat S 8 (.tup [.int n, .ref tr]) with | some d, some e => some (PySem.PyData.eqv d e) | _, _ => none) = _
  rw [e h h1, e tr h2]
  show some (PySem.PyData.eqv _ _) = _
  simp [PySem.PyData.eqv, PySem.PyData.eqvAll, eqv_pvs]
/-- a nought behind the first k rows -/
def upTo (k : Nat) (L : List (List Int)) : List (List Int) := L.mapIdx fun i r => if i < k then r ++ [0] else r
theorem upTo_at {k i : Nat} {L : List (List Int)} {r : List Int} (h : L[i]? = some r) : (upTo k L)[i]? = some (if i < k then r ++ [0] else r) := by
  unfold upTo; rw [List.getElem?_mapIdx, h]; rfl
theorem upTo_len (k : Nat) (L : List (List Int)) : (upTo k L).length = L.length := by unfold upTo; rw [List.length_mapIdx]
theorem upTo_set {k : Nat} {L : List (List Int)} {r : List Int} (h : L[k]? = some r) : (upTo k L).set k (r ++ [0]) = upTo (k + 1) L := by
  apply List.ext_getElem?
  intro i
  have hk := (List.getElem?_eq_some_iff.mp h).1
  rw [List.getElem?_set, upTo_len]
  by_cases e : k = i
  · subst e
    rw [if_pos rfl, if_pos hk, upTo_at h, if_pos (by omega)]
  · rw [if_neg e]
    cases hi : L[i]? with
    | none =>
      have : ∀ j, (upTo j L)[i]? = none := fun j => by unfold upTo; rw [List.getElem?_mapIdx, hi]; rfl
      rw [this, this]
    | some q =>
      rw [upTo_at hi, upTo_at hi]
      by_cases h1 : i < k
      · rw [if_pos h1, if_pos (by omega)]
      · rw [if_neg h1, if_neg (by omega)]
theorem upTo_zero (L : List (List Int)) : upTo 0 L = L := by
  apply List.ext_getElem?
  intro i
  unfold upTo
  rw [List.getElem?_mapIdx]
  cases L[i]? <;> rfl
theorem upTo_all (L : List (List Int)) : upTo L.length L = L.map (· ++ [0]) := by
  apply List.ext_getElem?
  intro i
  unfold upTo
  rw [List.getElem?_mapIdx, List.getElem?_map]
  cases h : L[i]? with
  | none => rfl
  | some r =>
    have := (List.getElem?_eq_some_iff.mp h).1
    show some (if i < L.length then _ else _) = _
    rw [if_pos this]
    rfl
theorem app_loop (C : Ctx) (U T3 : Store) (L : List (List Int)) (e0 e1 e2 e3 e4 e5 e6 e7 e8 e9 e10 : Option Val) (hz : ∀ row ∈ L, row.length ≤ 100000) {T : Val → Store → Prop} {B Ct N : Env → Store → Prop}
    (hN : ∀ x, N [e0, e1, e2, e3, e4, e5, e6, e7, x, e9, e10] (U ++ (rowsAt U.length (L.map (· ++ [0])) ++ T3))) :
    ST (floop (IV.seq (.ref U.length)).next (forB C (.name 8) [(.exp (.me .append (.var 8) [(.cst (.int 0))]))]) ((IV.seq (.ref U.length)).cnt (U ++ (rowsAt U.length L ++ T3))) 0 [e0, e1, e2, e3, e4, e5, e6, e7, e8, e9, e10] (U ++ (rowsAt U.length L ++ T3))) N T B Ct := by
  have top : ∀ k, (U ++ (rowsAt U.length (upTo k L) ++ T3))[U.length]? = some (.lst ((List.range L.length).map fun i => .ref (U.length + 1 + i))) := fun k => by
    have := rowsAt_top U T3 (upTo k L); rwa [upTo_len] at this
  refine for_list (.ref U.length) ((List.range L.length).map fun i => .ref (U.length + 1 + i)) (fun k ρ S1 => ∃ x, ρ = [e0, e1, e2, e3, e4, e5, e6, e7, x, e9, e10] ∧ S1 = U ++ (rowsAt U.length (upTo k L) ++ T3)) (fun k ρ S1 ⟨x, _, hS⟩ => by rw [hS]; simp [top]) ⟨e8, rfl, by rw [upTo_zero]⟩ (fun k v ρ S1 hv hI => ?_) (fun ρ S1 hI => ?_)
  · obtain ⟨x, hρ, hS⟩ := hI
    have hk : k < L.length := by have := (List.getElem?_eq_some_iff.mp hv).1; simpa using this
    rw [List.getElem?_map, List.getElem?_range hk] at hv
    cases hv
    have hr : (upTo k L)[k]? = some L[k] := by rw [upTo_at (List.getElem?_eq_getElem hk), if_neg (by omega)]
    have r1 := rowsAt_row U T3 hr
    have s1 := rowsAt_set U T3 (upTo k L) k (L[k] ++ [0]) (by rw [upTo_len]; exact hk)
    rw [upTo_set (List.getElem?_eq_getElem hk)] at s1
    have z1 : L[k].length ≤ 1000000 := by have := hz _ (List.getElem_mem hk); omega
    subst hρ
    rw [← hS] at r1 s1
    clear hS
    generalize U ++ (rowsAt U.length (upTo (k + 1) L) ++ T3) = V at s1 ⊢
    generalize L[k] = row at r1 s1 z1
    unfold obI at r1 s1
    rw [List.map_append] at s1
    have s1 : S1.set (U.length + 1 + k) (.lst (row.map .int ++ [.int 0])) = V := s1
    simp [forB, r1, s1, z1]
  · obtain ⟨x, hρ, hS⟩ := hI
    subst hρ
    rw [List.length_map, List.length_range, upTo_all] at hS
    subst hS
    exact hN x
/-- each row with a nought behind it, as a new list -/
theorem plus0 (C : Ctx) {S : Store} {u : Val} {L : List (List Int)} (h : Rw S u L) (hz : ∀ row ∈ L, row.length ≤ 100000) (hz2 : L.length ≤ 1000) (e0 e1 e2 e3 e5 e6 e7 e8 e9 e10 : Option Val) :
    RT ((cloop (IV.seq u).next (cstep C [8] (.name 8) [] (.bin .add (.var 8) (.lst [.cst (.int 0)])) [e0, e1, e2, e3, some u, e5, e6, e7, e8, e9, e10] S.length) ((IV.seq u).cnt S) 0 (S ++ [.lst []])).bind fun _ S1 => R.ok (Val.ref S.length) S1)
    (fun v S1 => v = .ref S.length ∧ (∃ T, S1 = S ++ T) ∧ Rw S1 (.ref S.length) (L.map (· ++ [0]))) := by
  obtain ⟨r, rs, rfl, h1, h2, h3⟩ := h
  refine lc_rule (iv := .seq (.ref r)) (rs.map .ref) (fun k S1 => ∃ (qs : List Nat) (T : Store), S1 = S ++ Ob.lst (qs.map .ref) :: T ∧ qs.length = k ∧ ∀ (p q : Nat) (row : List Int), qs[p]? = some q → L[p]? = some row → S.length < q ∧ S1[q]? = some (obI (row ++ [0]))) (fun k S1 j ⟨qs, T, hS, _⟩ => ?_) ⟨[], [], rfl, rfl, fun p q row hp => by cases hp⟩ (by rw [seq_cnt h1]; exact Nat.le_refl _) (fun k v S1 hv hI => ?_) (fun S1 hI => ?_)
  · subst hS
    exact seq_next (get_app _ h1) j
  · obtain ⟨qs, T, hS, hl, hq⟩ := hI
    have hk : k < rs.length := by have := (List.getElem?_eq_some_iff.mp hv).1; simpa using this
    have hk2 : k < L.length := by omega
    rw [List.getElem?_map, List.getElem?_eq_getElem hk] at hv
    cases hv
    have hr := h3 k _ _ (List.getElem?_eq_getElem hk) (List.getElem?_eq_getElem hk2)
    have hzr := hz _ (List.getElem_mem hk2)
    have hLk : L[k]? = some L[k] := List.getElem?_eq_getElem hk2
    have hg : ∀ Z, (S1 ++ Z)[rs[k]]? = some (.lst (L[k].map .int)) := fun Z => by
      rw [hS]; exact get_app _ (get_app _ hr)
    generalize hrow : L[k] = row at hr hzr hg hLk
    generalize rs[k] = q0 at hr hg ⊢
    have hlen : S1.length = S.length + 1 + T.length := by rw [hS, List.length_append, List.length_cons]; omega
    have z1 : row.length ≤ 999999 := by omega
    have pu : push S.length (.ref (S1.length + 1)) (S1 ++ [Ob.lst [.int 0], Ob.lst (row.map .int ++ [.int 0])]) = .ok () (S ++ Ob.lst ((qs ++ [S1.length + 1]).map .ref) :: (T ++ [Ob.lst [.int 0], Ob.lst (row.map .int ++ [.int 0])])) := by
      have e : S1 ++ [Ob.lst [.int 0], Ob.lst (row.map .int ++ [.int 0])] = S ++ Ob.lst (qs.map .ref) :: (T ++ [Ob.lst [.int 0], Ob.lst (row.map .int ++ [.int 0])]) := by rw [hS, List.append_assoc, List.cons_append]
      rw [e, push_ok (get_end ..) (by rw [List.length_map]; have := line_big; omega), set_end, List.map_append]
      rfl
    have i2 : ∀ a : Ob, (S1 ++ [a])[S1.length]? = some a := fun a => get_end ..
    simp [cstep, wipeE, hg, i2, z1]
    refine RT.eq pu ⟨qs ++ [S1.length + 1], ⟨T ++ [Ob.lst [.int 0], Ob.lst (row.map .int ++ [.int 0])], rfl⟩, by rw [List.length_append]; show _ + 1 = _; omega, fun p q row' hp hrow' => ?_⟩
    have skip : ∀ (a b : Ob) (Z : Store) (i : Nat), S.length < i → (S ++ a :: Z)[i]? = (S ++ b :: Z)[i]? := fun a b Z i hi => by
      rw [List.getElem?_append_right (by omega), List.getElem?_append_right (by omega), show i - S.length = (i - S.length - 1) + 1 by omega, List.getElem?_cons_succ, List.getElem?_cons_succ]
    by_cases hp2 : p < qs.length
    · rw [List.getElem?_append_left hp2] at hp
      obtain ⟨h5, h6⟩ := hq p q row' hp hrow'
      refine ⟨h5, ?_⟩
      rw [skip _ (.lst (qs.map .ref)) _ _ h5]
      rw [hS] at h6
      have := get_app [Ob.lst [.int 0], Ob.lst (row.map .int ++ [.int 0])] h6
      rwa [List.append_assoc, List.cons_append] at this
    · rw [List.getElem?_append_right (by omega)] at hp
      have hp3 : p = k := by
        have := (List.getElem?_eq_some_iff.mp hp).1
        simp at this
        omega
      subst hp3
      rw [hl, Nat.sub_self] at hp
      cases hp
      rw [hLk] at hrow'
      cases hrow'
      refine ⟨by omega, ?_⟩
      rw [skip _ (.lst (qs.map .ref)) _ _ (by omega)]
      have : S ++ Ob.lst (qs.map .ref) :: (T ++ [Ob.lst [.int 0], Ob.lst (row.map .int ++ [.int 0])]) = S1 ++ [Ob.lst [.int 0], Ob.lst (row.map .int ++ [.int 0])] := by
        rw [hS, List.append_assoc, List.cons_append]
      rw [this, List.getElem?_append_right (by omega), show S1.length + 1 - S1.length = 1 by omega]
      unfold obI
      rw [List.map_append]
      rfl
  · obtain ⟨qs, T, hS, hl, hq⟩ := hI
    rw [List.length_map, h2] at hl
    refine ⟨rfl, ⟨_, hS⟩, S.length, qs, rfl, by rw [hS]; exact get_end .., by rw [List.length_map, hl], fun p q row hp hr => ?_⟩
    rw [List.getElem?_map] at hr
    cases hL : L[p]? with
    | none => rw [hL] at hr; cases hr
    | some row0 =>
      rw [hL] at hr
      cases hr
      exact (hq p q row0 hp hL).2
end Lk02
namespace Lk02
open Mi
theorem kl0 : ctxOf L_l_law 0 = some (1, F_near_places) := rfl
theorem kl1 : ctxOf L_l_law 1 = some (1, F_ways_of) := rfl
theorem kl3 : ctxOf L_l_law 3 = some (2, F_l_box) := rfl
theorem kl4 : ctxOf L_l_law 4 = some (2, F_l_take) := rfl
theorem kl5 : ctxOf L_l_law 5 = some (1, F_l_whole) := rfl
theorem kl6 : ctxOf L_l_law 6 = some (3, F_l_ties) := rfl
theorem kl8 : ctxOf L_l_law 8 = some (2, F_l_rows_alike) := rfl
theorem kl9 : ctxOf L_l_law 9 = some (2, F_l_near) := rfl
theorem kl10 : ctxOf L_l_law 10 = some (1, F_l_ways) := rfl
/-- ties of n places as a list that stands at h -/
structure Web (S : Store) (n h : Nat) (l : List (Nat × Nat)) : Prop where
  at' : S[h]? = some (.lst (l.map pv))
  ord : l.Pairwise lex
  ok : ∀ t ∈ l, t.1 < t.2 ∧ t.2 < n
  n1 : n ≤ 30
  l1 : l.length ≤ 900
theorem Web.app {S : Store} {n h : Nat} {l : List (Nat × Nat)} (w : Web S n h l) (T : Store) : Web (S ++ T) n h l := ⟨get_app T w.at', w.ord, w.ok, w.n1, w.l1⟩
theorem near_sz {n : Nat} {l : List (Nat × Nat)} (hl : l.length ≤ 900) : ∀ row ∈ nearL l n, row.length ≤ 1800 := fun row hr => by
  unfold nearL at hr
  obtain ⟨p, _, rfl⟩ := List.mem_map.mp hr
  unfold nearOf
  have f1 := List.length_filter_le (fun t : Nat × Nat => decide (t.2 = p)) l
  have f2 := List.length_filter_le (fun t : Nat × Nat => decide (t.1 = p)) l
  rw [List.length_append, List.length_map, List.length_map]
  omega
theorem near_len (l : List (Nat × Nat)) (n : Nat) : (nearL l n).length = n := by unfold nearL; rw [List.length_map, List.length_range]
theorem np_full {S : Store} {n h : Nat} {l : List (Nat × Nat)} (w : Web S n h l) : ∃ U, (∃ T, U = S ++ T) ∧ F_near_places [.tup [.int n, .ref h]] S = .ok (.ref U.length) (U ++ rowsAt U.length (nearL l n)) := by
  have np := F_np_ok (n := n) w.at' (fun t m => ⟨by have := w.ok t m; omega, by have := w.ok t m; omega, by have := w.ok t m; omega⟩) (by have := w.n1; omega) (by have := w.l1; omega)
  rw [contL_srt w.ord fun t m => (w.ok t m).1] at np
  exact ⟨_, ⟨_, rfl⟩, np⟩
theorem np_weak {S : Store} {n h : Nat} {l : List (Nat × Nat)} (w : Web S n h l) : ∃ T v, F_near_places [.tup [.int n, .ref h]] S = .ok v (S ++ T) ∧ Rw (S ++ T) v (nearL l n) := by
  obtain ⟨U, ⟨T, hT⟩, np⟩ := np_full w
  have r := rowsAt_rw U [] (nearL l n)
  rw [List.append_nil] at r
  subst hT
  exact ⟨T ++ rowsAt (S ++ T).length (nearL l n), _, by rw [np, List.append_assoc], by rw [← List.append_assoc]; exact r⟩
/-- the last question -/
theorem tail_ok {S : Store} {n h : Nat} {l : List (Nat × Nat)} {due told v9 : Val} {M : List (List Int)} {x0 x1 x3 x6 x8 x10 : Option Val} {N B Ct : Env → Store → Prop} (w : Web S n h l) (hd : Rw S due (nearL l n)) (ht : Rw S told M) (h9 : Rw S v9 M) :
    ST (exs (ctxOf L_l_law) [(.ifS (.or (.not (.call 8 [(.call 0 [(.var 5)]), (.var 4)])) (.cmp .ne (.call 1 [(.var 5)]) (.call 10 [(.var 4)]))) [(.ret (.cst (.bl false)))] []), (.ret (.cmp .eq (.var 7) (.var 9)))] [x0, x1, some (.int n), x3, some due, some (.tup [.int n, .ref h]), x6, some told, x8, some v9, x10] S)
      N (fun v _ => v = .bl true) B Ct := by
  obtain ⟨T1, v1, e1, r1⟩ := np_weak w
  obtain ⟨T2, e2⟩ := F_rows_alike_ok r1 (hd.app T1) (by rw [near_len]; have := w.n1; omega) (fun row hr => by have := near_sz w.l1 row hr; omega)
  have w2 := (w.app T1).app T2
  obtain ⟨T3, e3⟩ := F_ways_ok w2.at' w2.ord w2.ok (by have := w.n1; omega) (by have := w.l1; omega)
  have e4 := F_lways_eq (((hd.app T1).app T2).app T3) (fun row hr => by have := near_sz w.l1 row hr; omega)
  have e5 := eq_rw (((ht.app T1).app T2).app T3) (((h9.app T1).app T2).app T3)
  generalize S ++ T1 = Sa at e1 r1 e2 e3 e4 e5 w2
  generalize Sa ++ T2 = Sb at e2 e3 e4 e5 w2
  generalize Sb ++ T3 = Sc at e3 e4 e5
  simp [kl0, kl8, kl1, kl10, e1, e2, e3, e4, e5]
end Lk02
namespace Lk02
open Mi
/-- the second half: from the rows with a nought on -/
def p13 : List Stm := [(.ifS (.cmp .gt (.pr .len [(.var 3)]) (.cst (.int 0))) [(.asg (.name 10) (.call 4 [(.call 3 [(.var 0), (.cst (.int 1))]), (.pr .len [(.var 3)])])), (.exp (.me .popAt (.sub (.var 5) (.cst (.int 1))) [(.var 10)])), (.asg (.name 4) (.call 9 [(.var 2), (.bin .add (.slH (.var 3) (.var 10)) (.slL (.var 3) (.bin .add (.var 10) (.cst (.int 1)))))]))] [])]
theorem get_set_ne {S : Store} {i j : Nat} {o x : Ob} (h : S[i]? = some o) (hne : j ≠ i) : (S.set j x)[i]? = some o := by rw [List.getElem?_set_ne hne]; exact h
/-- rows that stand nowhere at j -/
def RwX (S : Store) (v : Val) (L : List (List Int)) (j : Nat) : Prop := ∃ (r : Nat) (rs : List Nat), v = .ref r ∧ S[r]? = some (.lst (rs.map .ref)) ∧ rs.length = L.length ∧ (∀ (p q : Nat) (row : List Int), rs[p]? = some q → L[p]? = some row → S[q]? = some (obI row)) ∧ r ≠ j ∧ ∀ q ∈ rs, q ≠ j
theorem RwX.rw' {S : Store} {v : Val} {L : List (List Int)} {j : Nat} (h : RwX S v L j) : Rw S v L := by
  obtain ⟨r, rs, e, h1, h2, h3, _, _⟩ := h
  exact ⟨r, rs, e, h1, h2, h3⟩
theorem RwX.set {S : Store} {v : Val} {L : List (List Int)} {j : Nat} (h : RwX S v L j) (o : Ob) : Rw (S.set j o) v L := by
  obtain ⟨r, rs, e, h1, h2, h3, h4, h5⟩ := h
  exact ⟨r, rs, e, get_set_ne h1 (Ne.symm h4), h2, fun p q row hp hq => get_set_ne (h3 p q row hp hq) (Ne.symm (h5 q (List.mem_of_getElem? hp)))⟩
theorem RwX.app {S : Store} {v : Val} {L : List (List Int)} {j : Nat} (h : RwX S v L j) (T : Store) : RwX (S ++ T) v L j := by
  obtain ⟨r, rs, e, h1, h2, h3, h4, h5⟩ := h
  exact ⟨r, rs, e, get_app T h1, h2, fun p q row hp hq => get_app T (h3 p q row hp hq), h4, h5⟩
/-- a list of tuples at j is no row of whole numbers and no list of lists (or it is empty, then nothing is changed there) -/
theorem RwX.of {S : Store} {v : Val} {L : List (List Int)} {j : Nat} {l : List (Nat × Nat)} (h : Rw S v L) (hj : S[j]? = some (.lst (l.map pv))) (hl : 0 < l.length) : RwX S v L j := by
  obtain ⟨r, rs, e, h1, h2, h3⟩ := h
  cases l with
  | nil => cases hl
  | cons t l =>
    refine ⟨r, rs, e, h1, h2, h3, fun hr => ?_, fun q hq he => ?_⟩
    · subst hr
      rw [h1] at hj
      have := Ob.lst.inj (Option.some.inj hj)
      cases rs with
      | nil => cases this
      | cons a rs => cases this
    · subst he
      obtain ⟨p, hp, hpq⟩ := List.getElem_of_mem hq
      have h5 := h3 p q (L[p]'(by omega)) (by rw [List.getElem?_eq_getElem hp, hpq]) (List.getElem?_eq_getElem (by omega))
      rw [hj] at h5
      have := Ob.lst.inj (Option.some.inj h5)
      cases hrow : (L[p]'(by omega)) with
      | nil => rw [hrow] at this; cases this
      | cons a row => rw [hrow] at this; cases this
theorem cut_to {α : Type} (xs : List α) {k : Nat} (h : k ≤ xs.length) : cut xs none (some (k : Int)) = xs.take k := by
  unfold cut
  rw [HT.sIx_none, HT.sIx_nat, Nat.min_eq_left h, Nat.sub_zero, List.drop_zero]
theorem cut_from {α : Type} (xs : List α) {k : Nat} (h : k ≤ xs.length) : cut xs (some (k : Int)) none = xs.drop k := by
  unfold cut
  rw [HT.sIx_none, HT.sIx_nat, Nat.min_eq_left h]
  exact List.take_of_length_le (by rw [List.length_drop]; exact Nat.le_refl _)
def s13 : Stm := (.ifS (.cmp .gt (.pr .len [(.var 3)]) (.cst (.int 0))) [(.asg (.name 10) (.call 4 [(.call 3 [(.var 0), (.cst (.int 1))]), (.pr .len [(.var 3)])])), (.exp (.me .popAt (.sub (.var 5) (.cst (.int 1))) [(.var 10)])), (.asg (.name 4) (.call 9 [(.var 2), (.bin .add (.slH (.var 3) (.var 10)) (.slL (.var 3) (.bin .add (.var 10) (.cst (.int 1)))))]))] [])
theorem erase_map {α β : Type} (f : α → β) (l : List α) (k : Nat) : (l.map f).eraseIdx k = (l.eraseIdx k).map f := by
  rw [List.eraseIdx_eq_take_drop_succ, List.eraseIdx_eq_take_drop_succ, List.map_append, List.map_take, List.map_drop]
/-- how things stand behind it -/
def Mid (n h tr : Nat) (M : List (List Int)) (told v9 : Val) (x1 x6 x8 : Option Val) (ns : List Int) (ρ' : Env) (S' : Store) : Prop := ∃ l' due' x10', ρ' = [some (scr ns), x1, some (.int n), some (.ref tr), some due', some (.tup [.int n, .ref h]), x6, some told, x8, some v9, x10'] ∧ Web S' n h l' ∧ Rw S' due' (nearL l' n) ∧ Rw S' told M ∧ Rw S' v9 M
theorem mid_ok {S : Store} {n h tr : Nat} {l : List (Nat × Nat)} {due told v9 : Val} {M : List (List Int)} {x1 x6 x8 x10 : Option Val} {ns : List Int} (w : Web S n h l) (hr : S[tr]? = some (.lst (l.map pv))) (hne : h ≠ tr) (hd : Rw S due (nearL l n)) (ht : Rw S told M) (h9 : Rw S v9 M) :
    ST (ex (ctxOf L_l_law) s13 [some (scr ns), x1, some (.int n), some (.ref tr), some due, some (.tup [.int n, .ref h]), x6, some told, x8, some v9, x10] S)
      (Mid n h tr M told v9 x1 x6 x8 ns)
      (fun _ _ => False) (fun _ _ => False) (fun _ _ => False) := by
  by_cases hz : l.length = 0
  · have hz' : l = [] := List.length_eq_zero_iff.mp hz
    subst hz'
    simp [s13, hr]
    exact ⟨[], _, _, rfl, w, hd, ht, h9⟩
  · have hz' : 0 < l.length := by omega
    have htX := RwX.of ht w.at' hz'
    have h9X := RwX.of h9 w.at' hz'
    obtain ⟨a, c, ha, e1⟩ := F_box_ok ns 1 S (by decide)
    have e1 : F_l_box [scr ns, .int 1] S = .ok (.ref S.length) (S ++ [.lst [.int a, .int 0, .int c]]) := e1
    obtain ⟨d, a', hd0, hd1, ha', e2⟩ := F_take_ok (S := S ++ [.lst [.int a, .int 0, .int c]]) (b := S.length) (n := (l.length : Int)) (get_end ..) ha (by decide) (by decide) (by omega) (by have := w.l1; omega)
    rw [set_last] at e2
    obtain ⟨k, rfl⟩ := Int.eq_ofNat_of_zero_le hd0
    have hk : k < l.length := by omega
    have g0 : ∀ Z, (S ++ Z)[tr]? = some (.lst (l.map pv)) := fun Z => get_app Z hr
    have g1 : (S ++ [Ob.lst [.int a', .int (0 + 1), .int c]])[h]? = some (.lst (l.map pv)) := get_app _ w.at'
    have gn : (S ++ [Ob.lst [.int a', .int (0 + 1), .int c]]).length = S.length + 1 := by rw [List.length_append]; rfl
    have hh := get_lt g1
    have htX := htX.app [Ob.lst [.int a', .int (0 + 1), .int c]]
    have h9X := h9X.app [Ob.lst [.int a', .int (0 + 1), .int c]]
    have g2 := g0 [Ob.lst [.int a', .int (0 + 1), .int c]]
    generalize S ++ [Ob.lst [.int a', .int (0 + 1), .int c]] = Sa at e2 g1 gn hh htX h9X g2
    have mp : meth .popAt (.ref h) [.int (k : Int)] Sa = some (pv l[k], Sa.set h (.lst ((l.eraseIdx k).map pv))) := by
      show (match Sa[h]? with | some (.lst xs) => if 0 ≤ (k : Int) ∧ (k : Int) < 2 ^ 63 then match xs[(k : Int).toNat]? with | some y => some (y, Sa.set h (.lst (xs.eraseIdx (k : Int).toNat))) | none => none else none | _ => none) = _
      have hb : (0 : Int) ≤ k ∧ (k : Int) < 2 ^ 63 := ⟨by omega, by have := w.l1; omega⟩
      simp only [g1, Int.toNat_natCast, List.getElem?_map, List.getElem?_eq_getElem hk, Option.map_some, if_pos hb, erase_map]
    have it5 : ∀ S, item S (.tup [.int n, .ref h]) (.int 1) = some (.ref h) := fun S => item_tup S (i := 1) rfl
    have rc : recv .popAt Sa (.ref h) = true := by show (lstOf Sa (.ref h)).isSome = true; simp [g1]
    have g3 : (Sa.set h (.lst ((l.eraseIdx k).map pv)))[tr]? = some (.lst (l.map pv)) := get_set_ne g2 hne
    have g4 : (Sa.set h (.lst ((l.eraseIdx k).map pv)))[h]? = some (.lst ((l.eraseIdx k).map pv)) := by rw [List.getElem?_set_self hh]
    have htW := htX.set (.lst ((l.eraseIdx k).map pv))
    have h9W := h9X.set (.lst ((l.eraseIdx k).map pv))
    generalize Sa.set h (.lst ((l.eraseIdx k).map pv)) = Sb at mp g3 g4 htW h9W
    have hlz := w.l1
    have sl1 : slice Sb (.ref tr) none (some (k : Int)) = some (.ref Sb.length, Sb ++ [.lst ((l.take k).map pv)]) := by
      unfold slice
      simp only [lstOf_ref, g3]
      rw [cut_to _ (by rw [List.length_map]; omega), List.map_take]
      exact alloc_small _ _ (by rw [List.length_take, List.length_map]; omega)
    have sl2 : slice (Sb ++ [.lst ((l.take k).map pv)]) (.ref tr) (some ((k : Int) + 1)) none = some (.ref (Sb.length + 1), Sb ++ [.lst ((l.take k).map pv), .lst ((l.drop (k + 1)).map pv)]) := by
      unfold slice
      simp only [lstOf_ref, get_app _ g3]
      have : ((k : Int) + 1) = ((k + 1 : Nat) : Int) := by omega
      rw [this, cut_from _ (by rw [List.length_map]; omega), List.map_drop]
      rw [alloc_small _ _ (by rw [List.length_drop, List.length_map]; omega), List.length_append, List.append_assoc]
      rfl
    have er : (l.take k).map pv ++ (l.drop (k + 1)).map pv = (l.eraseIdx k).map pv := by rw [← List.map_append, List.eraseIdx_eq_take_drop_succ]
    have i1 : (Sb ++ [Ob.lst ((l.take k).map pv), Ob.lst ((l.drop (k + 1)).map pv)])[Sb.length + 1]? = some (Ob.lst ((l.drop (k + 1)).map pv)) := by
      rw [List.getElem?_append_right (by omega), show Sb.length + 1 - Sb.length = 1 by omega]; rfl
    have al : Mi.alloc (Sb ++ [Ob.lst ((l.take k).map pv), Ob.lst ((l.drop (k + 1)).map pv)]) ((l.take k).map pv ++ (l.drop (k + 1)).map pv) = some (.ref (Sb.length + 2), Sb ++ [Ob.lst ((l.take k).map pv), Ob.lst ((l.drop (k + 1)).map pv), Ob.lst ((l.eraseIdx k).map pv)]) := by
      rw [er, alloc_small _ _ (by rw [List.length_map]; have := List.length_eraseIdx_le l k; omega), List.length_append, List.append_assoc]
      rfl
    have hw2 : Web Sb n h (l.eraseIdx k) := ⟨g4, w.ord.sublist (List.eraseIdx_sublist ..), fun t m => w.ok t (List.mem_of_mem_eraseIdx m), w.n1, by have := List.length_eraseIdx_le l k; omega⟩
    have g5 : (Sb ++ [Ob.lst ((l.take k).map pv), Ob.lst ((l.drop (k + 1)).map pv), Ob.lst ((l.eraseIdx k).map pv)])[Sb.length + 2]? = some (Ob.lst ((l.eraseIdx k).map pv)) := by
      rw [List.getElem?_append_right (by omega), show Sb.length + 2 - Sb.length = 2 by omega]; rfl
    obtain ⟨T, e3, r3⟩ := F_near_ok (n := n) g5 (by have := hw2.l1; omega) (by have := w.n1; omega)
    have hw3 := (hw2.app [Ob.lst ((l.take k).map pv), Ob.lst ((l.drop (k + 1)).map pv), Ob.lst ((l.eraseIdx k).map pv)]).app T
    have htW := (htW.app [Ob.lst ((l.take k).map pv), Ob.lst ((l.drop (k + 1)).map pv), Ob.lst ((l.eraseIdx k).map pv)]).app T
    have h9W := (h9W.app [Ob.lst ((l.take k).map pv), Ob.lst ((l.drop (k + 1)).map pv), Ob.lst ((l.eraseIdx k).map pv)]).app T
    have hz3 : (0 : Int) < l.length := by omega
    generalize hSc : Sb ++ [Ob.lst ((l.take k).map pv), Ob.lst ((l.drop (k + 1)).map pv), Ob.lst ((l.eraseIdx k).map pv)] = Sc at al e3 r3 hw3 htW h9W
    generalize (l.take k).map pv = A1 at sl1 sl2 i1 al hSc
    generalize (l.drop (k + 1)).map pv = A2 at sl2 i1 al hSc
    simp [s13, hr, hz', kl3, kl4, kl9, e1, e2, g0, it5, rc, mp, sl1, sl2, i1, al, e3]
    exact ⟨_, _, _, rfl, hw3, r3, htW, h9W⟩
end Lk02
namespace Lk02
open Mi
theorem exs_app (C : Ctx) : ∀ (p q : List Stm) (ρ : Env) (S : Store), exs C (p ++ q) ρ S = (exs C p ρ S).then fun ρ S => exs C q ρ S
  | [], q, ρ, S => by rw [List.nil_append, exs_nil]; rfl
  | s :: p, q, ρ, S => by
    rw [List.cons_append, exs_cons, exs_cons]
    cases ex C s ρ S with
    | nx ρ' S' => exact exs_app C p q ρ' S'
    | _ => rfl
theorem bind_inv {r : R Unit} {v v' : Val} {S' : Store} (h : (r.bind fun _ S1 => R.ok v S1) = .ok v' S') : r = .ok () S' := by
  cases r with
  | ok u S => cases h; rfl
  | ex _ _ _ => cases h
  | bad => cases h
def q1 : List Stm := [(.asg (.name 1) (.call 3 [(.var 0), (.cst (.int 0))])), (.asg (.name 2) (.call 4 [(.var 1), (.cst (.int 13))])), (.asg (.name 3) (.call 6 [(.var 1), (.var 2), (.bin .add (.cst (.int 1)) (.call 4 [(.var 1), (.cst (.int 9))]))])), (.asg (.name 4) (.call 9 [(.var 2), (.var 3)])), (.asg (.name 5) (.tup [(.var 2), (.pr .list [(.var 3)])])), (.asg (.name 6) (.call 1 [(.var 5)])), (.asg (.name 7) (.call 0 [(.var 5)])), (.ifS (.or (.not (.call 5 [(.var 6)])) (.or (.cmp .ne (.var 6) (.call 10 [(.var 4)])) (.not (.call 8 [(.var 7), (.var 4)])))) [(.ret (.cst (.bl false)))] []), (.ifS (.cmp .ne (.var 5) (.tup [(.var 2), (.var 3)])) [(.ret (.cst (.bl false)))] [])]
def q2 : List Stm := [(.for (.name 8) .seq [(.var 7)] [(.exp (.me .append (.var 8) [(.cst (.int 0))]))]), (.asg (.name 9) (.lc [8] (.name 8) .seq [(.var 4)] [] (.bin .add (.var 8) (.lst [(.cst (.int 0))])))), (.ifS (.or (.cmp .ne (.var 7) (.var 9)) (.not (.call 8 [(.call 0 [(.var 5)]), (.var 4)]))) [(.ret (.cst (.bl false)))] [])]
def q4 : List Stm := [(.ifS (.or (.not (.call 8 [(.call 0 [(.var 5)]), (.var 4)])) (.cmp .ne (.call 1 [(.var 5)]) (.call 10 [(.var 4)]))) [(.ret (.cst (.bl false)))] []), (.ret (.cmp .eq (.var 7) (.var 9)))]
theorem B_split : B_l_law = q1 ++ (q2 ++ (s13 :: q4)) := rfl
def St1 (ns : List Int) (ρ : Env) (S : Store) : Prop := ∃ (n tr h : Nat) (l : List (Nat × Nat)) (due : Val) (W : Val) (U T : Store), ρ = [some (scr ns), some (.ref 0), some (.int n), some (.ref tr), some due, some (.tup [.int n, .ref h]), some W, some (.ref U.length), none, none, none] ∧
  S = U ++ (rowsAt U.length (nearL l n) ++ T) ∧ Web U n h l ∧ U[tr]? = some (.lst (l.map pv)) ∧ h ≠ tr ∧ Rw U due (nearL l n)
theorem st1 (ns : List Int) : ST (exs (ctxOf L_l_law) q1 [some (scr ns), none, none, none, none, none, none, none, none, none, none] []) (St1 ns) (fun _ _ => False) (fun _ _ => False) (fun _ _ => False) := by
  obtain ⟨a, c, ha, e1⟩ := F_box_ok ns 0 [] (by decide)
  have e1 : F_l_box [scr ns, .int 0] [] = .ok (.ref 0) [.lst [.int a, .int 0, .int c]] := e1
  obtain ⟨n', a1, n0, n1, ha1, e2⟩ := F_take_ok (S := [.lst [.int a, .int 0, .int c]]) (b := 0) (n := 13) rfl ha (by decide) (by decide) (by decide) (by decide)
  obtain ⟨n, rfl⟩ := Int.eq_ofNat_of_zero_le n0
  have hn : n < 13 := by omega
  have e2 : F_l_take [.ref 0, .int 13] [.lst [.int a, .int 0, .int c]] = .ok (.int n) [.lst [.int a1, .int (0 + 1), .int c]] := e2
  obtain ⟨d, a2, d0, d1, ha2, e3⟩ := F_take_ok (S := [.lst [.int a1, .int (0 + 1), .int c]]) (b := 0) (n := 9) rfl ha1 (by decide) (by decide) (by decide) (by decide)
  have e3 : F_l_take [.ref 0, .int 9] [.lst [.int a1, .int (0 + 1), .int c]] = .ok (.int d) [.lst [.int a2, .int (0 + 1 + 1), .int c]] := e3
  obtain ⟨a3, j3, l, ha3, hj3, hj3', hT, hl, e4⟩ := F_ties_ok (S := [.lst [.int a2, .int (0 + 1 + 1), .int c]]) (b := 0) (n := n) (t := 1 + d) rfl ha2 (by decide) (by decide) (by omega) (by omega) (by omega)
  have e4 : F_l_ties [.ref 0, .int n, .int (1 + d)] [.lst [.int a2, .int (0 + 1 + 1), .int c]] = .ok (.ref 1) [.lst [.int a3, .int j3, .int c], .lst (l.map pv)] := e4
  have w1 : Web [.lst [.int a3, .int j3, .int c], .lst (l.map pv)] n 1 l := ⟨rfl, hT.ord, hT.ok, by omega, hl⟩
  generalize hSd : [Ob.lst [.int a3, .int j3, .int c], .lst (l.map pv)] = Sd at e4 w1
  obtain ⟨T1, e5, r5⟩ := F_near_ok (n := n) w1.at' (by omega) (by omega)
  have w2 := w1.app T1
  generalize hdue : Val.ref Sd.length = due at e5 r5
  generalize hSe : Sd ++ T1 = Se at e5 r5 w2
  have lt1 := get_lt w2.at'
  have li : prim .list [.ref 1] Se = some (.ref Se.length, Se ++ [.lst (l.map pv)]) := by
    show (match seqOf Se (.ref 1) with | some xs => alloc Se xs | none => none) = _
    simp only [seqOf_ref, w2.at']
    exact alloc_small _ _ (by rw [List.length_map]; omega)
  have w3 : Web (Se ++ [.lst (l.map pv)]) n Se.length l := ⟨get_end .., hT.ord, hT.ok, by omega, hl⟩
  have g3 := get_app [.lst (l.map pv)] w2.at'
  have r6 := r5.app [.lst (l.map pv)]
  have hne : Se.length ≠ 1 := by omega
  generalize Se ++ [Ob.lst (l.map pv)] = Sf at li w3 g3 r6
  generalize Se.length = h at li w3 hne
  obtain ⟨T2, e6⟩ := F_ways_ok w3.at' w3.ord w3.ok (by omega) (by omega)
  have w4 := w3.app T2
  have g4 := get_app T2 g3
  have r7 := r6.app T2
  generalize Sf ++ T2 = Sg at e6 w4 g4 r7
  obtain ⟨U, ⟨T, hU⟩, e7⟩ := np_full w4
  have w5 := w4.app T
  have g5 := get_app T g4
  have r8 := r7.app T
  rw [← hU] at w5 g5 r8
  have rt := rowsAt_rw U [] (nearL l n)
  rw [List.append_nil] at rt
  have sz := near_sz (n := n) w5.l1
  obtain ⟨T3, e8⟩ := F_rows_alike_ok rt (r8.app _) (by rw [near_len]; omega) (fun row hr => by have := sz row hr; omega)
  have e9 := F_lways_eq (r8.app (rowsAt U.length (nearL l n))) (fun row hr => by have := sz row hr; omega)
  have e10 := F_whole_eq (waysL (nearL l n)) (U ++ rowsAt U.length (nearL l n))
  have e11 := eq_handed (n := n) (get_app T3 (get_app (rowsAt U.length (nearL l n)) w5.at')) (get_app T3 (get_app (rowsAt U.length (nearL l n)) g5))
  have fin : St1 ns [some (scr ns), some (.ref 0), some (.int n), some (.ref 1), some due, some (.tup [.int n, .ref h]), some (.int (waysL (nearL l n))), some (.ref U.length), none, none, none] (U ++ rowsAt U.length (nearL l n) ++ T3) :=
    ⟨n, 1, h, l, due, _, U, T3, rfl, by rw [List.append_assoc], w5, g5, hne, r8⟩
  generalize waysL (nearL l n) = W at e6 e9 e10 fin
  generalize U ++ rowsAt U.length (nearL l n) = Sh at e7 e8 e9 e10 e11 fin
  generalize Sh ++ T3 = Si at e8 e11 fin
  generalize U.length = u at e7 e8 fin
  generalize [Ob.lst [.int a1, .int (0 + 1), .int c]] = Sb at e2 e3
  generalize [Ob.lst [.int a2, .int (0 + 1 + 1), .int c]] = Sc at e3 e4
  simp [q1, kl0, kl1, kl3, kl4, kl5, kl6, kl8, kl9, kl10, e1, e2, e3, e4, e5, li, e6, e7, e8, e9, e10, e11]
  exact fin
def St2 (ns : List Int) (ρ : Env) (S : Store) : Prop := ∃ (n tr h : Nat) (l : List (Nat × Nat)) (due told v9 : Val) (M : List (List Int)) (x1 x6 x8 x10 : Option Val), ρ = [some (scr ns), x1, some (.int n), some (.ref tr), some due, some (.tup [.int n, .ref h]), x6, some told, x8, some v9, x10] ∧
  Web S n h l ∧ S[tr]? = some (.lst (l.map pv)) ∧ h ≠ tr ∧ Rw S due (nearL l n) ∧ Rw S told M ∧ Rw S v9 M
theorem st2 (ns : List Int) {ρ : Env} {S : Store} (hI : St1 ns ρ S) : ST (exs (ctxOf L_l_law) q2 ρ S) (St2 ns) (fun _ _ => False) (fun _ _ => False) (fun _ _ => False) := by
  obtain ⟨n, tr, h, l, due, W, U, T, hρ, hS, w, htr, hne, hd⟩ := hI
  subst hρ
  subst hS
  have sz := near_sz (n := n) w.l1
  have top := rowsAt_top U T (nearL l n)
  unfold q2
  rw [exs_cons, ST_then]
  simp only [ex_for, evs_cons, evs_nil, ev_var, List.getElem?_cons_succ, List.getElem?_cons_zero, R.bind_ok, R.st_ok, start_ref, lstOf_ref, top, Option.map_some, forL_some]
  refine app_loop _ U T (nearL l n) _ _ _ _ _ _ _ _ _ _ _ (fun row hr => by have := sz row hr; omega) fun x => ?_
  have rt : Rw (U ++ (rowsAt U.length ((nearL l n).map (· ++ [0])) ++ T)) (.ref U.length) ((nearL l n).map (· ++ [0])) := rowsAt_rw U T _
  have hd2 := hd.app (rowsAt U.length ((nearL l n).map (· ++ [0])) ++ T)
  have w2 := w.app (rowsAt U.length ((nearL l n).map (· ++ [0])) ++ T)
  have g2 := get_app (rowsAt U.length ((nearL l n).map (· ++ [0])) ++ T) htr
  generalize U ++ (rowsAt U.length ((nearL l n).map (· ++ [0])) ++ T) = S at rt hd2 w2 g2 ⊢
  have pl := plus0 (ctxOf L_l_law) hd2 (fun row hr => by have := sz row hr; omega) (by rw [near_len]; have := w.n1; omega) (some (scr ns)) (some (.ref 0)) (some (.int n)) (some (.ref tr)) (some (.tup [.int n, .ref h])) (some W) (some (.ref U.length)) x none none
  obtain ⟨r, rs, hdr, hr1, _⟩ := id hd2
  subst hdr
  obtain ⟨v9, S1, c1, rfl, ⟨T1, hS1⟩, r9⟩ := pl.get
  subst hS1
  have rt := rt.app T1
  have hd3 := hd2.app T1
  have w3 := w2.app T1
  have g3 := get_app T1 g2
  obtain ⟨T2, vt, e1, r1⟩ := np_weak w3
  obtain ⟨T3, e2⟩ := F_rows_alike_ok r1 (hd3.app T2) (by rw [near_len]; have := w.n1; omega) (fun row hr => by have := sz row hr; omega)
  have e3 := eq_rw rt r9
  have fin : St2 ns [some (scr ns), some (.ref 0), some (.int n), some (.ref tr), some (.ref r), some (.tup [.int n, .ref h]), some W, some (.ref U.length), x, some (.ref S.length), none] (S ++ T1 ++ T2 ++ T3) :=
    ⟨n, tr, h, l, _, _, _, _, _, _, _, _, rfl, (w3.app T2).app T3, get_app T3 (get_app T2 g3), hne, (hd3.app T2).app T3, (rt.app T2).app T3, (r9.app T2).app T3⟩
  generalize hSa : S ++ T1 = Sa at c1 e1 e2 e3 fin
  generalize Sa ++ T2 = Sb at e1 e2 fin
  generalize Sb ++ T3 = Sc at e2 fin
  generalize U.length = u at *
  have c0 := bind_inv c1
  simp [hr1, c0, kl0, kl8, e1, e2, e3]
  exact fin
theorem holds (ns : List Int) (hl : ns.length ≤ 63) : ∃ S, F_l_law [scr ns] [] = .ok (.bl true) S := by
  have main : RT (F_l_law [scr ns] []) (fun v _ => v = .bl true) := by
    rw [F_l_law_eq, RT_run, B_split, exs_app, ST_then]
    refine ST.mono (st1 ns) (fun ρ S h1 => ?_) (fun _ _ h => h.elim) (fun _ _ h => h) (fun _ _ h => h)
    rw [exs_app, ST_then]
    refine ST.mono (st2 ns h1) (fun ρ S h2 => ?_) (fun _ _ h => h.elim) (fun _ _ h => h) (fun _ _ h => h)
    obtain ⟨n, tr, h, l, due, told, v9, M, x1, x6, x8, x10, hρ, w, g, hne, hd, ht, h9⟩ := h2
    subst hρ
    rw [exs_cons, ST_then]
    refine ST.mono (mid_ok w g hne hd ht h9) (fun ρ S h3 => ?_) (fun _ _ h => h.elim) (fun _ _ h => h) (fun _ _ h => h)
    obtain ⟨l', due', x10', hρ, w', hd', ht', h9'⟩ := h3
    subst hρ
    exact tail_ok w' hd' ht' h9'
  obtain ⟨v, S, e, rfl⟩ := main.get
  exact ⟨S, e⟩
end Lk02
open PySem PySem.W
open PyProof.Rows
set_option maxHeartbeats 0 in
theorem PySem.Challenge.cw_ringfloor_k02_near_and_ways_holds : PySem.Challenge.rw_ringfloor_k02_near_and_ways.Holds := by
  w_on; o_law; k_head; (case hw => w_witness2); k_fill
  refine L2.walk_of (l := PySem.Challenge.rw_ringfloor_k02_near_and_ways) (n := 63) (k := 4) (x := "_law_script") (CX := fun w => L2.CX PySem.Challenge.rw_ringfloor_k02_near_and_ways.prog w) (sp := fun w => Mi.spOf _ (fun _ => .none) 1 Lk02.F_l_law) rfl (by decide) rfl ⟨rfl, by decide, by decide⟩ (fun w h Y => PySem.W.kIn_of Y) ?F (fun _ _ a ns hl hO hS => Mi.sp_law hO hS (Lk02.holds ns hl)) (fun _ _ _ _ _ h => Mi.cx_none h)
  case F =>
    intro w mg fa h KX G hmg
    refine' Lk02.all_mk KX G hmg ?a0 ?l0 ?c0 ?k0 ?a1 ?l1 ?c1 ?k1 ?a2 ?l2 ?c2 ?k2 ?a3 ?l3 ?c3 ?k3 ?a4 ?l4 ?c4 ?k4 ?a5 ?l5 ?c5 ?k5 ?a6 ?l6 ?c6 ?k6 ?a7 ?l7 ?c7 ?k7 ?a8 ?l8 ?c8 ?k8 ?a9 ?l9 ?c9 ?k9 ?a10 ?l10 ?c10 ?k10 ?a11 ?l11 ?c11 ?k11 ?z0 ?z1 ?z2 ?z3 ?z4 ?z5 ?z6 ?z7 ?z8 ?z9 ?z10 ?z11 ?z12 ?z13 ?z14 ?z15 ?z16 ?z17 ?z18
    (case a0 => k_is); (case l0 => k_is); (case c0 => k_is); (case k0 => k_is)
    (case a1 => k_is); (case l1 => k_is); (case c1 => k_is); (case k1 => k_is); (case a2 => k_is); (case l2 => k_is); (case c2 => k_is); (case k2 => k_is)
    (case a3 => k_is); (case l3 => k_is); (case c3 => k_is); (case k3 => k_is); (case a4 => k_is); (case l4 => k_is); (case c4 => k_is); (case k4 => k_is)
    (case a5 => k_is); (case l5 => k_is); (case c5 => k_is); (case k5 => k_is)
    (case a6 => k_is); (case l6 => k_is); (case c6 => k_is); (case k6 => k_is)
    (case a7 => k_is); (case l7 => k_is); (case c7 => k_is); (case k7 => k_is)
    (case a8 => k_is); (case l8 => k_is); (case c8 => k_is); (case k8 => k_is)
    (case a9 => k_is); (case l9 => k_is); (case c9 => k_is); (case k9 => k_is)
    (case a10 => k_is); (case l10 => k_is); (case c10 => k_is); (case k10 => k_is)
    (case a11 => k_is); (case l11 => k_is); (case c11 => k_is); (case k11 => k_is)
    (case z0 => k_is)
    (case z1 => k_is)
    (case z2 => k_is)
    (case z3 => k_is)
    (case z4 => k_is)
    (case z5 => k_is)
    (case z6 => k_is)
    (case z7 => k_is)
    (case z8 => k_is)
    (case z9 => k_is)
    (case z10 => k_is)
    (case z11 => k_is)
    (case z12 => k_is)
    (case z13 => k_is)
    (case z14 => k_is)
    (case z15 => k_is)
    (case z16 => k_is)
    (case z17 => k_is)
    (case z18 => k_is)
