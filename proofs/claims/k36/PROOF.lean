import PyProof.Rows.All
import Wide.All
import OpenK.AllK
import Wide.FinOn
import HandS.ForMost
import HandS.ForExc
import HandS.CallSlots
import HandS.SortInts
import HandS.SortRule
import HandS.Conv
import HandS.Wide
import HandS.IsInst
import HandS.Flow
import HandS.Style
import HandS.Deep
import HandS.More
import HandS.ExcIs
import HandS.TryMany
import PySem.Challenge.RW_ringfloor_k36_threes_made
noncomputable section
set_option Elab.async false
set_option linter.all false
set_option maxRecDepth 100000
set_option maxHeartbeats 8000000
namespace Mi
open PySem
/-! each k-th of a list, from a on -/
def stpIx (n a k : Nat) : List Nat := (List.range ((n - a + k - 1) / k)).map fun j => a + k * j
def stp {α : Type} (xs : List α) (a k : Nat) : List α := (stpIx xs.length a k).filterMap (xs[·]?)
theorem stpIx_lt {n a k i : Nat} (hk : 0 < k) (h : i ∈ stpIx n a k) : i < n := by
  unfold stpIx at h
  obtain ⟨j, hj, rfl⟩ := List.mem_map.mp h
  have h1 := List.mem_range.mp hj
  have h2 : k * (j + 1) ≤ n - a + k - 1 := by
    have h3 : (j + 1) * k ≤ n - a + k - 1 := (Nat.le_div_iff_mul_le hk).mp h1
    rw [Nat.mul_comm]
    exact h3
  rw [Nat.mul_add, Nat.mul_one] at h2
  omega
theorem stp_map {α β : Type} (f : α → β) (xs : List α) (a k : Nat) : stp (xs.map f) a k = (stp xs a k).map f := by
  unfold stp
  rw [List.length_map, List.map_filterMap]
  congr 1
  funext i
  rw [List.getElem?_map]
theorem stp_len {α : Type} {xs : List α} {a k : Nat} (hk : 0 < k) : (stp xs a k).length ≤ xs.length := by
  unfold stp
  refine Nat.le_trans (List.length_filterMap_le _ _) ?_
  unfold stpIx
  rw [List.length_map, List.length_range]; by_cases h : xs.length = 0
  · rw [h, Nat.div_eq_of_lt (by omega)]; exact Nat.le_refl _
  refine Nat.div_le_of_le_mul ?_
  have : 1 * xs.length ≤ k * xs.length := Nat.mul_le_mul_right _ hk
  · have h3 : (k - 1) * 1 ≤ (k - 1) * xs.length := Nat.mul_le_mul_left _ (by omega)
    have h4 : k * xs.length = (k - 1) * xs.length + xs.length := by
      have : k = (k - 1) + 1 := by omega
      conv => lhs; rw [this, Nat.add_mul, Nat.one_mul]
    omega
theorem fm_pred {α : Type} (t : α) (r : List α) : ∀ is : List Nat, (∀ i ∈ is, 0 < i) → is.filterMap ((t :: r)[·]?) = (is.map (· - 1)).filterMap (r[·]?)
  | [], _ => rfl
  | i :: is, h => by
    have hi := h i List.mem_cons_self
    obtain ⟨j, rfl⟩ : ∃ j, i = j + 1 := ⟨i - 1, by omega⟩
    have ih := fm_pred t r is fun x hx => h x (List.mem_cons_of_mem _ hx)
    rw [List.map_cons, List.filterMap_cons, List.filterMap_cons, ih]
    rfl
theorem pw_pred {is : List Nat} (h : is.Pairwise (· < ·)) (h0 : ∀ i ∈ is, 0 < i) : (is.map (· - 1)).Pairwise (· < ·) := by
  rw [List.pairwise_map]
  exact h.imp_of_mem fun {a b} ha hb hab => by have := h0 a ha; omega
theorem stpIx_pw {n a k : Nat} (hk : 0 < k) : (stpIx n a k).Pairwise (· < ·) := by
  unfold stpIx
  rw [List.pairwise_map]
  exact List.pairwise_lt_range.imp fun {x y} h => by
    have : k * (x + 1) ≤ k * y := Nat.mul_le_mul_left _ h
    rw [Nat.mul_add, Nat.mul_one] at this; omega
theorem pick_stp (items : Array Value) (a k : Nat) (hk : 0 < k) : slicePick items (some (a : Int)) none (some (k : Int)) = (stp items.toList a k).toArray := by
  unfold slicePick stp
  congr 1
  have e1 : (sliceBounds (some (a : Int)) none (some (k : Int)) items.size) = (max 0 (min (a : Int) items.size), (items.size : Int), (k : Int)) := by
    have hp : (k : Int) > 0 := by omega
    have hn : ¬ (a : Int) < 0 := by omega
    simp only [sliceBounds, Option.getD_some, hp, if_true, hn, if_false]
  rw [e1]
  have e2 : items.toList.length = items.size := by simp
  rw [e2]
  have e3 : sliceRange (max 0 (min (a : Int) items.size)) (items.size : Int) (k : Int) = stpIx items.size a k := by
    unfold sliceRange stpIx
    have hp : (k : Int) > 0 := by omega
    rw [if_pos hp]
    by_cases h : a < items.size
    · have h2 : max 0 (min (a : Int) items.size) = (a : Int) := by omega
      rw [h2, if_pos (by omega)]
      have h3 : (items.size : Int) - (a : Int) + (k : Int) - 1 = ((items.size - a + k - 1 : Nat) : Int) := by omega
      rw [h3, ← Int.natCast_ediv]
      show (List.range (((items.size - a + k - 1) / k : Nat) : Int).toNat).map _ = _
      rw [Int.toNat_natCast]
      apply List.map_congr_left
      intro j _
      rw [← Int.natCast_mul, ← Int.natCast_add, Int.toNat_natCast]
    · have h2 : max 0 (min (a : Int) items.size) = (items.size : Int) := by omega
      rw [h2, if_neg (by omega)]
      have h3 : items.size - a + k - 1 = k - 1 := by omega
      rw [h3, Nat.div_eq_of_lt (by omega)]
      rfl
  rw [e3]
  congr 1
  funext i
  rw [Array.getElem?_toList]
end Mi
/-! Mi: a small evaluator for the text's Python, over a store of numbered objects. -/
namespace Mi
open PySem
abbrev DKey := Sum Int Str
inductive Val where
  | non | bl (b : Bool) | int (i : Int) | str (x : Str) | ty (n : String)
  | ref (i : Nat) | tup (vs : List Val) | fro (vs : List Val)
  deriving Inhabited
inductive Ob where
  | lst (xs : List Val) | dK (kvs : List (DKey × Val)) | dT (kvs : List (List DKey × Val)) | xd (fs : List (Str × Val))
  deriving Inhabited
abbrev Store := List Ob
abbrev Env := List (Option Val)
/-- how an expression ends -/
inductive R (α : Type) where
  | ok (a : α) (S : Store) | ex (c : Nat) (d : Option Nat) (S : Store) | bad
def R.bind {α β : Type} (r : R α) (k : α → Store → R β) : R β := match r with
  | .ok a S => k a S
  | .ex c d S => .ex c d S
  | .bad => .bad
@[simp] theorem R.bind_ok {α β : Type} (a : α) (S : Store) (k : α → Store → R β) : (R.ok a S).bind k = k a S := Eq.trans rfl rfl
@[simp] theorem R.bind_ex {α β : Type} (c : Nat) (d : Option Nat) (S : Store) (k : α → Store → R β) : (R.ex c d S).bind k = .ex c d S := Eq.trans rfl rfl
@[simp] theorem R.bind_bad {α β : Type} (k : α → Store → R β) : (R.bad : R α).bind k = .bad := Eq.trans rfl rfl
abbrev Sem := List Val → Store → R Val
inductive O2 where | add | sub | mul | fdiv | mod | pow
inductive Cp where | lt | le | gt | ge | eq | ne | isn | notn | isin | notin
inductive Pr where | len | sum | max | min | max2 | min2 | sorted | abs | str | int | all | any | list | tuple
inductive Me where | append | pop | popAt | insert | index | extend | count | reverse | join | split | get1 | get2
/-- a target -/
inductive Tg where | name (i : Nat) | tup (ts : List Tg)
/-- what is walked -/
inductive IK where | seq | rng1 | rng2 | rng3 | enum | zip | rev
inductive E where
  | var (i : Nat) | cst (v : Val) | lst (es : List E) | tup (es : List E)
  | bin (o : O2) (a b : E) | neg (a : E)
  | cmp (o : Cp) (a b : E) | chain (o p : Cp) (a b c : E)
  | and (a b : E) | or (a b : E) | not (a : E) | ite (c a b : E)
  | sub (a i : E) | slB (a lo hi : E) | slL (a lo : E) | slH (a hi : E) | slA (a : E) | slR (a : E) | slS (a lo st : E)
  | call (f : Nat) (es : List E) | isi (a : E) (T : String)
  | pr (p : Pr) (es : List E) | me (m : Me) (o : E) (es : List E)
  | lc (own : List Nat) (t : Tg) (k : IK) (its : List E) (ifs : List E) (e : E)
  | dK | dT | dis (ks vs : List E) | lrg1 (a : E) | lrg2 (a b : E) | isx (k : Nat)
inductive Stm where
  | asg (t : Tg) (e : E) | set (a i e : E) | aug (i : Nat) (o : O2) (e : E) | augS (a i : E) (o : O2) (e : E)
  | exp (e : E) | ret (e : E) | retn | pass | brk | cnt
  | ifS (c : E) (p q : List Stm) | whl (c : E) (p : List Stm) | for (t : Tg) (k : IK) (its : List E) (p : List Stm)
  | raise (c : Nat) | tri (p : List Stm) (c i : Nat) (kn : List Nat) (q : List Stm) | nvr
/-- is an error of class c one of class k: 0 is the own class above all, from 100 on built-in ones above it -/
def exSub (c k : Nat) : Bool := decide (c = k) || decide (k = 0) || decide (100 ≤ k)
def excNo : Nat := 1000000
/-! ### values and operators -/
/-- the whole numbers of a list of values -/
def intsOf : List Val → Option (List Int)
  | [] => some []
  | .int i :: r => (intsOf r).map (i :: ·)
  | _ :: _ => none
def prsOf : List Val → Option (List (Int × Int))
  | [] => some []
  | .tup [.int i, .int j] :: r => (prsOf r).map ((i, j) :: ·)
  | _ :: _ => none
def lePr (a b : Int × Int) : Bool := decide (a.1 < b.1) || (decide (a.1 = b.1) && decide (a.2 ≤ b.2))
def vPr (p : Int × Int) : Val := .tup [.int p.1, .int p.2]
def blsOf : List Val → Option (List Bool)
  | [] => some []
  | .bl i :: r => (blsOf r).map (i :: ·)
  | _ :: _ => none
def strsOf : List Val → Option (List Str)
  | [] => some []
  | .str i :: r => (strsOf r).map (i :: ·)
  | _ :: _ => none
/-- what a list holds -/
def lstOf (S : Store) : Val → Option (List Val)
  | .ref r => match S[r]? with
    | some (.lst xs) => some xs
    | _ => none
  | .fro xs => some xs
  | _ => none
def seqOf (S : Store) : Val → Option (List Val)
  | .tup xs => some xs
  | v => lstOf S v
/-- how an operation ends: a value and a store, or not at all -/
abbrev P := Option (Val × Store)
def alloc (S : Store) (xs : List Val) : P := if xs.length ≤ sizeLine then some (.ref S.length, S ++ [.lst xs]) else none
/-! bounds that the kernel never looks into -/
theorem mulOk_ex : ∃ f : Int → Int → Bool, ∀ i j, f i j = ((decide (-(2 ^ 64) < i) && decide (i < 2 ^ 64)) || (decide (-(2 ^ 64) < j) && decide (j < 2 ^ 64)) || decide (i.natAbs.log2 + j.natAbs.log2 < 900000)) := ⟨_, fun _ _ => rfl⟩
theorem in63_ex : ∃ f : Int → Bool, ∀ i, f i = (decide (0 ≤ i) && decide (i < 2 ^ 63)) := ⟨_, fun _ => rfl⟩
theorem sg63_ex : ∃ f : Int → Bool, ∀ i, f i = (decide (-(2 ^ 63) ≤ i) && decide (i < 2 ^ 63)) := ⟨_, fun _ => rfl⟩
theorem small62_ex : ∃ f : Int → Bool, ∀ i, f i = (decide (-(2 ^ 62) ≤ i) && decide (i < 2 ^ 62)) := ⟨_, fun _ => rfl⟩
def in63 (i : Int) : Bool := in63_ex.choose i
def sg63 (i : Int) : Bool := sg63_ex.choose i
def mulOk (i j : Int) : Bool := mulOk_ex.choose i j
def small62 (i : Int) : Bool := small62_ex.choose i
theorem in63_iff {i : Int} : in63 i = true ↔ 0 ≤ i ∧ i < 2 ^ 63 := by
  unfold in63
  rw [in63_ex.choose_spec]
  simp only [Bool.and_eq_true, decide_eq_true_eq] -- (here)
theorem sg63_iff {i : Int} : sg63 i = true ↔ -(2 ^ 63) ≤ i ∧ i < 2 ^ 63 := by
  unfold sg63
  rw [sg63_ex.choose_spec]
  simp only [Bool.and_eq_true, decide_eq_true_eq] -- (here)
theorem small62_def (i : Int) : small62 i = (decide (-(2 ^ 62) ≤ i) && decide (i < 2 ^ 62)) := small62_ex.choose_spec i
theorem mulOk_def (i j : Int) : mulOk i j = ((decide (-(2 ^ 64) < i) && decide (i < 2 ^ 64)) || (decide (-(2 ^ 64) < j) && decide (j < 2 ^ 64)) || decide (i.natAbs.log2 + j.natAbs.log2 < 900000)) := mulOk_ex.choose_spec i j
def binop (o : O2) (u v : Val) (S : Store) : P :=
  match o, u, v with
  | .add, .int i, .int j => some (.int (i + j), S)
  | .sub, .int i, .int j => some (.int (i - j), S)
  | .mul, .int i, .int j => if mulOk i j then some (.int (i * j), S) else none
  | .fdiv, .int i, .int j => if 0 < j ∧ j.natAbs.log2 < 9000 then some (.int (i / j), S) else none
  | .mod, .int i, .int j => if 0 < j then some (.int (i % j), S) else none
  | .pow, .int i, .int j => if 0 ≤ j ∧ j ≤ 1000000 ∧ i.natAbs < 2 ^ 64 then some (.int (i ^ j.toNat), S) else none
  | .add, .str x, .str y => if x.length + y.length ≤ sizeLine then some (.str (x ++ y), S) else none
  | .add, .ref r, .ref q => match S[r]?, S[q]? with
    | some (.lst xs), some (.lst ys) => alloc S (xs ++ ys)
    | _, _ => none
  | .mul, .ref r, .int k => match S[r]? with
    | some (.lst xs) => if sg63 k = true ∧ xs.length * k.toNat ≤ sizeLine then alloc S (List.replicate k.toNat xs).flatten else none
    | _ => none
  | _, _, _ => none
def flat : Val → Bool
  | .non => true | .bl _ => true | .int _ => true | .str _ => true | _ => false
/-- == of flat values -/
def feq : Val → Val → Bool
  | .non, .non => true
  | .bl a, .bl b => a == b
  | .bl a, .int b => ((if a then 1 else 0) == b)
  | .int a, .bl b => (a == (if b then 1 else 0))
  | .int a, .int b => a == b
  | .str a, .str b => a == b
  | _, _ => false
def allSome {α : Type} : List (Option α) → Option (List α)
  | [] => some []
  | some a :: r => (allSome r).map (a :: ·)
  | none :: _ => none
/-- what a value is, its lists opened, n deep -/
def dat (S : Store) : Nat → Val → Option PyData
  | 0, _ => none
  | n + 1, v => match v with
    | .non => some .none
    | .bl b => some (.bool b)
    | .int i => some (.int i)
    | .tup vs => (allSome (vs.map (dat S n))).map .tuple
    | .fro vs => (allSome (vs.map (dat S n))).map .list
    | .ref r => match S[r]? with
      | some (.lst xs) => (allSome (xs.map (dat S n))).map .list
      | _ => none
    | _ => none
def deep : Nat := 8
def eqF : Val → Val → Option Bool
  | .int a, .int b => some (decide (a = b))
  | .bl a, .bl b => some (decide (a = b))
  | .str a, .str b => some (decide (a = b))
  | .non, .non => some true
  | .non, .int _ => some false | .int _, .non => some false | .non, .bl _ => some false | .bl _, .non => some false | .non, .str _ => some false | .str _, .non => some false
  | .int _, .str _ => some false | .str _, .int _ => some false | .bl _, .str _ => some false | .str _, .bl _ => some false
  | _, _ => none
def eqop (S : Store) (u v : Val) : Option Bool := match eqF u v with
  | some b => some b
  | none => match dat S deep u, dat S deep v with
    | some d, some e => some (PyData.eqv d e)
    | _, _ => none
def keyOf : Val → Option DKey
  | .int i => some (.inl i)
  | .str x => some (.inr x)
  | _ => none
def keysOf : Val → Option (List DKey)
  | .tup vs => allSome (vs.map keyOf)
  | _ => none
def look {κ : Type} [DecidableEq κ] (kvs : List (κ × Val)) (k : κ) : Option Val := (kvs.find? fun kv => decide (kv.1 = k)).map (·.2)
def put {κ : Type} [DecidableEq κ] (kvs : List (κ × Val)) (k : κ) (v : Val) : List (κ × Val) :=
  if (kvs.any fun kv => decide (kv.1 = k)) = true then kvs.map fun kv => if kv.1 = k then (kv.1, v) else kv else kvs ++ [(k, v)]
/-- d[k] of a dict -/
def dget (S : Store) (d k : Val) : Option (Option Val) := match d with
  | .ref r => match S[r]? with
    | some (.dK kvs) => (keyOf k).map (look kvs)
    | some (.dT kvs) => (keysOf k).map (look kvs)
    | _ => none
  | _ => none
def inopS (S : Store) (u v : Val) : Option Bool := match u, v with
  | .str x, .str z => match x.cps.toList with
    | [c] => some (decide (c ∈ z.cps.toList))
    | _ => none
  | u, v => match seqOf S v with
    | some xs => if flat u && xs.all flat then some (xs.any fun y => feq y u) else match lstOf S v with
      | some _ => match dat S deep u, dat S deep v with
        | some d, some (.list ds) => some (ds.any fun z => PyData.eqv z d)
        | _, _ => none
      | none => none
    | none => none
def inop (S : Store) (u v : Val) : Option Bool := match inopS S u v with
  | some b => some b
  | none => (dget S v u).map (·.isSome)
def isNon : Val → Bool
  | .non => true
  | _ => false
def cmpop (o : Cp) (S : Store) (u v : Val) : Option Bool :=
  match o, u, v with
  | .lt, .int i, .int j => some (decide (i < j))
  | .le, .int i, .int j => some (decide (i ≤ j))
  | .gt, .int i, .int j => some (decide (j < i))
  | .ge, .int i, .int j => some (decide (j ≤ i))
  | .eq, u, v => eqop S u v
  | .ne, u, v => (eqop S u v).map (!·)
  | .isn, u, .non => some (isNon u)
  | .notn, u, .non => some (!isNon u)
  | .isn, .bl a, .bl b => some (decide (a = b))
  | .notn, .bl a, .bl b => some (!decide (a = b))
  | .isin, u, v => inop S u v
  | .notin, u, v => (inop S u v).map (!·)
  | _, _, _ => none
def tru (S : Store) : Val → Option Bool
  | .non => some false
  | .bl b => some b
  | .int i => some (i != 0)
  | .ref r => match S[r]? with
    | some (.lst xs) => some (!xs.isEmpty)
    | some (.dK kvs) => some (!kvs.isEmpty)
    | _ => none
  | .tup xs => some (!xs.isEmpty)
  | .fro xs => some (!xs.isEmpty)
  | _ => none
/-- a value for sure, or bad -/
def R.of {α : Type} (o : Option α) (S : Store) : R α := match o with
  | some a => .ok a S
  | none => .bad
@[simp] theorem R.of_some {α : Type} (a : α) (S : Store) : R.of (some a) S = .ok a S := Eq.trans rfl rfl
@[simp] theorem R.of_none {α : Type} (S : Store) : R.of (none : Option α) S = .bad := Eq.trans rfl rfl
def R.bl (o : Option Bool) (S : Store) : R Val := R.of (o.map .bl) S
@[simp] theorem R.bl_some (b : Bool) (S : Store) : R.bl (some b) S = .ok (.bl b) S := Eq.trans rfl rfl
@[simp] theorem R.bl_none (S : Store) : R.bl none S = .bad := Eq.trans rfl rfl
/-- an operation as an end -/
def R.op (o : P) : R Val := match o with
  | some (v, S) => .ok v S
  | none => .bad
@[simp] theorem R.op_some (v : Val) (S : Store) : R.op (some (v, S)) = .ok v S := Eq.trans rfl rfl
@[simp] theorem R.op_none : R.op none = .bad := Eq.trans rfl rfl
def P.of (o : Option Val) (S : Store) : P := o.map fun v => (v, S)
def itemS (S : Store) (u i : Val) : Option Val := match u, i with
  | .str x, .int i => if x.length ≤ sizeLine then (L2.atI x.cps.toList i).map fun c => .str ⟨#[c]⟩ else none
  | u, i => match seqOf S u, i with
    | some xs, .int i => L2.atI xs i
    | _, _ => none
def item (S : Store) (u i : Val) : Option Val := match itemS S u i with
  | some v => some v
  | none => (dget S u i).join
def cut {α : Type} (xs : List α) (lo hi : Option Int) : List α := (xs.drop (HT.sIx xs.length 0 lo)).take (HT.sIx xs.length xs.length hi - HT.sIx xs.length 0 lo)
def slice (S : Store) (u : Val) (lo hi : Option Int) : P := match lstOf S u with
  | some xs => alloc S (cut xs lo hi)
  | none => none
def sliceS (S : Store) (u : Val) (a k : Nat) : P := match lstOf S u with
  | some xs => alloc S (stp xs a k)
  | none => none
def intOf : Val → Option Int
  | .int i => some i
  | _ => none
def maxL : List Int → Int
  | [] => 0
  | x :: r => r.foldl max x
def minL : List Int → Int
  | [] => 0
  | x :: r => r.foldl min x
def prim (p : Pr) (us : List Val) (S : Store) : P :=
  match p, us with
  | .len, [.str x] => if x.length ≤ sizeLine then some ((.int x.length), S) else none
  | .len, [.ref r] => match S[r]? with
    | some (.lst xs) => some ((.int xs.length), S)
    | some (.dK kvs) => some ((.int kvs.length), S)
    | _ => none
  | .len, [.tup xs] => some ((.int xs.length), S)
  | .len, [.fro xs] => some ((.int xs.length), S)
  | .sum, [u] => P.of ((lstOf S u).bind fun xs => (intsOf xs).map fun ns => .int ns.sum) S
  | .max, [u] => P.of ((lstOf S u).bind fun xs => (intsOf xs).bind fun ns => if ns.isEmpty then none else some (.int (maxL ns))) S
  | .min, [u] => P.of ((lstOf S u).bind fun xs => (intsOf xs).bind fun ns => if ns.isEmpty then none else some (.int (minL ns))) S
  | .max2, [.int i, .int j] => some ((.int (if j > i then j else i)), S)
  | .min2, [.int i, .int j] => some ((.int (if j < i then j else i)), S)
  | .sorted, [u] => match (lstOf S u).bind intsOf with
    | some ns => alloc S ((ns.mergeSort (fun a b => decide (a ≤ b))).map .int)
    | none => match (lstOf S u).bind prsOf with
      | some ps => alloc S ((ps.mergeSort lePr).map vPr)
      | none => none
  | .abs, [.int i] => some ((.int (if i < 0 then -i else i)), S)
  | .str, [.int i] => if i.natAbs.log2 < 1920 then some ((.str (toString i)), S) else none
  | .int, [.int i] => some ((.int i), S)
  | .int, [.bl k] => some ((.int (if k then 1 else 0)), S)
  | .int, [.str x] => match PySem.intText? x with
    | some n => if x.length ≤ 640 then some ((.int n), S) else none
    | none => none
  | .all, [u] => P.of ((lstOf S u).bind fun xs => (blsOf xs).map fun bs => .bl (bs.all id)) S
  | .any, [u] => P.of ((lstOf S u).bind fun xs => (blsOf xs).map fun bs => .bl (bs.any id)) S
  | .list, [u] => match seqOf S u with
    | some xs => alloc S xs
    | none => none
  | .tuple, [u] => P.of ((seqOf S u).map .tup) S
  | _, _ => none
def find1 (y : Val) : List Val → Nat → Option Nat
  | [], _ => none
  | x :: r, k => if feq x y then some k else find1 y r (k + 1)
def meth (m : Me) (u : Val) (us : List Val) (S : Store) : P :=
  match m, u, us with
  | .append, .ref r, [y] => match S[r]? with
    | some (.lst xs) => if xs.length < sizeLine then some (.non, (S.set r (.lst (xs ++ [y])))) else none
    | _ => none
  | .extend, .ref r, [.ref q] => match S[r]?, S[q]? with
    | some (.lst xs), some (.lst ys) => if xs.length + ys.length ≤ sizeLine then some (.non, (S.set r (.lst (xs ++ ys)))) else none
    | _, _ => none
  | .pop, .ref r, [] => match S[r]? with
    | some (.lst xs) => match xs[xs.length - 1]? with
      | some y => some (y, S.set r (.lst xs.dropLast))
      | none => none
    | _ => none
  | .popAt, .ref r, [.int i] => match S[r]? with
    | some (.lst xs) => if in63 i = true then match xs[i.toNat]? with
      | some y => some (y, S.set r (.lst (xs.eraseIdx i.toNat)))
      | none => none else none
    | _ => none
  | .insert, .ref r, [.int i, y] => match S[r]? with
    | some (.lst xs) => if xs.length < sizeLine ∧ in63 i = true then some (.non, (S.set r (.lst (xs.take i.toNat ++ [y] ++ xs.drop i.toNat)))) else none
    | _ => none
  | .reverse, .ref r, [] => match S[r]? with
    | some (.lst xs) => some (.non, S.set r (.lst xs.reverse))
    | _ => none
  | .index, u, [y] => match lstOf S u with
    | some xs => if flat y && xs.all flat then P.of ((find1 y xs 0).map fun j => .int (j : Nat)) S else none
    | none => none
  | _, _, _ => none
end Mi
namespace Mi
open PySem
/-- what a text's function does, by its number; how many arguments it takes -/
abbrev Ctx := Nat → Option (Nat × Sem)
/-- with an error in hand, of class c -/
def curC (C : Ctx) (c : Nat) : Ctx := fun f => if f = excNo then some (c, fun _ _ => .bad) else C f
/-- turns that a while may take -/
def wmax : Nat := 10000000
inductive IV where
  | items (vs : List Val) | seq (u : Val) | en (u : Val) | zp (u v : Val) | rv (u : Val) (n : Nat)
def IV.next : IV → Nat → Store → Option (Option Val)
  | .items vs, k, _ => some vs[k]?
  | .seq u, k, S => (lstOf S u).map fun xs => xs[k]?
  | .en u, k, S => (lstOf S u).map fun xs => xs[k]?.map fun x => .tup [.int (k : Nat), x]
  | .zp u v, k, S => match lstOf S u, lstOf S v with
    | some xs, some ys => some (match xs[k]?, ys[k]? with
      | some x, some y => some (.tup [x, y])
      | _, _ => none)
    | _, _ => none
  | .rv u n, k, S => if k < n then match lstOf S u with
      | some xs => match xs[n - 1 - k]? with
        | some x => some (some x)
        | none => none
      | none => none else some none
def IV.cnt : IV → Store → Nat
  | .items vs, _ => vs.length
  | .seq u, S => ((lstOf S u).getD []).length
  | .en u, S => ((lstOf S u).getD []).length
  | .zp u v, S => min ((lstOf S u).getD []).length ((lstOf S v).getD []).length
  | .rv _ n, _ => n
def signs (x : Str) : List Val := x.cps.toList.map fun c => .str ⟨#[c]⟩
def rng (lo : Int) (n : Nat) : List Val := (List.range n).map fun (i : Nat) => .int (lo + i)
/-- by twos -/
def rngc (lo : Int) (n : Nat) : List Val := (List.range n).map fun (i : Nat) => .int (lo + i * 2)
def start (k : IK) (us : List Val) (S : Store) : Option IV :=
  match k, us with
  | .seq, [.tup vs] => some (.items vs)
  | .seq, [.str x] => some (.items (signs x))
  | .seq, [u] => (lstOf S u).map fun _ => .seq u
  | .rng1, [.int n] => if small62 n then some (.items (rng 0 n.toNat)) else none
  | .rng2, [.int i, .int j] => if small62 i && small62 j then some (.items (rng i (j - i).toNat)) else none
  | .rng3, [.int i, .int j] => if small62 i && small62 j then some (.items (rngc i ((j - i + 1) / 2).toNat)) else none
  | .enum, [u] => (lstOf S u).map fun _ => .en u
  | .zip, [u, v] => match lstOf S u, lstOf S v with
    | some _, some _ => some (.zp u v)
    | _, _ => none
  | .rev, [u] => (lstOf S u).map fun xs => .rv u xs.length
  | _, _ => none
/- a value laid into a target -/
mutual
def lay (S : Store) : Tg → Val → Env → Option Env
  | .name i, v, ρ => some (ρ.set i (some v))
  | .tup ts, v, ρ => match seqOf S v with
    | some vs => lays S ts vs ρ
    | none => none
def lays (S : Store) : List Tg → List Val → Env → Option Env
  | [], [], ρ => some ρ
  | t :: ts, v :: vs, ρ => (lay S t v ρ).bind fun ρ => lays S ts vs ρ
  | _, _, _ => none
end
def wipeE (ρ : Env) : List Nat → Env
  | [] => ρ
  | v :: vs => (wipeE ρ vs).set v none
/-- a comprehension's turns -/
def cloop (nxt : Nat → Store → Option (Option Val)) (step : Val → Store → R Unit) : Nat → Nat → Store → R Unit
  | F, k, S => match nxt k S with
    | none => .bad
    | some none => .ok () S
    | some (some v) => match F with
      | 0 => .bad
      | F + 1 => match step v S with
        | .ok _ S' => cloop nxt step F (k + 1) S'
        | _ => .bad
/-- put behind the list at D -/
def push (D : Nat) (y : Val) (S : Store) : R Unit := match S[D]? with
  | some (.lst acc) => if acc.length < sizeLine then .ok () (S.set D (.lst (acc ++ [y]))) else .bad
  | _ => .bad
def laidK : List (DKey × Val) → List Val → List Val → Option (List (DKey × Val))
  | acc, [], [] => some acc
  | acc, k :: ks, v :: vs => match keyOf k with
    | some k => laidK (put acc k v) ks vs
    | none => none
  | _, _, _ => none
def tyOf : Val → Option String
  | .non => some "NoneType" | .bl _ => some "bool" | .int _ => some "int" | .str _ => some "str" | .tup _ => some "tuple"
  | _ => none
def tyIn (S : Store) : Val → Option String
  | .ref r => match S[r]? with
    | some (.lst _) => (some "list")
    | some (.dK _) => some "dict"
    | _ => none
  | v => tyOf v
/-- is it what the method is of -/
def recv (m : Me) (S : Store) (u : Val) : Bool := match m with
  | .join => match u with | .str _ => true | _ => false
  | .split => match u with | .str _ => true | _ => false
  | .get1 => false | .get2 => false
  | _ => (lstOf S u).isSome
mutual
def ev (C : Ctx) : E → Env → Store → R Val
  | .var i, ρ, S => match ρ[i]? with
    | some (some v) => .ok v S
    | _ => .bad
  | .cst v, _, S => .ok v S
  | .lst es, ρ, S => (evs C es ρ S).bind fun vs S => R.op (alloc S vs)
  | .tup es, ρ, S => (evs C es ρ S).bind fun vs S => if vs.length ≤ sizeLine then .ok (.tup vs) S else .bad
  | .bin o a b, ρ, S => (ev C a ρ S).bind fun u S => (ev C b ρ S).bind fun v S => R.op (binop o u v S)
  | .neg a, ρ, S => (ev C a ρ S).bind fun u S => R.of ((intOf u).map fun i => .int (-i)) S
  | .cmp o a b, ρ, S => (ev C a ρ S).bind fun u S => (ev C b ρ S).bind fun v S => R.bl (cmpop o S u v) S
  | .chain o p a b c, ρ, S => (ev C a ρ S).bind fun u S => (ev C b ρ S).bind fun v S => (R.of (cmpop o S u v) S).bind fun k S =>
      if k then (ev C c ρ S).bind fun w S => R.bl (cmpop p S v w) S else .ok (.bl false) S
  | .and a b, ρ, S => (ev C a ρ S).bind fun u S => (R.of (tru S u) S).bind fun k S => if k then ev C b ρ S else .ok u S
  | .or a b, ρ, S => (ev C a ρ S).bind fun u S => (R.of (tru S u) S).bind fun k S => if k then .ok u S else ev C b ρ S
  | .not a, ρ, S => (ev C a ρ S).bind fun u S => R.bl ((tru S u).map (!·)) S
  | .ite c a b, ρ, S => (ev C c ρ S).bind fun u S => (R.of (tru S u) S).bind fun k S => if k then ev C a ρ S else ev C b ρ S
  | .sub a i, ρ, S => (ev C a ρ S).bind fun u S => (ev C i ρ S).bind fun v S => R.of (item S u v) S
  | .slB a lo hi, ρ, S => (ev C a ρ S).bind fun u S => (ev C lo ρ S).bind fun i S => match i with
    | .int i => (ev C hi ρ S).bind fun j S => match j with
      | .int j => R.op (slice S u (some i) (some j))
      | _ => .bad
    | _ => .bad
  | .slL a lo, ρ, S => (ev C a ρ S).bind fun u S => (ev C lo ρ S).bind fun i S => match i with
    | .int i => R.op (slice S u (some i) none)
    | _ => .bad
  | .slH a hi, ρ, S => (ev C a ρ S).bind fun u S => (ev C hi ρ S).bind fun j S => match j with
    | .int j => R.op (slice S u none (some j))
    | _ => .bad
  | .slA a, ρ, S => (ev C a ρ S).bind fun u S => R.op (slice S u none none)
  | .slR a, ρ, S => (ev C a ρ S).bind fun u S => match lstOf S u with
    | some xs => R.op (alloc S xs.reverse)
    | none => .bad
  | .slS a lo st, ρ, S => (ev C a ρ S).bind fun u S => (ev C lo ρ S).bind fun i S => match i with
    | .int i => (ev C st ρ S).bind fun j S => match j with
      | .int j => if 0 ≤ i ∧ 0 < j then R.op (sliceS S u i.toNat j.toNat) else .bad
      | _ => .bad
    | _ => .bad
  | .call f es, ρ, S => match C f with
    | some (n, g) => (evs C es ρ S).bind fun us S => if us.length = n then g us S else .bad
    | none => .bad
  | .isi a T, ρ, S => (ev C a ρ S).bind fun u S => R.bl ((tyIn S u).bind fun t => L2.kitB t T) S
  | .pr p es, ρ, S => (evs C es ρ S).bind fun us S => R.op (prim p us S)
  | .me m o es, ρ, S => (ev C o ρ S).bind fun u S => if recv m S u then (evs C es ρ S).bind fun us S => R.op (meth m u us S) else .bad
  | .lc own t k its ifs e, ρ, S => (evs C its ρ S).bind fun us S => match start k us S with
    | none => .bad
    | some iv =>
      (cloop iv.next (fun v S1 => match lay S1 t v (wipeE ρ own) with
        | none => .bad
        | some ρ1 => (evT C ifs ρ1 S1).bind fun b S2 => if b then (ev C e ρ1 S2).bind fun y S3 => push S.length y S3 else .ok () S2)
        (iv.cnt S) 0 (S ++ [.lst []])).bind fun _ S1 => .ok (.ref S.length) S1
  | .dK, _, S => .ok (.ref S.length) (S ++ [.dK []])
  | .dT, _, S => .ok (.ref S.length) (S ++ [.dT []])
  | .dis ks vs, ρ, S => .bad
  | .isx k, ρ, S => match C excNo with
    | some (c, _) => .ok (.bl (exSub c k)) S
    | none => .bad
  | .lrg1 a, ρ, S => (ev C a ρ S).bind fun u S => match u with
    | .int n => if n ≤ 1000000 ∧ -(2 ^ 62) ≤ n then R.op (alloc S (rng 0 n.toNat)) else .bad
    | _ => .bad
  | .lrg2 a b, ρ, S => (ev C a ρ S).bind fun u S => (ev C b ρ S).bind fun v S => match u, v with
    | .int i, .int j => if small62 i && small62 j && decide (j - i ≤ 1000000) then R.op (alloc S (rng i (j - i).toNat)) else .bad
    | _, _ => .bad
def evs (C : Ctx) : List E → Env → Store → R (List Val)
  | [], _, S => .ok [] S
  | e :: es, ρ, S => (ev C e ρ S).bind fun v S => (evs C es ρ S).bind fun vs S => .ok (v :: vs) S
/-- a clause's tests: none or one -/
def evT (C : Ctx) : List E → Env → Store → R Bool
  | [], _, S => .ok true S
  | [e], ρ, S => (ev C e ρ S).bind fun u S => R.of (tru S u) S
  | _, _, _ => .bad
end
/-- how a statement ends -/
inductive SO where
  | nx (ρ : Env) (S : Store) | bk (ρ : Env) (S : Store) | ct (ρ : Env) (S : Store) | rt (v : Val) (S : Store) | ex (c : Nat) (d : Option Nat) (ρ : Env) (S : Store) | bad
def R.st {α : Type} (r : R α) (ρ : Env) (k : α → Store → SO) : SO := match r with
  | .ok a S => k a S
  | .ex c d S => .ex c d ρ S
  | .bad => .bad
@[simp] theorem R.st_ok {α : Type} (a : α) (S : Store) (ρ : Env) (k : α → Store → SO) : (R.ok a S).st ρ k = k a S := Eq.trans rfl rfl
@[simp] theorem R.st_ex {α : Type} (c : Nat) (d : Option Nat) (S : Store) (ρ : Env) (k : α → Store → SO) : (R.ex c d S : R α).st ρ k = .ex c d ρ S := Eq.trans rfl rfl
@[simp] theorem R.st_bad {α : Type} (ρ : Env) (k : α → Store → SO) : (R.bad : R α).st ρ k = .bad := Eq.trans rfl rfl
/-- a name goes -/
def SO.gone (i : Nat) (o : SO) : SO := match o with
  | .nx ρ S => .nx (ρ.set i none) S
  | .bk ρ S => .bk (ρ.set i none) S
  | .ct ρ S => .ct (ρ.set i none) S
  | o => o
/-- go on behind a statement -/
def SO.then (o : SO) (k : Env → Store → SO) : SO := match o with
  | .nx ρ S => k ρ S
  | o => o
@[simp] theorem SO.then_nx (ρ : Env) (S : Store) (k : Env → Store → SO) : (SO.nx ρ S).then k = k ρ S := Eq.trans rfl rfl
@[simp] theorem SO.then_bk (ρ : Env) (S : Store) (k : Env → Store → SO) : (SO.bk ρ S).then k = .bk ρ S := Eq.trans rfl rfl
@[simp] theorem SO.then_ct (ρ : Env) (S : Store) (k : Env → Store → SO) : (SO.ct ρ S).then k = .ct ρ S := Eq.trans rfl rfl
@[simp] theorem SO.then_rt (v : Val) (S : Store) (k : Env → Store → SO) : (SO.rt v S).then k = .rt v S := Eq.trans rfl rfl
@[simp] theorem SO.then_ex (c : Nat) (d : Option Nat) (ρ : Env) (S : Store) (k : Env → Store → SO) : (SO.ex c d ρ S).then k = .ex c d ρ S := Eq.trans rfl rfl
@[simp] theorem SO.then_bad (k : Env → Store → SO) : SO.bad.then k = .bad := Eq.trans rfl rfl
/-- a for's turns -/
def floop (nxt : Nat → Store → Option (Option Val)) (body : Val → Env → Store → SO) : Nat → Nat → Env → Store → SO
  | F, k, ρ, S => match nxt k S with
    | none => .bad
    | some none => .nx ρ S
    | some (some v) => match F with
      | 0 => .bad
      | F + 1 => match body v ρ S with
        | .nx ρ' S' => floop nxt body F (k + 1) ρ' S'
        | .ct ρ' S' => floop nxt body F (k + 1) ρ' S'
        | .bk ρ' S' => .nx ρ' S'
        | o => o
def wloop (c : Env → Store → R Bool) (body : Env → Store → SO) : Nat → Env → Store → SO
  | F, ρ, S => (c ρ S).st ρ fun k S => if k then match F with
      | 0 => .bad
      | F + 1 => match body ρ S with
        | .nx ρ' S' => wloop c body F ρ' S'
        | .ct ρ' S' => wloop c body F ρ' S'
        | .bk ρ' S' => .nx ρ' S'
        | o => o
    else .nx ρ S
def itemR (S : Store) (u i : Val) : Option Val := match u with
  | .ref _ => item S u i
  | _ => none
/-- u[i] = v -/
def setop (S : Store) (u i v : Val) : Option Store := match u with
  | .ref r => match S[r]? with
    | some (.lst xs) => match i with
      | .int k => (L2.ixN xs.length k).map fun j => S.set r (.lst (xs.set j v))
      | _ => none
    | some (.dK kvs) => if kvs.length < sizeLine then (keyOf i).map fun k => S.set r (.dK (put kvs k v)) else none
    | some (.dT kvs) => if kvs.length < sizeLine then (keysOf i).map fun k => S.set r (.dT (put kvs k v)) else none
    | _ => none
  | _ => none
mutual
def ex (C : Ctx) : Stm → Env → Store → SO
  | .asg t e, ρ, S => (ev C e ρ S).st ρ fun v S => match lay S t v ρ with
    | some ρ => .nx ρ S
    | none => .bad
  | .set a i e, ρ, S => (ev C e ρ S).st ρ fun v S => (ev C a ρ S).st ρ fun u S => (ev C i ρ S).st ρ fun k S => match setop S u k v with
    | some S => .nx ρ S
    | none => .bad
  | .aug i o e, ρ, S => match ρ[i]? with
    | some (some (.int a)) => (ev C e ρ S).st ρ fun v S => match o, v with
      | .add, .int b => .nx (ρ.set i (some (.int (a + b)))) S
      | .sub, .int b => .nx (ρ.set i (some (.int (a - b)))) S
      | _, _ => .bad
    | _ => .bad
  | .augS a i o e, ρ, S => (ev C a ρ S).st ρ fun u S => (ev C i ρ S).st ρ fun k S => match itemR S u k with
    | some (.int x) => (ev C e ρ S).st ρ fun v S => match o, v with
      | .add, .int b => match setop S u k (.int (x + b)) with
        | some S => .nx ρ S
        | none => .bad
      | .sub, .int b => match setop S u k (.int (x - b)) with
        | some S => .nx ρ S
        | none => .bad
      | _, _ => .bad
    | _ => .bad
  | .exp e, ρ, S => (ev C e ρ S).st ρ fun _ S => .nx ρ S
  | .ret e, ρ, S => (ev C e ρ S).st ρ fun v S => .rt v S
  | .retn, _, S => .rt .non S
  | .pass, ρ, S => .nx ρ S
  | .brk, ρ, S => .bk ρ S
  | .cnt, ρ, S => .ct ρ S
  | .ifS c p q, ρ, S => (evT C [c] ρ S).st ρ fun k S => if k then exs C p ρ S else exs C q ρ S
  | .whl c p, ρ, S => wloop (fun ρ S => evT C [c] ρ S) (fun ρ S => exs C p ρ S) wmax ρ S
  | .for t k its p, ρ, S => (evs C its ρ S).st ρ fun us S => match start k us S with
    | none => .bad
    | some iv => floop iv.next (fun v ρ S => match lay S t v ρ with
        | some ρ => exs C p ρ S
        | none => .bad) (iv.cnt S) 0 ρ S
  | .raise c, ρ, S => .ex c none ρ S
  | .tri p c i kn q, ρ, S => match exs C p ρ S with
    | .ex c' d ρ' S' => if c' ∈ kn ∧ d = none ∧ (i < ρ'.length ∨ 1000 ≤ i) then (if exSub c' c then (exs (curC C c') q (ρ'.set i none) S').gone i else .ex c' d ρ' S') else .bad
    | o => o
  | .nvr, ρ, S => .bad
def exs (C : Ctx) : List Stm → Env → Store → SO
  | [], ρ, S => .nx ρ S
  | s :: r, ρ, S => (ex C s ρ S).then fun ρ S => exs C r ρ S
end
/-- a def: its slots, its body -/
def run (C : Ctx) (n : Nat) (body : List Stm) : Sem := fun us S => match exs C body (us.map some ++ List.replicate (n - us.length) none) S with
  | .nx _ S => .ok .non S
  | .rt v S => .ok v S
  | .ex c d _ S => .ex c d S
  | _ => .bad
end Mi
namespace Mi
open PySem L2
/-! ### the store and the tracked heap -/
def ImL (K : PySem.W.Frag) (H : Hp) (a : Addr) (xs : List V) : Prop := (∃ o, H a = some (.frz o (.lst xs))) ∨ SqL K (fun _ => none) a xs
theorem ImL.sq {K : PySem.W.Frag} {H : Hp} {a : Addr} {xs : List V} (h : ImL K H a xs) : SqL K H a xs := by
  rcases h with h | h
  · exact .inl (.inr h)
  · rcases h with (h | ⟨_, h⟩) | h
    · cases h
    · cases h
    · exact .inr h
theorem ImL.of {K : PySem.W.Frag} {H : Hp} {a : Addr} {xs : List V} (hO : Only H) (h : SqL K H a xs) : ImL K H a xs := by
  rcases h with (h | ⟨o, h⟩) | h -- (here)
  · rcases hO a with z | ⟨o, ys, z⟩
    · rw [h] at z; cases z
    · rw [h] at z; cases z
  · exact .inl ⟨o, h⟩
  · exact .inr (.inr h)
mutual
def RV (K : PySem.W.Frag) (m : List Addr) (H : Hp) : Val → V → Prop
  | .non, v => v = .non
  | .bl b, v => v = .bl b
  | .int i, v => v = .int i
  | .str x, v => v = .str x
  | .ty n, v => v = .ty n
  | .ref i, v => ∃ a, m[i]? = some a ∧ v = .ref a
  | .tup us, v => ∃ a vs, v = .ref a ∧ H a = some (.tup vs) ∧ RVs K m H us vs
  | .fro us, v => ∃ a vs, v = .ref a ∧ ImL K H a vs ∧ RVs K m H us vs
def RVs (K : PySem.W.Frag) (m : List Addr) (H : Hp) : List Val → List V → Prop
  | [], vs => vs = []
  | u :: us, vs => ∃ v r, vs = v :: r ∧ RV K m H u v ∧ RVs K m H us r
end
structure Ext (m : List Addr) (H : Hp) (m' : List Addr) (H' : Hp) : Prop where
  pre : m <+: m'
  tup : ∀ a xs, H a = some (.tup xs) → H' a = some (.tup xs)
  frz : ∀ a o u, H a = some (.frz o u) → H' a = some (.frz o u)
section
variable {K : PySem.W.Frag} {m m' m'' : List Addr} {H H' H'' : Hp}
theorem Ext.refl : Ext m H m H := ⟨List.prefix_refl _, fun _ _ h => h, fun _ _ _ h => h⟩
theorem Ext.trans (a : Ext m H m' H') (b : Ext m' H' m'' H'') : Ext m H m'' H'' :=
  ⟨a.pre.trans b.pre, fun c xs h => b.tup c xs (a.tup c xs h), fun c o u h => b.frz c o u (a.frz c o u h)⟩
theorem Ext.ix (e : Ext m H m' H') {i : Nat} {a : Addr} (h : m[i]? = some a) : m'[i]? = some a := by
  obtain ⟨t, rfl⟩ := e.pre
  rw [List.getElem?_append_left (List.getElem?_eq_some_iff.mp h).1]
  exact h
theorem Ext.sqT (e : Ext m H m' H') {a : Addr} {xs : List V} (h : SqT K H a xs) : SqT K H' a xs := by
  rcases h with (h | ⟨o, h⟩) | h -- (here)
  · exact .inl (.inl (e.tup _ _ h))
  · exact .inl (.inr ⟨o, e.frz _ _ _ h⟩)
  · exact .inr h
theorem Ext.imL (e : Ext m H m' H') {a : Addr} {xs : List V} (h : ImL K H a xs) : ImL K H' a xs := by
  rcases h with ⟨o, h⟩ | h
  · exact .inl ⟨o, e.frz _ _ _ h⟩
  · exact .inr h
mutual
theorem RV.ext (e : Ext m H m' H') : ∀ {u : Val} {v : V}, RV K m H u v → RV K m' H' u v
  | .non, _, h => h
  | .bl _, _, h => h
  | .int _, _, h => h
  | .str _, _, h => h
  | .ty _, _, h => h
  | .ref _, _, ⟨a, h, q⟩ => ⟨a, e.ix h, q⟩
  | .tup us, _, ⟨a, vs, q, h, r⟩ => ⟨a, vs, q, e.tup _ _ h, RVs.ext e r⟩
  | .fro us, _, ⟨a, vs, q, h, r⟩ => ⟨a, vs, q, e.imL h, RVs.ext e r⟩
theorem RVs.ext (e : Ext m H m' H') : ∀ {us : List Val} {vs : List V}, RVs K m H us vs → RVs K m' H' us vs
  | [], _, h => h
  | u :: us, _, ⟨v, r, q, h, t⟩ => ⟨v, r, q, RV.ext e h, RVs.ext e t⟩
end
theorem RVs.nil : RVs K m H [] [] := rfl
theorem RVs.cons {u : Val} {v : V} {us : List Val} {vs : List V} (h : RV K m H u v) (t : RVs K m H us vs) : RVs K m H (u :: us) (v :: vs) := ⟨v, vs, rfl, h, t⟩
theorem RVs.len : ∀ {us : List Val} {vs : List V}, RVs K m H us vs → us.length = vs.length
  | [], _, h => by rw [h]; rfl
  | _ :: us, _, ⟨v, r, q, _, t⟩ => by rw [q, List.length_cons, List.length_cons, RVs.len t]
theorem RVs.get : ∀ {us : List Val} {vs : List V} {i : Nat} {u : Val}, RVs K m H us vs → us[i]? = some u → ∃ v, vs[i]? = some v ∧ RV K m H u v
  | [], _, _, _, _, e => by simp at e
  | w :: us, _, 0, u, ⟨v, r, q, h, _⟩, e => by
    simp at e; subst e; subst q
    exact ⟨v, rfl, h⟩
  | w :: us, _, i + 1, u, ⟨v, r, q, _, t⟩, e => by
    subst q
    obtain ⟨x, h1, h2⟩ := RVs.get (i := i) t (by simpa using e)
    exact ⟨x, by simpa using h1, h2⟩ -- (here)
theorem RVs.none {us : List Val} {vs : List V} {i : Nat} (h : RVs K m H us vs) (e : us[i]? = none) : vs[i]? = none := by
  have := h.len
  rw [List.getElem?_eq_none_iff] at e ⊢
  omega
theorem RVs.append : ∀ {us ws : List Val} {vs xs : List V}, RVs K m H us vs → RVs K m H ws xs → RVs K m H (us ++ ws) (vs ++ xs)
  | [], _, _, _, h, t => by rw [h]; exact t
  | _ :: us, _, _, _, ⟨v, r, q, h, t⟩, s => by
    subst q
    exact ⟨v, r ++ _, rfl, h, RVs.append t s⟩
theorem RVs.take : ∀ (n : Nat) {us : List Val} {vs : List V}, RVs K m H us vs → RVs K m H (us.take n) (vs.take n)
  | 0, _, _, _ => rfl
  | _ + 1, [], _, h => by rw [h]; rfl
  | n + 1, _ :: us, _, ⟨v, r, q, h, t⟩ => by
    subst q
    exact ⟨v, r.take n, rfl, h, RVs.take n t⟩
theorem RVs.drop : ∀ (n : Nat) {us : List Val} {vs : List V}, RVs K m H us vs → RVs K m H (us.drop n) (vs.drop n)
  | 0, _, _, h => h
  | _ + 1, [], _, h => by rw [h]; rfl
  | n + 1, _ :: us, _, ⟨v, r, q, h, t⟩ => by
    subst q
    exact RVs.drop n t
theorem RVs.set {u : Val} {v : V} (r : RV K m H u v) : ∀ (i : Nat) {us : List Val} {vs : List V}, RVs K m H us vs → RVs K m H (us.set i u) (vs.set i v)
  | _, [], _, h => by rw [h]; rfl
  | 0, _ :: us, _, ⟨w, t, q, _, h⟩ => by subst q; exact ⟨v, t, rfl, r, h⟩
  | i + 1, _ :: us, _, ⟨w, t, q, g, h⟩ => by subst q; exact ⟨w, t.set i v, rfl, g, RVs.set r i h⟩
theorem RVs.reverse : ∀ {us : List Val} {vs : List V}, RVs K m H us vs → RVs K m H us.reverse vs.reverse
  | [], _, h => by rw [h]; rfl
  | _ :: us, _, ⟨w, t, q, g, h⟩ => by
    subst q
    rw [List.reverse_cons, List.reverse_cons]; exact (RVs.reverse h).append (RVs.cons g RVs.nil)
theorem RVs.dropLast : ∀ {us : List Val} {vs : List V}, RVs K m H us vs → RVs K m H us.dropLast vs.dropLast := fun {us vs} h => by
  rw [List.dropLast_eq_take, List.dropLast_eq_take, h.len]
  exact h.take _
theorem RVs.eraseIdx : ∀ (i : Nat) {us : List Val} {vs : List V}, RVs K m H us vs → RVs K m H (us.eraseIdx i) (vs.eraseIdx i)
  | _, [], _, h => by rw [h]; rfl
  | 0, _ :: us, _, ⟨w, t, q, _, h⟩ => by subst q; exact h
  | i + 1, _ :: us, _, ⟨w, t, q, g, h⟩ => by subst q; exact ⟨w, t.eraseIdx i, rfl, g, RVs.eraseIdx i h⟩
theorem RVs.rep {us : List Val} {vs : List V} (h : RVs K m H us vs) : ∀ k : Nat, RVs K m H (List.replicate k us).flatten (List.replicate k vs).flatten
  | 0 => rfl
  | k + 1 => by
    rw [List.replicate_succ, List.replicate_succ, List.flatten_cons, List.flatten_cons]; exact h.append (RVs.rep h k)
/-- pairs of a key and a value -/
def RKV {κ : Type} (K : PySem.W.Frag) (m : List Addr) (H : Hp) : List (κ × Val) → List (κ × V) → Prop
  | [], ws => ws = []
  | p :: ps, ws => ∃ v r, ws = (p.1, v) :: r ∧ RV K m H p.2 v ∧ RKV K m H ps r
theorem RKV.ext {κ : Type} (e : Ext m H m' H') : ∀ {us : List (κ × Val)} {vs : List (κ × V)}, RKV K m H us vs → RKV K m' H' us vs
  | [], _, h => h
  | u :: us, _, ⟨v, r, q, h, t⟩ => ⟨v, r, q, RV.ext e h, RKV.ext e t⟩
theorem RKV.len {κ : Type} : ∀ {us : List (κ × Val)} {vs : List (κ × V)}, RKV K m H us vs → us.length = vs.length
  | [], _, h => by rw [h]; rfl
  | _ :: us, _, ⟨v, r, q, _, t⟩ => by rw [q, List.length_cons, List.length_cons, RKV.len t]
def ROV (K : PySem.W.Frag) (m : List Addr) (H : Hp) : Option Val → Option V → Prop
  | some u, z => ∃ v, z = some v ∧ RV K m H u v
  | none, z => z = none
theorem RKV.look {κ : Type} [DecidableEq κ] (k : κ) : ∀ {us : List (κ × Val)} {vs : List (κ × V)}, RKV K m H us vs → ROV K m H (look us k) (valV vs k)
  | [], _, h => by rw [h]; rfl
  | p :: us, _, ⟨v, r, q, h, t⟩ => by
    subst q
    have ih := RKV.look k t
    by_cases e : p.1 = k
    · have e1 : Mi.look (p :: us) k = some p.2 := by simp [Mi.look, List.find?_cons, e]
      rw [e1]
      exact ⟨v, by simp [valV, List.find?_cons, e], h⟩
    · have e1 : Mi.look (p :: us) k = Mi.look us k := by simp [Mi.look, List.find?_cons, e]
      have e2 : valV ((p.1, v) :: r) k = valV r k := by simp [valV, List.find?_cons, e]
      rw [e1, e2]
      exact ih
theorem RKV.any {κ : Type} [DecidableEq κ] (k : κ) : ∀ {us : List (κ × Val)} {vs : List (κ × V)}, RKV K m H us vs → (us.any fun kv => decide (kv.1 = k)) = vs.any fun kv => decide (kv.1 = k)
  | [], _, h => by rw [h]; rfl
  | p :: us, _, ⟨v, r, q, h, t⟩ => by
    subst q
    rw [List.any_cons, List.any_cons, RKV.any k t]
theorem RKV.append {κ : Type} : ∀ {us ws : List (κ × Val)} {vs xs : List (κ × V)}, RKV K m H us vs → RKV K m H ws xs → RKV K m H (us ++ ws) (vs ++ xs)
  | [], _, _, _, h, t => by rw [h]; exact t
  | _ :: us, _, _, _, ⟨v, r, q, h, t⟩, s => by
    subst q
    exact ⟨v, r ++ _, rfl, h, RKV.append t s⟩
theorem RKV.repl {κ : Type} [DecidableEq κ] (k : κ) {u : Val} {v : V} (ru : RV K m H u v) : ∀ {us : List (κ × Val)} {vs : List (κ × V)}, RKV K m H us vs →
    RKV K m H (us.map fun kv => if kv.1 = k then (kv.1, u) else kv) (vs.map fun kv => if kv.1 = k then (kv.1, v) else kv)
  | [], _, h => by rw [h]; rfl
  | p :: us, _, ⟨w, r, q, h, t⟩ => by
    subst q
    rw [List.map_cons, List.map_cons]; by_cases e : p.1 = k
    · rw [if_pos e, if_pos (show (p.1, w).1 = k from e)]
      exact ⟨v, _, rfl, ru, RKV.repl k ru t⟩
    · rw [if_neg e, if_neg (show ¬ (p.1, w).1 = k from e)]
      exact ⟨w, _, rfl, h, RKV.repl k ru t⟩
theorem RKV.put {κ : Type} [DecidableEq κ] (k : κ) {u : Val} {v : V} (ru : RV K m H u v) {us : List (κ × Val)} {vs : List (κ × V)} (h : RKV K m H us vs) : RKV K m H (put us k u) (putK vs k v) := by
  unfold Mi.put putK
  rw [RKV.any k h]
  split
  · exact h.repl k ru
  · exact h.append ⟨v, [], rfl, ru, rfl⟩
/-- what stands at an address -/
def OR (K : PySem.W.Frag) (m : List Addr) (H : Hp) : Ob → HO → Prop
  | .lst us, o => ∃ vs, o = .lst vs ∧ RVs K m H us vs
  | .dK kvs, o => ∃ ws, o = .dK ws ∧ RKV K m H kvs ws
  | .dT kvs, o => ∃ ws, o = .dT ws ∧ RKV K m H kvs ws
  | .xd kvs, o => ∃ ws, o = .xd ws ∧ RKV K m H kvs ws
theorem OR.ext (e : Ext m H m' H') {b : Ob} {o : HO} (h : OR K m H b o) : OR K m' H' b o := by
  cases b with
  | lst us => obtain ⟨vs, q, r⟩ := h; exact ⟨vs, q, r.ext e⟩
  | dK us => obtain ⟨vs, q, r⟩ := h; exact ⟨vs, q, r.ext e⟩
  | dT us => obtain ⟨vs, q, r⟩ := h; exact ⟨vs, q, r.ext e⟩
  | xd us => obtain ⟨vs, q, r⟩ := h; exact ⟨vs, q, r.ext e⟩
theorem OR.live {b : Ob} {o : HO} (h : OR K m H b o) : (∀ xs, o ≠ .tup xs) ∧ ∀ ob u, o ≠ .frz ob u := by
  cases b with
  | lst us => obtain ⟨vs, q, r⟩ := h; subst q; exact ⟨fun _ z => (nomatch z), fun _ _ z => (nomatch z)⟩
  | dK us => obtain ⟨vs, q, r⟩ := h; subst q; exact ⟨fun _ z => (nomatch z), fun _ _ z => (nomatch z)⟩
  | dT us => obtain ⟨vs, q, r⟩ := h; subst q; exact ⟨fun _ z => (nomatch z), fun _ _ z => (nomatch z)⟩
  | xd us => obtain ⟨vs, q, r⟩ := h; subst q; exact ⟨fun _ z => (nomatch z), fun _ _ z => (nomatch z)⟩
structure Rel (K : PySem.W.Frag) (m : List Addr) (S : Store) (H : Hp) : Prop where
  len : m.length = S.length
  nd : m.Nodup
  ob : ∀ (i : Nat) b a, S[i]? = some b → m[i]? = some a → ∃ o, H a = some o ∧ OR K m H b o
variable {S S' : Store}
theorem Rel.obj (r : Rel K m S H) {i : Nat} {b : Ob} (h : S[i]? = some b) : ∃ a o, m[i]? = some a ∧ H a = some o ∧ OR K m H b o := by
  have hi : i < m.length := by rw [r.len]; exact (List.getElem?_eq_some_iff.mp h).1
  obtain ⟨o, h1, h2⟩ := r.ob i b m[i] h (List.getElem?_eq_getElem hi)
  exact ⟨m[i], o, List.getElem?_eq_getElem hi, h1, h2⟩
theorem Rel.inj (r : Rel K m S H) {i j : Nat} {a : Addr} (h1 : m[i]? = some a) (h2 : m[j]? = some a) : i = j := by
  obtain ⟨p, e1⟩ := List.getElem?_eq_some_iff.mp h1
  obtain ⟨q, e2⟩ := List.getElem?_eq_some_iff.mp h2
  exact (List.getElem_inj r.nd).mp (e1.trans e2.symm)
theorem Rel.notin (r : Rel K m S H) {p : Addr} (hp : H p = none) : p ∉ m := fun hm => by
  obtain ⟨i, hi, e⟩ := List.mem_iff_getElem.mp hm
  have hS : i < S.length := by rw [← r.len]; exact hi
  obtain ⟨o, h1, _⟩ := r.ob i S[i] p (List.getElem?_eq_getElem hS) (by rw [List.getElem?_eq_getElem hi, e])
  rw [hp] at h1; cases h1
theorem ext_new {p : Addr} {o : HO} (hp : H p = none) : Ext m H (m ++ [p]) (upd H p o) :=
  ⟨List.prefix_append _ _, fun a xs h => by rw [upd_ne (ne_of_none h hp)]; exact h, fun a ob u h => by rw [upd_ne (ne_of_none h hp)]; exact h⟩
theorem ext_upd {p : Addr} {o : HO} (hp : H p = none) : Ext m H m (upd H p o) :=
  ⟨List.prefix_refl _, fun a xs h => by rw [upd_ne (ne_of_none h hp)]; exact h, fun a ob u h => by rw [upd_ne (ne_of_none h hp)]; exact h⟩
/-- an object that is in no store -/
theorem Rel.side (r : Rel K m S H) {p : Addr} {o : HO} (hp : H p = none) : Rel K m S (upd H p o) := by
  refine ⟨r.len, r.nd, fun i b a h1 h2 => ?_⟩
  obtain ⟨o', h3, h4⟩ := r.ob i b a h1 h2
  exact ⟨o', by rw [upd_ne (ne_of_none h3 hp)]; exact h3, h4.ext (ext_upd hp)⟩
/-- a new object -/
theorem Rel.new (r : Rel K m S H) {p : Addr} {b : Ob} {o : HO} (hp : H p = none) (h : OR K m H b o) : Rel K (m ++ [p]) (S ++ [b]) (upd H p o) := by
  refine ⟨by simp [r.len], ?_, fun i c a h1 h2 => ?_⟩
  · rw [List.nodup_append]
    refine ⟨r.nd, List.nodup_cons.mpr ⟨by simp, List.nodup_nil⟩, fun x hx y hy => ?_⟩
    have : y = p := by simpa using hy
    subst this
    intro e
    subst e
    exact r.notin hp hx
  · by_cases hi : i < S.length
    · rw [List.getElem?_append_left hi] at h1
      rw [List.getElem?_append_left (by rw [r.len]; exact hi)] at h2
      obtain ⟨o', h3, h4⟩ := r.ob i c a h1 h2
      exact ⟨o', by rw [upd_ne (ne_of_none h3 hp)]; exact h3, h4.ext (ext_new hp)⟩
    · have e : i = S.length := by
        have := (List.getElem?_eq_some_iff.mp h1).1
        simp at this
        omega
      subst e
      rw [List.getElem?_append_right (Nat.le_refl _)] at h1
      rw [List.getElem?_append_right (by rw [r.len]; exact Nat.le_refl _)] at h2
      simp [r.len] at h1 h2
      subst h1; subst h2
      exact ⟨o, upd_same, h.ext (ext_new hp)⟩
theorem Rel.last (r : Rel K m S H) {p : Addr} : (m ++ [p])[S.length]? = some p := by
  rw [List.getElem?_append_right (by rw [r.len]; exact Nat.le_refl _)]
  simp [r.len]
/-- an object changed -/
theorem Rel.ext_set (r : Rel K m S H) {i : Nat} {a : Addr} {b : Ob} {o : HO} (h1 : S[i]? = some b) (h2 : m[i]? = some a) : Ext m H m (upd H a o) := by
  obtain ⟨o', h3, h4⟩ := r.ob i b a h1 h2
  have hl := h4.live
  refine ⟨List.prefix_refl _, fun c xs h => ?_, fun c ob u h => ?_⟩
  · rw [upd_ne (fun e => by subst e; rw [h3] at h; exact hl.1 xs (Option.some.inj h))]; exact h
  · rw [upd_ne (fun e => by subst e; rw [h3] at h; exact hl.2 ob u (Option.some.inj h))]; exact h
theorem Rel.set (r : Rel K m S H) {i : Nat} {a : Addr} {b c : Ob} {o : HO} (h1 : S[i]? = some b) (h2 : m[i]? = some a) (h : OR K m H c o) : Rel K m (S.set i c) (upd H a o) := by
  have e := r.ext_set (o := o) h1 h2
  refine ⟨by simp [r.len], r.nd, fun j d q h3 h4 => ?_⟩
  by_cases hj : i = j
  · subst hj
    rw [h2] at h4
    have e4 := Option.some.inj h4
    subst e4
    rw [List.getElem?_set_self (List.getElem?_eq_some_iff.mp h1).1] at h3
    have e3 := Option.some.inj h3
    subst e3
    exact ⟨o, upd_same, h.ext e⟩
  · rw [List.getElem?_set_ne hj] at h3
    obtain ⟨o', h5, h6⟩ := r.ob j d q h3 h4
    refine ⟨o', ?_, h6.ext e⟩
    rw [upd_ne (fun z => hj (by subst z; exact r.inj h2 h4))]
    exact h5
/-- lists read -/
theorem Rel.lst (r : Rel K m S H) {u : Val} {v : V} {xs : List Val} (h : lstOf S u = some xs) (ru : RV K m H u v) : ∃ a vs, v = .ref a ∧ SqL K H a vs ∧ RVs K m H xs vs := by
  unfold lstOf at h
  split at h
  · rename_i i
    split at h
    · rename_i ys hS
      cases h
      obtain ⟨a, hm, rfl⟩ := ru
      obtain ⟨o, h1, vs, rfl, h2⟩ := r.ob _ _ _ hS hm
      exact ⟨a, vs, rfl, .of h1, h2⟩
    · cases h
  · cases h
    obtain ⟨a, vs, rfl, h1, h2⟩ := ru
    exact ⟨a, vs, rfl, h1.sq, h2⟩
  · cases h
theorem Rel.lstM (r : Rel K m S H) {i : Nat} {v : V} {xs : List Val} (h : S[i]? = some (.lst xs)) (ru : RV K m H (.ref i) v) : ∃ a vs, v = .ref a ∧ m[i]? = some a ∧ H a = some (.lst vs) ∧ RVs K m H xs vs := by
  obtain ⟨a, hm, rfl⟩ := ru
  obtain ⟨o, h1, vs, rfl, h2⟩ := r.ob _ _ _ h hm
  exact ⟨a, vs, rfl, hm, h1, h2⟩
theorem Rel.seq (r : Rel K m S H) {u : Val} {v : V} {xs : List Val} (h : seqOf S u = some xs) (ru : RV K m H u v) : ∃ a vs, v = .ref a ∧ (SqL K H a vs ∨ SqT K H a vs) ∧ RVs K m H xs vs := by
  unfold seqOf at h
  split at h
  · cases h
    obtain ⟨a, vs, rfl, h1, h2⟩ := ru
    exact ⟨a, vs, rfl, .inr (.of h1), h2⟩
  · obtain ⟨a, vs, e, h1, h2⟩ := r.lst h ru
    exact ⟨a, vs, e, .inl h1, h2⟩
end
end Mi
namespace Mi
open PySem L2
/-! ### operators keep the relation -/
def PO' (K : PySem.W.Frag) (m : List Addr) (H : Hp) (o : P) (Q : VK) : Prop := match o with
  | some (v, S) => ∀ m' H' z, Ext m H m' H' → Rel K m' S H' → RV K m' H' v z → Q z H'
  | none => False
def OB (K : PySem.W.Frag) (H : Hp) (o : Option Bool) (Q : VK) : Prop := match o with
  | some b => Q (.bl b) H
  | none => False
def OV (K : PySem.W.Frag) (m : List Addr) (H : Hp) (o : Option Val) (Q : VK) : Prop := match o with
  | some u => ∀ z, RV K m H u z → Q z H
  | none => False
section
variable {K : PySem.W.Frag} {m : List Addr} {H : Hp} {S : Store}
theorem po_same {v : Val} {z : V} {Q : VK} (h : PO' K m H (some (v, S)) Q) (r : Rel K m S H) (rv : RV K m H v z) : Q z H := h m H z .refl r rv
theorem po_alloc {us : List Val} {vs : List V} {Q : VK} (h : PO' K m H (alloc S us) Q) (r : Rel K m S H) (rv : RVs K m H us vs) :
    vs.length ≤ sizeLine ∧ ∀ p, H p = none → Q (.ref p) (upd H p (.lst vs)) := by
  unfold alloc at h
  split at h
  · rename_i hl
    refine ⟨by rw [← rv.len]; exact hl, fun p hp => ?_⟩
    exact h (m ++ [p]) _ _ (ext_new hp) (r.new hp (b := .lst us) ⟨vs, rfl, rv⟩) ⟨p, r.last, rfl⟩
  · exact h.elim
theorem po_set {i : Nat} {a : Addr} {b c : Ob} {o : HO} {v : Val} {z : V} {Q : VK} (h : PO' K m H (some (v, S.set i c)) Q) (r : Rel K m S H) (h1 : S[i]? = some b) (h2 : m[i]? = some a) (hc : OR K m H c o) (rv : RV K m H v z) :
    Q z (upd H a o) := h m _ z (r.ext_set h1 h2) (r.set h1 h2 hc) (rv.ext (r.ext_set h1 h2))
theorem rv_ints : ∀ {us : List Val} {ns : List Int} {vs : List V}, intsOf us = some ns → RVs K m H us vs → vs = ns.map V.int
  | [], ns, vs, h, r => by cases h; exact r
  | .int i :: us, ns, vs, h, ⟨v, t, q, rv, rt⟩ => by
    unfold intsOf at h
    cases e : intsOf us with
    | none => (rw [e] at h; cases h)
    | some ks =>
      rw [e] at h
      cases h
      have ih := rv_ints e rt
      subst q ih
      rw [show v = .int i from rv]
      rfl
  | .non :: _, _, _, h, _ => by cases h
  | .bl _ :: _, _, _, h, _ => by cases h
  | .str _ :: _, _, _, h, _ => by cases h
  | .ty _ :: _, _, _, h, _ => by cases h
  | .ref _ :: _, _, _, h, _ => by cases h
  | .tup _ :: _, _, _, h, _ => by cases h
  | .fro _ :: _, _, _, h, _ => by cases h
theorem rv_bls : ∀ {us : List Val} {ns : List Bool} {vs : List V}, blsOf us = some ns → RVs K m H us vs → vs = ns.map V.bl
  | [], ns, vs, h, r => by cases h; exact r
  | .bl i :: us, ns, vs, h, ⟨v, t, q, rv, rt⟩ => by
    unfold blsOf at h
    cases e : blsOf us with
    | none => (rw [e] at h; cases h)
    | some ks =>
      rw [e] at h
      cases h
      have ih := rv_bls e rt
      subst q ih
      rw [show v = .bl i from rv]
      rfl
  | .non :: _, _, _, h, _ => by cases h
  | .int _ :: _, _, _, h, _ => by cases h
  | .str _ :: _, _, _, h, _ => by cases h
  | .ty _ :: _, _, _, h, _ => by cases h
  | .ref _ :: _, _, _, h, _ => by cases h
  | .tup _ :: _, _, _, h, _ => by cases h
  | .fro _ :: _, _, _, h, _ => by cases h
theorem rvs_ints : ∀ ns : List Int, RVs K m H (ns.map .int) (ns.map V.int)
  | [] => rfl
  | n :: ns => ⟨_, _, rfl, rfl, rvs_ints ns⟩
theorem rv_flat : ∀ {u : Val} {v : V}, flat u = true → RV K m H u v → flatV v = true
  | .non, _, _, h => by rw [show _ = V.non from h]; rfl
  | .bl _, _, _, h => by rw [show _ = V.bl _ from h]; rfl
  | .int _, _, _, h => by rw [show _ = V.int _ from h]; rfl
  | .str _, _, _, h => by rw [show _ = V.str _ from h]; rfl
  | .ty _, _, e, _ => by cases e
  | .ref _, _, e, _ => by cases e
  | .tup _, _, e, _ => by cases e
  | .fro _, _, e, _ => by cases e
theorem rv_feq : ∀ {u w : Val} {v z : V}, flat u = true → flat w = true → RV K m H u v → RV K m H w z → eqV v z = feq u w := by
  intro u w v z hu hw rv rz
  cases u <;> first | (exact Bool.noConfusion hu) | skip
  all_goals (cases w <;> first | (exact Bool.noConfusion hw) | skip)
  all_goals (rw [show v = _ from rv, show z = _ from rz]; rfl)
theorem rvs_flat : ∀ {us : List Val} {vs : List V}, us.all flat = true → RVs K m H us vs → vs.all flatV = true
  | [], _, _, h => by rw [show _ = [] from h]; rfl
  | u :: us, _, e, ⟨v, t, q, rv, rt⟩ => by
    subst q
    rw [List.all_cons, Bool.and_eq_true] at e ⊢
    exact ⟨rv_flat e.1 rv, rvs_flat e.2 rt⟩
theorem rvs_any {u : Val} {v : V} (hu : flat u = true) (ru : RV K m H u v) : ∀ {us : List Val} {vs : List V}, us.all flat = true → RVs K m H us vs → inV v vs = us.any fun y => feq y u
  | [], _, _, h => by rw [show _ = [] from h]; rfl
  | w :: us, _, e, ⟨z, t, q, rv, rt⟩ => by
    subst q
    rw [List.all_cons, Bool.and_eq_true] at e
    show ((eqV z v) || inV v t) = _
    rw [rvs_any hu ru e.2 rt, List.any_cons, rv_feq e.1 hu rv ru]
/-- data -/
theorem dat_dp (r : Rel K m S H) : ∀ (n : Nat) {u : Val} {v : V} {d : PyData}, dat S n u = some d → RV K m H u v → Dp K H v d ∧ d.canLay0 = true ∧ d.depth ≤ n
  | 0, _, _, _, h, _ => by cases h
  | n + 1, u, v, d, h, rv => by
    have list : ∀ {us : List Val} {vs : List V} {ds : List PyData}, allSome (us.map (dat S n)) = some ds → RVs K m H us vs → DpAll K H vs ds ∧ PyData.canLayAll0 ds = true ∧ PyData.depthAll ds ≤ n := by
      intro us
      induction us with
      | nil => intro vs ds h r; cases h; rw [show vs = [] from r]; exact ⟨.nil, rfl, Nat.zero_le _⟩
      | cons w us ih =>
        intro vs ds h rr
        obtain ⟨z, t, q, rw', rt⟩ := rr
        subst q
        rw [List.map_cons] at h
        cases e : dat S n w with
        | none => (rw [e] at h; cases h)
        | some d1 =>
          rw [e] at h
          unfold allSome at h
          cases e2 : allSome (us.map (dat S n)) with
          | none => rw [e2] at h; cases h
          | some ds1 =>
            rw [e2] at h
            cases h
            obtain ⟨a1, a2, a3⟩ := dat_dp r n e rw'
            obtain ⟨b1, b2, b3⟩ := ih e2 rt
            refine ⟨.cons a1 b1, ?_, ?_⟩
            · show (d1.canLay0 && PyData.canLayAll0 ds1) = true
              rw [a2, b2]; rfl
            · show max d1.depth (PyData.depthAll ds1) ≤ n
              omega
    have fin : ∀ {us : List Val} {f : List PyData → PyData} {d : PyData}, (allSome (us.map (dat S n))).map f = some d → ∃ ds, allSome (us.map (dat S n)) = some ds ∧ d = f ds := by
      intro us f d h
      cases e : allSome (us.map (dat S n)) with
      | none => (rw [e] at h; cases h)
      | some ds => rw [e] at h; cases h; exact ⟨ds, rfl, rfl⟩
    unfold dat at h
    split at h
    · cases h; rw [show v = .non from rv]; exact ⟨.non, rfl, Nat.zero_le _⟩
    · cases h; rw [show v = .bl _ from rv]; exact ⟨.bl _, rfl, Nat.zero_le _⟩
    · cases h; rw [show v = .int _ from rv]; exact ⟨.int _, rfl, Nat.zero_le _⟩
    · obtain ⟨ds, e, rfl⟩ := fin h
      obtain ⟨a, vs, rfl, h1, h2⟩ := rv
      obtain ⟨b1, b2, b3⟩ := list e h2
      exact ⟨.tup (.of h1) b1, b2, Nat.succ_le_succ b3⟩
    · obtain ⟨ds, e, rfl⟩ := fin h
      obtain ⟨a, vs, rfl, h1, h2⟩ := rv
      obtain ⟨b1, b2, b3⟩ := list e h2
      exact ⟨.lst h1.sq b1, b2, Nat.succ_le_succ b3⟩
    · split at h
      · rename_i xs hS
        obtain ⟨ds, e, rfl⟩ := fin h
        obtain ⟨a, vs, rfl, _, h1, h2⟩ := r.lstM hS rv
        obtain ⟨b1, b2, b3⟩ := list e h2
        exact ⟨.lst (.of h1) b1, b2, Nat.succ_le_succ b3⟩
      · cases h
    · cases h
theorem dat_shaped (r : Rel K m S H) {u : Val} {v : V} {d : PyData} (h : dat S deep u = some d) (rv : RV K m H u v) : Dp K H v d ∧ SeqAt.shaped d = true := by
  obtain ⟨h1, h2, h3⟩ := dat_dp r deep h rv
  refine ⟨h1, ?_⟩
  unfold SeqAt.shaped
  rw [h2, Bool.true_and]
  exact decide_eq_true (Nat.le_trans h3 (by decide))
end
section
variable {X : Cx}
theorem or_bin (o : O2) (p : Operator) (hp : p = match o with | .add => .Add | .sub => .Sub | .mul => .Mult | .fdiv => .FloorDiv | .mod => .Mod | .pow => .Pow) :
    OpR X (binaryOp p) (fun x y H Q => ∃ m S u v, Rel X.K m S H ∧ RV X.K m H u x ∧ RV X.K m H v y ∧ PO' X.K m H (binop o u v S) Q) := by
  subst hp
  intro pins s σ H x y v u Q I rx ry h; obtain ⟨m, S, a, b, R, ra, rb, q⟩ := h
  unfold binop at q
  split at q
  · cases ra; cases rb
    exact op_add pins s σ H _ _ v u Q I rx ry ⟨_, _, rfl, rfl, po_same q R rfl⟩
  · cases ra; cases rb
    exact op_sub pins s σ H _ _ v u Q I rx ry ⟨_, _, rfl, rfl, po_same q R rfl⟩
  · cases ra; cases rb
    split at q
    · rename_i hm
      rw [mulOk_def] at hm
      simp only [Bool.or_eq_true, Bool.and_eq_true, decide_eq_true_eq] at hm
      rcases hm with (hm | hm) | hm
      · exact op_mul pins s σ H _ _ v u Q I rx ry ⟨_, _, rfl, rfl, .inl hm, po_same q R rfl⟩
      · exact op_mul pins s σ H _ _ v u Q I rx ry ⟨_, _, rfl, rfl, .inr hm, po_same q R rfl⟩
      · exact op_mulW pins s σ H _ _ v u Q I rx ry ⟨_, _, rfl, rfl, Nat.lt_trans hm (by decide), po_same q R rfl⟩
    · exact q.elim
  · cases ra; cases rb
    split at q
    · rename_i hm
      exact op_fdivW pins s σ H _ _ v u Q I rx ry ⟨_, _, rfl, rfl, hm, po_same q R rfl⟩
    · exact q.elim
  · cases ra; cases rb
    split at q
    · rename_i hm
      exact op_mod pins s σ H _ _ v u Q I rx ry ⟨_, _, rfl, rfl, hm, po_same q R rfl⟩
    · exact q.elim
  · cases ra; cases rb
    split at q
    · rename_i hm
      exact op_pow pins s σ H _ _ v u Q I rx ry ⟨_, _, rfl, rfl, hm, po_same q R rfl⟩
    · exact q.elim
  · cases ra; cases rb
    split at q
    · rename_i hm
      exact op_add_str pins s σ H _ _ v u Q I rx ry ⟨_, _, rfl, rfl, hm, po_same q R rfl⟩
    · exact q.elim
  · split at q
    · rename_i h1 h2
      obtain ⟨a1, v1, rfl, _, e1, r1⟩ := R.lstM h1 ra
      obtain ⟨a2, v2, rfl, _, e2, r2⟩ := R.lstM h2 rb
      obtain ⟨z, q⟩ := po_alloc q R (r1.append r2)
      exact op_cat pins s σ H _ _ v u Q I rx ry ⟨_, _, _, _, rfl, rfl, e1, e2, by rw [← List.length_append]; exact z, q⟩
    · exact q.elim
  · cases rb
    split at q
    · rename_i h1
      obtain ⟨a1, v1, rfl, _, e1, r1⟩ := R.lstM h1 ra
      split at q
      · rename_i hk
        obtain ⟨z, q⟩ := po_alloc q R (r1.rep _)
        exact op_rep pins s σ H _ _ v u Q I rx ry ⟨_, _, _, rfl, rfl, e1, (sg63_iff.mp hk.1).1, (sg63_iff.mp hk.1).2, by rw [← r1.len]; exact hk.2, q⟩
      · exact q.elim
    · exact q.elim
  · exact q.elim
theorem or_eqop (hu : X.A.units + 64 < cLine) : OpR X (compareOp .Eq) (fun x y H Q => ∃ m S u v, Rel X.K m S H ∧ RV X.K m H u x ∧ RV X.K m H v y ∧ OB X.K H (eqop S u v) Q) := by
  intro pins s σ H x y v u Q I rx ry h; obtain ⟨m, S, a, b, R, ra, rb, q⟩ := h
  unfold eqop at q
  split at q
  · rename_i k hk
    have key : scal x y = true ∧ decide (x = y) = k := by
      unfold eqF at hk
      split at hk <;> first | (cases hk; done) | (cases hk; rw [show x = _ from ra, show y = _ from rb]; exact ⟨rfl, by simp⟩)
    exact op_eq pins s σ H _ _ v u Q I rx ry ⟨key.1, by rw [key.2]; exact q⟩
  · split at q
    · rename_i d e hd he
      obtain ⟨d1, d2⟩ := dat_shaped R hd ra
      obtain ⟨e1, e2⟩ := dat_shaped R he rb
      exact op_eqD hu pins s σ H _ _ v u Q I rx ry ⟨d, e, d1, e1, d2, e2, q⟩
    · exact q.elim
theorem or_neop (hu : X.A.units + 64 < cLine) : OpR X (compareOp .NotEq) (fun x y H Q => ∃ m S u v, Rel X.K m S H ∧ RV X.K m H u x ∧ RV X.K m H v y ∧ OB X.K H ((eqop S u v).map (!·)) Q) := by
  intro pins s σ H x y v u Q I rx ry h; obtain ⟨m, S, a, b, R, ra, rb, q⟩ := h
  unfold eqop at q
  split at q
  · rename_i k hk
    have key : scal x y = true ∧ decide (x = y) = k := by
      unfold eqF at hk
      split at hk <;> first | (cases hk; done) | (cases hk; rw [show x = _ from ra, show y = _ from rb]; exact ⟨rfl, by simp⟩)
    exact op_ne pins s σ H _ _ v u Q I rx ry ⟨key.1, by rw [key.2]; exact q⟩
  · split at q
    · rename_i d e hd he
      obtain ⟨d1, d2⟩ := dat_shaped R hd ra
      obtain ⟨e1, e2⟩ := dat_shaped R he rb
      exact op_neD hu pins s σ H _ _ v u Q I rx ry ⟨d, e, d1, e1, d2, e2, q⟩
    · exact q.elim
theorem or_in (hu : X.A.units + 65 < cLine) : OpR X (compareOp .In) (fun x y H Q => ∃ m S u v, Rel X.K m S H ∧ RV X.K m H u x ∧ RV X.K m H v y ∧ OB X.K H (inopS S u v) Q) := by
  intro pins s σ H x y v u Q I rx ry h; obtain ⟨m, S, a, b, R, ra, rb, q⟩ := h
  unfold inopS at q
  split at q
  · rename_i c z
    split at q
    · rename_i k hk
      have e : c = ⟨#[k]⟩ := by
        cases c with
        | mk cps =>
          have : cps = #[k] := by
            apply Array.ext'
            simpa using hk
          rw [this]
      subst e
      cases ra; cases rb
      exact op_in_sign pins s σ H _ _ v u Q I rx ry ⟨k, z, rfl, rfl, q⟩
    · exact q.elim
  · split at q
    · rename_i xs hs
      split at q
      · rename_i hf
        rw [Bool.and_eq_true] at hf
        obtain ⟨p, vs, rfl, h1, h2⟩ := R.seq hs rb
        have e := rvs_any hf.1 ra hf.2 h2
        exact op_in_seq pins s σ H _ _ v u Q I rx ry ⟨p, vs, rfl, h1, rv_flat hf.1 ra, rvs_flat hf.2 h2, by rw [e]; exact q⟩
      · split at q
        · split at q
          · rename_i d ds hd he
            obtain ⟨d1, d2⟩ := dat_shaped R hd ra
            obtain ⟨e1, e2⟩ := dat_shaped R he rb
            exact op_inD hu pins s σ H _ _ v u Q I rx ry ⟨d, ds, d1, e1, d2, e2, q⟩
          · exact q.elim
        · exact q.elim
    · exact q.elim
theorem or_notin (hu : X.A.units + 65 < cLine) : OpR X (compareOp .NotIn) (fun x y H Q => ∃ m S u v, Rel X.K m S H ∧ RV X.K m H u x ∧ RV X.K m H v y ∧ OB X.K H ((inopS S u v).map (!·)) Q) := by
  intro pins s σ H x y v u Q I rx ry h; obtain ⟨m, S, a, b, R, ra, rb, q⟩ := h
  unfold inopS at q
  split at q
  · rename_i c z
    split at q
    · rename_i k hk
      have e : c = ⟨#[k]⟩ := by
        cases c with
        | mk cps =>
          have : cps = #[k] := by
            apply Array.ext'
            simpa using hk
          rw [this]
      subst e
      cases ra; cases rb
      exact op_notIn_sign pins s σ H _ _ v u Q I rx ry ⟨k, z, rfl, rfl, q⟩
    · exact q.elim
  · split at q
    · rename_i xs hs
      split at q
      · rename_i hf
        rw [Bool.and_eq_true] at hf
        obtain ⟨p, vs, rfl, h1, h2⟩ := R.seq hs rb
        have e := rvs_any hf.1 ra hf.2 h2
        exact op_notIn_seq pins s σ H _ _ v u Q I rx ry ⟨p, vs, rfl, h1, rv_flat hf.1 ra, rvs_flat hf.2 h2, by rw [e]; exact q⟩
      · split at q
        · split at q
          · rename_i d ds hd he
            obtain ⟨d1, d2⟩ := dat_shaped R hd ra
            obtain ⟨e1, e2⟩ := dat_shaped R he rb
            exact op_notInD hu pins s σ H _ _ v u Q I rx ry ⟨d, ds, d1, e1, d2, e2, q⟩
          · exact q.elim
        · exact q.elim
    · exact q.elim
/-- the other comparisons of two values -/
theorem or_cmp (hu : X.A.units + 65 < cLine) (o : Cp) (p : CmpOp) (hp : p = match o with | .lt => .Lt | .le => .LtE | .gt => .Gt | .ge => .GtE | .eq => .Eq | .ne => .NotEq | .isn => .Is | .notn => .IsNot | .isin => .In | .notin => .NotIn)
    (h1 : o ≠ .isin) (h2 : o ≠ .notin) :
    OpR X (compareOp p) (fun x y H Q => ∃ m S u v, Rel X.K m S H ∧ RV X.K m H u x ∧ RV X.K m H v y ∧ OB X.K H (cmpop o S u v) Q) := by
  subst hp
  intro pins s σ H x y v u Q I rx ry h; obtain ⟨m, S, a, b, R, ra, rb, q⟩ := h
  unfold cmpop at q
  split at q
  · cases ra; cases rb
    exact op_lt pins s σ H _ _ v u Q I rx ry ⟨_, _, rfl, rfl, q⟩
  · cases ra; cases rb
    exact op_le pins s σ H _ _ v u Q I rx ry ⟨_, _, rfl, rfl, q⟩
  · cases ra; cases rb
    exact op_gt pins s σ H _ _ v u Q I rx ry ⟨_, _, rfl, rfl, q⟩
  · cases ra; cases rb
    exact op_ge pins s σ H _ _ v u Q I rx ry ⟨_, _, rfl, rfl, q⟩
  · exact or_eqop (by omega) pins s σ H _ _ v u Q I rx ry ⟨m, S, a, b, R, ra, rb, q⟩
  · exact or_neop (by omega) pins s σ H _ _ v u Q I rx ry ⟨m, S, a, b, R, ra, rb, q⟩
  · cases rb
    have e : decide (x = V.non) = isNon a := by
      cases a with
      | non => cases ra; rfl
      | bl _ => cases ra; rfl
      | int _ => cases ra; rfl
      | str _ => cases ra; rfl
      | ty _ => cases ra; rfl
      | ref _ => obtain ⟨c, _, rfl⟩ := ra; rfl
      | tup _ => obtain ⟨c, _, rfl, _⟩ := ra; rfl
      | fro _ => obtain ⟨c, _, rfl, _⟩ := ra; rfl
    exact op_isN pins s σ H _ _ v u Q I rx ry ⟨rfl, by rw [e]; exact q⟩
  · cases rb
    have e : (!decide (x = V.non)) = (!isNon a) := by
      cases a with
      | non => cases ra; rfl
      | bl _ => cases ra; rfl
      | int _ => cases ra; rfl
      | str _ => cases ra; rfl
      | ty _ => cases ra; rfl
      | ref _ => obtain ⟨c, _, rfl⟩ := ra; rfl
      | tup _ => obtain ⟨c, _, rfl, _⟩ := ra; rfl
      | fro _ => obtain ⟨c, _, rfl, _⟩ := ra; rfl
    exact op_notN pins s σ H _ _ v u Q I rx ry ⟨rfl, by rw [e]; exact q⟩
  · cases ra; cases rb
    exact op_isBl pins s σ H _ _ v u Q I rx ry ⟨_, _, rfl, rfl, q⟩
  · cases ra; cases rb
    exact op_notBl pins s σ H _ _ v u Q I rx ry ⟨_, _, rfl, rfl, q⟩
  · exact absurd rfl h1
  · exact absurd rfl h2
  · exact q.elim
theorem un_neg' : UnR X (unaryOp .USub) (fun x H Q => ∃ m S u, Rel X.K m S H ∧ RV X.K m H u x ∧ PO' X.K m H (P.of ((intOf u).map fun i => .int (-i)) S) Q) := by
  intro pins s σ H x v Q I rx h
  obtain ⟨m, S, a, R, ra, q⟩ := h
  cases a <;> first | (exact q.elim) | skip
  cases ra
  exact un_neg pins s σ H _ v Q I rx ⟨_, rfl, po_same q R rfl⟩
/-- places in lists -/
theorem atI_rv {K : PySem.W.Frag} {m : List Addr} {H : Hp} {us : List Val} {vs : List V} {i : Int} {u : Val} (r : RVs K m H us vs) (h : atI us i = some u) : ∃ v, atI vs i = some v ∧ RV K m H u v := by
  unfold atI at h ⊢
  rw [r.len] at h
  cases e : ixN vs.length i with
  | none => (rw [e] at h; cases h)
  | some j =>
    rw [e] at h
    obtain ⟨v, h1, h2⟩ := r.get (show us[j]? = some u from h)
    exact ⟨v, h1, h2⟩
theorem ix_item : IxR X (fun x y H Q => ∃ m S u v, Rel X.K m S H ∧ RV X.K m H u x ∧ RV X.K m H v y ∧ OV X.K m H (itemS S u v) Q) := by
  intro value sl pins s σ H x y v u Q I rx ry h hs
  obtain ⟨m, S, a, b, R, ra, rb, q⟩ := h
  unfold itemS at q
  split at q
  · cases ra; cases rb
    split at q
    · rename_i hz
      cases e : atI (Array.toList _) _ with
      | none => rw [e] at q; exact q.elim
      | some c =>
        rw [e] at q
        exact ix_str value sl pins s σ H _ _ v u Q I rx ry ⟨_, _, c, rfl, rfl, hz, e, q _ rfl⟩ hs
    · exact q.elim
  · split at q
    · rename_i xs i hsq _
      obtain ⟨p, vs, rfl, h1, h2⟩ := R.seq hsq ra
      cases rb
      cases e : atI xs i with
      | none => rw [e] at q; exact q.elim
      | some c =>
        rw [e] at q
        obtain ⟨z, e2, rz⟩ := atI_rv h2 e
        rcases h1 with h1 | h1
        · exact ix_list value sl pins s σ H _ _ v u Q I rx ry ⟨p, vs, i, z, rfl, rfl, h1, e2, q z rz⟩ hs
        · exact ix_tup value sl pins s σ H _ _ v u Q I rx ry ⟨p, vs, i, z, rfl, rfl, h1, e2, q z rz⟩ hs
    · exact q.elim
theorem cut_rv {K : PySem.W.Frag} {m : List Addr} {H : Hp} {us : List Val} {vs : List V} (lo hi : Option Int) (r : RVs K m H us vs) : RVs K m H (cut us lo hi) (cutV vs lo hi) := by
  unfold cut cutV
  rw [r.len]
  exact (r.drop _).take _
theorem RVs.get2 {K : PySem.W.Frag} {m : List Addr} {H : Hp} : ∀ {us : List Val} {vs : List V}, RVs K m H us vs → ∀ i : Nat, (us[i]? = Option.none ∧ vs[i]? = Option.none) ∨ ∃ u v, us[i]? = Option.some u ∧ vs[i]? = Option.some v ∧ RV K m H u v
  | [], vs, h, i => by rw [show vs = [] from h]; exact .inl ⟨rfl, rfl⟩
  | u :: us, _, ⟨v, r, q, h, t⟩, 0 => by subst q; exact .inr ⟨u, v, rfl, rfl, h⟩
  | u :: us, _, ⟨v, r, q, h, t⟩, i + 1 => by subst q; simpa using RVs.get2 t i
theorem RVs.pick {K : PySem.W.Frag} {m : List Addr} {H : Hp} {us : List Val} {vs : List V} (h : RVs K m H us vs) : ∀ is : List Nat, RVs K m H (is.filterMap (us[·]?)) (is.filterMap (vs[·]?))
  | [] => rfl
  | i :: is => by
    rcases h.get2 i with ⟨h1, h2⟩ | ⟨u, v, h1, h2, h3⟩
    · rw [List.filterMap_cons_none h1, List.filterMap_cons_none h2]
      exact RVs.pick h is
    · rw [List.filterMap_cons_some h1, List.filterMap_cons_some h2]
      exact ⟨v, _, rfl, h3, RVs.pick h is⟩
theorem stp_rv {K : PySem.W.Frag} {m : List Addr} {H : Hp} {us : List Val} {vs : List V} (a k : Nat) (r : RVs K m H us vs) : RVs K m H (stp us a k) (stp vs a k) := by
  unfold stp
  rw [r.len]
  exact r.pick _
theorem sl_slice : SlR X (fun x lo hi H Q => ∃ m S u, Rel X.K m S H ∧ RV X.K m H u x ∧ PO' X.K m H (slice S u lo hi) Q) := by
  intro pins s σ H x v vl vu lo hi sl Q I rx hs pl pu h; obtain ⟨m, S, a, R, ra, q⟩ := h
  unfold slice at q
  split at q
  · rename_i xs hx
    obtain ⟨p, vs, rfl, h1, h2⟩ := R.lst hx ra
    exact sl_list pins s σ H _ v vl vu lo hi sl Q I rx hs pl pu ⟨p, vs, rfl, h1, (po_alloc q R (cut_rv lo hi h2)).2⟩
  · exact q.elim
end
end Mi
namespace Mi
open PySem L2
theorem foldl_max (r : List Int) : ∀ x : Int, r.foldl max x ∈ x :: r ∧ ∀ y ∈ x :: r, y ≤ r.foldl max x := by
  induction r with
  | nil => intro x; exact ⟨by simp, fun y hy => by simp at hy; subst hy; exact Int.le_refl _⟩
  | cons a r ih =>
    intro x
    obtain ⟨h1, h2⟩ := ih (max x a)
    rw [List.foldl_cons]
    refine ⟨?_, fun y hy => ?_⟩
    · rcases List.mem_cons.mp h1 with h | h
      · rw [h]
        by_cases c : x ≤ a
        · rw [Int.max_eq_right c]; simp
        · rw [Int.max_eq_left (by omega)]; simp
      · simp [h]
    · have h3 := h2 (max x a) (by simp)
      rcases List.mem_cons.mp hy with h | h -- (here)
      · subst h; have := Int.le_max_left y a; omega
      · rcases List.mem_cons.mp h with h | h
        · subst h; have := Int.le_max_right x y; omega
        · exact h2 y (by simp [h])
theorem foldl_min (r : List Int) : ∀ x : Int, r.foldl min x ∈ x :: r ∧ ∀ y ∈ x :: r, r.foldl min x ≤ y := by
  induction r with
  | nil => intro x; exact ⟨by simp, fun y hy => by simp at hy; subst hy; exact Int.le_refl _⟩
  | cons a r ih =>
    intro x
    obtain ⟨h1, h2⟩ := ih (min x a)
    rw [List.foldl_cons]
    refine ⟨?_, fun y hy => ?_⟩
    · rcases List.mem_cons.mp h1 with h | h
      · rw [h]
        by_cases c : x ≤ a
        · rw [Int.min_eq_left c]; simp
        · rw [Int.min_eq_right (by omega)]; simp
      · simp [h]
    · have h3 := h2 (min x a) (by simp)
      rcases List.mem_cons.mp hy with h | h -- (here)
      · subst h; have := Int.min_le_left y a; omega
      · rcases List.mem_cons.mp h with h | h
        · subst h; have := Int.min_le_right x y; omega
        · exact h2 y (by simp [h])
theorem maxL_mem {ns : List Int} (h : ns ≠ []) : maxL ns ∈ ns ∧ ∀ y ∈ ns, y ≤ maxL ns := by
  cases ns with
  | nil => exact absurd rfl h
  | cons x r => exact foldl_max r x
theorem minL_mem {ns : List Int} (h : ns ≠ []) : minL ns ∈ ns ∧ ∀ y ∈ ns, minL ns ≤ y := by
  cases ns with
  | nil => exact absurd rfl h
  | cons x r => exact foldl_min r x
theorem sort_same {a b : List Int} (hp : a.Perm b) (h : a.Pairwise (· ≤ ·)) : a = b.mergeSort (fun a b => decide (a ≤ b)) := by
  have h2 : (b.mergeSort (fun a b => decide (a ≤ b))).Pairwise (· ≤ ·) := by
    have := List.pairwise_mergeSort (le := fun a b : Int => decide (a ≤ b)) (fun a b c h1 h2 => by simp at h1 h2 ⊢; omega) (fun a b => by simp; omega) b
    exact this.imp fun h => by simpa using h
  exact List.Perm.eq_of_pairwise (fun a b _ _ h1 h2 => Int.le_antisymm h1 h2) h h2 (hp.trans (List.mergeSort_perm b _).symm)
theorem lePr_iff {p q : Int × Int} : lePr p q = true ↔ p.1 < q.1 ∨ (p.1 = q.1 ∧ p.2 ≤ q.2) := by
  unfold lePr
  simp
theorem lePr_no {p q : Int × Int} (h : SrtO.lexB q p = false) : lePr p q = true := by
  have := SrtO.lexB_no.mp h
  exact lePr_iff.mpr (by omega)
theorem sort_prs {a b : List (Int × Int)} (hp : a.Perm b) (h : a.Pairwise (fun x y => lePr x y = true)) : a = b.mergeSort lePr := by
  have h2 : (b.mergeSort lePr).Pairwise (fun x y => lePr x y = true) := List.pairwise_mergeSort (fun a b c h1 h2 => by rw [lePr_iff] at *; omega) (fun a b => by
    rw [Bool.or_eq_true, lePr_iff, lePr_iff]; omega) b
  exact List.Perm.eq_of_pairwise (fun a b _ _ h1 h2 => by rw [lePr_iff] at h1 h2; exact Prod.ext (by omega) (by omega)) h h2 (hp.trans (List.mergeSort_perm b _).symm)
/-- the two ints behind a value -/
def keyPr (H : Hp) : V → Int × Int
  | .ref t => match H t with
    | some (.tup [.int i, .int j]) => (i, j)
    | _ => (0, 0)
  | _ => (0, 0)
theorem rv_prs {K : PySem.W.Frag} {m : List Addr} {H : Hp} : ∀ {us : List Val} {ps : List (Int × Int)} {vs : List V}, prsOf us = some ps → RVs K m H us vs → (∀ v ∈ vs, ∃ t, v = V.ref t ∧ H t = some (.tup [.int (keyPr H v).1, .int (keyPr H v).2])) ∧ vs.map (keyPr H) = ps
  | [], ps, vs, h, r => by
    cases h
    rw [show vs = [] from r]
    exact ⟨fun v h => absurd h (by simp), rfl⟩
  | u :: us, ps, vs, h, ⟨v, t, q, rv, rt⟩ => by
    unfold prsOf at h
    split at h
    · rename_i h0; cases h0
    · rename_i i j r h0
      cases h0
      cases e : prsOf us with
      | none => (rw [e] at h; cases h)
      | some ks =>
        rw [e] at h
        cases h
        obtain ⟨g1, g2⟩ := rv_prs e rt
        obtain ⟨a, ws, rfl, h1, h2⟩ := rv
        obtain ⟨z, l, rfl, h3, h4⟩ := h2
        obtain ⟨y, l, rfl, h5, h6⟩ := h4
        cases h3; cases h5
        rw [show l = [] from h6] at h1
        have hk : keyPr H (.ref a) = (i, j) := by
          unfold keyPr
          simp only [h1]
        subst q
        refine ⟨fun v hv => ?_, by rw [List.map_cons, hk, g2]⟩
        rcases List.mem_cons.mp hv with rfl | hv -- (here)
        · exact ⟨a, rfl, by rw [hk]; exact h1⟩
        · exact g1 v hv
    · cases h
theorem rvs_prs {K : PySem.W.Frag} {m : List Addr} {H : Hp} : ∀ {zs : List V}, (∀ z ∈ zs, ∃ t, z = V.ref t ∧ H t = some (.tup [.int (keyPr H z).1, .int (keyPr H z).2])) → RVs K m H (zs.map (vPr ∘ keyPr H)) zs
  | [], _ => rfl
  | z :: zs, h => by
    obtain ⟨t, e, h1⟩ := h z List.mem_cons_self
    refine ⟨z, zs, rfl, ⟨t, _, e, h1, _, _, rfl, rfl, _, _, rfl, rfl, rfl⟩, rvs_prs fun y hy => h y (List.mem_cons_of_mem _ hy)⟩
/-- the value that a primitive's name holds, the name -/
def prF : Pr → Value
  | .len => .builtin "len" | .sum => .builtin "sum" | .max => .builtin "max" | .max2 => .builtin "max" | .min => .builtin "min" | .min2 => .builtin "min" | .sorted => .builtin "sorted" | .abs => .builtin "abs"
  | .all => .builtin "all" | .any => .builtin "any" | .str => .type "str" | .int => .type "int" | .list => .type "list" | .tuple => .type "tuple"
section
variable {X : Cx}
theorem cr_prim (hc : X.calm = true) (p : Pr) : CallR X (prF p) (fun xs H Q => ∃ m S us, Rel X.K m S H ∧ RVs X.K m H us xs ∧ PO' X.K m H (prim p us S) Q) := by
  intro pins s σ H xs us Q I r h; obtain ⟨m, S, vs, R, rs, q⟩ := h
  unfold prim at q
  have one : ∀ {u : Val} {xs : List V}, RVs X.K m H [u] xs → ∃ z, xs = [z] ∧ RV X.K m H u z := by
    intro u xs h
    obtain ⟨z, t, rfl, h1, h2⟩ := h
    rw [show t = [] from h2]
    exact ⟨z, rfl, h1⟩
  have two : ∀ {u w : Val} {xs : List V}, RVs X.K m H [u, w] xs → ∃ z y, xs = [z, y] ∧ RV X.K m H u z ∧ RV X.K m H w y := by
    intro u w xs h
    obtain ⟨z, t, rfl, h1, h2⟩ := h
    obtain ⟨y, t, rfl, h3, h4⟩ := h2
    rw [show t = [] from h4]
    exact ⟨z, y, rfl, h1, h3⟩
  have kints : ∀ {u : Val} {z : V} {f : List Int → Option Val}, RV X.K m H u z → PO' X.K m H (P.of ((lstOf S u).bind fun xs => (intsOf xs).bind f) S) Q →
      ∃ a ns w, z = .ref a ∧ SqL X.K H a (ns.map V.int) ∧ f ns = some w ∧ PO' X.K m H (some (w, S)) Q := by
    intro u z f rz q
    cases e : lstOf S u with
    | none => rw [e] at q; exact q.elim
    | some ys =>
      rw [e] at q
      obtain ⟨a, ws, rfl, h1, h2⟩ := R.lst e rz
      cases e2 : intsOf ys with
      | none => rw [Option.bind_some, e2] at q; exact q.elim
      | some ns =>
        rw [Option.bind_some, e2, Option.bind_some] at q
        cases e3 : f ns with
        | none => rw [e3] at q; exact q.elim
        | some w =>
          rw [e3] at q
          have := rv_ints e2 h2
          subst this
          exact ⟨a, ns, w, rfl, h1, e3, q⟩
  have kbls : ∀ {u : Val} {z : V} {f : List Bool → Val}, RV X.K m H u z → PO' X.K m H (P.of ((lstOf S u).bind fun xs => (blsOf xs).map f) S) Q →
      ∃ a ns, z = .ref a ∧ SqL X.K H a (ns.map V.bl) ∧ PO' X.K m H (some (f ns, S)) Q := by
    intro u z f rz q
    cases e : lstOf S u with
    | none => rw [e] at q; exact q.elim
    | some ys =>
      rw [e] at q
      obtain ⟨a, ws, rfl, h1, h2⟩ := R.lst e rz
      cases e2 : blsOf ys with
      | none => rw [Option.bind_some, e2] at q; exact q.elim
      | some ns =>
        rw [Option.bind_some, e2] at q
        have := rv_bls e2 h2
        subst this
        exact ⟨a, ns, rfl, h1, q⟩
  split at q
  · -- len of a text
    obtain ⟨z, rfl, h1⟩ := one rs
    cases h1
    split at q
    · rename_i hl
      exact call_len_str pins s σ H _ us Q I r ⟨_, rfl, hl, po_same q R rfl⟩
    · exact q.elim
  · obtain ⟨z, rfl, h1⟩ := one rs
    split at q
    · rename_i e
      obtain ⟨a, ws, rfl, _, h2, h3⟩ := R.lstM e h1
      exact call_len_seq pins s σ H _ us Q I r ⟨a, ws, rfl, .inl (.of h2), by rw [← h3.len]; exact po_same q R rfl⟩
    · rename_i e
      obtain ⟨a, h4, rfl⟩ := h1
      obtain ⟨o, h5, ws, rfl, h6⟩ := R.ob _ _ _ e h4
      obtain ⟨u, rfl, ru⟩ := vals1 r; cases ru
      exact d_len I (.inl h5) fun t s' I' => ⟨.int ws.length, H, I', ⟨t, rfl⟩, by rw [← h6.len]; exact po_same q R rfl⟩
    · exact q.elim
  · obtain ⟨z, rfl, a, ws, rfl, h2, h3⟩ := one rs
    exact call_len_seq pins s σ H _ us Q I r ⟨a, ws, rfl, .inr (.of h2), by rw [← h3.len]; exact po_same q R rfl⟩
  · obtain ⟨z, rfl, a, ws, rfl, h2, h3⟩ := one rs
    exact call_len_seq pins s σ H _ us Q I r ⟨a, ws, rfl, .inl h2.sq, by rw [← h3.len]; exact po_same q R rfl⟩
  · -- sum
    obtain ⟨z, rfl, h1⟩ := one rs
    obtain ⟨a, ns, w, rfl, h2, e, q⟩ := kints (f := fun ns => some (.int ns.sum)) h1 (by simpa only [Option.map_eq_bind, Function.comp_def] using q)
    cases e
    exact cr_sum hc pins s σ H _ us Q I r ⟨a, ns, rfl, h2, po_same q R rfl⟩
  · obtain ⟨z, rfl, h1⟩ := one rs
    obtain ⟨a, ns, w, rfl, h2, e, q⟩ := kints h1 q
    have hne : ns ≠ [] := by rintro rfl; cases e
    rw [if_neg (by simpa using hne)] at e
    cases e
    obtain ⟨k1, k2⟩ := maxL_mem hne
    exact cr_max hc pins s σ H _ us Q I r ⟨a, ns, rfl, h2, List.length_pos_iff.mpr hne, fun k hk hy => by
      have e : k = maxL ns := Int.le_antisymm (k2 k hk) (hy _ k1)
      rw [e]; exact po_same q R rfl⟩
  · obtain ⟨z, rfl, h1⟩ := one rs
    obtain ⟨a, ns, w, rfl, h2, e, q⟩ := kints h1 q
    have hne : ns ≠ [] := by rintro rfl; cases e
    rw [if_neg (by simpa using hne)] at e
    cases e
    obtain ⟨k1, k2⟩ := minL_mem hne
    exact cr_min hc pins s σ H _ us Q I r ⟨a, ns, rfl, h2, List.length_pos_iff.mpr hne, fun k hk hy => by
      have e : k = minL ns := Int.le_antisymm (hy _ k1) (k2 k hk)
      rw [e]; exact po_same q R rfl⟩
  · obtain ⟨z, y, rfl, h1, h2⟩ := two rs
    cases h1; cases h2
    exact call_max2 hc pins s σ H _ us Q I r ⟨_, _, rfl, po_same q R rfl⟩
  · obtain ⟨z, y, rfl, h1, h2⟩ := two rs
    cases h1; cases h2
    exact call_min2 hc pins s σ H _ us Q I r ⟨_, _, rfl, po_same q R rfl⟩
  · -- sorted
    obtain ⟨z, rfl, h1⟩ := one rs
    split at q
    · rename_i ns hns
      cases e : lstOf S _ with
      | none => rw [e] at hns; cases hns
      | some ys =>
        rw [e] at hns
        obtain ⟨a, ws, rfl, h2, h3⟩ := R.lst e h1
        have := rv_ints hns h3
        subst this
        refine cr_sortedI pins s σ H _ us Q I r ⟨a, ns, rfl, h2, fun ns' p hp hw hn => ?_⟩
        rw [sort_same hp hw]
        exact (po_alloc q R (rvs_ints _)).2 p hn
    · split at q
      · rename_i ps hps
        cases e : lstOf S _ with
        | none => rw [e] at hps; cases hps
        | some ys =>
          rw [e] at hps
          obtain ⟨a, ws, rfl, h2, h3⟩ := R.lst e h1
          obtain ⟨g1, g2⟩ := rv_prs hps h3
          refine cr_sortedPO pins s σ H _ us Q I r ⟨a, ws, keyPr H, rfl, h2, fun x hx => (g1 x hx).imp fun t h => ⟨h.1, h.2⟩, fun zs p hs hb hn => ?_⟩
          have hz : ∀ z ∈ zs, ∃ t, z = V.ref t ∧ H t = some (.tup [.int (keyPr H z).1, .int (keyPr H z).2]) := fun z h => g1 z (hb.perm.mem_iff.mp h)
          have e2 : ps.mergeSort lePr = zs.map (keyPr H) := by
            refine (sort_prs ?_ ?_).symm
            · rw [← g2]
              exact hb.perm.map _
            · exact List.pairwise_map.mpr (hs.imp fun {x y} h => lePr_no h)
          rw [e2, List.map_map] at q
          exact (po_alloc q R (rvs_prs hz)).2 p hn
      · exact q.elim
  · obtain ⟨z, rfl, h1⟩ := one rs
    cases h1
    exact call_abs pins s σ H _ us Q I r ⟨_, rfl, po_same q R rfl⟩
  · obtain ⟨z, rfl, h1⟩ := one rs
    cases h1
    split at q
    · rename_i hl
      exact call_str_int pins s σ H _ us Q I r ⟨_, rfl, hl, po_same q R rfl⟩
    · exact q.elim
  · obtain ⟨z, rfl, h1⟩ := one rs
    cases h1
    exact call_int1 pins s σ H _ us Q I r (.inl ⟨_, rfl, po_same q R rfl⟩)
  · obtain ⟨z, rfl, h1⟩ := one rs
    cases h1
    exact call_int1 pins s σ H _ us Q I r (.inr ⟨_, rfl, po_same q R rfl⟩)
  · obtain ⟨z, rfl, h1⟩ := one rs
    cases h1
    split at q
    · rename_i n hn
      split at q
      · rename_i hl
        exact call_int_str pins s σ H _ us Q I r ⟨_, n, rfl, hn, hl, po_same q R rfl⟩
      · exact q.elim
    · exact q.elim
  · obtain ⟨z, rfl, h1⟩ := one rs
    obtain ⟨a, ns, rfl, h2, q⟩ := kbls (f := fun bs => .bl (bs.all id)) h1 q
    exact cr_all hc pins s σ H _ us Q I r ⟨a, ns, rfl, h2, po_same q R rfl⟩
  · obtain ⟨z, rfl, h1⟩ := one rs
    obtain ⟨a, ns, rfl, h2, q⟩ := kbls (f := fun bs => .bl (bs.any id)) h1 q
    exact cr_any hc pins s σ H _ us Q I r ⟨a, ns, rfl, h2, po_same q R rfl⟩
  · obtain ⟨z, rfl, h1⟩ := one rs
    split at q
    · rename_i e
      obtain ⟨a, ws, rfl, h2, h3⟩ := R.seq e h1
      exact call_list_of pins s σ H _ us Q I r ⟨a, ws, rfl, h2, (po_alloc q R h3).2⟩
    · exact q.elim
  · obtain ⟨z, rfl, h1⟩ := one rs
    cases e : seqOf S _ with
    | none => rw [e] at q; exact q.elim
    | some ys =>
      rw [e] at q
      unfold seqOf at e
      split at e
      · cases e
        obtain ⟨a, ws, rfl, h2, h3⟩ := h1
        exact call_tuple_of pins s σ H _ us Q I r ⟨a, ws, rfl, .inr ⟨.of h2, q m H _ .refl R ⟨a, ws, rfl, h2, h3⟩⟩⟩
      · obtain ⟨a, ws, rfl, h2, h3⟩ := R.lst e h1
        refine call_tuple_of pins s σ H _ us Q I r ⟨a, ws, rfl, .inl ⟨h2, fun l hl => ?_⟩⟩
        have e := ext_upd (m := m) (o := .tup ws) hl
        exact q m _ _ e (R.side hl) ⟨l, ws, rfl, upd_same, h3.ext e⟩
  · exact q.elim
/-! ### methods -/
def meId : Me → String
  | .append => "list.append" | .pop => "list.pop" | .popAt => "list.pop" | .insert => "list.insert" | .index => "list.index" | .extend => "list.extend" | .count => "list.count" | .reverse => "list.reverse"
  | .join => "str.join" | .split => "str.split" | .get1 => "dict.get" | .get2 => "dict.get"
theorem find_rv {K : PySem.W.Frag} {m : List Addr} {H : Hp} {y : Val} {z : V} (hy : flat y = true) (ry : RV K m H y z) : ∀ {us : List Val} {vs : List V} {k j : Nat}, us.all flat = true → RVs K m H us vs → find1 y us k = some j →
    k ≤ j ∧ (∃ w, vs[j - k]? = some w ∧ eqV w z = true) ∧ ∀ (i : Nat) w, i < j - k → vs[i]? = some w → eqV w z = false
  | [], _, _, _, _, _, h => by cases h
  | u :: us, _, k, j, hf, ⟨v, t, q, rv, rt⟩, h => by
    subst q
    rw [List.all_cons, Bool.and_eq_true] at hf; unfold find1 at h
    have e := rv_feq hf.1 hy rv ry
    split at h
    · rename_i c
      cases h
      refine ⟨Nat.le_refl _, ⟨v, by simp, by rw [e]; exact c⟩, fun i w hi => by omega⟩
    · rename_i c
      obtain ⟨h1, ⟨w, h2, h3⟩, h4⟩ := find_rv hy ry hf.2 rt h
      refine ⟨by omega, ⟨w, ?_, h3⟩, fun i w hi hw => ?_⟩
      · rw [show j - k = (j - (k + 1)) + 1 by omega]
        simpa using h2
      · cases i with
        | zero =>
          simp at hw
          subst hw
          rw [e]
          simpa using c
        | succ i => exact h4 i w (by omega) (by simpa using hw)
theorem mt_meth (p : Me) : MtR X (meId p) (fun x xs H Q => ∃ m S u us, Rel X.K m S H ∧ RV X.K m H u x ∧ RVs X.K m H us xs ∧ PO' X.K m H (meth p u us S) Q) := by
  intro pins s σ H x xs v us Q I rx rxs h; obtain ⟨m, S, u, ws, R, ru, rs, q⟩ := h
  unfold meth at q
  have one : ∀ {u : Val} {xs : List V}, RVs X.K m H [u] xs → ∃ z, xs = [z] ∧ RV X.K m H u z := by
    intro u xs h
    obtain ⟨z, t, rfl, h1, h2⟩ := h
    rw [show t = [] from h2]
    exact ⟨z, rfl, h1⟩
  split at q
  · obtain ⟨z, rfl, h1⟩ := one rs
    split at q
    · rename_i e
      obtain ⟨a, ys, rfl, hm, h2, h3⟩ := R.lstM e ru
      split at q
      · rename_i hl
        exact mt_append pins s σ H _ _ v us Q I rx rxs ⟨a, ys, z, rfl, rfl, h2, by rw [← h3.len]; exact hl, po_set q R e hm ⟨_, rfl, h3.append (RVs.cons h1 RVs.nil)⟩ rfl⟩
      · exact q.elim
    · exact q.elim
  · obtain ⟨z, rfl, h1⟩ := one rs
    split at q
    · rename_i e e2
      obtain ⟨a, ys, rfl, hm, h2, h3⟩ := R.lstM e ru
      obtain ⟨b, zs, rfl, hm2, h4, h5⟩ := R.lstM e2 h1
      split at q
      · rename_i hl
        exact mt_extend pins s σ H _ _ v us Q I rx rxs ⟨a, b, ys, zs, rfl, rfl, h2, h4, by rw [← h3.len, ← h5.len]; exact hl, po_set q R e hm ⟨_, rfl, h3.append h5⟩ rfl⟩
      · exact q.elim
    · exact q.elim
  · obtain rfl : xs = [] := rs
    split at q
    · rename_i ys e
      obtain ⟨a, zs, rfl, hm, h2, h3⟩ := R.lstM e ru
      split at q
      · rename_i y hy
        obtain ⟨z, h4, h5⟩ := h3.get hy
        exact mt_pop pins s σ H _ _ v us Q I rx rxs ⟨a, zs, z, rfl, rfl, h2, by rw [← h3.len]; exact h4, po_set q R e hm ⟨_, rfl, h3.dropLast⟩ h5⟩
      · exact q.elim
    · exact q.elim
  · obtain ⟨z, rfl, h1⟩ := one rs
    cases h1
    split at q
    · rename_i ys e
      obtain ⟨a, zs, rfl, hm, h2, h3⟩ := R.lstM e ru
      split at q
      · rename_i hi; replace hi := in63_iff.mp hi
        split at q
        · rename_i y hy
          obtain ⟨z, h4, h5⟩ := h3.get hy
          have hk : PySem.seqIndex? _ zs.length = some (Int.toNat _) := (ixN_seq (n := zs.length) (i := _) (j := _) (by
            unfold ixN
            rw [if_pos hi.1, if_pos]
            have := (List.getElem?_eq_some_iff.mp h4).1
            omega)).1
          exact mt_popAt pins s σ H _ _ v us Q I rx rxs ⟨a, zs, _, _, z, rfl, rfl, h2, by omega, hi.2, hk, h4, po_set q R e hm ⟨_, rfl, h3.eraseIdx _⟩ h5⟩
        · exact q.elim
      · exact q.elim
    · exact q.elim
  · obtain ⟨z, t, rfl, h1, h1'⟩ := rs
    obtain ⟨y, rfl, h6⟩ := one h1'
    cases h1
    split at q
    · rename_i ys e
      obtain ⟨a, zs, rfl, hm, h2, h3⟩ := R.lstM e ru
      split at q
      · rename_i hi
        exact mt_insert pins s σ H _ _ v us Q I rx rxs ⟨a, zs, _, y, rfl, rfl, h2, by rw [← h3.len]; exact hi.1, (in63_iff.mp hi.2).1, (in63_iff.mp hi.2).2, po_set q R e hm ⟨_, rfl, ((h3.take _).append (RVs.cons h6 RVs.nil)).append (h3.drop _)⟩ rfl⟩
      · exact q.elim
    · exact q.elim
  · obtain rfl : xs = [] := rs
    split at q
    · rename_i ys e
      obtain ⟨a, zs, rfl, hm, h2, h3⟩ := R.lstM e ru
      exact mt_reverse pins s σ H _ _ v us Q I rx rxs ⟨a, zs, rfl, rfl, h2, po_set q R e hm ⟨_, rfl, h3.reverse⟩ rfl⟩
    · exact q.elim
  · obtain ⟨z, rfl, h1⟩ := one rs
    split at q
    · rename_i e
      obtain ⟨a, zs, rfl, h2, h3⟩ := R.lst e ru
      split at q
      · rename_i hf
        rw [Bool.and_eq_true] at hf
        cases ef : find1 _ _ 0 with
        | none => rw [ef] at q; exact q.elim
        | some j =>
          rw [ef] at q
          obtain ⟨_, ⟨w, h4, h5⟩, h6⟩ := find_rv hf.1 h1 hf.2 h3 ef
          exact mt_index pins s σ H _ _ v us Q I rx rxs ⟨a, zs, z, j, w, rfl, rfl, h2, rv_flat hf.1 h1, rvs_flat hf.2 h3, h4, h5, fun i w hi hw => h6 i w (by omega) hw, po_same q R rfl⟩
      · exact q.elim
    · exact q.elim
  · exact q.elim
end
end Mi
namespace Mi
open PySem L2
/-! ### expressions, by what they are worth -/
def REnv (K : PySem.W.Frag) (m : List Addr) (H : Hp) (ρ : Env) (σ : L2.St) : Prop := ρ.length = σ.length ∧ ∀ (i : Nat) v, ρ[i]? = some (some v) → ∃ z, σ[i]? = some (some z) ∧ RV K m H v z
theorem REnv.ext {K : PySem.W.Frag} {m m' : List Addr} {H H' : Hp} {ρ : Env} {σ : L2.St} (e : Ext m H m' H') (h : REnv K m H ρ σ) : REnv K m' H' ρ σ :=
  ⟨h.1, fun i v hv => let ⟨z, h1, h2⟩ := h.2 i v hv; ⟨z, h1, h2.ext e⟩⟩
def dAt (m : List Addr) (d : Option Nat) : Option Addr := d.bind fun i => m[i]?
/-- the words that stay through a def: the written part, the classes of errors, what is wished of an error -/
structure Wd where
  K : PySem.W.Frag
  cl : Nat → Value
  We : WX
def Pst {α β : Type} (w : Wd) (rel : List Addr → Hp → α → β → Prop) (m : List Addr) (H : Hp) (σ : L2.St) (r : R α) (Q : β → Hp → Prop) : Prop := match r with
  | .ok a S => ∀ m' H' z, Ext m H m' H' → Rel w.K m' S H' → rel m' H' a z → Q z H'
  | .ex c d S => ∀ m' H', Ext m H m' H' → Rel w.K m' S H' → w.We (w.cl c) (dAt m' d) σ H'
  | .bad => False
section
variable {w : Wd} {α β γ δ : Type} {rel : List Addr → Hp → α → β → Prop} {rel' : List Addr → Hp → γ → δ → Prop} {m m' : List Addr} {H H' : Hp} {σ : L2.St}
theorem Pst.mono {r : R α} {Q Q' : β → Hp → Prop} (h : Pst w rel m H σ r Q) (f : ∀ z H, Q z H → Q' z H) : Pst w rel m H σ r Q' := by
  cases r with
  | ok a S => exact fun m' H' z e R rz => f _ _ (h m' H' z e R rz)
  | ex c d S => exact h
  | bad => exact h
theorem Pst.ext {r : R α} {Q : β → Hp → Prop} (e : Ext m H m' H') (h : Pst w rel m H σ r Q) : Pst w rel m' H' σ r Q := by
  cases r with
  | ok a S => exact fun m2 H2 z e2 R rz => h m2 H2 z (e.trans e2) R rz
  | ex c d S => exact fun m2 H2 e2 R => h m2 H2 (e.trans e2) R
  | bad => exact h
theorem Pst.bind {r : R α} {k : α → Store → R γ} {Q : δ → Hp → Prop} (h : Pst w rel' m H σ (r.bind k) Q) :
    Pst w rel m H σ r (fun x H1 => ∃ m1 S1 a, Ext m H m1 H1 ∧ Rel w.K m1 S1 H1 ∧ rel m1 H1 a x ∧ Pst w rel' m1 H1 σ (k a S1) Q) := by
  cases r with
  | ok a S => exact fun m1 H1 z e R rz => ⟨m1, S, a, e, R, rz, h.ext e⟩
  | ex c d S => exact h
  | bad => exact h
end
abbrev RB : List Addr → Hp → Bool → Bool → Prop := fun _ _ a b => b = a
def TEv (w : Wd) (C : Ctx) (e : E) : TE := fun σ H Q => ∃ m S ρ, Rel w.K m S H ∧ REnv w.K m H ρ σ ∧ Pst w (RV w.K) m H σ (ev C e ρ S) Q
def TAv (w : Wd) (C : Ctx) (es : List E) : TA := fun σ H Q => ∃ m S ρ, Rel w.K m S H ∧ REnv w.K m H ρ σ ∧ Pst w (RVs w.K) m H σ (evs C es ρ S) Q
def TTv (w : Wd) (C : Ctx) (es : List E) : TT := fun σ H Q => ∃ m S ρ, Rel w.K m S H ∧ REnv w.K m H ρ σ ∧ Pst w RB m H σ (evT C es ρ S) Q
theorem pe_imp {X : Cx} {e : Expr} {t t' : TE} (h : PE X e t) (f : ∀ σ H Q, t' σ H Q → t σ H Q) : PE X e t' := ⟨fun pins s σ H Q I q => h.run pins s σ H Q I (f _ _ _ q)⟩
theorem pt_imp {X : Cx} {e : Expr} {t t' : TT} (h : PT X e t) (f : ∀ σ H Q, t' σ H Q → t σ H Q) : PT X e t' := ⟨fun pins s σ H Q I q => h.run pins s σ H Q I (f _ _ _ q)⟩
theorem pw_imp {X : Cx} {e : Expr} {t t' : TT} (h : PW X e t) (f : ∀ σ H Q, t' σ H Q → t σ H Q) : PW X e t' := ⟨fun wh pins s σ H Q I q => h.run wh pins s σ H Q I (f _ _ _ q)⟩
theorem pa_imp {X : Cx} {e : List Expr} {t t' : TA} (h : PA X e t) (f : ∀ σ H Q, t' σ H Q → t σ H Q) : PA X e t' := ⟨fun pos pins s σ H Q I q => h.run pos pins s σ H Q I (f _ _ _ q)⟩
theorem ps_imp {X : Cx} {e : Stmt} {t t' : TS} (h : PS X e t) (f : ∀ D σ H, t' D σ H → t D σ H) : PS X e t' := ⟨fun pins s σ H Q I q => h.run pins s σ H Q I (f _ _ _ q)⟩
theorem pss_imp {X : Cx} {e : List Stmt} {t t' : TS} (h : PSs X e t) (f : ∀ D σ H, t' D σ H → t D σ H) : PSs X e t' := ⟨fun pins s σ H Q I q => h.run pins s σ H Q I (f _ _ _ q)⟩
theorem pe_or' {X : Cx} {e : Expr} {t t' : TE} (h : PE X e t) (h' : PE X e t') : PE X e (fun σ H Q => t σ H Q ∨ t' σ H Q) :=
  ⟨fun pins s σ H Q I q => q.elim (h.run pins s σ H Q I) (h'.run pins s σ H Q I)⟩
theorem pi_or' {X : Cx} {tg e : Expr} {t t' : TI} (h : PI X tg e t) (h' : PI X tg e t') : PI X tg e (fun σ H Q => t σ H Q ∨ t' σ H Q) :=
  ⟨fun pins s σ H Q I q => q.elim (h.run pins s σ H Q I) (h'.run pins s σ H Q I)⟩
theorem pg_or' {X : Cx} {tg : Expr} {t t' : TG} (h : PG X tg t) (h' : PG X tg t') : PG X tg (fun v σ H Q => t v σ H Q ∨ t' v σ H Q) :=
  ⟨fun pins s σ H v u Q I r q => q.elim (h.run pins s σ H v u Q I r) (h'.run pins s σ H v u Q I r)⟩
theorem pe_never {X : Cx} {e : Expr} : PE X e (fun _ _ _ => False) := ⟨fun _ _ _ _ _ _ h => h.elim⟩
/-! names of the built-ins that are served -/
def bnames : List Str := ["len", "sum", "max", "min", "sorted", "abs", "all", "any", "str", "int", "list", "tuple", "range", "enumerate", "zip", "reversed", "isinstance", "bool", "dict"]
structure TC where
  sc : Scope
  N : List Str
  own : List (Str × Nat)
  fns : List (Str × Nat)
  cst : List (Str × Val)
  dts : List Nat
  cls : List (Str × Nat) := []
  rai : List Nat := []
/-- a def's promise by what it is worth -/
def spOf (K : PySem.W.Frag) (cl : Nat → Value) (n : Nat) (g : Sem) : Sp := fun vs H Q E => ∃ m S us, Rel K m S H ∧ RVs K m H us vs ∧ us.length = n ∧ match g us S with
  | .ok v S' => ∀ m' H' z, Ext m H m' H' → Rel K m' S' H' → RV K m' H' v z → Q z H'
  | .ex c d S' => ∀ m' H', Ext m H m' H' → Rel K m' S' H' → E (cl c) (dAt m' d) H'
  | .bad => False
structure FnHas (X : Cx) (cl : Nat → Value) (x : Str) (n : Nat) (g : Sem) : Prop where
  has : ∃ k fa fd ps, FnOk X.prog X.w X.K X.mg X.base (L2.CX X.prog X.w) k fa fd ps (spOf X.K cl n g) ∧ Room k X.A ∧ X.mg x = some (.ref fa) ∧ PySem.W.keepIn X.K (.ref fa) = true ∧ Binds X.K fd ps []
/-- what is known of the classes of errors -/
structure ClsF (K : PySem.W.Frag) (mg : Str → Option Value) (cl : Nat → Value) (L : List (Str × Nat)) (R : List Nat) : Prop where
  own : ∀ e ∈ L, e.2 < 100 → ∃ C, cl e.2 = .ref C ∧ mg e.1 = some (.ref C)
  blt : ∀ e ∈ L, 100 ≤ e.2 → mg e.1 = none ∧ e.1 ≠ "__name__" ∧ ∃ T, cl e.2 = .type T ∧ bootBuiltins e.1 = some (.type T)
  rai : ∀ k ∈ R, ∃ C bm, cl k = .ref C ∧ ExcBaseFacts "ValueError" "ValueError.__new__" "ValueError.__init__" bm ∧ PySem.W.excIn K C bm "ValueError.__new__" = true ∧ PySem.W.keepIn K (.ref C) = true ∧ PySem.W.subIn K (.ref C) (.type "BaseException") = some true ∧ PySem.W.typeIn K (.ref C) = some (.type "type") ∧ ExcC K C
  tst : ∀ k ∈ R, ∀ e ∈ L, PySem.W.kitOne K (cl k) (cl e.2) = some (exSub k e.2) ∧ PySem.W.exmOne K (cl k) (cl e.2) = some (exSub k e.2)
structure CxOk (w : Wd) (C : Ctx) (tc : TC) (X : Cx) : Prop where
  K : X.K = w.K
  calm : X.calm = true
  sc : X.env.scope = tc.sc
  N : X.N = tc.N
  nd : tc.N.Nodup
  hu : X.A.units + 65 < cLine
  blt : ∀ x ∈ bnames, X.mg x = none
  fns : ∀ x f n g, tc.fns.lookup x = some f → C f = some (n, g) → FnHas X w.cl x n g
  cst : ∀ x v, tc.cst.lookup x = some v → ∃ u z, X.mg x = some u ∧ RelV z u ∧ ∀ m H, RV X.K m H v z
  tk : Takes X w.We
  cls : ClsF X.K X.mg w.cl tc.cls tc.rai
  sto : ∀ p ∈ tc.own, X.N[p.2]? = some p.1 ∧ Loc X.env.scope p.1 ∧ (X.fn p.1 = true ∨ X.env.scope.names.lookup p.1 = some .local)
/-! lists of arguments without stars -/
def nst : Expr → Bool
  | .Starred .. => false
  | _ => true
theorem starEach_cons {e : Expr} {es : List Expr} {env : PySem.Env} (h : nst e = true) : starEach (e :: es) env = (false, eval e env) :: starEach es env := by
  cases e <;> first | rfl | (exact Bool.noConfusion h)
theorem assignEach_cons {e : Expr} {es : List Expr} {env : PySem.Env} (h : nst e = true) : assignEach (e :: es) env = (false, assign e env) :: assignEach es env := by
  cases e <;> first | rfl | (exact Bool.noConfusion h)
theorem star_any {es : List Expr} {env : PySem.Env} {pos : Pos} (h : es.all nst = true) : (backTo pos (starEach es env)).any (·.1) = false := by
  induction es with
  | nil => rfl
  | cons e es ih =>
    rw [List.all_cons, Bool.and_eq_true] at h; rw [starEach_cons h.1]
    show (false || _) = false
    rw [Bool.false_or]
    exact ih h.2
theorem star_few {es : List Expr} {env : PySem.Env} {pos : Pos} (h : es.all nst = true) : (backTo pos (starEach es env)).all (fun x => !x.1) = true := by
  induction es with
  | nil => rfl
  | cons e es ih =>
    rw [List.all_cons, Bool.and_eq_true] at h; rw [starEach_cons h.1]
    show (true && _) = true
    rw [Bool.true_and]
    exact ih h.2
theorem assign_maps {es : List Expr} {env : PySem.Env} (h : es.all nst = true) : (assignEach es env).length = es.length ∧ (assignEach es env).findIdx? (·.1) = none := by
  induction es with
  | nil => exact ⟨rfl, rfl⟩
  | cons e es ih =>
    rw [List.all_cons, Bool.and_eq_true] at h; rw [assignEach_cons h.1]
    obtain ⟨h1, h2⟩ := ih h.2
    refine ⟨by rw [List.length_cons, List.length_cons, h1], ?_⟩
    rw [List.findIdx?_cons]
    simp [h2]
section
variable {w : Wd} {C : Ctx} {tc : TC} {X : Cx} {a b c : Expr} {a' b' c' : E} {es : List Expr} {es' : List E} {pos : Pos}
theorem se_var {i : Nat} {x : Str} (ok : CxOk w C tc X) (hN : X.N[i]? = some x) (hv : Vis X.env.scope x) (hd : (x == ("__debug__" : Str)) = false) (hcd : (x == ("__classdict__" : Str)) = false) : PE X (.Name x pos) (TEv w C (.var i)) := by
  refine pe_imp (pe_var hN hv hd hcd) fun σ H Q ⟨m, S, ρ, R, En, q⟩ => ?_
  unfold ev at q
  split at q
  · rename_i v hv
    obtain ⟨z, h1, h2⟩ := En.2 _ _ hv
    exact ⟨z, h1, q m H z .refl R h2⟩
  · exact q.elim
theorem se_cst {v : Val} {z : V} (h : PE X a (tC z)) (hv : ∀ m H, RV w.K m H v z) : PE X a (TEv w C (.cst v)) :=
  pe_imp h fun σ H Q ⟨m, S, ρ, R, En, q⟩ => by
    unfold ev at q
    exact q m H z .refl R (hv m H)
theorem sa_nil : PA X [] (TAv w C []) := pa_imp pa_nil fun σ H Q ⟨m, S, ρ, R, En, q⟩ => by
  unfold evs at q
  exact q m H [] .refl R rfl
theorem sa_cons (hn : nst a = true) (ha : PE X a (TEv w C a')) (hs : PA X es (TAv w C es')) : PA X (a :: es) (TAv w C (a' :: es')) :=
  pa_imp (pa_cons ha hs (starEach_cons hn)) fun σ H Q ⟨m, S, ρ, R, En, q⟩ => by
    unfold evs at q
    refine ⟨m, S, ρ, R, En, q.bind.mono fun x H1 ⟨m1, S1, u, e1, R1, r1, q1⟩ => ?_⟩
    refine ⟨m1, S1, ρ, R1, En.ext e1, q1.bind.mono fun xs H2 ⟨m2, S2, us, e2, R2, r2, q2⟩ => ?_⟩
    exact q2 m2 H2 _ .refl R2 ⟨x, xs, rfl, r1.ext e2, r2⟩
theorem se_lst (ok : CxOk w C tc X) (hs : PA X es (TAv w C es')) : PE X (.List es pos) (TEv w C (.lst es')) :=
  pe_imp (pe_lst hs) fun σ H Q ⟨m, S, ρ, R, En, q⟩ => by
    unfold ev at q
    refine ⟨m, S, ρ, R, En, q.bind.mono fun xs H1 ⟨m1, S1, us, e1, R1, r1, q1⟩ => ?_⟩
    refine po_alloc (us := us) ?_ R1 r1
    cases e : alloc S1 us with
    | none => rw [e] at q1; exact q1.elim
    | some p => rw [e] at q1; exact q1
theorem op_pst {m : List Addr} {H : Hp} {σ : L2.St} {o : P} {Q : VK} (h : Pst w (RV w.K) m H σ (R.op o) Q) : PO' w.K m H o Q := by
  cases o with
  | none => exact h
  | some p => exact h
theorem se_tup {k : Nat} (ok : CxOk w C tc X) (hs : PA X es (TAv w C es')) : PE X (.Tuple es k pos) (TEv w C (.tup es')) :=
  pe_imp (pe_tup hs) fun σ H Q ⟨m, S, ρ, R, En, q⟩ => by
    unfold ev at q
    refine ⟨m, S, ρ, R, En, q.bind.mono fun xs H1 ⟨m1, S1, us, e1, R1, r1, q1⟩ => ?_⟩
    split at q1
    · rename_i hl
      refine ⟨by rw [← r1.len]; exact hl, fun p hp => ?_⟩
      have e := ext_upd (m := m1) (o := .tup xs) hp
      exact q1 m1 _ _ e (R1.side hp) ⟨p, xs, rfl, upd_same, r1.ext e⟩
    · exact q1.elim
theorem se_bin {o : O2} {p : Operator} (ok : CxOk w C tc X) (hp : p = match o with | .add => .Add | .sub => .Sub | .mul => .Mult | .fdiv => .FloorDiv | .mod => .Mod | .pow => .Pow)
    (ha : PE X a (TEv w C a')) (hb : PE X b (TEv w C b')) : PE X (.BinOp a p b pos) (TEv w C (.bin o a' b')) :=
  pe_imp (pe_op (or_bin o p hp) ha hb) fun σ H Q ⟨m, S, ρ, R, En, q⟩ => by
    unfold ev at q
    refine ⟨m, S, ρ, R, En, q.bind.mono fun x H1 ⟨m1, S1, u, e1, R1, r1, q1⟩ => ?_⟩
    refine ⟨m1, S1, ρ, R1, En.ext e1, q1.bind.mono fun y H2 ⟨m2, S2, v, e2, R2, r2, q2⟩ => ?_⟩
    rw [ok.K]
    exact ⟨m2, S2, u, v, R2, r1.ext e2, r2, op_pst q2⟩
theorem se_neg (ok : CxOk w C tc X) (ha : PE X a (TEv w C a')) : PE X (.UnaryOp .USub a pos) (TEv w C (.neg a')) :=
  pe_imp (pe_un un_neg' ha) fun σ H Q ⟨m, S, ρ, R, En, q⟩ => by
    unfold ev at q
    refine ⟨m, S, ρ, R, En, q.bind.mono fun x H1 ⟨m1, S1, u, e1, R1, r1, q1⟩ => ?_⟩
    rw [ok.K]
    refine ⟨m1, S1, u, R1, r1, ?_⟩
    cases e : (intOf u) with
    | none => rw [e] at q1; exact q1.elim
    | some i => rw [e] at q1; exact q1
theorem bl_pst {m : List Addr} {H : Hp} {S : Store} {σ : L2.St} {o : Option Bool} {Q : VK} (R : Rel w.K m S H) (h : Pst w (RV w.K) m H σ (Mi.R.bl o S) Q) : OB w.K H o Q := by
  cases o with
  | none => exact h
  | some b => exact h m H _ .refl R rfl
theorem nomark' {o : CmpOp} {b : Expr} (h : (match b with | .Set .. => false | _ => true) = true) : behindInMarks o b = false := by
  cases b <;> first | rfl | (exact Bool.noConfusion h)
def cpOf : Cp → CmpOp
  | .lt => .Lt | .le => .LtE | .gt => .Gt | .ge => .GtE | .eq => .Eq | .ne => .NotEq | .isn => .Is | .notn => .IsNot | .isin => .In | .notin => .NotIn
theorem key_rv {K : PySem.W.Frag} {m : List Addr} {H : Hp} {k : Val} {y : V} {kk : DKey} (e : keyOf k = some kk) (rk : RV K m H k y) : y = kV kk := by
  cases k <;> first | (cases e; done) | (cases e; exact rk)
theorem keys_rv {K : PySem.W.Frag} {m : List Addr} {H : Hp} : ∀ {us : List Val} {vs : List V} {kk : List DKey}, allSome (us.map keyOf) = some kk → RVs K m H us vs → vs = kk.map kV
  | [], vs, kk, h, r => by cases h; exact r
  | u :: us, vs, kk, h, ⟨v, t, q, r1, r2⟩ => by
    subst q
    rw [List.map_cons] at h
    cases e1 : keyOf u with
    | none => rw [e1] at h; cases h
    | some k1 =>
      rw [e1] at h
      unfold allSome at h
      cases e2 : allSome (us.map keyOf) with
      | none => rw [e2] at h; cases h
      | some ks =>
        rw [e2] at h
        cases h
        rw [keys_rv e2 r2, key_rv e1 r1]
        rfl
theorem tkey_rv {K : PySem.W.Frag} {m : List Addr} {H : Hp} {k : Val} {y : V} {kk : List DKey} (e : keysOf k = some kk) (rk : RV K m H k y) : ∃ b, y = .ref b ∧ H b = some (.tup (kk.map kV)) := by
  cases k <;> first | (cases e; done) | skip
  obtain ⟨b, vs, rfl, hq, hr⟩ := rk
  exact ⟨b, rfl, by rw [← keys_rv e hr]; exact hq⟩
theorem dget_DG {K : PySem.W.Frag} {m : List Addr} {S : Store} {H : Hp} {d k : Val} {x y : V} {o : Option Val} (R : Rel K m S H) (rd : RV K m H d x) (rk : RV K m H k y) (h : dget S d k = some o) :
    ∃ p z, x = .ref p ∧ DGet H p y z ∧ ROV K m H o z := by
  cases d with
  | ref r =>
    obtain ⟨p, hp, rfl⟩ := rd
    unfold dget at h
    cases e : S[r]? with
    | none => simp only [e] at h; cases h
    | some b =>
      simp only [e] at h
      obtain ⟨_, h1, h2⟩ := R.ob _ _ _ e hp
      cases b with
      | lst _ => cases h
      | xd _ => cases h
      | dK kvs =>
        obtain ⟨ws, rfl, h2⟩ := h2
        have h : (keyOf k).map (look kvs) = some o := h
        cases ek : keyOf k with
        | none => rw [ek] at h; cases h
        | some kk =>
          rw [ek] at h
          cases h
          rw [key_rv ek rk]
          exact ⟨p, _, rfl, .k h1, h2.look kk⟩
      | dT kvs =>
        obtain ⟨ws, rfl, h2⟩ := h2
        have h : (keysOf k).map (look kvs) = some o := h
        cases ek : keysOf k with
        | none => rw [ek] at h; cases h
        | some kk =>
          rw [ek] at h
          cases h
          obtain ⟨b, rfl, hb⟩ := tkey_rv ek rk
          exact ⟨p, _, rfl, .t h1 hb, h2.look kk⟩
  | _ => cases h
theorem ROV.isSome {K : PySem.W.Frag} {m : List Addr} {H : Hp} {o : Option Val} {z : Option V} (h : ROV K m H o z) : z.isSome = o.isSome := by
  cases o with
  | none => rw [show z = none from h]; rfl
  | some u => obtain ⟨v, rfl, _⟩ := h; rfl
/-- two expressions, then what is made of their values -/
theorem two_pst {k : Val → Val → Store → R Val} {σ : L2.St} {H : Hp} {Q : VK} {r : V → V → Hp → VK → Prop} (h : ∃ m S ρ, Rel w.K m S H ∧ REnv w.K m H ρ σ ∧ Pst w (RV w.K) m H σ ((ev C a' ρ S).bind fun u S => (ev C b' ρ S).bind fun v S => k u v S) Q)
    (f : ∀ m S H x y u v, Rel w.K m S H → RV w.K m H u x → RV w.K m H v y → Pst w (RV w.K) m H σ (k u v S) Q → r x y H Q) : tOp r (TEv w C a') (TEv w C b') σ H Q := by
  obtain ⟨m, S, ρ, R, En, q⟩ := h
  refine ⟨m, S, ρ, R, En, q.bind.mono fun x H1 ⟨m1, S1, u, e1, R1, r1, q1⟩ => ?_⟩
  exact ⟨m1, S1, ρ, R1, En.ext e1, q1.bind.mono fun y H2 ⟨m2, S2, v, e2, R2, r2, q2⟩ => f m2 S2 H2 x y u v R2 (r1.ext e2) r2 q2⟩
/-- .. where which of two ways is taken hangs on the values -/
theorem two_or {k : Val → Val → Store → R Val} {σ : L2.St} {H : Hp} {Q : VK} {r r' : V → V → Hp → VK → Prop} {b : Val → Val → Store → Bool}
    (h : ∃ m S ρ, Rel w.K m S H ∧ REnv w.K m H ρ σ ∧ Pst w (RV w.K) m H σ ((ev C a' ρ S).bind fun u S => (ev C b' ρ S).bind fun v S => k u v S) Q)
    (f : ∀ m S H x y u v, b u v S = true → Rel w.K m S H → RV w.K m H u x → RV w.K m H v y → Pst w (RV w.K) m H σ (k u v S) Q → r x y H Q)
    (f' : ∀ m S H x y u v, b u v S = false → Rel w.K m S H → RV w.K m H u x → RV w.K m H v y → Pst w (RV w.K) m H σ (k u v S) Q → r' x y H Q) :
    tOp r (TEv w C a') (TEv w C b') σ H Q ∨ tOp r' (TEv w C a') (TEv w C b') σ H Q := by
  obtain ⟨m, S, ρ, R, En, q⟩ := h
  have go : ∀ {r : V → V → Hp → VK → Prop}, (∀ u S1 v S2, ev C a' ρ S = .ok u S1 → ev C b' ρ S1 = .ok v S2 → ∀ m H x y, Rel w.K m S2 H → RV w.K m H u x → RV w.K m H v y → Pst w (RV w.K) m H σ (k u v S2) Q → r x y H Q) →
      tOp r (TEv w C a') (TEv w C b') σ H Q := by
    intro r g
    refine ⟨m, S, ρ, R, En, ?_⟩
    cases e1 : ev C a' ρ S with
    | ok u S1 =>
      rw [e1] at q
      intro m1 H1 x x1 R1 r1
      refine ⟨m1, S1, ρ, R1, En.ext x1, ?_⟩
      have q : Pst w (RV w.K) m H σ ((ev C b' ρ S1).bind fun v S => k u v S) Q := q
      cases e2 : ev C b' ρ S1 with
      | ok v S2 =>
        rw [e2] at q
        intro m2 H2 y x2 R2 r2
        exact g u S1 v S2 e1 e2 m2 H2 _ _ R2 (r1.ext x2) r2 (Pst.ext (x1.trans x2) q)
      | ex c d S2 => rw [e2] at q; exact Pst.ext (r := Mi.R.ex c d S2) x1 q
      | bad => rw [e2] at q; exact q
    | ex c d S1 => rw [e1] at q; exact q
    | bad => rw [e1] at q; exact q
  cases e1 : ev C a' ρ S with
  | ok u S1 =>
    cases e2 : ev C b' ρ S1 with
    | ok v S2 =>
      cases eb : b u v S2 with
      | true =>
        refine .inl (go fun u' S1' v' S2' g1 g2 => ?_)
        rw [e1] at g1
        cases g1
        rw [e2] at g2
        cases g2
        exact fun m H x y => f m S2 H x y u v eb
      | false =>
        refine .inr (go fun u' S1' v' S2' g1 g2 => ?_)
        rw [e1] at g1
        cases g1
        rw [e2] at g2
        cases g2
        exact fun m H x y => f' m S2 H x y u v eb
    | ex c d S2 => exact .inl (go fun u' S1' v' S2' g1 g2 => by rw [e1] at g1; cases g1; rw [e2] at g2; cases g2)
    | bad => exact .inl (go fun u' S1' v' S2' g1 g2 => by rw [e1] at g1; cases g1; rw [e2] at g2; cases g2)
  | ex c d S1 => exact .inl (go fun u' S1' v' S2' g1 g2 => by rw [e1] at g1; cases g1)
  | bad => exact .inl (go fun u' S1' v' S2' g1 g2 => by rw [e1] at g1; cases g1)
theorem se_cmp {o : Cp} (ok : CxOk w C tc X) (hm : (match b with | .Set .. => false | _ => true) = true) (ha : PE X a (TEv w C a')) (hb : PE X b (TEv w C b')) : PE X (.Compare a [cpOf o] [b] pos) (TEv w C (.cmp o a' b')) := by
  have hu : X.A.units + 1 < cLine := Nat.lt_of_le_of_lt (Nat.add_le_add_left (by decide) _) ok.hu
  have un : ∀ {σ : L2.St} {H : Hp} {Q : VK}, TEv w C (.cmp o a' b') σ H Q → ∃ m S ρ, Rel w.K m S H ∧ REnv w.K m H ρ σ ∧ Pst w (RV w.K) m H σ ((ev C a' ρ S).bind fun u S => (ev C b' ρ S).bind fun v S => R.bl (cmpop o S u v) S) Q := fun ⟨m, S, ρ, R, En, q⟩ => by
    unfold ev at q
    exact ⟨m, S, ρ, R, En, q⟩
  by_cases h1 : o = .isin
  · subst h1
    have s1 := pe_cmpR (pos := pos) (or_in (X := X) ok.hu) ha hb (nomark' hm)
    have s2 := pe_cmp (pos := pos) (pc_din (X := X) hu ha hb) (nomark' hm)
    refine pe_imp (pe_or' s1 s2) fun σ H Q h => ?_
    refine two_or (b := fun u v S => (inopS S u v).isSome) (r' := fun y x H2 Q => ∃ a o, x = .ref a ∧ DGet H2 a y o ∧ Q (.bl o.isSome) H2) (un h) (fun m S H x y u v hb R r1 r2 q => ?_) (fun m S H x y u v hb R r1 r2 q => ?_)
    · rw [ok.K]
      refine ⟨m, S, u, v, R, r1, r2, ?_⟩
      have q := bl_pst R q
      unfold cmpop inop at q
      cases e : inopS S u v with
      | none => rw [e] at hb; cases hb
      | some k => simp only [e] at q; exact q
    · have q := bl_pst R q
      unfold cmpop inop at q
      cases e : inopS S u v with
      | some k => rw [e] at hb; cases hb
      | none =>
        simp only [e] at q
        cases e2 : dget S v u with
        | none => rw [e2] at q; exact q.elim
        | some o =>
          rw [e2] at q
          obtain ⟨p, z, rfl, h3, h4⟩ := dget_DG R r2 r1 e2
          exact ⟨p, z, rfl, h3, by rw [h4.isSome]; exact q⟩
  · by_cases h2 : o = .notin
    · subst h2
      have s1 := pe_cmpR (pos := pos) (or_notin (X := X) ok.hu) ha hb (nomark' hm)
      have s2 := pe_cmp (pos := pos) (pc_dnotin (X := X) hu ha hb) (nomark' hm)
      refine pe_imp (pe_or' s1 s2) fun σ H Q h => ?_
      refine two_or (b := fun u v S => (inopS S u v).isSome) (r' := fun y x H2 Q => ∃ a o, x = .ref a ∧ DGet H2 a y o ∧ Q (.bl (!o.isSome)) H2) (un h) (fun m S H x y u v hb R r1 r2 q => ?_) (fun m S H x y u v hb R r1 r2 q => ?_)
      · rw [ok.K]
        refine ⟨m, S, u, v, R, r1, r2, ?_⟩
        have q := bl_pst R q
        unfold cmpop inop at q
        cases e : inopS S u v with
        | none => rw [e] at hb; cases hb
        | some k => simp only [e] at q; exact q
      · have q := bl_pst R q
        unfold cmpop inop at q
        cases e : inopS S u v with
        | some k => rw [e] at hb; cases hb
        | none =>
          simp only [e] at q
          cases e2 : dget S v u with
          | none => rw [e2] at q; exact q.elim
          | some o =>
            rw [e2] at q
            obtain ⟨p, z, rfl, h3, h4⟩ := dget_DG R r2 r1 e2
            exact ⟨p, z, rfl, h3, by rw [h4.isSome]; exact q⟩
    · refine pe_imp (pe_cmpR (pos := pos) (or_cmp (X := X) ok.hu o (cpOf o) rfl h1 h2) ha hb (nomark' hm)) fun σ H Q h => ?_
      refine two_pst (un h) fun m S H x y u v R r1 r2 q => ?_
      rw [ok.K]
      exact ⟨m, S, u, v, R, r1, r2, bl_pst R q⟩
end
end Mi
namespace Mi
open PySem.Spec PyProof.Rows PySem L2
section
variable {X : Cx}
/-! xs[a::k] -/
def tStp (F : PySem.W.Frag) (te tl ts : TE) : TE := fun σ H Q => te σ H fun x H1 => tl σ H1 fun y H2 => ∃ i, y = .int i ∧ ts σ H2 fun z H3 => ∃ k, z = .int k ∧ 0 ≤ i ∧ 0 < k ∧ ∃ a xs, x = .ref a ∧ SqL F H3 a xs ∧ ∀ p, H3 p = none → Q (.ref p) (upd H3 p (.lst (stp xs i.toNat k.toNat)))
theorem vals_getElem? {xs : List V} {its : List Value} (r : Vals xs its) (i : Nat) : (xs[i]? = none ∧ its[i]? = none) ∨ ∃ x v, xs[i]? = some x ∧ its[i]? = some v ∧ RelV x v := by
  induction r generalizing i with
  | nil => (exact .inl ⟨rfl, rfl⟩)
  | cons h t ih =>
    cases i with
    | zero => exact .inr ⟨_, _, rfl, rfl, h⟩
    | succ i => simpa using ih i
theorem vals_pick {xs : List V} {its : List Value} (r : Vals xs its) : ∀ is : List Nat, Vals (is.filterMap (xs[·]?)) (is.filterMap (its[·]?))
  | [] => .nil
  | i :: is => by
    rcases vals_getElem? r i with ⟨h1, h2⟩ | ⟨x, v, h1, h2, h3⟩
    · rw [List.filterMap_cons_none h1, List.filterMap_cons_none h2]
      exact vals_pick r is
    · rw [List.filterMap_cons_some h1, List.filterMap_cons_some h2]
      exact .cons h3 (vals_pick r is)
theorem pe_stp {e lo st : Expr} {te tl ts : TE} {p3 pos : Pos} (he : PE X e te) (hl : PE X lo tl) (hs : PE X st ts) : PE X (.Subscript e (.Slice (some lo) none (some st) p3) pos) (tStp X.K te tl ts) := by
  refine ⟨fun pins s σ H Q I h => ?_⟩; refine Subscript_ (thn (he.run pins s σ H _ I h) fun v s1 ⟨x, H1, I1, r1, q1⟩ => ?_)
  refine wpAny_Slice (thn ((po_some hl).run pins s1 σ H1 (fun o H2 => match o with
    | some i => ts σ H2 fun z H3 => ∃ k, z = .int k ∧ 0 ≤ i ∧ 0 < k ∧ ∃ a xs, x = .ref a ∧ SqL X.K H3 a xs ∧ ∀ p, H3 p = none → Q (.ref p) (upd H3 p (.lst (stp xs i.toNat k.toNat)))
    | none => False) I1 q1) fun vl s2 ⟨l, H2, I2, pl, q2⟩ => ?_)
  cases l with
  | none => exact q2.elim
  | some i =>
    refine thn (po_none.run pins s2 σ H2 (fun o H3 => o = none ∧ H3 = H2) I2 ⟨rfl, rfl⟩) fun vu s3 ⟨u, H3, I3, pu, eu, e3⟩ => ?_; subst eu e3
    refine thn ((po_some hs).run pins s3 σ H3 (fun o H4 => match o with
      | some k => 0 ≤ i ∧ 0 < k ∧ ∃ a xs, x = .ref a ∧ SqL X.K H4 a xs ∧ ∀ p, H4 p = none → Q (.ref p) (upd H4 p (.lst (stp xs i.toNat k.toNat)))
      | none => False) I3 q2) fun vs s4 ⟨o, H4, I4, ps, q4⟩ => ?_
    cases o with
    | none => exact q4.elim
    | some k =>
      obtain ⟨i0, k0, a, xs, ex, hx, q⟩ := q4
      subst ex
      cases r1
      obtain ⟨i, rfl⟩ := Int.eq_ofNat_of_zero_le i0
      obtain ⟨k, rfl⟩ := Int.eq_ofNat_of_zero_le (Int.le_of_lt k0)
      have I5 : Inv X pins σ H4 { s4 with heap := s4.heap.push { cls := .type "slice", data := .fields #[vl, vu, vs] } } := I4.kept (t' := s4.toks) fun b ob q => Heap.get?_push_of_some _ q; obtain ⟨its, r, ht, hz⟩ := I5.list hx
      have hlen := r.length
      show wpAny (model X.prog X.w) X.A (subscriptTail e (.Slice (some lo) none (some st) p3) (.ref a) (.ref s4.heap.objs.size)) (EP X pins σ Q) X.xe { s4 with heap := s4.heap.push { cls := .type "slice", data := .fields #[vl, vu, vs] } }
      refine tail_any (ops := [.ref a, .ref s4.heap.objs.size]) ht.isList.typeIs (PySem.slot_list_getitem.lookup) ?_ (by with_unfolding_all rfl); refine wpAny_getItem_list_slice ht.isList (Heap.IsSliceOf.new _ vl vu vs) pl pu ps (by intro h; have := Option.some.inj h; omega) ?_ (by rw [List.size_toArray]; omega)
      rw [pick_stp _ i k (by omega)]
      have hn : (stp xs i k).length ≤ xs.length := stp_len (by omega)
      refine ⟨.ref _, _, I5.laid (t' := s4.toks) (o := .lst (stp xs i k)) (fun b ob q => Heap.get?_push_of_some _ q) (Nat.le_refl _) ?_, rfl, q _ (I5.hok.fresh (Nat.le_refl _))⟩
      refine ⟨by omega, _, 0, ?_, Heap.get?_push_size _ rfl⟩
      have : stp its i k = (stpIx xs.length i k).filterMap (its[·]?) := by unfold stp; rw [hlen]
      show Vals (stp xs i k) (stp its i k)
      rw [this]
      exact vals_pick r _
end
end Mi
namespace Mi
open PySem L2
section
variable {w : Wd} {C : Ctx} {tc : TC} {X : Cx} {a b c : Expr} {a' b' c' : E} {es : List Expr} {es' : List E} {pos : Pos}
theorem tru_rv {K : PySem.W.Frag} {m : List Addr} {S : Store} {H : Hp} {u : Val} {x : V} {k : Bool} (R : Rel K m S H) (ru : RV K m H u x) (h : tru S u = some k) : TruV K x H k := by
  cases u with
  | non => cases ru; cases h; exact rfl
  | bl b => cases ru; cases h; exact rfl
  | int i => cases ru; cases h; exact rfl
  | str y => cases h
  | ty n => cases h
  | ref r =>
    obtain ⟨p, hp, rfl⟩ := ru
    unfold tru at h
    cases e : S[r]? with
    | none => simp only [e] at h; cases h
    | some b =>
      simp only [e] at h
      obtain ⟨_, h1, h2⟩ := R.ob _ _ _ e hp
      cases b with
      | lst xs =>
        obtain ⟨ws, rfl, h2⟩ := h2
        cases h
        refine .inl ⟨ws, .of h1, ?_⟩
        have := h2.len
        cases xs <;> cases ws <;> first | rfl | cases this
      | dK xs =>
        obtain ⟨ws, rfl, h2⟩ := h2
        cases h
        refine .inr (.inr ⟨ws, h1, ?_⟩)
        have := h2.len
        cases xs <;> cases ws <;> first | rfl | cases this
      | dT _ => cases h
      | xd _ => cases h
  | tup xs =>
    obtain ⟨p, ws, rfl, h1, h2⟩ := ru
    cases h
    refine .inr (.inl ⟨ws, .of h1, ?_⟩)
    have := h2.len
    cases xs <;> cases ws <;> first | rfl | cases this
  | fro xs =>
    obtain ⟨p, ws, rfl, h1, h2⟩ := ru
    cases h
    refine .inl ⟨ws, h1.sq, ?_⟩
    have := h2.len
    cases xs <;> cases ws <;> first | rfl | cases this
theorem of_pst {α β γ : Type} {rel : List Addr → Hp → β → γ → Prop} {m : List Addr} {H : Hp} {S : Store} {σ : L2.St} {o : Option α} {k : α → Store → R β} {Q : γ → Hp → Prop} (h : Pst w rel m H σ ((R.of o S).bind k) Q) : ∃ x, o = some x ∧ Pst w rel m H σ (k x S) Q := by
  cases o with
  | none => exact h.elim
  | some x => exact ⟨x, rfl, h⟩
theorem se_and (ok : CxOk w C tc X) (ha : PE X a (TEv w C a')) (hb : PE X (.BoolOp .And (b :: es) pos) (TEv w C b')) : PE X (.BoolOp .And (a :: b :: es) pos) (TEv w C (.and a' b')) :=
  pe_imp (pe_andT ha hb) fun σ H Q ⟨m, S, ρ, R, En, q⟩ => by
    unfold ev at q
    refine ⟨m, S, ρ, R, En, q.bind.mono fun x H1 ⟨m1, S1, u, e1, R1, r1, q1⟩ => ?_⟩
    obtain ⟨k, ek, q1⟩ := of_pst q1
    rw [ok.K]
    refine ⟨k, tru_rv R1 r1 ek, ?_⟩
    cases k with
    | true => exact ⟨m1, S1, ρ, R1, En.ext e1, q1⟩
    | false => exact q1 m1 H1 x .refl R1 r1
theorem se_or (ok : CxOk w C tc X) (ha : PE X a (TEv w C a')) (hb : PE X (.BoolOp .Or (b :: es) pos) (TEv w C b')) : PE X (.BoolOp .Or (a :: b :: es) pos) (TEv w C (.or a' b')) :=
  pe_imp (pe_orT ha hb) fun σ H Q ⟨m, S, ρ, R, En, q⟩ => by
    unfold ev at q
    refine ⟨m, S, ρ, R, En, q.bind.mono fun x H1 ⟨m1, S1, u, e1, R1, r1, q1⟩ => ?_⟩
    obtain ⟨k, ek, q1⟩ := of_pst q1
    rw [ok.K]
    refine ⟨k, tru_rv R1 r1 ek, ?_⟩
    cases k with
    | false => exact ⟨m1, S1, ρ, R1, En.ext e1, q1⟩
    | true => exact q1 m1 H1 x .refl R1 r1
theorem se_not (ok : CxOk w C tc X) (ha : PE X a (TEv w C a')) : PE X (.UnaryOp .Not a pos) (TEv w C (.not a')) :=
  pe_imp (pe_notT ha) fun σ H Q ⟨m, S, ρ, R, En, q⟩ => by
    unfold ev at q
    refine ⟨m, S, ρ, R, En, q.bind.mono fun x H1 ⟨m1, S1, u, e1, R1, r1, q1⟩ => ?_⟩
    have q1 := bl_pst R1 q1
    cases e : tru S1 u with
    | none => rw [e] at q1; exact q1.elim
    | some k =>
      rw [e] at q1
      rw [ok.K]
      exact ⟨k, tru_rv R1 r1 e, q1⟩
theorem se_ite (ok : CxOk w C tc X) (hc : PT X c (TTv w C [c'])) (ha : PE X a (TEv w C a')) (hb : PE X b (TEv w C b')) : PE X (.IfExp c a b pos) (TEv w C (.ite c' a' b')) :=
  pe_imp (pe_ifExp hc ha hb) fun σ H Q ⟨m, S, ρ, R, En, q⟩ => by
    unfold ev at q
    refine ⟨m, S, ρ, R, En, ?_⟩
    have q : Pst w (RV w.K) m H σ ((evT C [c'] ρ S).bind fun k S => if k then ev C a' ρ S else ev C b' ρ S) Q := by
      unfold evT
      cases h : ev C c' ρ S with
      | ok u S1 => rw [h] at q; exact q
      | ex _ _ _ => rw [h] at q; exact q
      | bad => rw [h] at q; exact q
    refine q.bind.mono fun k H1 ⟨m1, S1, k', e1, R1, r1, q1⟩ => ?_
    cases r1
    cases k with
    | true => exact ⟨m1, S1, ρ, R1, En.ext e1, q1⟩
    | false => exact ⟨m1, S1, ρ, R1, En.ext e1, q1⟩
theorem se_sub (ok : CxOk w C tc X) (hs : (match b with | .Slice .. => false | _ => true) = true) (ha : PE X a (TEv w C a')) (hb : PE X b (TEv w C b')) : PE X (.Subscript a b pos) (TEv w C (.sub a' b')) := by
  have hu : X.A.units + 1 < cLine := Nat.lt_of_le_of_lt (Nat.add_le_add_left (by decide) _) ok.hu
  have pl : ∀ o i, subscripted b false o i = operate [o, i] (getItem o i) := by
    cases b <;> first | (intro _ _; rfl) | (exact Bool.noConfusion hs)
  refine pe_imp (pe_or' (pe_ix (ix_item (X := X)) ha hb pl) (pe_dget hu ha hb pl)) fun σ H Q h => ?_
  have un : ∃ m S ρ, Rel w.K m S H ∧ REnv w.K m H ρ σ ∧ Pst w (RV w.K) m H σ ((ev C a' ρ S).bind fun u S => (ev C b' ρ S).bind fun v S => R.of (item S u v) S) Q := by
    obtain ⟨m, S, ρ, R, En, q⟩ := h
    unfold ev at q
    exact ⟨m, S, ρ, R, En, q⟩
  refine two_or (b := fun u v S => (itemS S u v).isSome) (r' := fun x y H2 Q => ∃ a v, x = .ref a ∧ DGet H2 a y (some v) ∧ Q v H2) un (fun m S H x y u v hb R r1 r2 q => ?_) (fun m S H x y u v hb R r1 r2 q => ?_)
  · rw [ok.K]
    refine ⟨m, S, u, v, R, r1, r2, ?_⟩
    unfold item at q
    cases e : itemS S u v with
    | none => rw [e] at hb; cases hb
    | some k => simp only [e] at q; exact fun z rz => q m H z .refl R rz
  · unfold item at q
    cases e : itemS S u v with
    | some k => rw [e] at hb; cases hb
    | none =>
      simp only [e] at q
      cases e2 : dget S u v with
      | none => rw [e2] at q; exact q.elim
      | some o =>
        cases o with
        | none => rw [e2] at q; exact q.elim
        | some k =>
          rw [e2] at q
          obtain ⟨p, z, rfl, h3, z', rfl, h4⟩ := dget_DG R r1 r2 e2
          exact ⟨p, z', rfl, h3, q m H z' .refl R h4⟩
theorem se_slB {p2 : Pos} (ok : CxOk w C tc X) (ha : PE X a (TEv w C a')) (hb : PE X b (TEv w C b')) (hc : PE X c (TEv w C c')) : PE X (.Subscript a (.Slice (some b) (some c) none p2) pos) (TEv w C (.slB a' b' c')) :=
  pe_imp (pe_slice (sl_slice (X := X)) ha (po_some hb) (po_some hc)) fun σ H Q ⟨m, S, ρ, R, En, q⟩ => by
    unfold ev at q
    refine ⟨m, S, ρ, R, En, q.bind.mono fun x H1 ⟨m1, S1, u, e1, R1, r1, q1⟩ => ?_⟩
    refine ⟨m1, S1, ρ, R1, En.ext e1, q1.bind.mono fun y H2 ⟨m2, S2, i, e2, R2, r2, q2⟩ => ?_⟩
    cases i with
    | int n =>
      obtain rfl : y = .int n := r2
      refine ⟨n, rfl, m2, S2, ρ, R2, (En.ext e1).ext e2, q2.bind.mono fun z H3 ⟨m3, S3, j, e3, R3, r3, q3⟩ => ?_⟩
      cases j with
      | int k =>
        obtain rfl : z = .int k := r3
        refine ⟨k, rfl, ?_⟩
        rw [ok.K]
        exact ⟨m3, S3, u, R3, (r1.ext e2).ext e3, op_pst q3⟩
      | _ => exact q3.elim
    | _ => exact q2.elim
theorem se_slL {p2 : Pos} (ok : CxOk w C tc X) (ha : PE X a (TEv w C a')) (hb : PE X b (TEv w C b')) : PE X (.Subscript a (.Slice (some b) none none p2) pos) (TEv w C (.slL a' b')) :=
  pe_imp (pe_slice (sl_slice (X := X)) ha (po_some hb) po_none) fun σ H Q ⟨m, S, ρ, R, En, q⟩ => by
    unfold ev at q
    refine ⟨m, S, ρ, R, En, q.bind.mono fun x H1 ⟨m1, S1, u, e1, R1, r1, q1⟩ => ?_⟩
    refine ⟨m1, S1, ρ, R1, En.ext e1, q1.bind.mono fun y H2 ⟨m2, S2, i, e2, R2, r2, q2⟩ => ?_⟩
    cases i with
    | int n =>
      obtain rfl : y = .int n := r2
      refine ⟨n, rfl, ?_⟩
      rw [ok.K]
      exact ⟨m2, S2, u, R2, r1.ext e2, op_pst q2⟩
    | _ => exact q2.elim
theorem se_slS {p2 : Pos} (ok : CxOk w C tc X) (ha : PE X a (TEv w C a')) (hb : PE X b (TEv w C b')) (hc : PE X c (TEv w C c')) : PE X (.Subscript a (.Slice (some b) none (some c) p2) pos) (TEv w C (.slS a' b' c')) :=
  pe_imp (pe_stp ha hb hc) fun σ H Q ⟨m, S, ρ, R, En, q⟩ => by
    unfold ev at q
    refine ⟨m, S, ρ, R, En, q.bind.mono fun x H1 ⟨m1, S1, u, e1, R1, r1, q1⟩ => ?_⟩
    refine ⟨m1, S1, ρ, R1, En.ext e1, q1.bind.mono fun y H2 ⟨m2, S2, i, e2, R2, r2, q2⟩ => ?_⟩
    cases i with
    | int i =>
      obtain rfl : y = .int i := r2
      refine ⟨i, rfl, ?_⟩
      refine ⟨m2, S2, ρ, R2, (En.ext e1).ext e2, q2.bind.mono fun z H3 ⟨m3, S3, j, e3, R3, r3, q3⟩ => ?_⟩
      cases j with
      | int j =>
        obtain rfl : z = .int j := r3
        simp only at q3
        split at q3
        · rename_i hh
          refine ⟨j, rfl, hh.1, hh.2, ?_⟩
          rw [ok.K]
          have q4 := op_pst q3
          unfold sliceS at q4
          split at q4
          · rename_i xs hx
            obtain ⟨p, vs, rfl, h1, h2⟩ := R3.lst hx ((r1.ext e2).ext e3)
            exact ⟨p, vs, rfl, h1, (po_alloc q4 R3 (stp_rv _ _ h2)).2⟩
          · exact q4.elim
        · exact q3.elim
      | _ => exact q3.elim
    | _ => exact q2.elim
theorem se_slH {p2 : Pos} (ok : CxOk w C tc X) (ha : PE X a (TEv w C a')) (hb : PE X b (TEv w C b')) : PE X (.Subscript a (.Slice none (some b) none p2) pos) (TEv w C (.slH a' b')) :=
  pe_imp (pe_slice (sl_slice (X := X)) ha po_none (po_some hb)) fun σ H Q ⟨m, S, ρ, R, En, q⟩ => by
    unfold ev at q
    refine ⟨m, S, ρ, R, En, q.bind.mono fun x H1 ⟨m1, S1, u, e1, R1, r1, q1⟩ => ?_⟩
    refine ⟨m1, S1, ρ, R1, En.ext e1, q1.bind.mono fun y H2 ⟨m2, S2, i, e2, R2, r2, q2⟩ => ?_⟩
    cases i with
    | int n =>
      obtain rfl : y = .int n := r2
      refine ⟨n, rfl, ?_⟩
      rw [ok.K]
      exact ⟨m2, S2, u, R2, r1.ext e2, op_pst q2⟩
    | _ => exact q2.elim
theorem se_slA {p2 : Pos} (ok : CxOk w C tc X) (ha : PE X a (TEv w C a')) : PE X (.Subscript a (.Slice none none none p2) pos) (TEv w C (.slA a')) :=
  pe_imp (pe_slice (sl_slice (X := X)) ha po_none po_none) fun σ H Q ⟨m, S, ρ, R, En, q⟩ => by
    unfold ev at q
    refine ⟨m, S, ρ, R, En, q.bind.mono fun x H1 ⟨m1, S1, u, e1, R1, r1, q1⟩ => ?_⟩
    show ∃ m S u, Rel X.K m S H1 ∧ RV X.K m H1 u x ∧ PO' X.K m H1 (slice S u none none) Q
    rw [ok.K]
    exact ⟨m1, S1, u, R1, r1, op_pst q1⟩
theorem se_slR {k : Nat} {p1 p2 p3 : Pos} (ok : CxOk w C tc X) (ha : PE X a (TEv w C a')) : PE X (.Subscript a (.Slice none none (some (.UnaryOp .USub (.Constant (.int 1) k p1) p2)) p3) pos) (TEv w C (.slR a')) :=
  pe_imp (pe_revL ha) fun σ H Q ⟨m, S, ρ, R, En, q⟩ => by
    unfold ev at q
    refine ⟨m, S, ρ, R, En, q.bind.mono fun x H1 ⟨m1, S1, u, e1, R1, r1, q1⟩ => ?_⟩
    cases e : lstOf S1 u with
    | none => simp only [e] at q1; exact q1.elim
    | some xs =>
      simp only [e] at q1
      obtain ⟨p, vs, rfl, h1, h2⟩ := R1.lst e r1
      rw [ok.K]
      exact ⟨p, vs, rfl, h1, (po_alloc (op_pst q1) R1 h2.reverse).2⟩
end
end Mi
namespace Mi
open PySem L2
section
variable {w : Wd} {C : Ctx} {tc : TC} {X : Cx} {a b c : Expr} {a' b' c' : E} {es : List Expr} {es' : List E} {pos : Pos}
/-- a text's function is called -/
theorem se_call {x : Str} {p : Pos} {f n : Nat} {g : Sem} (ok : CxOk w C tc X) (hf : C f = some (n, g)) (h : FnHas X w.cl x n g) (hg : Gl X x) (hdb : (x == ("__debug__" : Str)) = false)
    (hn : nst a = true) (hns : es.all nst = true) (ha : PA X (a :: es) (TAv w C es')) : PE X (.Call (.Name x p) (a :: es) [] pos) (TEv w C (.call f es')) := by
  obtain ⟨k, fa, fd, ps, F, hr, hm, hk, hb⟩ := h.has
  refine pe_imp (pe_callS (E := WE w.We) F hr hg hm hk hb (fun σ => passAt ok.tk σ) ha hdb (starEach_cons hn) (star_any hns)) fun σ H Q ⟨m, S, ρ, R, En, q⟩ => ?_
  unfold ev at q
  simp only [hf] at q
  refine ⟨m, S, ρ, R, En, q.bind.mono fun xs H1 ⟨m1, S1, us, e1, R1, r1, q1⟩ => ?_⟩
  split at q1
  · rename_i hl
    rw [ok.K]
    refine ⟨m1, S1, us, R1, r1, hl, ?_⟩
    cases e : g us S1 with
    | ok v S2 => rw [e] at q1; exact q1
    | ex c d S2 => rw [e] at q1; exact q1
    | bad => rw [e] at q1; exact q1
  · exact q1.elim
theorem prF_cases (p : Pr) : (∃ i, prF p = .builtin i) ∨ ∃ T, prF p = .type T := by
  cases p <;> first | exact .inl ⟨_, rfl⟩ | exact .inr ⟨_, rfl⟩
theorem se_pr {x : Str} {p : Pos} {r : Pr} (ok : CxOk w C tc X) (hg : Gl X x) (hm : X.mg x = none) (hv : bootBuiltins x = some (prF r)) (h1 : x ≠ "__name__") (hdb : (x == ("__debug__" : Str)) = false)
    (hn : nst a = true) (hns : es.all nst = true) (ha : PA X (a :: es) (TAv w C es')) : PE X (.Call (.Name x p) (a :: es) [] pos) (TEv w C (.pr r es')) := by
  have key : PE X (.Call (.Name x p) (a :: es) [] pos) (tCB (fun xs H Q => ∃ m S us, Rel X.K m S H ∧ RVs X.K m H us xs ∧ PO' X.K m H (prim r us S) Q) (TAv w C es')) := by
    have c := cr_prim (X := X) ok.calm r
    rcases prF_cases r with ⟨i, e⟩ | ⟨T, e⟩
    · rw [e] at c hv
      exact pe_callB c hg hm hv ha h1 hdb (starEach_cons hn) (star_any hns)
    · rw [e] at c hv
      exact pe_callTy c hg hm hv ha h1 hdb (starEach_cons hn) (star_any hns)
  refine pe_imp key fun σ H Q ⟨m, S, ρ, R, En, q⟩ => ?_
  unfold ev at q
  refine ⟨m, S, ρ, R, En, q.bind.mono fun xs H1 ⟨m1, S1, us, e1, R1, r1, q1⟩ => ?_⟩
  rw [ok.K]
  exact ⟨m1, S1, us, R1, r1, op_pst q1⟩
theorem ty_rv {K : PySem.W.Frag} {m : List Addr} {S : Store} {H : Hp} {u : Val} {x : V} {t : String} (R : Rel K m S H) (ru : RV K m H u x) (h : tyIn S u = some t) : TyX K H x (.type t) := by
  cases u with
  | non => cases ru; cases h; exact .base .non
  | bl b => cases ru; cases h; exact .base (.bl b)
  | int i => cases ru; cases h; exact .base (.int i)
  | str y => cases ru; cases h; exact .base (.str y)
  | ty n => cases h
  | ref r =>
    obtain ⟨p, hp, rfl⟩ := ru
    unfold tyIn at h
    cases e : S[r]? with
    | none => simp only [e] at h; cases h
    | some b =>
      simp only [e] at h
      obtain ⟨_, h1, h2⟩ := R.ob _ _ _ e hp
      cases b with
      | lst xs =>
        obtain ⟨ws, rfl, h2⟩ := h2
        cases h
        exact .base (.lst h1)
      | dK xs =>
        obtain ⟨ws, rfl, h2⟩ := h2
        cases h
        exact .base (.dK h1)
      | dT _ => cases h
      | xd _ => cases h
  | tup xs =>
    obtain ⟨p, ws, rfl, h1, h2⟩ := ru
    cases h
    exact .base (.tup h1)
  | fro xs => cases h
theorem se_isi {x y : Str} {p p2 : Pos} {T : String} (ok : CxOk w C tc X) (hg : Gl X x) (hm : X.mg x = none) (hv : bootBuiltins x = some (.builtin "isinstance")) (h1 : x ≠ "__name__") (hdb : (x == ("__debug__" : Str)) = false)
    (hgy : Gl X y) (hmy : X.mg y = none) (hvy : bootBuiltins y = some (.type T)) (h1y : y ≠ "__name__") (hdby : (y == ("__debug__" : Str)) = false)
    (hn : nst a = true) (ha : PE X a (TEv w C a')) : PE X (.Call (.Name x p) [a, .Name y p2] [] pos) (TEv w C (.isi a' T)) := by
  have hT : PE X (.Name y p2) (tC (.ty T)) := pe_bltn hgy hmy hvy rfl h1y hdby
  have hA : PA X [a, .Name y p2] (tCons (TEv w C a') (tCons (tC (.ty T)) tNil)) := pa_cons ha (pa_cons hT pa_nil (starEach_cons rfl)) (starEach_cons hn)
  refine pe_imp (pe_callB call_isi hg hm hv hA h1 hdb (starEach_cons hn) (star_any rfl)) fun σ H Q ⟨m, S, ρ, R, En, q⟩ => ?_
  unfold ev at q
  refine ⟨m, S, ρ, R, En, q.bind.mono fun x H1 ⟨m1, S1, u, e1, R1, r1, q1⟩ => ?_⟩
  have q1 := bl_pst R1 q1
  cases e : tyIn S1 u with
  | none => rw [e] at q1; exact q1.elim
  | some t =>
    rw [e] at q1
    cases e2 : kitB t T with
    | none => rw [Option.bind_some, e2] at q1; exact q1.elim
    | some k =>
      rw [Option.bind_some, e2] at q1
      refine ⟨x, .ty T, _, _, k, rfl, .ty T, ?_, kit_ty e2, q1⟩
      rw [ok.K]
      exact ty_rv R1 r1 e
theorem attr_base {e : Expr} {f : Str} {env : PySem.Env} {whole : PySem.Sem Value} (h : (match e with | .Call (.Name id _) [] [] _ => id != "super" | _ => true) = true) : attributeBase e f env whole = whole := by
  unfold attributeBase
  split
  · rename_i id _ _
    simp only at h
    rw [if_pos (by simp only [h, Bool.true_or])]
  · rfl
def meT : Me → String
  | .join => "str" | .split => "str" | .get1 => "dict" | .get2 => "dict" | _ => "list"
theorem recv_ty {K : PySem.W.Frag} {m : List Addr} {S : Store} {H : Hp} {u : Val} {x : V} {r : Me} (R : Rel K m S H) (ru : RV K m H u x) (h : recv r S u = true) : tyV K (meT r) x H := by
  have lst : (lstOf S u).isSome = true → tyV K "list" x H := fun h => by
    cases e : lstOf S u with
    | none => (rw [e] at h; cases h)
    | some xs =>
      obtain ⟨p, vs, rfl, h1, _⟩ := R.lst e ru
      exact .inl ⟨rfl, vs, h1⟩
  cases r <;> first | (exact lst h) | (exact Bool.noConfusion h) | (cases u <;> first | (exact Bool.noConfusion h) | (cases ru; exact rfl))
/-- methods with arguments, without -/
theorem se_me {nm : Str} {r : Me} {apos : Pos} (ok : CxOk w C tc X) (pa : PySem.PlainAttrs (meT r)) (slot : PySem.Slot (meT r) nm (meId r)) (hty : PySem.typeOf (.builtin (meId r)) = pure (.type "method_descriptor"))
    (hb : ∀ env whole, attributeBase a nm env whole = whole) (hl : (apos.endLine == pos.line) = true) (hfw : es.length < 28) (hn : nst b = true) (hns : es.all nst = true)
    (ha : PE X a (TEv w C a')) (hA : PA X (b :: es) (TAv w C es')) : PE X (.Call (.Attribute a nm apos) (b :: es) [] pos) (TEv w C (.me r a' es')) := by
  refine pe_imp (pe_bm pa slot hty (mt_meth (X := X) r) ha hA (hb _ _) ?_ hl (starEach_cons hn) (star_any hns)) fun σ H Q ⟨m, S, ρ, R, En, q⟩ => ?_
  · rw [star_few (by rw [List.all_cons, hn, hns]; rfl)]
    simp only [List.length_cons, List.length_nil, Bool.true_and, Bool.and_eq_true, decide_eq_true_eq]
    refine ⟨rfl, ?_⟩
    show es.length + 1 + 0 + 0 < 30
    omega
  · unfold ev at q
    refine ⟨m, S, ρ, R, En, q.bind.mono fun x H1 ⟨m1, S1, u, e1, R1, r1, q1⟩ => ?_⟩
    split at q1
    · rename_i hr
      rw [ok.K]
      refine ⟨recv_ty R1 r1 hr, m1, S1, ρ, R1, En.ext e1, q1.bind.mono fun xs H2 ⟨m2, S2, us, e2, R2, r2, q2⟩ => ?_⟩
      exact ⟨m2, S2, u, us, R2, r1.ext e2, r2, op_pst q2⟩
    · exact q1.elim
theorem se_me0 {nm : Str} {r : Me} {apos : Pos} (ok : CxOk w C tc X) (pa : PySem.PlainAttrs (meT r)) (slot : PySem.Slot (meT r) nm (meId r)) (hty : PySem.typeOf (.builtin (meId r)) = pure (.type "method_descriptor"))
    (hb : ∀ env whole, attributeBase a nm env whole = whole) (hl : (apos.endLine == pos.line) = true) (ha : PE X a (TEv w C a')) : PE X (.Call (.Attribute a nm apos) [] [] pos) (TEv w C (.me r a' [])) := by
  refine pe_imp (pe_bm0 pa slot hty (mt_meth (X := X) r) ha (hb _ _) hl) fun σ H Q ⟨m, S, ρ, R, En, q⟩ => ?_
  unfold ev at q
  refine ⟨m, S, ρ, R, En, q.bind.mono fun x H1 ⟨m1, S1, u, e1, R1, r1, q1⟩ => ?_⟩
  split at q1
  · rename_i hr
    rw [ok.K]
    refine ⟨recv_ty R1 r1 hr, m1, S1, u, [], R1, r1, rfl, ?_⟩
    unfold evs at q1
    exact op_pst q1
  · exact q1.elim
theorem rng_rv {K : PySem.W.Frag} {m : List Addr} {H : Hp} (lo : Int) (n : Nat) : RVs K m H (rng lo n) ((List.range n).map fun (i : Nat) => V.int (lo + i)) := by
  unfold rng
  generalize List.range n = l
  induction l with
  | nil => rfl
  | cons x l ih => exact ⟨_, _, rfl, rfl, ih⟩
theorem se_lrg1 {x y : Str} {p p2 p3 : Pos} (ok : CxOk w C tc X) (hg : Gl X "list") (hgr : Gl X "range") (hn : nst a = true) (ha : PE X a (TEv w C a')) :
    PE X (.Call (.Name "list" p) [.Call (.Name "range" p2) [a] [] p3] [] pos) (TEv w C (.lrg1 a')) := by
  refine pe_imp (pe_listRg ok.calm hg (ok.blt _ (by decide)) (prg_1 hgr (ok.blt _ (by decide)) ha (starEach_cons hn)) (starEach_cons rfl)) fun σ H Q ⟨m, S, ρ, R, En, q⟩ => ?_
  unfold ev at q
  refine ⟨m, S, ρ, R, En, q.bind.mono fun x H1 ⟨m1, S1, u, e1, R1, r1, q1⟩ => ?_⟩
  cases u with
  | int n =>
    obtain rfl : x = .int n := r1
    refine ⟨n, rfl, ?_⟩
    have q1 : Pst w (RV w.K) m1 H1 σ (if n ≤ 1000000 ∧ -(2 ^ 62) ≤ n then Mi.R.op (alloc S1 (rng 0 n.toNat)) else Mi.R.bad) Q := q1
    by_cases hn : n ≤ 1000000 ∧ -(2 ^ 62) ≤ n
    · rw [if_pos hn] at q1
      refine ⟨⟨by omega, by omega, by omega, by omega, by omega⟩, ?_⟩
      have e : rgV 0 n = (List.range n.toNat).map fun (i : Nat) => V.int (0 + i) := by
        unfold rgV
        rw [Int.sub_zero]
      rw [e]
      exact (po_alloc (op_pst q1) R1 (rng_rv 0 n.toNat)).2
    · rw [if_neg hn] at q1
      exact q1.elim
  | _ => exact q1.elim
theorem se_lrg2 {p p2 p3 : Pos} (ok : CxOk w C tc X) (hg : Gl X "list") (hgr : Gl X "range") (hn : nst a = true) (hnb : nst b = true) (ha : PE X a (TEv w C a')) (hb : PE X b (TEv w C b')) :
    PE X (.Call (.Name "list" p) [.Call (.Name "range" p2) [a, b] [] p3] [] pos) (TEv w C (.lrg2 a' b')) := by
  refine pe_imp (pe_listRg ok.calm hg (ok.blt _ (by decide)) (prg_2 hgr (ok.blt _ (by decide)) ha hb (starEach_cons hn) (starEach_cons hnb) (star_any (by rw [List.all_cons, hnb]; rfl))) (starEach_cons rfl)) fun σ H Q ⟨m, S, ρ, R, En, q⟩ => ?_
  unfold ev at q
  refine ⟨m, S, ρ, R, En, q.bind.mono fun x H1 ⟨m1, S1, u, e1, R1, r1, q1⟩ => ?_⟩
  refine ⟨m1, S1, ρ, R1, En.ext e1, q1.bind.mono fun y H2 ⟨m2, S2, v, e2, R2, r2, q2⟩ => ?_⟩
  cases u with
  | int i =>
    cases v with
    | int j =>
      obtain rfl : x = .int i := r1
      obtain rfl : y = .int j := r2
      refine ⟨i, j, rfl, rfl, ?_⟩
      have q2 : Pst w (RV w.K) m2 H2 σ (if (small62 i && small62 j && decide (j - i ≤ 1000000)) = true then Mi.R.op (alloc S2 (rng i (j - i).toNat)) else Mi.R.bad) Q := q2
      by_cases hs : (small62 i && small62 j && decide (j - i ≤ 1000000)) = true
      · rw [if_pos hs] at q2
        simp only [small62_def, Bool.and_eq_true, decide_eq_true_eq] at hs
        refine ⟨⟨hs.1.1.1, hs.1.1.2, hs.1.2.1, hs.1.2.2, by omega⟩, ?_⟩
        exact (po_alloc (op_pst q2) R2 (rng_rv i (j - i).toNat)).2
      · rw [if_neg hs] at q2
        exact q2.elim
    | _ => exact q2.elim
  | _ => exact q2.elim
theorem se_dK (ok : CxOk w C tc X) : PE X (.Dict [] [] pos) (TEv w C .dK) := pe_imp pe_dnewK fun σ H Q ⟨m, S, ρ, R, En, q⟩ p hp => by
  unfold ev at q
  exact q (m ++ [p]) _ _ (ext_new hp) (R.new hp (b := .dK []) ⟨[], rfl, rfl⟩) ⟨p, R.last, rfl⟩
theorem se_dT (ok : CxOk w C tc X) : PE X (.Dict [] [] pos) (TEv w C .dT) := pe_imp pe_dnewT fun σ H Q ⟨m, S, ρ, R, En, q⟩ p hp => by
  unfold ev at q
  exact q (m ++ [p]) _ _ (ext_new hp) (R.new hp (b := .dT []) ⟨[], rfl, rfl⟩) ⟨p, R.last, rfl⟩
end
end Mi
namespace Mi
open PySem L2
/-! ### targets -/
mutual
def slots : Tg → List Nat
  | .name i => [i]
  | .tup ts => slotss ts
def slotss : List Tg → List Nat
  | [] => []
  | t :: ts => slots t ++ slotss ts
end
theorem wipe_at (σ : L2.St) (j : Nat) : ∀ vs : List Nat, (wipe σ vs)[j]? = if j ∈ vs then (σ[j]?).map fun _ => none else σ[j]?
  | [] => by simp [wipe]
  | v :: vs => by
    unfold wipe
    have ih := wipe_at σ j vs
    have hl := wipe_length σ vs
    by_cases h : v = j
    · subst h
      rw [if_pos (by simp)]
      by_cases hv : v < (wipe σ vs).length -- (here)
      · rw [List.getElem?_set_self hv, List.getElem?_eq_getElem (by rw [← hl]; exact hv)]; rfl
      · rw [List.getElem?_eq_none (by simpa using hv), List.getElem?_eq_none (by omega)]; rfl
    · rw [List.getElem?_set_ne h, ih]
      by_cases h2 : j ∈ vs
      · rw [if_pos h2, if_pos (by simp [h2])]
      · rw [if_neg h2, if_neg (by simp [h2]; exact fun e => h e.symm)]
theorem wipeE_at (σ : Env) (j : Nat) : ∀ vs : List Nat, (wipeE σ vs)[j]? = if j ∈ vs then (σ[j]?).map fun _ => none else σ[j]?
  | [] => by simp [wipeE]
  | v :: vs => by
    unfold wipeE
    have ih := wipeE_at σ j vs
    have hl : (wipeE σ vs).length = σ.length := by
      clear ih
      induction vs with
      | nil => rfl
      | cons a r ih => unfold wipeE; rw [List.length_set, ih]
    by_cases h : v = j
    · subst h
      rw [if_pos (by simp)]
      by_cases hv : v < (wipeE σ vs).length
      · rw [List.getElem?_set_self hv, List.getElem?_eq_getElem (by rw [← hl]; exact hv)]; rfl
      · rw [List.getElem?_eq_none (by simpa using hv), List.getElem?_eq_none (by omega)]; rfl
    · rw [List.getElem?_set_ne h, ih]
      by_cases h2 : j ∈ vs
      · rw [if_pos h2, if_pos (by simp [h2])]
      · rw [if_neg h2, if_neg (by simp [h2]; exact fun e => h e.symm)]
theorem wipeE_length (σ : Env) : ∀ vs : List Nat, (wipeE σ vs).length = σ.length
  | [] => rfl
  | v :: vs => by unfold wipeE; rw [List.length_set, wipeE_length σ vs]
theorem wipe_set {σ : L2.St} {i : Nat} {x : Option V} {vs : List Nat} (h : i ∈ vs) : wipe (σ.set i x) vs = wipe σ vs := by
  apply List.ext_getElem?
  intro j
  rw [wipe_at, wipe_at]
  by_cases hj : j ∈ vs
  · rw [if_pos hj, if_pos hj]
    by_cases e : i = j
    · subst e
      by_cases hv : i < σ.length
      · rw [List.getElem?_set_self hv, List.getElem?_eq_getElem hv]; rfl
      · rw [List.getElem?_eq_none (by simpa using hv), List.getElem?_eq_none (by omega)]
    · rw [List.getElem?_set_ne e]
  · rw [if_neg hj, if_neg hj, List.getElem?_set_ne (fun e : i = j => hj (by rw [← e]; exact h))]
theorem REnv.wipe {K : PySem.W.Frag} {m : List Addr} {H : Hp} {ρ : Env} {σ : L2.St} (h : REnv K m H ρ σ) (vs : List Nat) : REnv K m H (wipeE ρ vs) (wipe σ vs) := by
  refine ⟨by rw [wipeE_length, wipe_length]; exact h.1, fun i v hv => ?_⟩
  rw [wipeE_at] at hv
  rw [wipe_at]
  by_cases hi : i ∈ vs
  · rw [if_pos hi] at hv
    cases e : ρ[i]? with
    | none => rw [e] at hv; cases hv
    | some o => rw [e] at hv; cases hv
  · rw [if_neg hi] at hv ⊢
    exact h.2 i v hv
theorem REnv.set {K : PySem.W.Frag} {m : List Addr} {H : Hp} {ρ : Env} {σ : L2.St} {u : Val} {v : V} (h : REnv K m H ρ σ) (i : Nat) (r : RV K m H u v) : REnv K m H (ρ.set i (some u)) (σ.set i (some v)) := by
  refine ⟨by rw [List.length_set, List.length_set]; exact h.1, fun j x hx => ?_⟩
  by_cases e : i = j
  · subst e
    have hl : i < ρ.length := by
      by_cases c : i < ρ.length
      · exact c
      · rw [List.getElem?_eq_none (by simpa using c)] at hx; cases hx
    rw [List.getElem?_set_self hl] at hx
    cases hx
    exact ⟨v, by rw [List.getElem?_set_self (by rw [← h.1]; exact hl)], r⟩
  · rw [List.getElem?_set_ne e] at hx ⊢
    exact h.2 j x hx
def TGv (w : Wd) (t : Tg) : TG := fun v σ H Q => ∃ m S u ρ ρ', Rel w.K m S H ∧ REnv w.K m H ρ σ ∧ RV w.K m H u v ∧ lay S t u ρ = some ρ' ∧
  ∀ σ', REnv w.K m H ρ' σ' → (∀ vs, (∀ i ∈ slots t, i ∈ vs) → wipe σ' vs = wipe σ vs) → Q σ' H
def TGsv (w : Wd) (ts : List Tg) : TGs := fun vs σ H Q => ∃ m S us ρ ρ', Rel w.K m S H ∧ REnv w.K m H ρ σ ∧ RVs w.K m H us vs ∧ lays S ts us ρ = some ρ' ∧
  ∀ σ', REnv w.K m H ρ' σ' → (∀ vs, (∀ i ∈ slotss ts, i ∈ vs) → wipe σ' vs = wipe σ vs) → Q σ' H
theorem pg_imp {X : Cx} {e : Expr} {t t' : TG} (h : PG X e t) (f : ∀ v σ H Q, t' v σ H Q → t v σ H Q) : PG X e t' := ⟨fun pins s σ H v u Q I r q => h.run pins s σ H v u Q I r (f _ _ _ _ q)⟩
theorem pgs_imp {X : Cx} {e : List Expr} {t t' : TGs} (h : PGs X e t) (f : ∀ v σ H Q, t' v σ H Q → t v σ H Q) : PGs X e t' := ⟨fun pins s σ H v u Q I r q => h.run pins s σ H v u Q I r (f _ _ _ _ q)⟩
section
variable {w : Wd} {C : Ctx} {tc : TC} {X : Cx} {a b c : Expr} {a' b' c' : E} {es : List Expr} {es' : List E} {pos : Pos}
theorem sg_name {x : Str} {i : Nat} (ok : CxOk w C tc X) (h : (x, i) ∈ tc.own) : PG X (.Name x pos) (TGv w (.name i)) := by
  obtain ⟨h1, h2, h3⟩ := ok.sto _ h
  refine pg_imp (pg_name (by rw [ok.N]; exact ok.nd) h1 h2 h3) fun v σ H Q ⟨m, S, u, ρ, ρ', R, En, ru, q, k⟩ => ?_
  unfold lay at q
  cases q
  exact k _ (En.set i ru) fun vs hv => wipe_set (hv i (by simp [slots]))
theorem sgs_nil : PGs X [] (TGsv w []) := pgs_imp pgs_nil fun vs σ H Q ⟨m, S, us, ρ, ρ', R, En, ru, q, k⟩ => by
  cases us with
  | nil =>
    unfold lays at q
    cases q
    exact ⟨ru, k σ En fun _ _ => rfl⟩
  | cons u us => unfold lays at q; cases q
theorem sgs_cons {t : Tg} {ts : List Tg} (hn : nst a = true) (h1 : PG X a (TGv w t)) (h2 : PGs X es (TGsv w ts)) : PGs X (a :: es) (TGsv w (t :: ts)) :=
  pgs_imp (pgs_cons h1 h2 (by rw [assignEach_cons hn]; rfl)) fun vs σ H Q ⟨m, S, us, ρ, ρ', R, En, ru, q, k⟩ => by
    cases us with
    | nil => unfold lays at q; cases q
    | cons u us =>
      obtain ⟨v, r, rfl, r1, r2⟩ := ru
      unfold lays at q
      cases e : lay S t u ρ with
      | none => rw [e] at q; cases q
      | some ρ1 =>
        rw [e] at q
        refine ⟨v, r, rfl, m, S, u, ρ, ρ1, R, En, r1, e, fun σ1 En1 hw => ?_⟩
        refine ⟨m, S, us, ρ1, ρ', R, En1, r2, q, fun σ2 En2 hw2 => k σ2 En2 fun vs hv => ?_⟩
        rw [hw2 vs fun i hi => hv i (by unfold slotss; exact List.mem_append_right _ hi), hw vs fun i hi => hv i (by unfold slotss; exact List.mem_append_left _ hi)]
theorem lays_len {S : Store} : ∀ {ts : List Tg} {us : List Val} {ρ ρ' : Env}, lays S ts us ρ = some ρ' → us.length = ts.length
  | [], [], _, _, _ => rfl
  | [], _ :: _, _, _, h => by unfold lays at h; cases h
  | _ :: _, [], _, _, h => by unfold lays at h; cases h
  | t :: ts, u :: us, ρ, ρ', h => by
    unfold lays at h
    cases e : lay S t u ρ with
    | none => (rw [e] at h; cases h)
    | some ρ1 => rw [e] at h; rw [List.length_cons, List.length_cons, lays_len h]
theorem sg_tup {k : Nat} {ts : List Tg} (ok : CxOk w C tc X) (hn : es.all nst = true) (hl : ts.length = es.length) (h : PGs X es (TGsv w ts)) : PG X (.Tuple es k pos) (TGv w (.tup ts)) := by
  obtain ⟨h1, h2⟩ := assign_maps (env := X.env) hn
  refine pg_imp (pg_or' (pg_tup (n := es.length) ok.calm h h1 h2) (pg_lst (n := es.length) ok.calm h h1 h2)) fun v σ H Q ⟨m, S, u, ρ, ρ', R, En, ru, q, kk⟩ => ?_
  unfold lay at q
  cases e : seqOf S u with
  | none => simp only [e] at q; cases q
  | some us =>
    simp only [e] at q
    obtain ⟨p, vs, rfl, hs, rs⟩ := R.seq e ru
    have len : vs.length = es.length := by rw [← rs.len, lays_len q, hl]
    have fin : TGsv w ts vs σ H Q := ⟨m, S, us, ρ, ρ', R, En, rs, q, fun σ' En' hw => kk σ' En' fun vs hv => hw vs fun i hi => hv i (by unfold slots; exact hi)⟩
    rcases hs with hs | hs
    · exact .inr ⟨p, vs, rfl, by rw [ok.K]; exact hs, len, fin⟩
    · exact .inl ⟨p, vs, rfl, by rw [ok.K]; exact hs, len, fin⟩
/-! ### what is walked -/
def JOk (K : PySem.W.Frag) (m0 : List Addr) (H0 : Hp) (iv : IV) (J : It) : Prop := ∀ m S H i, Ext m0 H0 m H → Rel K m S H → (iv.next i S = some none → J.stop i H) ∧
  ∀ v, iv.next i S = some (some v) → J.go i H ∧ ∀ x H', J.yld i H x H' → Ext m H m H' ∧ Rel K m S H' ∧ RV K m H' v x
def TIv (w : Wd) (C : Ctx) (k : IK) (its : List E) : TI := fun σ H Q => ∃ m S ρ, Rel w.K m S H ∧ REnv w.K m H ρ σ ∧ Pst w (JOk w.K) m H σ ((evs C its ρ S).bind fun us S => R.of (start k us S) S) Q
theorem pi_imp {X : Cx} {tg e : Expr} {t t' : TI} (h : PI X tg e t) (f : ∀ σ H Q, t' σ H Q → t σ H Q) : PI X tg e t' := ⟨fun pins s σ H Q I q => h.run pins s σ H Q I (f _ _ _ q)⟩
theorem jok_seq {K : PySem.W.Frag} {m : List Addr} {H : Hp} {u : Val} {p : Addr} (ru : RV K m H u (.ref p)) : JOk K m H (.seq u) (Itl K p) := by
  intro m1 S1 H1 i e R
  have r1 := ru.ext e
  have at' : ∀ {o : Option Val}, IV.next (.seq u) i S1 = some o → ∃ xs vs, SqL K H1 p vs ∧ RVs K m1 H1 xs vs ∧ xs[i]? = o := fun {o} h => by
    have h : (lstOf S1 u).map (fun xs => xs[i]?) = some o := h
    cases es : lstOf S1 u with
    | none => rw [es] at h; cases h
    | some xs =>
      rw [es] at h
      obtain ⟨q, vs, e2, h1, h2⟩ := R.lst es r1
      cases e2
      exact ⟨xs, vs, h1, h2, Option.some.inj h⟩
  refine ⟨fun h => ?_, fun v h => ?_⟩
  · obtain ⟨xs, vs, h1, h2, h3⟩ := at' h
    refine ⟨vs, h1, ?_⟩
    rw [← h2.len]
    exact List.getElem?_eq_none_iff.mp h3
  · obtain ⟨xs, vs, h1, h2, h3⟩ := at' h
    obtain ⟨z, h3, h4⟩ := h2.get h3
    refine ⟨⟨vs, z, h1, h3⟩, fun x H' ⟨e3, h5⟩ => ?_⟩
    subst e3
    have := h5 vs h1
    rw [h3] at this
    cases this
    exact ⟨.refl, R, h4⟩
theorem jok_enum {K : PySem.W.Frag} {m : List Addr} {H : Hp} {u : Val} {p : Addr} (ru : RV K m H u (.ref p)) : JOk K m H (.en u) (Ite K p) := by
  intro m1 S1 H1 i e R
  have r1 := ru.ext e
  have at' : ∀ {o : Option Val}, IV.next (.en u) i S1 = some o → ∃ xs vs, SqL K H1 p vs ∧ RVs K m1 H1 xs vs ∧ (xs[i]?.map fun x => Val.tup [.int (i : Nat), x]) = o := fun {o} h => by
    have h : (lstOf S1 u).map (fun xs => xs[i]?.map fun x => Val.tup [.int (i : Nat), x]) = some o := h
    cases es : lstOf S1 u with
    | none => rw [es] at h; cases h
    | some xs =>
      rw [es] at h
      obtain ⟨q, vs, e2, h1, h2⟩ := R.lst es r1
      cases e2
      exact ⟨xs, vs, h1, h2, Option.some.inj h⟩
  refine ⟨fun h => ?_, fun v h => ?_⟩
  · obtain ⟨xs, vs, h1, h2, h3⟩ := at' h
    refine ⟨vs, h1, ?_⟩
    rw [← h2.len]
    cases hx : xs[i]? with
    | none => exact List.getElem?_eq_none_iff.mp hx
    | some x => rw [hx] at h3; cases h3
  · obtain ⟨xs, vs, h1, h2, h3⟩ := at' h
    cases hx : xs[i]? with
    | none => rw [hx] at h3; cases h3
    | some y =>
      rw [hx] at h3
      cases h3
      obtain ⟨z, h3, h4⟩ := h2.get hx
      refine ⟨⟨vs, z, h1, h3⟩, fun x H' ⟨T, y', e1, hT, e2, h5⟩ => ?_⟩
      subst e1 e2
      have ez : y' = z := Option.some.inj ((h5 vs h1).symm.trans h3)
      subst ez
      have ee := ext_upd (m := m1) (o := .tup [V.int (i : Nat), y']) hT
      exact ⟨ee, R.side hT, T, _, rfl, upd_same, .cons rfl (.cons (h4.ext ee) .nil)⟩
theorem jok_zip {K : PySem.W.Frag} {m : List Addr} {H : Hp} {u v : Val} {p q : Addr} (ru : RV K m H u (.ref p)) (rv : RV K m H v (.ref q)) : JOk K m H (.zp u v) (Itz K p q) := by
  intro m1 S1 H1 i e R
  have r1 := ru.ext e
  have r2 := rv.ext e
  have at' : ∀ {o : Option Val}, IV.next (.zp u v) i S1 = some o → ∃ xs vs ys ws, SqL K H1 p vs ∧ RVs K m1 H1 xs vs ∧ SqL K H1 q ws ∧ RVs K m1 H1 ys ws ∧ (match xs[i]?, ys[i]? with
      | some x, some y => some (Val.tup [x, y])
      | _, _ => none) = o := fun {o} h => by
    unfold IV.next at h
    cases es : lstOf S1 u with
    | none => simp only [es] at h; cases h
    | some xs =>
      cases et : lstOf S1 v with
      | none => simp only [es, et] at h; cases h
      | some ys =>
        simp only [es, et] at h
        obtain ⟨_, vs, e2, h1, h2⟩ := R.lst es r1
        cases e2
        obtain ⟨_, ws, e2, h3, h4⟩ := R.lst et r2
        cases e2
        exact ⟨xs, vs, ys, ws, h1, h2, h3, h4, Option.some.inj h⟩
  refine ⟨fun h => ?_, fun v h => ?_⟩
  · obtain ⟨xs, vs, ys, ws, h1, h2, h3, h4, h5⟩ := at' h
    refine ⟨vs, ws, h1, h3, ?_⟩
    rw [← h2.len, ← h4.len]
    cases hx : xs[i]? with
    | none => exact .inl (List.getElem?_eq_none_iff.mp hx)
    | some x =>
      cases hy : ys[i]? with
      | none => exact .inr (List.getElem?_eq_none_iff.mp hy)
      | some y => simp only [hx, hy] at h5; cases h5
  · obtain ⟨xs, vs, ys, ws, h1, h2, h3, h4, h5⟩ := at' h
    cases hx : xs[i]? with
    | none => simp only [hx] at h5; cases h5
    | some y =>
      cases hy : ys[i]? with
      | none => simp only [hx, hy] at h5; cases h5
      | some y2 =>
        simp only [hx, hy] at h5
        cases h5
        obtain ⟨z, k1, k2⟩ := h2.get hx
        obtain ⟨z2, k3, k4⟩ := h4.get hy
        refine ⟨⟨vs, ws, z, z2, h1, h3, k1, k3⟩, fun x H' ⟨T, a1, a2, e1, hT, e2, h5, h6⟩ => ?_⟩
        subst e1 e2
        have ez : a1 = z := Option.some.inj ((h5 vs h1).symm.trans k1)
        subst ez
        have ez : a2 = z2 := Option.some.inj ((h6 ws h3).symm.trans k3)
        subst ez
        have ee := ext_upd (m := m1) (o := .tup [a1, a2]) hT
        exact ⟨ee, R.side hT, T, _, rfl, upd_same, .cons (k2.ext ee) (.cons (k4.ext ee) .nil)⟩
theorem jok_rev {K : PySem.W.Frag} {m : List Addr} {H : Hp} {u : Val} {p : Addr} {n : Nat} (ru : RV K m H u (.ref p)) : JOk K m H (.rv u n) (Itv K p n) := by
  intro m1 S1 H1 i e R
  have r1 := ru.ext e
  by_cases hi : i < n
  · have nx : IV.next (.rv u n) i S1 = (match lstOf S1 u with
      | some xs => match xs[n - 1 - i]? with
        | some x => some (some x)
        | none => none
      | none => none) := by
      unfold IV.next
      simp only [hi, if_true] <;> rfl
    rw [nx]
    cases es : lstOf S1 u with
    | none => exact ⟨fun h => (by cases h), fun v h => (by cases h)⟩
    | some xs =>
      obtain ⟨_, vs, e2, h1, h2⟩ := R.lst es r1
      cases e2
      cases hx : xs[n - 1 - i]? with
      | none => simp only [hx]; exact ⟨fun h => (by cases h), fun v h => (by cases h)⟩
      | some y =>
        simp only [hx]
        refine ⟨fun h => (by cases h), fun v h => ?_⟩
        cases h
        obtain ⟨z, k1, k2⟩ := h2.get hx
        refine ⟨⟨hi, vs, z, h1, k1⟩, fun x H' ⟨e3, h5⟩ => ?_⟩
        subst e3
        have := h5 vs h1
        rw [k1] at this
        cases this
        exact ⟨.refl, R, k2⟩
  · have nx : IV.next (.rv u n) i S1 = some none := by
      unfold IV.next
      simp only [hi, if_false]
    rw [nx]
    exact ⟨fun _ => Nat.le_of_not_lt hi, fun v h => (by cases h)⟩
theorem jok_items {K : PySem.W.Frag} {m : List Addr} {H : Hp} {us : List Val} {J : It} {vs : List V} (hl : us.length = vs.length) (hv : ∀ (m1 : List Addr) (H1 : Hp), Ext m H m1 H1 → RVs K m1 H1 us vs)
    (hs : ∀ (m1 : List Addr) i H1, Ext m H m1 H1 → vs.length ≤ i → J.stop i H1) (hg : ∀ (m1 : List Addr) i H1, Ext m H m1 H1 → i < vs.length → J.go i H1 ∧ ∀ x H', J.yld i H1 x H' → H' = H1 ∧ vs[i]? = some x) : JOk K m H (.items us) J := by
  intro m1 S1 H1 i e R
  refine ⟨fun h => ?_, fun v h => ?_⟩
  · have := List.getElem?_eq_none_iff.mp (Option.some.inj h)
    exact hs m1 i H1 e (by omega)
  · have h := Option.some.inj h
    have hi : i < vs.length := by rw [← hl]; exact (List.getElem?_eq_some_iff.mp h).1
    obtain ⟨g1, g2⟩ := hg m1 i H1 e hi
    refine ⟨g1, fun x H' hy => ?_⟩
    obtain ⟨e1, e2⟩ := g2 x H' hy
    subst e1
    obtain ⟨z, h3, h4⟩ := (hv m1 H' e).get h
    rw [e2] at h3
    cases h3
    exact ⟨.refl, R, h4⟩
theorem signs_rv {K : PySem.W.Frag} {m : List Addr} {H : Hp} (x : Str) : RVs K m H (signs x) (x.cps.toList.map fun c => V.str ⟨#[c]⟩) := by
  unfold signs
  generalize x.cps.toList = l
  induction l with
  | nil => rfl
  | cons x l ih => exact ⟨_, _, rfl, rfl, ih⟩
/-- one value, then what is walked of it -/
theorem one_go {k : IK} {σ : L2.St} {H : Hp} {Q : It → Hp → Prop} {r : V → Hp → Prop} {m : List Addr} {S : Store} {ρ : Env} (R : Rel w.K m S H) (En : REnv w.K m H ρ σ)
    (q : Pst w (JOk w.K) m H σ ((evs C [a'] ρ S).bind fun us S => Mi.R.of (start k us S) S) Q)
    (g : ∀ u S1, ev C a' ρ S = .ok u S1 → ∀ m H x, Rel w.K m S1 H → RV w.K m H u x → Pst w (JOk w.K) m H σ (Mi.R.of (start k [u] S1) S1) Q → r x H) : TEv w C a' σ H r := by
  unfold evs at q
  refine ⟨m, S, ρ, R, En, ?_⟩
  cases e1 : ev C a' ρ S with
  | ok u S1 =>
    rw [e1] at q
    intro m1 H1 x x1 R1 r1
    unfold evs at q
    exact g u S1 e1 m1 H1 x R1 r1 (Pst.ext x1 q)
  | ex c d S1 => rw [e1] at q; exact q
  | bad => rw [e1] at q; exact q
theorem of_jok {m : List Addr} {H : Hp} {S : Store} {σ : L2.St} {o : Option IV} {Q : It → Hp → Prop} (h : Pst w (JOk w.K) m H σ (R.of o S) Q) : ∃ iv, o = some iv ∧ ∀ m' H' J, Ext m H m' H' → Rel w.K m' S H' → JOk w.K m' H' iv J → Q J H' := by
  cases o with
  | none => exact h.elim
  | some x => exact ⟨x, rfl, h⟩
theorem si_seq {tg : Expr} (ok : CxOk w C tc X) (ha : PE X a (TEv w C a')) : PI X tg a (TIv w C .seq [a']) := by
  refine pi_imp (pi_or' (pi_list ha) (pi_or' (pi_tup ha) (pi_str ha))) fun σ H Q ⟨m, S, ρ, R, En, q⟩ => ?_
  have lst : ∀ {u : Val} {S1 : Store}, ev C a' ρ S = .ok u S1 → (∀ iv, start .seq [u] S1 = some iv → ∃ xs, lstOf S1 u = some xs ∧ iv = .seq u) → iList X.K (TEv w C a') σ H Q := fun {u S1} e hs => by
    refine one_go R En q fun u' S1' e' m1 H1 x R1 ru q1 => ?_
    rw [e] at e'
    cases e'
    obtain ⟨iv, h1, h2⟩ := of_jok q1
    obtain ⟨xs, h3, rfl⟩ := hs iv h1
    obtain ⟨p, vs, rfl, h4, h5⟩ := R1.lst h3 ru
    rw [ok.K]
    exact ⟨p, rfl, ⟨vs, h4⟩, h2 m1 H1 _ .refl R1 (jok_seq ru)⟩
  have none' : ∀ {x : Option (List Val)} {u : Val} {iv : IV}, (x.map fun _ => IV.seq u) = some iv → ∃ xs, x = some xs ∧ iv = .seq u := fun {x u iv} h => by
    cases x with
    | none => cases h
    | some xs => cases h; exact ⟨xs, rfl, rfl⟩
  cases e1 : ev C a' ρ S with
  | ok u S1 =>
    cases u with
    | tup us =>
      refine .inr (.inl (one_go R En q fun u' S1' e' m1 H1 x R1 ru q1 => ?_))
      rw [e1] at e'
      cases e'
      obtain ⟨iv, h1, h2⟩ := of_jok q1
      cases h1
      obtain ⟨p, vs, rfl, h3, h4⟩ := ru
      rw [ok.K]
      refine ⟨p, rfl, ⟨vs, .of h3⟩, h2 m1 H1 _ .refl R1 (jok_items (vs := vs) h4.len (fun m2 H2 e => h4.ext e) (fun m2 i H2 e h => ⟨vs, .of (e.tup _ _ h3), h⟩) fun m2 i H2 e h => ?_)⟩
      refine ⟨⟨vs, vs[i], .of (e.tup _ _ h3), List.getElem?_eq_getElem h⟩, fun x H' ⟨e3, h5⟩ => ⟨e3, h5 vs (.of (e.tup _ _ h3))⟩⟩
    | str y =>
      refine .inr (.inr (one_go R En q fun u' S1' e' m1 H1 x R1 ru q1 => ?_))
      rw [e1] at e'
      cases e'
      obtain ⟨iv, h1, h2⟩ := of_jok q1
      cases h1
      obtain rfl : x = .str y := ru
      have hz : (y.cps.toList.map fun c => V.str ⟨#[c]⟩).length = y.cps.size := by rw [List.length_map, Array.length_toList]
      refine ⟨y, rfl, h2 m1 H1 _ .refl R1 (jok_items (signs_rv (K := w.K) (m := m1) (H := H1) y).len (fun m2 H2 e => signs_rv y) (fun m2 i H2 e h => by rw [hz] at h; exact h) fun m2 i H2 e h => ?_)⟩
      rw [hz] at h
      refine ⟨h, fun x H' ⟨e3, c, h5, h6⟩ => ⟨e3, ?_⟩⟩
      rw [List.getElem?_map, Array.getElem?_toList, h5, h6]
      rfl
    | _ => exact .inl (lst e1 fun iv h => none' h)
  | ex c d S1 => exact .inl (one_go R En q fun u' S1' e' => by rw [e1] at e'; cases e')
  | bad => exact .inl (one_go R En q fun u' S1' e' => by rw [e1] at e'; cases e')
theorem rng_jok {K : PySem.W.Frag} {m : List Addr} {H : Hp} {lo : Int} {n : Nat} : JOk K m H (.items (rng lo n)) (Itr lo n) := by
  have hz : ((List.range n).map fun (i : Nat) => V.int (lo + i)).length = n := by rw [List.length_map, List.length_range]
  refine jok_items (rng_rv (K := K) (m := m) (H := H) lo n).len (fun m2 H2 e => rng_rv lo n) (fun m2 i H2 e h => by rw [hz] at h; exact h) fun m2 i H2 e h => ?_
  rw [hz] at h
  refine ⟨h, fun x H' ⟨e3, h5⟩ => ⟨e3, ?_⟩⟩
  rw [List.getElem?_map, List.getElem?_range h, h5]
  rfl
theorem si_rng1 {tg : Expr} {p : Pos} (ok : CxOk w C tc X) (hg : Gl X "range") (hn : nst a = true) (ha : PE X a (TEv w C a')) : PI X tg (.Call (.Name "range" p) [a] [] pos) (TIv w C .rng1 [a']) := by
  have hA : PA X [a] (tCons (TEv w C a') tNil) := pa_cons ha pa_nil (starEach_cons hn)
  refine pi_imp (pi_range1 hg (ok.blt _ (by decide)) hA (by rw [starEach_cons hn]; rfl)) fun σ H Q ⟨m, S, ρ, R, En, q⟩ => ?_
  refine one_go R En q fun u S1 e m1 H1 x R1 ru q1 => ?_
  obtain ⟨iv, h1, h2⟩ := of_jok q1
  cases u <;> first | (cases h1; done) | skip
  rename_i n
  obtain rfl : x = .int n := ru
  have h1 : (if small62 n then some (IV.items (rng 0 n.toNat)) else none) = some iv := h1
  by_cases hs : small62 n = true
  · rw [if_pos hs] at h1
    cases h1
    simp only [small62_def, Bool.and_eq_true, decide_eq_true_eq] at hs
    exact ⟨n, rfl, hs.1, hs.2, h2 m1 H1 _ .refl R1 rng_jok⟩
  · rw [if_neg hs] at h1; cases h1
theorem two_go {k : IK} {σ : L2.St} {H : Hp} {Q : It → Hp → Prop} {r : List V → Hp → Prop} {m : List Addr} {S : Store} {ρ : Env} (R : Rel w.K m S H) (En : REnv w.K m H ρ σ)
    (q : Pst w (JOk w.K) m H σ ((evs C [a', b'] ρ S).bind fun us S => Mi.R.of (start k us S) S) Q)
    (g : ∀ u v m S1 H x y, Rel w.K m S1 H → RV w.K m H u x → RV w.K m H v y → Pst w (JOk w.K) m H σ (Mi.R.of (start k [u, v] S1) S1) Q → r [x, y] H) : tCons (TEv w C a') (tCons (TEv w C b') tNil) σ H r := by
  have q : Pst w (JOk w.K) m H σ ((ev C a' ρ S).bind fun u S => (ev C b' ρ S).bind fun v S => Mi.R.of (start k [u, v] S) S) Q := by
    unfold evs at q
    cases e1 : ev C a' ρ S with
    | ok u S1 =>
      rw [e1] at q
      unfold evs at q
      simp only [Mi.R.bind_ok] at q ⊢
      cases e2 : ev C b' ρ S1 with
      | ok v S2 =>
        rw [e2] at q
        unfold evs at q
        exact q
      | ex c d S2 => rw [e2] at q; exact q
      | bad => rw [e2] at q; exact q
    | ex c d S1 => rw [e1] at q; exact q
    | bad => rw [e1] at q; exact q
  refine ⟨m, S, ρ, R, En, q.bind.mono fun x H1 ⟨m1, S1, u, e1, R1, r1, q1⟩ => ?_⟩
  refine ⟨m1, S1, ρ, R1, En.ext e1, q1.bind.mono fun y H2 ⟨m2, S2, v, e2, R2, r2, q2⟩ => ?_⟩
  exact g u v m2 S2 H2 x y R2 (r1.ext e2) r2 q2
theorem si_rng2 {tg : Expr} {p : Pos} (ok : CxOk w C tc X) (hg : Gl X "range") (hn : nst a = true) (hnb : nst b = true) (ha : PE X a (TEv w C a')) (hb : PE X b (TEv w C b')) :
    PI X tg (.Call (.Name "range" p) [a, b] [] pos) (TIv w C .rng2 [a', b']) := by
  have hA : PA X [a, b] (tCons (TEv w C a') (tCons (TEv w C b') tNil)) := pa_cons ha (pa_cons hb pa_nil (starEach_cons hnb)) (starEach_cons hn)
  refine pi_imp (pi_range2 hg (ok.blt _ (by decide)) hA (by rw [starEach_cons hn, starEach_cons hnb]; rfl) (by rw [starEach_cons hnb]; rfl)) fun σ H Q ⟨m, S, ρ, R, En, q⟩ => ?_
  refine two_go R En q fun u v m1 S1 H1 x y R1 ru rv q1 => ?_
  obtain ⟨iv, h1, h2⟩ := of_jok q1
  cases u <;> first | (cases h1; done) | skip
  rename_i i
  cases v <;> first | (cases h1; done) | skip
  rename_i j
  obtain rfl : x = .int i := ru
  obtain rfl : y = .int j := rv
  have h1 : (if small62 i && small62 j then some (IV.items (rng i (j - i).toNat)) else none) = some iv := h1
  by_cases hs : (small62 i && small62 j) = true
  · rw [if_pos hs] at h1
    cases h1
    simp only [small62_def, Bool.and_eq_true, decide_eq_true_eq] at hs
    exact ⟨i, j, rfl, ⟨hs.1.1, hs.1.2, hs.2.1, hs.2.2⟩, h2 m1 H1 _ .refl R1 rng_jok⟩
  · rw [if_neg hs] at h1; cases h1
theorem rngc_rv {K : PySem.W.Frag} {m : List Addr} {H : Hp} (lo : Int) (n : Nat) : RVs K m H (rngc lo n) ((List.range n).map fun (i : Nat) => V.int (lo + i * 2)) := by
  unfold rngc
  generalize List.range n = l
  induction l with
  | nil => rfl
  | cons x l ih => exact ⟨_, _, rfl, rfl, ih⟩
theorem rngc_jok {K : PySem.W.Frag} {m : List Addr} {H : Hp} {lo : Int} {n : Nat} : JOk K m H (.items (rngc lo n)) (Itc lo 2 n) := by
  have hz : ((List.range n).map fun (i : Nat) => V.int (lo + i * 2)).length = n := by rw [List.length_map, List.length_range]
  refine jok_items (rngc_rv (K := K) (m := m) (H := H) lo n).len (fun m2 H2 e => rngc_rv lo n) (fun m2 i H2 e h => by rw [hz] at h; exact h) fun m2 i H2 e h => ?_
  rw [hz] at h
  refine ⟨h, fun x H' ⟨e3, h5⟩ => ⟨e3, ?_⟩⟩
  rw [List.getElem?_map, List.getElem?_range h, h5]
  rfl
theorem size_two (i j : Int) : Builtin.Range.rangeSize i j 2 = (((j - i + 1) / 2).toNat : Int) := by
  unfold Builtin.Range.rangeSize; simp only [show (2 : Int) > 0 by decide, if_true]
  split <;> omega
theorem rgc_two {i j : Int} (ha : -(2 ^ 62) ≤ i) (ha' : i < 2 ^ 62) (hb : -(2 ^ 62) ≤ j) (hb' : j < 2 ^ 62) : RgC i j 2 ((j - i + 1) / 2).toNat := by
  refine ⟨by decide, by decide, ?_, size_two i j⟩
  unfold Builtin.Range.small
  rw [size_two]
  simp only [Builtin.Range.rangeFitsLong, Bool.and_eq_true, Bool.or_eq_true, decide_eq_true_eq, beq_iff_eq, show (2 : Int) > 0 by decide, if_true]
  omega
theorem si_rng3 {tg : Expr} {p pc : Pos} {kc : Nat} (ok : CxOk w C tc X) (hg : Gl X "range") (hn : nst a = true) (hnb : nst b = true) (ha : PE X a (TEv w C a')) (hb : PE X b (TEv w C b')) :
    PI X tg (.Call (.Name "range" p) [a, b, .Constant (.int 2) kc pc] [] pos) (TIv w C .rng3 [a', b']) := by
  have hA : PA X [a, b, .Constant (.int 2) kc pc] (tCons (TEv w C a') (tCons (TEv w C b') (tCons (tC (.int 2)) tNil))) := pa_cons ha (pa_cons hb (pa_cons pe_int pa_nil (starEach_cons rfl)) (starEach_cons hnb)) (starEach_cons hn)
  refine pi_imp (pi_range3 hg (ok.blt _ (by decide)) hA (by rw [starEach_cons hn, starEach_cons hnb]) (by rw [starEach_cons hnb, starEach_cons rfl]; rfl)) fun σ H Q ⟨m, S, ρ, R, En, q⟩ => ?_
  refine two_go (r := fun vs H1 => ∃ (i j c : Int) (n : Nat), vs ++ [.int 2] = [.int i, .int j, .int c] ∧ RgC i j c n ∧ Q (Itc i c n) H1) R En q fun u v m1 S1 H1 x y R1 ru rv q1 => ?_
  obtain ⟨iv, h1, h2⟩ := of_jok q1
  cases u <;> first | (cases h1; done) | skip
  rename_i i
  cases v <;> first | (cases h1; done) | skip
  rename_i j
  obtain rfl : x = .int i := ru
  obtain rfl : y = .int j := rv
  have h1 : (if small62 i && small62 j then some (IV.items (rngc i ((j - i + 1) / 2).toNat)) else none) = some iv := h1
  by_cases hs : (small62 i && small62 j) = true
  · rw [if_pos hs] at h1
    cases h1
    simp only [small62_def, Bool.and_eq_true, decide_eq_true_eq] at hs
    exact ⟨i, j, 2, _, rfl, rgc_two hs.1.1 hs.1.2 hs.2.1 hs.2.2, h2 m1 H1 _ .refl R1 rngc_jok⟩
  · rw [if_neg hs] at h1; cases h1
theorem si_enum {elts : List Expr} {kk : Nat} {tpos p : Pos} (ok : CxOk w C tc X) (hg : Gl X "enumerate") (hn : nst a = true) (ha : PE X a (TEv w C a')) :
    PI X (.Tuple elts kk tpos) (.Call (.Name "enumerate" p) [a] [] pos) (TIv w C .enum [a']) := by
  have hA : PA X [a] (tCons (TEv w C a') tNil) := pa_cons ha pa_nil (starEach_cons hn)
  refine pi_imp (pi_enum hg (ok.blt _ (by decide)) hA (by rw [starEach_cons hn]; rfl)) fun σ H Q ⟨m, S, ρ, R, En, q⟩ => ?_
  refine one_go R En q fun u S1 e m1 H1 x R1 ru q1 => ?_
  obtain ⟨iv, h1, h2⟩ := of_jok q1
  have h1 : ((lstOf S1 u).map fun _ => IV.en u) = some iv := h1
  cases e2 : lstOf S1 u with
  | none => rw [e2] at h1; cases h1
  | some xs =>
    rw [e2] at h1
    cases h1
    obtain ⟨p, vs, rfl, h3, h4⟩ := R1.lst e2 ru
    rw [ok.K]
    exact ⟨p, vs, rfl, h3, h2 m1 H1 _ .refl R1 (jok_enum ru)⟩
theorem si_rev {tg : Expr} {p : Pos} (ok : CxOk w C tc X) (hg : Gl X "reversed") (hn : nst a = true) (ha : PE X a (TEv w C a')) : PI X tg (.Call (.Name "reversed" p) [a] [] pos) (TIv w C .rev [a']) := by
  have hA : PA X [a] (tCons (TEv w C a') tNil) := pa_cons ha pa_nil (starEach_cons hn)
  refine pi_imp (pi_reversed hg (ok.blt _ (by decide)) hA (by rw [starEach_cons hn]; rfl)) fun σ H Q ⟨m, S, ρ, R, En, q⟩ => ?_
  refine one_go R En q fun u S1 e m1 H1 x R1 ru q1 => ?_
  obtain ⟨iv, h1, h2⟩ := of_jok q1
  have h1 : ((lstOf S1 u).map fun xs => IV.rv u xs.length) = some iv := h1
  cases e2 : lstOf S1 u with
  | none => rw [e2] at h1; cases h1
  | some xs =>
    rw [e2] at h1
    cases h1
    obtain ⟨p, vs, rfl, h3, h4⟩ := R1.lst e2 ru
    rw [ok.K]
    exact ⟨p, vs, rfl, h3, by rw [← h4.len]; exact h2 m1 H1 _ .refl R1 (jok_rev ru)⟩
theorem si_zip {elts : List Expr} {kk : Nat} {tpos p : Pos} (ok : CxOk w C tc X) (hg : Gl X "zip") (hn : nst a = true) (hnb : nst b = true) (ha : PE X a (TEv w C a')) (hb : PE X b (TEv w C b')) :
    PI X (.Tuple elts kk tpos) (.Call (.Name "zip" p) [a, b] [] pos) (TIv w C .zip [a', b']) := by
  have hA : PA X [a, b] (tCons (TEv w C a') (tCons (TEv w C b') tNil)) := pa_cons ha (pa_cons hb pa_nil (starEach_cons hnb)) (starEach_cons hn)
  refine pi_imp (pi_zip hg (ok.blt _ (by decide)) hA (starEach_cons hn) (star_any (by rw [List.all_cons, hnb]; rfl))) fun σ H Q ⟨m, S, ρ, R, En, q⟩ => ?_
  refine two_go R En q fun u v m1 S1 H1 x y R1 ru rv q1 => ?_
  obtain ⟨iv, h1, h2⟩ := of_jok q1
  have h1 : (match lstOf S1 u, lstOf S1 v with
    | some _, some _ => some (IV.zp u v)
    | _, _ => none) = some iv := h1
  cases e2 : lstOf S1 u with
  | none => simp only [e2] at h1; cases h1
  | some xs =>
    cases e3 : lstOf S1 v with
    | none => simp only [e2, e3] at h1; cases h1
    | some ys =>
      simp only [e2, e3] at h1
      cases h1
      obtain ⟨p, vs, rfl, h3, h4⟩ := R1.lst e2 ru
      obtain ⟨q, ws, rfl, h5, h6⟩ := R1.lst e3 rv
      rw [ok.K]
      exact ⟨p, q, vs, ws, rfl, h3, h5, h2 m1 H1 _ .refl R1 (jok_zip ru rv)⟩
end
end Mi
namespace Mi
open PySem L2
section
variable {w : Wd} {C : Ctx} {tc : TC} {X : Cx} {a b c : Expr} {a' b' c' : E} {es : List Expr} {es' : List E} {pos : Pos}
/-! ### tests -/
def noIf : Expr → Bool
  | .IfExp .. => false
  | .Compare .. => false
  | .BoolOp .. => false
  | .UnaryOp .Not _ _ => false
  | _ => true
theorem st_plain (ok : CxOk w C tc X) (hn : noIf a = true) (ha : PE X a (TEv w C a')) : PT X a (TTv w C [a']) := by
  have ht : ∀ whole, isTrue a X.env whole = (do let v ← whole; standAt a.pos; holding [v] (truthy v)) := by
    cases a <;> first | (intro _; rfl) | (exact Bool.noConfusion hn) | skip
    rename_i o _ _
    cases o <;> first | (intro _; rfl) | (exact Bool.noConfusion hn)
  refine pt_imp (pt_truth ha ht) fun σ H Q ⟨m, S, ρ, R, En, q⟩ => ?_
  unfold evT at q
  refine ⟨m, S, ρ, R, En, q.bind.mono fun x H1 ⟨m1, S1, u, e1, R1, r1, q1⟩ => ?_⟩
  cases e : tru S1 u with
  | none => rw [e] at q1; exact q1.elim
  | some k =>
    rw [e] at q1
    rw [ok.K]
    exact ⟨k, tru_rv R1 r1 e, q1 m1 H1 k .refl R1 rfl⟩
/-- from a bool's expression to its test -/
theorem bl_test {σ : L2.St} {H : Hp} {Q : Bool → Hp → Prop} (hb : ∀ ρ S u S', ev C a' ρ S = .ok u S' → ∃ k, u = .bl k) (h : TTv w C [a'] σ H Q) : tTest (TEv w C a') σ H Q := by
  obtain ⟨m, S, ρ, R, En, q⟩ := h
  unfold evT at q
  refine ⟨m, S, ρ, R, En, ?_⟩
  cases e : ev C a' ρ S with
  | ok u S1 =>
    rw [e] at q
    obtain ⟨k, rfl⟩ := hb _ _ _ _ e
    intro m1 H1 z e1 R1 r1
    exact ⟨k, r1, q m1 H1 k e1 R1 rfl⟩
  | ex c d S1 => rw [e] at q; exact q
  | bad => rw [e] at q; exact q
theorem cmp_bl {o : Cp} : ∀ ρ S u S', ev C (.cmp o a' b') ρ S = .ok u S' → ∃ k, u = .bl k := by
  intro ρ S u S' h
  unfold ev at h
  cases e1 : ev C a' ρ S with
  | ok x S1 =>
    rw [e1] at h
    cases e2 : ev C b' ρ S1 with
    | ok y S2 =>
      simp only [R.bind_ok, e2] at h
      cases e3 : cmpop o S2 x y with
      | none => rw [e3] at h; cases h
      | some k => rw [e3] at h; cases h; exact ⟨k, rfl⟩
    | ex c d S2 => simp only [R.bind_ok, e2] at h; cases h
    | bad => simp only [R.bind_ok, e2] at h; cases h
  | ex c d S1 => rw [e1] at h; cases h
  | bad => rw [e1] at h; cases h
/-- a comparison as a test: by its value's -/
theorem st_cmp {o : Cp} (ok : CxOk w C tc X) (hm : (match b with | .Set .. => false | _ => true) = true) (ha : PE X a (TEv w C a')) (hb : PE X b (TEv w C b')) : PT X (.Compare a [cpOf o] [b] pos) (TTv w C [.cmp o a' b']) := by
  have hu : X.A.units + 1 < cLine := Nat.lt_of_le_of_lt (Nat.add_le_add_left (by decide) _) ok.hu
  have un : ∀ {σ : L2.St} {H : Hp} {Q : VK}, TEv w C (.cmp o a' b') σ H Q → ∃ m S ρ, Rel w.K m S H ∧ REnv w.K m H ρ σ ∧ Pst w (RV w.K) m H σ ((ev C a' ρ S).bind fun u S => (ev C b' ρ S).bind fun v S => R.bl (cmpop o S u v) S) Q := fun ⟨m, S, ρ, R, En, q⟩ => by
    unfold ev at q
    exact ⟨m, S, ρ, R, En, q⟩
  by_cases h1 : o = .isin
  · subst h1
    have s1 := pt_cmpR (pos := pos) (or_in (X := X) ok.hu) ha hb (nomark' hm)
    have s2 := pt_cmp (pos := pos) (pc_din (X := X) hu ha hb) (nomark' hm)
    have s3 : PT X (.Compare a [cpOf .isin] [b] pos) (fun σ H Q => tTest (tOp (fun x y H Q => ∃ m S u v, Rel X.K m S H ∧ RV X.K m H u x ∧ RV X.K m H v y ∧ OB X.K H (inopS S u v) Q) (TEv w C a') (TEv w C b')) σ H Q ∨ tB (tDIn (TEv w C a') (TEv w C b')) σ H Q) :=
      ⟨fun pins s σ H Q I q => q.elim (s1.run pins s σ H Q I) (s2.run pins s σ H Q I)⟩
    refine pt_imp s3 fun σ H Q h => ?_
    have h := bl_test cmp_bl h
    refine two_or (b := fun u v S => (inopS S u v).isSome) (Q := fun x H' => ∃ k, x = .bl k ∧ Q k H') (r' := fun y x H2 Q => ∃ a o, x = .ref a ∧ DGet H2 a y o ∧ Q (.bl o.isSome) H2) (un h) (fun m S H x y u v hb R r1 r2 q => ?_) (fun m S H x y u v hb R r1 r2 q => ?_)
    · rw [ok.K]
      refine ⟨m, S, u, v, R, r1, r2, ?_⟩
      have q := bl_pst R q
      unfold cmpop inop at q
      cases e : inopS S u v with
      | none => rw [e] at hb; cases hb
      | some k => simp only [e] at q; exact q
    · have q := bl_pst R q
      unfold cmpop inop at q
      cases e : inopS S u v with
      | some k => rw [e] at hb; cases hb
      | none =>
        simp only [e] at q
        cases e2 : dget S v u with
        | none => rw [e2] at q; exact q.elim
        | some o =>
          rw [e2] at q
          obtain ⟨p, z, rfl, h3, h4⟩ := dget_DG R r2 r1 e2
          exact ⟨p, z, rfl, h3, by rw [h4.isSome]; exact q⟩
  · by_cases h2 : o = .notin
    · subst h2
      have s1 := pt_cmpR (pos := pos) (or_notin (X := X) ok.hu) ha hb (nomark' hm)
      have s2 := pt_cmp (pos := pos) (pc_dnotin (X := X) hu ha hb) (nomark' hm)
      have s3 : PT X (.Compare a [cpOf .notin] [b] pos) (fun σ H Q => tTest (tOp (fun x y H Q => ∃ m S u v, Rel X.K m S H ∧ RV X.K m H u x ∧ RV X.K m H v y ∧ OB X.K H ((inopS S u v).map (!·)) Q) (TEv w C a') (TEv w C b')) σ H Q ∨ tB (tDNotIn (TEv w C a') (TEv w C b')) σ H Q) :=
        ⟨fun pins s σ H Q I q => q.elim (s1.run pins s σ H Q I) (s2.run pins s σ H Q I)⟩
      refine pt_imp s3 fun σ H Q h => ?_
      have h := bl_test cmp_bl h
      refine two_or (b := fun u v S => (inopS S u v).isSome) (Q := fun x H' => ∃ k, x = .bl k ∧ Q k H') (r' := fun y x H2 Q => ∃ a o, x = .ref a ∧ DGet H2 a y o ∧ Q (.bl (!o.isSome)) H2) (un h) (fun m S H x y u v hb R r1 r2 q => ?_) (fun m S H x y u v hb R r1 r2 q => ?_)
      · rw [ok.K]
        refine ⟨m, S, u, v, R, r1, r2, ?_⟩
        have q := bl_pst R q
        unfold cmpop inop at q
        cases e : inopS S u v with
        | none => rw [e] at hb; cases hb
        | some k => simp only [e] at q; exact q
      · have q := bl_pst R q
        unfold cmpop inop at q
        cases e : inopS S u v with
        | some k => rw [e] at hb; cases hb
        | none =>
          simp only [e] at q
          cases e2 : dget S v u with
          | none => rw [e2] at q; exact q.elim
          | some o =>
            rw [e2] at q
            obtain ⟨p, z, rfl, h3, h4⟩ := dget_DG R r2 r1 e2
            exact ⟨p, z, rfl, h3, by rw [h4.isSome]; exact q⟩
    · refine pt_imp (pt_cmpR (pos := pos) (or_cmp (X := X) ok.hu o (cpOf o) rfl h1 h2) ha hb (nomark' hm)) fun σ H Q h => ?_
      have h := bl_test cmp_bl h
      refine two_pst (un h) fun m S H x y u v R r1 r2 q => ?_
      rw [ok.K]
      exact ⟨m, S, u, v, R, r1, r2, bl_pst R q⟩
theorem chain_pst {o p : Cp} {σ : L2.St} {H : Hp} {Q : VK} {r r' : V → V → Hp → VK → Prop} (h : TEv w C (.chain o p a' b' c') σ H Q)
    (f : ∀ m S H x y u v Q, Rel w.K m S H → RV w.K m H u x → RV w.K m H v y → OB w.K H (cmpop o S u v) Q → r x y H Q) (f' : ∀ m S H x y u v Q, Rel w.K m S H → RV w.K m H u x → RV w.K m H v y → OB w.K H (cmpop p S u v) Q → r' x y H Q) :
    tChain r r' (TEv w C a') (TEv w C b') (TEv w C c') σ H Q := by
  obtain ⟨m, S, ρ, R, En, q⟩ := h
  unfold ev at q
  refine ⟨m, S, ρ, R, En, q.bind.mono fun x H1 ⟨m1, S1, u, e1, R1, r1, q1⟩ => ?_⟩
  refine ⟨m1, S1, ρ, R1, En.ext e1, q1.bind.mono fun y H2 ⟨m2, S2, v, e2, R2, r2, q2⟩ => ?_⟩
  obtain ⟨k, ek, q2⟩ := of_pst q2
  refine f m2 S2 H2 x y u v _ R2 (r1.ext e2) r2 ?_
  rw [ek]
  refine ⟨k, rfl, ?_⟩
  cases k with
  | true =>
    refine ⟨m2, S2, ρ, R2, (En.ext e1).ext e2, Pst.mono (Pst.bind q2) fun z H3 ⟨m3, S3, t, e3, R3, r3, q3⟩ => ?_⟩
    exact f' m3 S3 H3 y z v t _ R3 (r2.ext e3) r3 (bl_pst R3 q3)
  | false => exact q2 m2 H2 _ .refl R2 rfl
theorem se_chain {o p : Cp} (ok : CxOk w C tc X) (h1 : o ≠ .isin) (h2 : o ≠ .notin) (h3 : p ≠ .isin) (h4 : p ≠ .notin) (hm : lastMarks [cpOf o, cpOf p] [b, c] = false) (ha : PE X a (TEv w C a')) (hb : PE X b (TEv w C b')) (hc : PE X c (TEv w C c')) :
    PE X (.Compare a [cpOf o, cpOf p] [b, c] pos) (TEv w C (.chain o p a' b' c')) :=
  pe_imp (pe_chain (or_cmp (X := X) ok.hu o (cpOf o) rfl h1 h2) (or_cmp (X := X) ok.hu p (cpOf p) rfl h3 h4) ha hb hc hm) fun σ H Q h =>
    chain_pst h (fun m S H x y u v Q R r1 r2 q => by rw [ok.K]; exact ⟨m, S, u, v, R, r1, r2, q⟩) (fun m S H x y u v Q R r1 r2 q => by rw [ok.K]; exact ⟨m, S, u, v, R, r1, r2, q⟩)
theorem chain_bl {o p : Cp} : ∀ ρ S u S', ev C (.chain o p a' b' c') ρ S = .ok u S' → ∃ k, u = .bl k := by
  intro ρ S u S' h
  unfold ev at h
  cases e1 : ev C a' ρ S with
  | ok x S1 =>
    rw [e1] at h
    cases e2 : ev C b' ρ S1 with
    | ok y S2 =>
      simp only [R.bind_ok, e2] at h
      cases e3 : cmpop o S2 x y with
      | none => rw [e3] at h; cases h
      | some k =>
        simp only [e3, R.of_some, R.bind_ok] at h
        cases k with
        | false => cases h; exact ⟨false, rfl⟩
        | true =>
          simp only [if_true] at h
          cases e4 : ev C c' ρ S2 with
          | ok z S3 =>
            simp only [e4, R.bind_ok] at h
            cases e5 : cmpop p S3 y z with
            | none => rw [e5] at h; cases h
            | some k => rw [e5] at h; cases h; exact ⟨k, rfl⟩
          | ex c d S2 => simp only [e4] at h; cases h
          | bad => simp only [e4] at h; cases h
    | ex c d S2 => simp only [R.bind_ok, e2] at h; cases h
    | bad => simp only [R.bind_ok, e2] at h; cases h
  | ex c d S1 => rw [e1] at h; cases h
  | bad => rw [e1] at h; cases h
theorem st_chain {o p : Cp} (ok : CxOk w C tc X) (h1 : o ≠ .isin) (h2 : o ≠ .notin) (h3 : p ≠ .isin) (h4 : p ≠ .notin) (hm : lastMarks [cpOf o, cpOf p] [b, c] = false) (ha : PE X a (TEv w C a')) (hb : PE X b (TEv w C b')) (hc : PE X c (TEv w C c')) :
    PT X (.Compare a [cpOf o, cpOf p] [b, c] pos) (TTv w C [.chain o p a' b' c']) :=
  pt_imp (pt_chain (or_cmp (X := X) ok.hu o (cpOf o) rfl h1 h2) (or_cmp (X := X) ok.hu p (cpOf p) rfl h3 h4) ha hb hc hm) fun σ H Q h =>
    chain_pst (bl_test chain_bl h) (fun m S H x y u v Q R r1 r2 q => by rw [ok.K]; exact ⟨m, S, u, v, R, r1, r2, q⟩) (fun m S H x y u v Q R r1 r2 q => by rw [ok.K]; exact ⟨m, S, u, v, R, r1, r2, q⟩)
theorem st_not (ha : PT X a (TTv w C [a'])) : PT X (.UnaryOp .Not a pos) (TTv w C [.not a']) :=
  pt_imp (pt_not ha) fun σ H Q ⟨m, S, ρ, R, En, q⟩ => by
    unfold evT at q
    unfold ev at q
    refine ⟨m, S, ρ, R, En, ?_⟩
    unfold evT
    cases e1 : ev C a' ρ S with
    | ok u S1 =>
      simp only [e1, Mi.R.bind_ok] at q ⊢
      cases e2 : tru S1 u with
      | none => rw [e2] at q; exact q
      | some k =>
        rw [e2] at q
        intro m1 H1 z ee R1 rz
        cases rz
        exact q m1 H1 _ ee R1 rfl
    | ex c d S1 => rw [e1] at q; exact q
    | bad => rw [e1] at q; exact q
theorem evT_and (ρ : Env) (S : Store) : evT C [.and a' b'] ρ S = (evT C [a'] ρ S).bind fun k S => if k then evT C [b'] ρ S else .ok false S := by
  unfold evT
  rw [ev]
  cases e1 : ev C a' ρ S with
  | ok u S1 =>
    simp only [R.bind_ok]
    cases e2 : tru S1 u with
    | none => rfl
    | some k =>
      cases k with
      | true => rfl
      | false => simp only [R.of_some, R.bind_ok, Bool.false_eq_true, if_false, e2]
  | ex c d S1 => rfl
  | bad => rfl
theorem evT_or (ρ : Env) (S : Store) : evT C [.or a' b'] ρ S = (evT C [a'] ρ S).bind fun k S => if k then .ok true S else evT C [b'] ρ S := by
  unfold evT
  rw [ev]
  cases e1 : ev C a' ρ S with
  | ok u S1 =>
    simp only [R.bind_ok]
    cases e2 : tru S1 u with
    | none => rfl
    | some k =>
      cases k with
      | false => rfl
      | true => simp only [R.of_some, R.bind_ok, if_true, e2]
  | ex c d S1 => rfl
  | bad => rfl
theorem st_and (ha : PT X a (TTv w C [a'])) (hb : PW X (.BoolOp .And (b :: es) pos) (TTv w C [b'])) : PW X (.BoolOp .And (a :: b :: es) pos) (TTv w C [.and a' b']) :=
  pw_imp (pw_and ha hb) fun σ H Q ⟨m, S, ρ, R, En, q⟩ => by
    rw [evT_and] at q
    refine ⟨m, S, ρ, R, En, q.bind.mono fun k H1 ⟨m1, S1, k', e1, R1, r1, q1⟩ => ?_⟩
    cases r1
    cases k with
    | true => exact ⟨m1, S1, ρ, R1, En.ext e1, q1⟩
    | false => exact q1 m1 H1 _ .refl R1 rfl
theorem st_or (ha : PT X a (TTv w C [a'])) (hb : PW X (.BoolOp .Or (b :: es) pos) (TTv w C [b'])) : PW X (.BoolOp .Or (a :: b :: es) pos) (TTv w C [.or a' b']) :=
  pw_imp (pw_or ha hb) fun σ H Q ⟨m, S, ρ, R, En, q⟩ => by
    rw [evT_or] at q
    refine ⟨m, S, ρ, R, En, q.bind.mono fun k H1 ⟨m1, S1, k', e1, R1, r1, q1⟩ => ?_⟩
    cases r1
    cases k with
    | false => exact ⟨m1, S1, ρ, R1, En.ext e1, q1⟩
    | true => exact q1 m1 H1 _ .refl R1 rfl
end
end Mi
namespace Mi
open PySem L2
def wF (w : Wd) : Wd := ⟨w.K, w.cl, fun _ _ _ _ => False⟩
theorem cloop_noex {nxt : Nat → Store → Option (Option Val)} {step : Val → Store → R Unit} : ∀ (F k : Nat) (S : Store) c d S', cloop nxt step F k S ≠ .ex c d S'
  | 0, k, S, c, d, S', h => by
    unfold cloop at h
    cases e : nxt k S with
    | none => simp only [e] at h; cases h
    | some o =>
      cases o with
      | none => simp only [e] at h; cases h
      | some v => simp only [e] at h; cases h
  | F + 1, k, S, c, d, S', h => by
    unfold cloop at h
    cases e : nxt k S with
    | none => simp only [e] at h; cases h
    | some o =>
      cases o with
      | none => simp only [e] at h; cases h
      | some v =>
        simp only [e] at h
        cases e2 : step v S with
        | ok u S1 => simp only [e2] at h; exact cloop_noex F (k + 1) S1 c d S' h
        | ex _ _ _ => simp only [e2] at h; cases h
        | bad => simp only [e2] at h; cases h
/-- one turn of a comprehension -/
def cstep (C : Ctx) (own : List Nat) (t : Tg) (ifs : List E) (e : E) (ρ : Env) (D : Nat) : Val → Store → R Unit := fun v S1 => match lay S1 t v (wipeE ρ own) with
  | none => .bad
  | some ρ1 => (evT C ifs ρ1 S1).bind fun b S2 => if b then (ev C e ρ1 S2).bind fun y S3 => push D y S3 else .ok () S2
theorem ev_lc (C : Ctx) (own : List Nat) (t : Tg) (k : IK) (its ifs : List E) (e : E) (ρ : Env) (S : Store) : ev C (.lc own t k its ifs e) ρ S =
    ((evs C its ρ S).bind fun us S => R.of (start k us S) S).bind fun iv S => (cloop iv.next (cstep C own t ifs e ρ S.length) (iv.cnt S) 0 (S ++ [.lst []])).bind fun _ S1 => .ok (.ref S.length) S1 := by
  rw [ev]
  cases h : evs C its ρ S with
  | ok us S1 =>
    simp only [R.bind_ok]
    cases h2 : start k us S1 with
    | none => rfl
    | some iv => rfl
  | ex _ _ _ => rfl
  | bad => rfl
section
variable {w : Wd} {C : Ctx} {tc : TC} {X : Cx} {a b c : Expr} {a' b' c' : E} {es : List Expr} {es' : List E} {pos : Pos}
theorem lc_read {t : Tg} {k : IK} {its ifs : List E} {e : E} {own : List Nat} {σ : L2.St} {H : Hp} {Q : VK} (hown : ∀ i ∈ slots t, i ∈ own) (h : TEv w C (.lc own t k its ifs e) σ H Q) :
    tLc (TIv w C k its) (TGv (wF w) t) (TTv (wF w) C ifs) (TEv (wF w) C e) own σ H Q := by
  obtain ⟨m, S, ρ, R, En, q⟩ := h
  rw [ev_lc] at q
  refine ⟨m, S, ρ, R, En, q.bind.mono fun J H1 ⟨m1, S1, iv, e1, R1, jk, q1⟩ => ?_⟩
  intro D hD
  have En1 := En.ext e1
  generalize hF : iv.cnt S1 = F at q1
  cases hc : cloop iv.next (cstep C own t ifs e ρ S1.length) F 0 (S1 ++ [.lst []]) with
  | ex c d S' => exact absurd hc (cloop_noex _ _ _ _ _ _)
  | bad => rw [hc] at q1; exact q1.elim
  | ok u Sf =>
    rw [hc] at q1
    have q1 : ∀ m' H' z, Ext m1 H1 m' H' → Rel w.K m' Sf H' → RV w.K m' H' (.ref S1.length) z → Q z H' := q1
    have R2 := R1.new (b := .lst []) (o := .lst []) hD ⟨[], rfl, rfl⟩
    have e2 : Ext m1 H1 (m1 ++ [D]) (upd H1 D (.lst [])) := ext_new hD
    refine ⟨fun i n H2 => ∃ m2 S2, Ext (m1 ++ [D]) (upd H1 D (.lst [])) m2 H2 ∧ Rel w.K m2 S2 H2 ∧ cloop iv.next (cstep C own t ifs e ρ S1.length) n i S2 = .ok u Sf, ⟨F, m1 ++ [D], _, .refl, R2, hc⟩, ?_⟩
    rintro i n H2 ⟨m2, S2, e3, R3, hl⟩
    obtain ⟨j1, j2⟩ := jk m2 S2 H2 i (e2.trans e3) R3
    have hDi : m2[S1.length]? = some D := e3.ix R1.last
    unfold cloop at hl
    cases hx : iv.next i S2 with
    | none => simp only [hx] at hl; cases hl
    | some o =>
      cases o with
      | none =>
        simp only [hx] at hl
        cases hl
        exact .inl ⟨j1 hx, q1 m2 H2 _ (e2.trans e3) R3 ⟨D, hDi, rfl⟩⟩
      | some v =>
        cases n with
        | zero => simp only [hx] at hl; cases hl
        | succ n =>
          simp only [hx] at hl
          obtain ⟨g1, g2⟩ := j2 v hx
          refine .inr ⟨g1, fun H' => ∃ m2 S2, Ext (m1 ++ [D]) (upd H1 D (.lst [])) m2 H' ∧ Rel w.K m2 S2 H' ∧ cloop iv.next (cstep C own t ifs e ρ S1.length) n (i + 1) S2 = .ok u Sf, fun H' hN => ⟨n, Nat.lt_succ_self n, hN⟩, fun x H' hy => ?_⟩
          obtain ⟨e4, R4, rv⟩ := g2 x H' hy
          unfold cstep at hl
          cases hlay : lay S2 t v (wipeE ρ own) with
          | none => simp only [hlay] at hl; cases hl
          | some ρ1 =>
            simp only [hlay] at hl
            refine ⟨m2, S2, v, wipeE ρ own, ρ1, R4, ((En1.wipe own).ext ((e2.trans e3).trans e4)), rv, hlay, fun σ2 En2 hw => ⟨?_, ?_⟩⟩
            · rw [hw own hown]
              apply List.ext_getElem?
              intro j
              rw [wipe_at, wipe_at]
              by_cases hj : j ∈ own
              · rw [if_pos hj, if_pos hj]
                cases hh : σ[j]? <;> rfl
              · rw [if_neg hj, if_neg hj]
            · refine ⟨m2, S2, ρ1, R4, En2, ?_⟩
              cases ht : evT C ifs ρ1 S2 with
              | ex _ _ _ => simp only [ht, Mi.R.bind_ex] at hl; cases hl
              | bad => simp only [ht, Mi.R.bind_bad] at hl; cases hl
              | ok b S3 =>
                simp only [ht, Mi.R.bind_ok] at hl
                intro m3 H3 b' e5 R5 rb
                cases rb
                cases b with
                | false =>
                  simp only [Bool.false_eq_true, if_false] at hl ⊢
                  exact ⟨m3, S3, (e3.trans e4).trans e5, R5, hl⟩
                | true =>
                  simp only [if_true] at hl ⊢
                  refine ⟨m3, S3, ρ1, R5, En2.ext e5, ?_⟩
                  cases he : ev C e ρ1 S3 with
                  | ex _ _ _ => simp only [he, Mi.R.bind_ex] at hl; cases hl
                  | bad => simp only [he, Mi.R.bind_bad] at hl; cases hl
                  | ok y S4 =>
                    simp only [he, Mi.R.bind_ok] at hl
                    intro m4 H4 z e6 R6 rz
                    have hDi4 : m4[S1.length]? = some D := ((e3.trans e4).trans (e5.trans e6)).ix R1.last
                    unfold push at hl
                    cases hS : S4[S1.length]? with
                    | none => simp only [hS] at hl; cases hl
                    | some bb =>
                      obtain ⟨o, ho, hor⟩ := R6.ob _ _ _ hS hDi4
                      cases bb with
                      | lst acc =>
                        simp only [hS] at hl
                        obtain ⟨vs, rfl, hvs⟩ := hor
                        by_cases hz : acc.length < sizeLine
                        · simp only [hz, if_true] at hl
                          refine ⟨vs, ho, by rw [← hvs.len]; exact hz, m4, _, ?_, R6.set hS hDi4 (c := .lst (acc ++ [y])) ⟨_, rfl, hvs.append (RVs.cons rz RVs.nil)⟩, hl⟩
                          exact ((e3.trans e4).trans (e5.trans e6)).trans (R6.ext_set hS hDi4)
                        · simp only [hz, if_false] at hl; cases hl
                      | dK _ => simp only [hS] at hl; cases hl
                      | dT _ => simp only [hS] at hl; cases hl
                      | xd _ => simp only [hS] at hl; cases hl
end
end Mi
namespace Mi
open PySem L2
/-! ### from the text to what is evaluated -/
def kindIn (tc : TC) (x : Str) : Option NameKind := tc.sc.names.lookup x
def slotOf (tc : TC) (x : Str) : Option Nat := match kindIn tc x with
  | some .local => tc.N.idxOf? x
  | some .cell => tc.N.idxOf? x
  | some .free => tc.N.idxOf? x
  | _ => none
def isGl (tc : TC) (x : Str) : Bool := match kindIn tc x with
  | some .globalImplicit => x != "__debug__"
  | _ => false
def o2Of : Operator → Option O2
  | .Add => some .add | .Sub => some .sub | .Mult => some .mul | .FloorDiv => some .fdiv | .Mod => some .mod | .Pow => some .pow | _ => none
def cpBack : CmpOp → Cp
  | .Lt => .lt | .LtE => .le | .Gt => .gt | .GtE => .ge | .Eq => .eq | .NotEq => .ne | .Is => .isn | .IsNot => .notn | .In => .isin | .NotIn => .notin
theorem cpOf_back (o : CmpOp) : cpOf (cpBack o) = o := by cases o <;> rfl
def plainCp : Cp → Bool
  | .isin => false | .notin => false | _ => true
def notSet : Expr → Bool
  | .Set .. => false
  | _ => true
def prTab : List (Str × Nat × Pr) := [("len", 1, .len), ("sum", 1, .sum), ("max", 1, .max), ("min", 1, .min), ("max", 2, .max2), ("min", 2, .min2), ("sorted", 1, .sorted), ("abs", 1, .abs), ("str", 1, .str), ("int", 1, .int), ("all", 1, .all), ("any", 1, .any), ("list", 1, .list), ("tuple", 1, .tuple)]
def prOf (x : Str) (n : Nat) : Option Pr := (prTab.find? fun r => decide (r.1 = x) && decide (r.2.1 = n)).map (·.2.2)
def tyTab : List (Str × String) := [("int", "int"), ("bool", "bool"), ("list", "list"), ("tuple", "tuple"), ("str", "str"), ("dict", "dict")]
def meTab : List (Str × Nat × Me) := [("append", 1, .append), ("pop", 0, .pop), ("pop", 1, .popAt), ("insert", 2, .insert), ("index", 1, .index), ("extend", 1, .extend), ("reverse", 0, .reverse)]
def meOf (x : Str) (n : Nat) : Option Me := (meTab.find? fun r => decide (r.1 = x) && decide (r.2.1 = n)).map (·.2.2)
def trs (f : Expr → Option E) : List Expr → Option (List E)
  | [] => some []
  | e :: es => (f e).bind fun x => (trs f es).bind fun xs => some (x :: xs)
def trBo (mk : E → E → E) (f : Expr → Option E) : List Expr → Option E
  | [] => none
  | [a] => f a
  | a :: r => (f a).bind fun x => (trBo mk f r).bind fun y => some (mk x y)
def tgs (f : Expr → Option Tg) : List Expr → Option (List Tg)
  | [] => some []
  | e :: es => (f e).bind fun x => (tgs f es).bind fun xs => some (x :: xs)
def trG (own : List (Str × Nat)) : Nat → Expr → Option Tg
  | 0, _ => none
  | n + 1, e => match e with
    | .Name x _ => (own.lookup x).map .name
    | .Tuple es _ _ => if es.all nst then (tgs (trG own n) es).map .tup else none
    | _ => none
def isTuple : Expr → Bool
  | .Tuple .. => true
  | _ => false
/-- is it a built-in's name here, no function of the text -/
def isB (tc : TC) (x : Str) : Bool := isGl tc x && (tc.fns.lookup x).isNone && decide (x ∈ bnames)
def trI (f : Expr → Option E) (tc : TC) (t it : Expr) : Option (IK × List E) :=
  let seq := (f it).map fun e => (IK.seq, [e])
  match it with
  | .Call (.Name x _) args [] _ => if isB tc x then match args with
      | [a] => if x = "range" then (f a).map fun e => (.rng1, [e]) else if x = "enumerate" ∧ isTuple t = true then (f a).map fun e => (.enum, [e]) else if x = "reversed" then (f a).map fun e => (.rev, [e]) else seq
      | [a, b] => if x = "range" then (f a).bind fun e => (f b).map fun e' => (.rng2, [e, e']) else if x = "zip" ∧ isTuple t = true then (f a).bind fun e => (f b).map fun e' => (.zip, [e, e']) else none
      | [a, b, .Constant (.int 2) _ _] => if x = "range" then (f a).bind fun e => (f b).map fun e' => (.rng3, [e, e']) else none
      | _ => none
    else seq
  | _ => seq
/-- the names that a comprehension stores, with their slots -/
def ownOf (tc : TC) (sc : Scope) : List (Str × Nat) := sc.names.filterMap fun (x, k) => match k with
  | .local => (tc.N.idxOf? x).map fun i => (x, i)
  | .cell => (tc.N.idxOf? x).map fun i => (x, i)
  | _ => none
def TC.blk (tc : TC) (sc : Scope) : TC := { tc with sc := relS sc tc.sc, own := ownOf tc sc }
def ownOk (sc : Scope) (own : List (Str × Nat)) : Bool := own.all fun p => match sc.names.lookup p.1 with
  | some .local => true
  | some .cell => true
  | _ => false
def okT : Nat → Expr → Bool
  | 0, _ => false
  | n + 1, e => match e with
    | .IfExp .. => false
    | .UnaryOp .Not a _ => okT n a
    | .BoolOp _ vs _ => vs.all (okT n)
    | _ => true
def notSuper : Expr → Bool
  | .Call (.Name id _) [] [] _ => id != "super"
  | _ => true
def ifsOk (n : Nat) : List Expr → Bool
  | [] => true
  | [c] => okT n c
  | _ => false
def trCall (f : Expr → Option E) (tc : TC) (fn : Expr) (args : List Expr) (pos : Pos) : Option E :=
  match fn with
  | .Name x _ => if isGl tc x then match tc.fns.lookup x with
      | some i => if args.isEmpty then none else (trs f args).map fun es => .call i es
      | none => match args with
        | [a, .Name y _] => if x = "isinstance" then if isB tc y then (f a).bind fun e => (tyTab.lookup y).map fun T => .isi e T else none
            else (prOf x 2).bind fun r => (trs f args).map fun es => .pr r es
        | [.Call (.Name y _) [a] [] _] => if x = "list" ∧ y = "range" ∧ isB tc y = true then (f a).map .lrg1 else (prOf x 1).bind fun r => (trs f args).map fun es => .pr r es
        | [.Call (.Name y _) [a, b] [] _] => if x = "list" ∧ y = "range" ∧ isB tc y = true then (f a).bind fun e => (f b).map fun e' => .lrg2 e e' else (prOf x 1).bind fun r => (trs f args).map fun es => .pr r es
        | _ => (prOf x args.length).bind fun r => (trs f args).map fun es => .pr r es
    else none
  | .Attribute o m apos => if (apos.endLine == pos.line) && notSuper o then
      (meOf m args.length).bind fun r => (f o).bind fun u => (trs f args).map fun es => .me r u es
    else none
  | _ => none
def tr : Nat → TC → Expr → Option E
  | 0, _, _ => none
  | n + 1, tc, e => match e with
    | .Name x _ => if x = "__debug__" ∨ x = "__classdict__" then none else match slotOf tc x with
      | some i => some (.var i)
      | none => if isGl tc x then (tc.cst.lookup x).map .cst else none
    | .Constant c _ _ => match c with
      | .int i => some (.cst (.int i))
      | .bool b => some (.cst (.bl b))
      | .none => some (.cst .non)
      | .str x => some (.cst (.str x))
      | _ => none
    | .BinOp a o b _ => (o2Of o).bind fun p => (tr n tc a).bind fun x => (tr n tc b).map fun y => .bin p x y
    | .UnaryOp o a _ => match o with
      | .USub => (tr n tc a).map .neg
      | .Not => (tr n tc a).map .not
      | _ => none
    | .BoolOp o vs _ => match o with
      | .And => trBo .and (tr n tc) vs
      | .Or => trBo .or (tr n tc) vs
    | .Compare a os bs _ => match os, bs with
      | [o], [b] => if notSet b then (tr n tc a).bind fun x => (tr n tc b).map fun y => .cmp (cpBack o) x y else none
      | [o, p], [b, c] => if plainCp (cpBack o) && plainCp (cpBack p) && notSet b && notSet c then (tr n tc a).bind fun x => (tr n tc b).bind fun y => (tr n tc c).map fun z => .chain (cpBack o) (cpBack p) x y z else none
      | _, _ => none
    | .IfExp c a b _ => if okT n c then (tr n tc c).bind fun z => (tr n tc a).bind fun x => (tr n tc b).map fun y => .ite z x y else none
    | .Subscript a i _ => match i with
      | .Slice lo hi st _ => match lo, hi, st with
        | some l, some h, none => (tr n tc a).bind fun x => (tr n tc l).bind fun y => (tr n tc h).map fun z => .slB x y z
        | some l, none, some k => (tr n tc a).bind fun x => (tr n tc l).bind fun y => (tr n tc k).map fun z => .slS x y z
        | some l, none, none => (tr n tc a).bind fun x => (tr n tc l).map fun y => .slL x y
        | none, some h, none => (tr n tc a).bind fun x => (tr n tc h).map fun y => .slH x y
        | none, none, none => (tr n tc a).map .slA
        | none, none, some (.UnaryOp .USub (.Constant (.int 1) _ _) _) => (tr n tc a).map .slR
        | _, _, _ => none
      | i => (tr n tc a).bind fun x => (tr n tc i).map fun y => .sub x y
    | .List es _ => (trs (tr n tc) es).map .lst
    | .Tuple es _ _ => (trs (tr n tc) es).map .tup
    | .Dict ks vs pos => match ks, vs with
      | [], [] => if pos.line ∈ tc.dts then some .dT else some .dK
      | _, _ => none
    | .Call f args kws pos => match kws with
      | [] => trCall (tr n tc) tc f args pos
      | _ => none
    | .ListComp elt gens sc _ => match gens with
      | [⟨t, it, ifs, 0⟩] => if blkC tc.N tc.sc sc (ownOf tc sc) && ownOk sc (ownOf tc sc) && notSet it && ifsOk n ifs then
          (trG (ownOf tc sc) n t).bind fun t' => (trI (tr n tc) tc t it).bind fun r => (trs (tr n (tc.blk sc)) ifs).bind fun cs => (tr n (tc.blk sc) elt).map fun e => .lc ((ownOf tc sc).map (·.2)) t' r.1 r.2 cs e
        else none
      | _ => none
    | _ => none
/-! ### it is sound -/
theorem idx_get {N : List Str} {x : Str} {i : Nat} (h : N.idxOf? x = some i) : N[i]? = some x := by
  unfold List.idxOf? at h
  obtain ⟨hi, h1, _⟩ := List.findIdx?_eq_some_iff_getElem.mp h
  rw [List.getElem?_eq_getElem hi]
  simpa using h1
theorem bnd {α β : Type} {o : Option α} {f : α → Option β} {b : β} (h : o.bind f = some b) : ∃ a, o = some a ∧ f a = some b := by
  cases o with
  | none => cases h
  | some a => exact ⟨a, rfl, h⟩
theorem mpp {α β : Type} {o : Option α} {f : α → β} {b : β} (h : o.map f = some b) : ∃ a, o = some a ∧ f a = b := by
  cases o with
  | none => cases h
  | some a => exact ⟨a, rfl, Option.some.inj h⟩
theorem tr_nst {n : Nat} {tc : TC} {e : Expr} {e' : E} (h : tr n tc e = some e') : nst e = true := by
  cases n with
  | zero => cases h
  | succ n => cases e <;> first | rfl | (cases h)
theorem isGl_gl {w : Wd} {C : Ctx} {tc : TC} {X : Cx} {x : Str} (ok : CxOk w C tc X) (h : isGl tc x = true) : Gl X x ∧ (x == ("__debug__" : Str)) = false := by
  unfold isGl kindIn at h
  split at h
  · rename_i e
    refine ⟨?_, by simpa using h⟩
    show X.env.scope.names.lookup x = _
    rw [ok.sc]
    exact e
  · cases h
theorem pr_has : ∀ r ∈ prTab, bootBuiltins r.1 = some (prF r.2.2) ∧ r.1 ∈ bnames ∧ r.1 ≠ "__name__" := by
  intro r hr
  simp only [prTab, List.mem_cons, List.not_mem_nil, or_false] at hr
  rcases hr with rfl | rfl | rfl | rfl | rfl | rfl | rfl | rfl | rfl | rfl | rfl | rfl | rfl | rfl <;> exact ⟨by decide +kernel, by decide +kernel, by decide +kernel⟩
theorem prOf_has {x : Str} {n : Nat} {r : Pr} (h : prOf x n = some r) : bootBuiltins x = some (prF r) ∧ x ∈ bnames ∧ x ≠ "__name__" := by
  unfold prOf at h
  obtain ⟨t, h1, rfl⟩ := mpp h
  have h2 := List.find?_some h1
  have h3 := pr_has t (List.mem_of_find?_eq_some h1)
  simp only [Bool.and_eq_true, decide_eq_true_eq] at h2; rw [← h2.1]
  exact h3
theorem ty_has : ∀ r ∈ tyTab, bootBuiltins r.1 = some (.type r.2) ∧ r.1 ≠ "__name__" := by
  intro r hr
  simp only [tyTab, List.mem_cons, List.not_mem_nil, or_false] at hr
  rcases hr with rfl | rfl | rfl | rfl | rfl | rfl <;> exact ⟨by decide +kernel, by decide +kernel⟩
structure MeOk (nm : Str) (r : Me) : Prop where
  pa : PySem.PlainAttrs (meT r)
  sl : PySem.Slot (meT r) nm (meId r)
  ty : PySem.typeOf (.builtin (meId r)) = pure (.type "method_descriptor")
theorem me_has : ∀ r ∈ meTab, MeOk r.1 r.2.2 ∧ r.2.1 < 28 := by
  intro r hr
  simp only [meTab, List.mem_cons, List.not_mem_nil, or_false] at hr
  rcases hr with rfl | rfl | rfl | rfl | rfl | rfl | rfl
  · exact ⟨⟨PySem.F.plainAttrs_list, PySem.F.slot_list_append, PySem.F.type_list_append⟩, by decide⟩
  · exact ⟨⟨PySem.F.plainAttrs_list, PySem.F.slot_list_pop, PySem.F.type_list_pop⟩, by decide⟩
  · exact ⟨⟨PySem.F.plainAttrs_list, PySem.F.slot_list_pop, PySem.F.type_list_pop⟩, by decide⟩
  · exact ⟨⟨PySem.F.plainAttrs_list, PySem.F.slot_list_insert, PySem.F.type_list_insert⟩, by decide⟩
  · exact ⟨⟨PySem.F.plainAttrs_list, PySem.F.slot_list_index, PySem.F.type_list_index⟩, by decide⟩
  · exact ⟨⟨PySem.F.plainAttrs_list, PySem.F.slot_list_extend, PySem.F.type_list_extend⟩, by decide⟩
  · exact ⟨⟨PySem.F.plainAttrs_list, PySem.F.slot_list_reverse, PySem.F.type_list_reverse⟩, by decide⟩
theorem meOf_has {x : Str} {n : Nat} {r : Me} (h : meOf x n = some r) : MeOk x r ∧ n < 28 := by
  unfold meOf at h
  obtain ⟨t, h1, rfl⟩ := mpp h
  have h2 := List.find?_some h1
  have h3 := me_has t (List.mem_of_find?_eq_some h1)
  simp only [Bool.and_eq_true, decide_eq_true_eq] at h2; rw [← h2.1, ← h2.2]
  exact h3
end Mi
namespace Mi
open PySem L2
section
variable {w : Wd} {C : Ctx} {tc : TC} {X : Cx}
theorem notSet_m {b : Expr} (h : notSet b = true) : (match (generalizing := false) b with | .Set .. => false | _ => true) = true := by
  cases b <;> first | rfl | (exact Bool.noConfusion h)
theorem trs_ok {f : Expr → Option E} (hf : ∀ e e', f e = some e' → nst e = true ∧ PE X e (TEv w C e')) : ∀ {es : List Expr} {es' : List E}, trs f es = some es' → PA X es (TAv w C es') ∧ es.all nst = true
  | [], es', h => by cases h; exact ⟨sa_nil, rfl⟩
  | e :: es, es', h => by
    unfold trs at h
    obtain ⟨x, h1, h⟩ := bnd h
    obtain ⟨xs, h2, h⟩ := bnd h
    cases h
    obtain ⟨a1, a2⟩ := hf e x h1
    obtain ⟨b1, b2⟩ := trs_ok hf h2
    exact ⟨sa_cons a1 a2 b1, by rw [List.all_cons, a1, b2]; rfl⟩
theorem trBo_and {pos : Pos} (ok : CxOk w C tc X) {f : Expr → Option E} (hf : ∀ e e', f e = some e' → PE X e (TEv w C e')) : ∀ {es : List Expr} {e' : E}, trBo .and f es = some e' → PE X (.BoolOp .And es pos) (TEv w C e')
  | [], _, h => by cases h
  | [a], e', h => pe_one (hf a e' h)
  | a :: b :: r, e', h => by
    unfold trBo at h
    obtain ⟨x, h1, h⟩ := bnd h
    obtain ⟨y, h2, h⟩ := bnd h
    cases h
    exact se_and ok (hf a x h1) (trBo_and ok hf h2)
theorem trBo_or {pos : Pos} (ok : CxOk w C tc X) {f : Expr → Option E} (hf : ∀ e e', f e = some e' → PE X e (TEv w C e')) : ∀ {es : List Expr} {e' : E}, trBo .or f es = some e' → PE X (.BoolOp .Or es pos) (TEv w C e')
  | [], _, h => by cases h
  | [a], e', h => pe_one (hf a e' h)
  | a :: b :: r, e', h => by
    unfold trBo at h
    obtain ⟨x, h1, h⟩ := bnd h
    obtain ⟨y, h2, h⟩ := bnd h
    cases h
    exact se_or ok (hf a x h1) (trBo_or ok hf h2)
theorem trBo_andT {pos : Pos} {f : Expr → Option E} : ∀ {es : List Expr} {e' : E}, (∀ e e', e ∈ es → f e = some e' → PT X e (TTv w C [e'])) → trBo .and f es = some e' → PW X (.BoolOp .And es pos) (TTv w C [e'])
  | [], _, _, h => by cases h
  | [a], e', hf, h => pw_and1 (hf a e' (by simp) h)
  | a :: b :: r, e', hf, h => by
    unfold trBo at h
    obtain ⟨x, h1, h⟩ := bnd h
    obtain ⟨y, h2, h⟩ := bnd h
    cases h
    exact st_and (hf a x (by simp) h1) (trBo_andT (fun e e' he => hf e e' (List.mem_cons_of_mem _ he)) h2)
theorem trBo_orT {pos : Pos} {f : Expr → Option E} : ∀ {es : List Expr} {e' : E}, (∀ e e', e ∈ es → f e = some e' → PT X e (TTv w C [e'])) → trBo .or f es = some e' → PW X (.BoolOp .Or es pos) (TTv w C [e'])
  | [], _, _, h => by cases h
  | [a], e', hf, h => pw_or1 (hf a e' (by simp) h)
  | a :: b :: r, e', hf, h => by
    unfold trBo at h
    obtain ⟨x, h1, h⟩ := bnd h
    obtain ⟨y, h2, h⟩ := bnd h
    cases h
    exact st_or (hf a x (by simp) h1) (trBo_orT (fun e e' he => hf e e' (List.mem_cons_of_mem _ he)) h2)
theorem trG_ok (ok : CxOk w C tc X) : ∀ (n : Nat) {t : Expr} {t' : Tg}, trG tc.own n t = some t' → PG X t (TGv w t') ∧ ∀ i ∈ slots t', i ∈ tc.own.map (·.2)
  | 0, _, _, h => by cases h
  | n + 1, t, t', h => by
    unfold trG at h
    split at h
    · obtain ⟨i, h1, rfl⟩ := mpp h
      have hm := PySem.mem_of_lookup h1
      refine ⟨sg_name ok hm, fun j hj => ?_⟩
      have : j = i := by simpa [slots] using hj
      subst this
      exact List.mem_map.mpr ⟨_, hm, rfl⟩
    · rename_i es _ _
      split at h
      · rename_i hn
        obtain ⟨ts, h1, rfl⟩ := mpp h
        have all : ∀ {es : List Expr} {ts : List Tg}, es.all nst = true → tgs (trG tc.own n) es = some ts → PGs X es (TGsv w ts) ∧ ts.length = es.length ∧ ∀ i ∈ slotss ts, i ∈ tc.own.map (·.2) := by
          intro es
          induction es with
          | nil => intro ts _ h; cases h; exact ⟨sgs_nil, rfl, fun i hi => by simp [slotss] at hi⟩
          | cons e es ih =>
            intro ts hn h
            rw [List.all_cons, Bool.and_eq_true] at hn
            unfold tgs at h
            obtain ⟨x, h1, h⟩ := bnd h
            obtain ⟨xs, h2, h⟩ := bnd h
            cases h
            obtain ⟨a1, a2⟩ := trG_ok ok n h1
            obtain ⟨b1, b2, b3⟩ := ih hn.2 h2
            refine ⟨sgs_cons hn.1 a1 b1, by rw [List.length_cons, List.length_cons, b2], fun i hi => ?_⟩
            unfold slotss at hi
            rcases List.mem_append.mp hi with hi | hi
            · exact a2 i hi
            · exact b3 i hi
        obtain ⟨b1, b2, b3⟩ := all hn h1
        exact ⟨sg_tup ok hn b2 b1, fun i hi => b3 i (by unfold slots at hi; exact hi)⟩
      · cases h
    · cases h
theorem isB_has {x : Str} (ok : CxOk w C tc X) (h : isB tc x = true) : Gl X x ∧ X.mg x = none ∧ (x == ("__debug__" : Str)) = false := by
  unfold isB at h
  simp only [Bool.and_eq_true, decide_eq_true_eq] at h; obtain ⟨g1, g2⟩ := isGl_gl ok h.1.1
  exact ⟨g1, ok.blt x h.2, g2⟩
theorem trI_ok {f : Expr → Option E} (ok : CxOk w C tc X) (hf : ∀ e e', f e = some e' → nst e = true ∧ PE X e (TEv w C e')) {t it : Expr} {r : IK × List E} (h : trI f tc t it = some r) : PI X t it (TIv w C r.1 r.2) := by
  have seq : ∀ {it : Expr} {r : IK × List E}, ((f it).map fun e => (IK.seq, [e])) = some r → PI X t it (TIv w C r.1 r.2) := by
    intro it r h
    obtain ⟨e, h1, rfl⟩ := mpp h
    exact si_seq ok (hf _ _ h1).2
  have tup : isTuple t = true → ∃ es k p, t = .Tuple es k p := by
    intro h
    cases t <;> first | exact ⟨_, _, _, rfl⟩ | exact Bool.noConfusion h
  unfold trI at h
  split at h
  · rename_i x p args q
    split at h
    · rename_i hb
      obtain ⟨g1, g2, g3⟩ := isB_has ok hb
      split at h
      · rename_i a
        split at h
        · rename_i hx
          subst hx
          obtain ⟨e, h1, rfl⟩ := mpp h
          obtain ⟨a1, a2⟩ := hf _ _ h1
          exact si_rng1 ok g1 a1 a2
        · split at h
          · rename_i hx
            obtain ⟨rfl, ht⟩ := hx
            obtain ⟨e, h1, rfl⟩ := mpp h
            obtain ⟨a1, a2⟩ := hf _ _ h1
            obtain ⟨es, k, pp, rfl⟩ := tup ht
            exact si_enum ok g1 a1 a2
          · split at h
            · rename_i hx
              subst hx
              obtain ⟨e, h1, rfl⟩ := mpp h
              obtain ⟨a1, a2⟩ := hf _ _ h1
              exact si_rev ok g1 a1 a2
            · exact seq h
      · rename_i a b
        split at h
        · rename_i hx
          subst hx
          obtain ⟨e, h1, h⟩ := bnd h
          obtain ⟨e2, h2, rfl⟩ := mpp h
          obtain ⟨a1, a2⟩ := hf _ _ h1
          obtain ⟨b1, b2⟩ := hf _ _ h2
          exact si_rng2 ok g1 a1 b1 a2 b2
        · split at h
          · rename_i hx
            obtain ⟨rfl, ht⟩ := hx
            obtain ⟨e, h1, h⟩ := bnd h
            obtain ⟨e2, h2, rfl⟩ := mpp h
            obtain ⟨a1, a2⟩ := hf _ _ h1
            obtain ⟨b1, b2⟩ := hf _ _ h2
            obtain ⟨es, k, pp, rfl⟩ := tup ht
            exact si_zip ok g1 a1 b1 a2 b2
          · cases h
      · rename_i a b _ _
        split at h
        · rename_i hx
          subst hx
          obtain ⟨e, h1, h⟩ := bnd h
          obtain ⟨e2, h2, rfl⟩ := mpp h
          obtain ⟨a1, a2⟩ := hf _ _ h1
          obtain ⟨b1, b2⟩ := hf _ _ h2
          exact si_rng3 ok g1 a1 b1 a2 b2
        · cases h
      · cases h
    · exact seq h
  · exact seq h
theorem trCall_ok {f : Expr → Option E} (ok : CxOk w C tc X) (hf : ∀ e e', f e = some e' → nst e = true ∧ PE X e (TEv w C e')) {fn : Expr} {args : List Expr} {pos : Pos} {r : E} (h : trCall f tc fn args pos = some r) : PE X (.Call fn args [] pos) (TEv w C r) := by
  have prim : ∀ {x : Str} {p : Pos} {k : Nat} {args : List Expr} {r : E}, isGl tc x = true → k = args.length → ((prOf x k).bind fun r => (trs f args).map fun es => E.pr r es) = some r → PE X (.Call (.Name x p) args [] pos) (TEv w C r) := by
    intro x p k args r hg hk h
    obtain ⟨q, h1, h⟩ := bnd h
    obtain ⟨es, h2, rfl⟩ := mpp h
    obtain ⟨g1, g2⟩ := isGl_gl ok hg
    obtain ⟨b1, b2, b3⟩ := prOf_has h1
    obtain ⟨a1, a2⟩ := trs_ok hf h2
    cases args with
    | nil =>
      subst hk
      exfalso
      unfold prOf at h1
      obtain ⟨t, h3, _⟩ := mpp h1
      have h4 := List.find?_some h3
      have h5 := List.mem_of_find?_eq_some h3
      simp only [Bool.and_eq_true, decide_eq_true_eq] at h4
      have : ∀ t ∈ prTab, t.2.1 ≠ 0 := by decide
      exact this t h5 h4.2
    | cons a es =>
      rw [List.all_cons, Bool.and_eq_true] at a2
      exact se_pr ok g1 (ok.blt _ b2) b1 b3 g2 a2.1 a2.2 a1
  unfold trCall at h
  split at h
  · rename_i x p
    split at h
    · rename_i hg
      obtain ⟨g1, g2⟩ := isGl_gl ok hg
      split at h
      · rename_i i hi
        split at h
        · cases h
        · obtain ⟨es, h2, rfl⟩ := mpp h
          obtain ⟨a1, a2⟩ := trs_ok hf h2
          cases args with
          | nil => rename_i hh; exact absurd rfl hh
          | cons a es =>
            rw [List.all_cons, Bool.and_eq_true] at a2
            cases hC : C i with
            | none =>
              refine pe_imp pe_never fun σ H Q ⟨m, S, ρ, R, En, q⟩ => ?_
              unfold ev at q
              simp only [hC] at q
              exact q
            | some ng =>
              obtain ⟨n, g⟩ := ng
              exact se_call ok hC (ok.fns x i n g hi hC) g1 g2 a2.1 a2.2 a1
      · split at h
        · rename_i a y p2
          split at h
          · rename_i hx
            subst hx
            split at h
            · rename_i hb
              obtain ⟨e, h1, h⟩ := bnd h
              obtain ⟨T, h2, rfl⟩ := mpp h
              obtain ⟨k1, k2, k3⟩ := isB_has ok hb
              obtain ⟨t1, t2⟩ := ty_has _ (PySem.mem_of_lookup h2)
              obtain ⟨a1, a2⟩ := hf _ _ h1
              exact se_isi ok g1 (ok.blt _ (by decide)) PyProof.Rows.boot_isinstance (by decide) g2 k1 k2 t1 t2 k3 a1 a2
            · cases h
          · exact prim hg rfl h
        · rename_i y p3 a p4 _
          split at h
          · rename_i hx
            obtain ⟨rfl, rfl, hb⟩ := hx
            obtain ⟨e, h1, rfl⟩ := mpp h
            obtain ⟨k1, k2, k3⟩ := isB_has ok hb
            obtain ⟨a1, a2⟩ := hf _ _ h1
            exact se_lrg1 (x := "list") (y := "range") ok g1 k1 a1 a2
          · exact prim hg rfl h
        · rename_i y p3 a b p4 _
          split at h
          · rename_i hx
            obtain ⟨rfl, rfl, hb⟩ := hx
            obtain ⟨e, h1, h⟩ := bnd h
            obtain ⟨e2, h2, rfl⟩ := mpp h
            obtain ⟨k1, k2, k3⟩ := isB_has ok hb
            obtain ⟨a1, a2⟩ := hf _ _ h1
            obtain ⟨b1, b2⟩ := hf _ _ h2
            exact se_lrg2 ok g1 k1 a1 b1 a2 b2
          · exact prim hg rfl h
        · exact prim hg rfl h
    · cases h
  · rename_i o m apos
    split at h
    · rename_i hh
      rw [Bool.and_eq_true] at hh
      obtain ⟨q, h1, h⟩ := bnd h
      obtain ⟨u, h2, h⟩ := bnd h
      obtain ⟨es, h3, rfl⟩ := mpp h
      obtain ⟨⟨m1, m2, m3⟩, m4⟩ := meOf_has h1
      obtain ⟨a1, a2⟩ := trs_ok hf h3
      have hb : ∀ env whole, attributeBase o m env whole = whole := fun env whole => attr_base (by
        have := hh.2
        unfold notSuper at this
        exact this)
      cases args with
      | nil =>
        cases h3
        exact se_me0 ok m1 m2 m3 hb hh.1 (hf _ _ h2).2
      | cons a es =>
        rw [List.all_cons, Bool.and_eq_true] at a2
        exact se_me ok m1 m2 m3 hb hh.1 (by rw [List.length_cons] at m4; omega) a2.1 a2.2 (hf _ _ h2).2 a1
    · cases h
  · cases h
end
end Mi
namespace Mi
open PySem L2
section
variable {w : Wd} {C : Ctx} {tc : TC} {X : Cx}
theorem notSet_fold {it : Expr} {env : PySem.Env} (h : notSet it = true) : ∀ x, foldedSetIterable it env x = pure x := by
  intro x
  cases it <;> first | rfl | (exact Bool.noConfusion h)
theorem own_mem {sc : Scope} {p : Str × Nat} (h : p ∈ ownOf tc sc) : tc.N[p.2]? = some p.1 := by
  unfold ownOf at h
  obtain ⟨⟨x, k⟩, _, h2⟩ := List.mem_filterMap.mp h
  cases k <;> first | (cases h2; done) | (obtain ⟨i, h3, rfl⟩ := mpp h2; exact idx_get h3)
theorem CxOk.blk (ok : CxOk w C tc X) {sc : Scope} (ho : ownOk sc (ownOf tc sc) = true) (s : Shared) (H : Hp) (Cc : Addr) (cl : List (Str × Addr)) (fp : List Addr) :
    CxOk (wF w) C (tc.blk sc) (X.blk s H sc (compEnvC sc cl Cc X.env) fp) where
  K := ok.K
  calm := ok.calm
  sc := by
    show relabel sc X.env = relS sc tc.sc
    rw [← ok.sc]
    rfl
  N := ok.N
  nd := ok.nd
  hu := ok.hu
  blt := ok.blt
  fns := fun x f n g h1 h2 => by
    obtain ⟨k, fa, fd, ps, F, hr, hm, hk, hb⟩ := (ok.fns x f n g h1 h2).has
    exact ⟨k, fa, fd, ps, F, hr, hm, hk, hb⟩
  cst := ok.cst
  cls := ok.cls
  tk := fun u s' ⟨a, B, sI, pins, σ, H, cls, d, e, I, nb, up, sky, na, os, ag, w⟩ => w.elim
  sto := fun p hp => by
    have h1 := own_mem hp
    have h2 := (List.all_eq_true.mp ho) p hp
    refine ⟨by rw [show (X.blk s H sc (compEnvC sc cl Cc X.env) fp).N = X.N from rfl, ok.N]; exact h1, ?_⟩
    split at h2
    · rename_i e
      have h3 : (relabel sc X.env).names.lookup p.1 = some .local := lookup_relS_keep (sc := X.env.scope) (by decide) e
      exact ⟨.inl h3, .inr h3⟩
    · rename_i e
      have h3 : (relabel sc X.env).names.lookup p.1 = some .cell := lookup_relS_keep (sc := X.env.scope) (by decide) e
      refine ⟨.inr h3, .inl ?_⟩
      show (sc.names.lookup p.1 == some .cell) = true
      rw [e]
      rfl
    · cases h2
theorem slot_vis {x : Str} {i : Nat} (ok : CxOk w C tc X) (h : slotOf tc x = some i) : X.N[i]? = some x ∧ Vis X.env.scope x := by
  unfold slotOf kindIn at h
  split at h <;> first | (cases h; done) | skip
  · rename_i e
    exact ⟨by rw [ok.N]; exact idx_get h, .inl (by rw [ok.sc]; exact e)⟩
  · rename_i e
    exact ⟨by rw [ok.N]; exact idx_get h, .inr (.inl (by rw [ok.sc]; exact e))⟩
  · rename_i e
    exact ⟨by rw [ok.N]; exact idx_get h, .inr (.inr (by rw [ok.sc]; exact e))⟩
theorem plain_ne {o : CmpOp} (h : plainCp (cpBack o) = true) : cpBack o ≠ .isin ∧ cpBack o ≠ .notin := by
  cases o <;> first | (cases h; done) | (refine ⟨?_, ?_⟩ <;> (intro e; cases e))
theorem lm2 {o p : CmpOp} {b c : Expr} (h : notSet c = true) : lastMarks [o, p] [b, c] = false := nomark' (notSet_m h)
theorem o2_has {o : Operator} {p : O2} (h : o2Of o = some p) : o = match (generalizing := false) p with | .add => .Add | .sub => .Sub | .mul => .Mult | .fdiv => .FloorDiv | .mod => .Mod | .pow => .Pow := by
  cases o <;> first | (cases h; rfl) | (cases h; done)
theorem trs_pts {f : Expr → Option E} {n : Nat} (hf : ∀ e e', f e = some e' → okT n e = true → PT X e (TTv w C [e'])) {ifs : List Expr} {cs : List E} (h : trs f ifs = some cs) (hn : ifsOk n ifs = true) : PTs X ifs (TTv w C cs) := by
  match ifs, h, hn with
  | [], h, _ =>
    cases h
    refine ⟨fun pins s σ H Q I q => pts_nil.run pins s σ H Q I ?_⟩
    obtain ⟨m, S, ρ, R, En, q⟩ := q
    unfold evT at q
    exact q m H true .refl R rfl
  | [c], h, hn =>
    unfold trs at h
    obtain ⟨x, h1, h⟩ := bnd h
    cases h
    exact pts_one (hf _ _ h1 hn)
  | _ :: _ :: _, _, hn => cases hn
/-- what a text's translation computes is what the text does -/
theorem tr_ok : ∀ (n : Nat) {w : Wd} {tc : TC} {X : Cx} {e : Expr} {e' : E}, CxOk w C tc X → tr n tc e = some e' → PE X e (TEv w C e') ∧ (okT n e = true → PT X e (TTv w C [e'])) := by
  intro n
  induction n with
  | zero => intro w tc X e e' _ h; cases h
  | succ n ih =>
  intro w tc X e e' ok h
  have hE : ∀ {e e'}, tr n tc e = some e' → PE X e (TEv w C e') := fun h => (ih ok h).1
  have hA : ∀ e e', tr n tc e = some e' → nst e = true ∧ PE X e (TEv w C e') := fun e e' h => ⟨tr_nst h, (ih ok h).1⟩
  have plain : ∀ {e : Expr} {e' : E}, noIf e = true → PE X e (TEv w C e') → PE X e (TEv w C e') ∧ (okT (n + 1) e = true → PT X e (TTv w C [e'])) := fun hn h => ⟨h, fun _ => st_plain ok hn h⟩
  unfold tr at h
  split at h
  · rename_i x p
    refine plain rfl ?_
    split at h
    · cases h
    · rename_i hx
      simp only [not_or] at hx
      split at h
      · rename_i i hi
        cases h
        obtain ⟨h1, h2⟩ := slot_vis ok hi
        exact se_var ok h1 h2 (by simpa using hx.1) (by simpa using hx.2)
      · split at h
        · rename_i hg
          obtain ⟨v, h1, rfl⟩ := mpp h
          obtain ⟨g1, g2⟩ := isGl_gl ok hg
          obtain ⟨u, z, c1, c2, c3⟩ := ok.cst _ _ h1
          exact se_cst (pe_glob g1 c1 c2 g2) (by rw [← ok.K]; exact c3)
        · cases h
  · rename_i c k p
    refine plain rfl ?_
    split at h
    · cases h
      exact se_cst pe_int fun m H => rfl
    · cases h
      exact se_cst pe_bl fun m H => rfl
    · cases h
      exact se_cst pe_non fun m H => rfl
    · cases h
      exact se_cst pe_str fun m H => rfl
    · cases h
  · rename_i a o b p
    refine plain rfl ?_
    obtain ⟨q, h1, h⟩ := bnd h
    obtain ⟨x, h2, h⟩ := bnd h
    obtain ⟨y, h3, rfl⟩ := mpp h
    exact se_bin ok (o2_has h1) (hE h2) (hE h3)
  · rename_i o a p
    split at h
    · obtain ⟨x, h1, rfl⟩ := mpp h
      exact plain rfl (se_neg ok (hE h1))
    · obtain ⟨x, h1, rfl⟩ := mpp h
      refine ⟨se_not ok (hE h1), fun ht => ?_⟩
      unfold okT at ht
      exact st_not ((ih ok h1).2 ht)
    · cases h
  · rename_i o vs p
    split at h
    · refine ⟨trBo_and ok (fun e e' h => hE h) h, fun ht => PW.pt ?_⟩
      unfold okT at ht
      exact trBo_andT (fun e e' he h => (ih ok h).2 (List.all_eq_true.mp ht e he)) h
    · refine ⟨trBo_or ok (fun e e' h => hE h) h, fun ht => PW.pt ?_⟩
      unfold okT at ht
      exact trBo_orT (fun e e' he h => (ih ok h).2 (List.all_eq_true.mp ht e he)) h
  · rename_i a os bs p
    split at h
    · rename_i o b
      split at h
      · rename_i hs
        obtain ⟨x, h1, h⟩ := bnd h
        obtain ⟨y, h2, rfl⟩ := mpp h
        have := se_cmp (o := cpBack o) (pos := p) ok (notSet_m hs) (hE h1) (hE h2)
        have t := st_cmp (o := cpBack o) (pos := p) ok (notSet_m hs) (hE h1) (hE h2)
        rw [cpOf_back] at this t
        exact ⟨this, fun _ => t⟩
      · cases h
    · rename_i o q b c
      split at h
      · rename_i hs
        simp only [Bool.and_eq_true] at hs
        obtain ⟨⟨⟨s1, s2⟩, s3⟩, s4⟩ := hs
        obtain ⟨x, h1, h⟩ := bnd h
        obtain ⟨y, h2, h⟩ := bnd h
        obtain ⟨z, h3, rfl⟩ := mpp h
        obtain ⟨n1, n2⟩ := plain_ne s1
        obtain ⟨n3, n4⟩ := plain_ne s2
        have := se_chain (o := cpBack o) (p := cpBack q) (pos := p) ok n1 n2 n3 n4 (lm2 s4) (hE h1) (hE h2) (hE h3)
        have t := st_chain (o := cpBack o) (p := cpBack q) (pos := p) ok n1 n2 n3 n4 (lm2 s4) (hE h1) (hE h2) (hE h3)
        rw [cpOf_back, cpOf_back] at this t
        exact ⟨this, fun _ => t⟩
      · cases h
    · cases h
  · rename_i c a b p
    split at h
    · rename_i hc
      obtain ⟨z, h1, h⟩ := bnd h
      obtain ⟨x, h2, h⟩ := bnd h
      obtain ⟨y, h3, rfl⟩ := mpp h
      refine ⟨se_ite ok ((ih ok h1).2 hc) (hE h2) (hE h3), fun ht => ?_⟩
      unfold okT at ht
      cases ht
    · cases h
  · rename_i a i p
    refine plain rfl ?_
    split at h
    · split at h
      · obtain ⟨x, h1, h⟩ := bnd h
        obtain ⟨y, h2, h⟩ := bnd h
        obtain ⟨z, h3, rfl⟩ := mpp h
        exact se_slB ok (hE h1) (hE h2) (hE h3)
      · obtain ⟨x, h1, h⟩ := bnd h
        obtain ⟨y, h2, h⟩ := bnd h
        obtain ⟨z, h3, rfl⟩ := mpp h
        exact se_slS ok (hE h1) (hE h2) (hE h3)
      · obtain ⟨x, h1, h⟩ := bnd h
        obtain ⟨y, h2, rfl⟩ := mpp h
        exact se_slL ok (hE h1) (hE h2)
      · obtain ⟨x, h1, h⟩ := bnd h
        obtain ⟨y, h2, rfl⟩ := mpp h
        exact se_slH ok (hE h1) (hE h2)
      · obtain ⟨x, h1, rfl⟩ := mpp h
        exact se_slA ok (hE h1)
      · obtain ⟨x, h1, rfl⟩ := mpp h
        exact se_slR ok (hE h1)
      · cases h
    · rename_i hns
      obtain ⟨x, h1, h⟩ := bnd h
      obtain ⟨y, h2, rfl⟩ := mpp h
      refine se_sub ok ?_ (hE h1) (hE h2)
      cases i <;> first | rfl | (exact absurd rfl (hns _ _ _ _))
  · rename_i es p
    refine plain rfl ?_
    obtain ⟨x, h1, rfl⟩ := mpp h
    exact se_lst ok (trs_ok hA h1).1
  · rename_i es k p
    refine plain rfl ?_
    obtain ⟨x, h1, rfl⟩ := mpp h
    exact se_tup ok (trs_ok hA h1).1
  · rename_i ks vs p
    refine plain rfl ?_
    split at h
    · split at h
      · cases h; exact se_dT ok
      · cases h; exact se_dK ok
    · cases h
  · rename_i f args kws p
    refine plain rfl ?_
    split at h
    · exact trCall_ok ok hA h
    · cases h
  · rename_i elt gens sc p
    refine plain rfl ?_
    split at h
    · rename_i t it ifs
      split at h
      · rename_i hh
        simp only [Bool.and_eq_true] at hh
        obtain ⟨⟨⟨k1, k2⟩, k3⟩, k4⟩ := hh
        obtain ⟨t', h1, h⟩ := bnd h
        obtain ⟨r, h2, h⟩ := bnd h
        obtain ⟨cs, h3, h⟩ := bnd h
        obtain ⟨e1, h4, rfl⟩ := mpp h
        have hsl := (trG_ok (w := wF w) (C := C) (tc := tc.blk sc) (ok.blk k2 X.s_0 X.H_0 0 [] []) n h1).2
        refine pe_imp (pe_lc (own := ownOf tc sc) ok.calm (by rw [ok.N]; exact ok.nd) (trI_ok ok hA h2) (blkOk_by (by rw [ok.N, ok.sc]; exact k1))
          (fun s H Cc cl fp => (trG_ok (ok.blk k2 s H Cc cl fp) n h1).1) (fun s H Cc cl fp => ?_) (fun s H Cc cl fp => (ih (ok.blk k2 s H Cc cl fp) h4).1) (notSet_fold k3)) (fun σ H Q q => lc_read hsl q)
        exact trs_pts (n := n) (fun e e' he ht => (ih (ok.blk k2 s H Cc cl fp) he).2 ht) h3 k4
      · cases h
    · cases h
  · cases h
end
end Mi
namespace Mi
open PySem L2
/-! ### statements, by what they are worth -/
def Sst (w : Wd) (m : List Addr) (H : Hp) (o : SO) (D : Ends) : Prop := match o with
  | .nx ρ S => ∀ m' H' σ', Ext m H m' H' → Rel w.K m' S H' → REnv w.K m' H' ρ σ' → D.nx σ' H'
  | .bk ρ S => ∀ m' H' σ', Ext m H m' H' → Rel w.K m' S H' → REnv w.K m' H' ρ σ' → D.bk σ' H'
  | .ct ρ S => ∀ m' H' σ', Ext m H m' H' → Rel w.K m' S H' → REnv w.K m' H' ρ σ' → D.ct σ' H'
  | .rt v S => ∀ m' H' z, Ext m H m' H' → Rel w.K m' S H' → RV w.K m' H' v z → D.rt z H'
  | .ex c d ρ S => ∀ m' H' σ', Ext m H m' H' → Rel w.K m' S H' → REnv w.K m' H' ρ σ' → w.We (w.cl c) (dAt m' d) σ' H'
  | .bad => False
theorem Sst.ext {w : Wd} {m m' : List Addr} {H H' : Hp} {o : SO} {D : Ends} (e : Ext m H m' H') (h : Sst w m H o D) : Sst w m' H' o D := by
  cases o with
  | nx ρ S => exact fun m2 H2 σ e2 R En => h m2 H2 σ (e.trans e2) R En
  | bk ρ S => exact fun m2 H2 σ e2 R En => h m2 H2 σ (e.trans e2) R En
  | ct ρ S => exact fun m2 H2 σ e2 R En => h m2 H2 σ (e.trans e2) R En
  | rt v S => exact fun m2 H2 σ e2 R En => h m2 H2 σ (e.trans e2) R En
  | ex c d ρ S => exact fun m2 H2 σ e2 R En => h m2 H2 σ (e.trans e2) R En
  | bad => exact h
theorem st_pst {w : Wd} {α β : Type} {rel : List Addr → Hp → α → β → Prop} {m : List Addr} {H : Hp} {σ : L2.St} {r : R α} {ρ : Env} {k : α → Store → SO} {D : Ends} (En : REnv w.K m H ρ σ) (h : Sst w m H (r.st ρ k) D) :
    Pst w rel m H σ r (fun x H1 => ∃ m1 S1 a, Ext m H m1 H1 ∧ Rel w.K m1 S1 H1 ∧ rel m1 H1 a x ∧ Sst w m1 H1 (k a S1) D) := by
  cases r with
  | ok a S => exact fun m1 H1 z e R rz => ⟨m1, S, a, e, R, rz, Sst.ext e h⟩
  | ex c d S => exact fun m1 H1 e R => h m1 H1 σ e R (En.ext e)
  | bad => exact h
theorem Sst.then {w : Wd} {m : List Addr} {H : Hp} {o : SO} {k : Env → Store → SO} {D : Ends} (h : Sst w m H (o.then k) D) :
    Sst w m H o { D with nx := fun σ' H' => ∃ m' S' ρ', Ext m H m' H' ∧ Rel w.K m' S' H' ∧ REnv w.K m' H' ρ' σ' ∧ Sst w m' H' (k ρ' S') D } := by
  cases o with
  | nx ρ S => exact fun m2 H2 σ e2 R En => ⟨m2, S, ρ, e2, R, En, Sst.ext e2 h⟩
  | bk ρ S => exact h
  | ct ρ S => exact h
  | rt v S => exact h
  | ex c d ρ S => exact h
  | bad => exact h
def T1v (w : Wd) (C : Ctx) (s : Stm) : TS := fun D σ H => ∃ m S ρ, Rel w.K m S H ∧ REnv w.K m H ρ σ ∧ Sst w m H (ex C s ρ S) D
def TSv (w : Wd) (C : Ctx) (p : List Stm) : TS := fun D σ H => ∃ m S ρ, Rel w.K m S H ∧ REnv w.K m H ρ σ ∧ Sst w m H (exs C p ρ S) D
/-- what a body's context has beyond -/
structure SxOk (w : Wd) (C : Ctx) (tc : TC) (X : Cx) : Prop where
  cx : CxOk w C tc X
  pass : PassesOwn (model X.prog X.w) X.A X.env X.xe
  kind : tc.sc.kind = .function
  stk : X.stack = X.env :: X.outer
  frm : X.env.frame = some X.env.locals
section
variable {w : Wd} {C : Ctx} {tc : TC} {X : Cx} {a b c e : Expr} {a' b' c' e' : E} {es : List Expr} {es' : List E} {pos : Pos} {st : Stmt} {rest p q : List Stmt} {s : Stm} {r p' q' : List Stm}
theorem ss_nil : PSs X [] (TSv w C []) := pss_imp pss_nil fun D σ H ⟨m, S, ρ, R, En, q⟩ => by
  unfold exs at q
  exact q m H σ .refl R En
theorem ss_cons (h1 : PS X st (T1v w C s)) (h2 : PSs X rest (TSv w C r)) : PSs X (st :: rest) (TSv w C (s :: r)) :=
  pss_imp (pss_cons h1 h2) fun D σ H ⟨m, S, ρ, R, En, q⟩ => by
    unfold exs at q
    refine ⟨m, S, ρ, R, En, ?_⟩
    have q := q.then
    have mono : ∀ {o : SO} {D1 D2 : Ends}, D1.rt = D2.rt → D1.bk = D2.bk → D1.ct = D2.ct → (∀ σ H, D1.nx σ H → D2.nx σ H) → Sst w m H o D1 → Sst w m H o D2 := by
      intro o D1 D2 h1 h2 h3 h4 h
      cases o with
      | nx ρ S => exact fun m2 H2 σ e2 R En => h4 _ _ (h m2 H2 σ e2 R En)
      | bk ρ S => unfold Sst at h ⊢; rw [← h2]; exact h
      | ct ρ S => unfold Sst at h ⊢; rw [← h3]; exact h
      | rt v S => unfold Sst at h ⊢; rw [← h1]; exact h
      | ex c d ρ S => exact h
      | bad => exact h
    refine mono ?_ ?_ ?_ ?_ q
    · rfl
    · rfl
    · rfl
    · exact fun σ' H' ⟨m1, S1, ρ1, e1, R1, En1, q1⟩ => ⟨m1, S1, ρ1, R1, En1, q1⟩
theorem s_pass : PS X (.Pass pos) (T1v w C .pass) := ps_imp ps_pass fun D σ H ⟨m, S, ρ, R, En, q⟩ => by
  unfold ex at q
  exact q m H σ .refl R En
theorem s_doc {x j pos'} : PS X (.Expr (.Constant (.str x) j pos) pos') (T1v w C .pass) := ps_imp ps_doc fun D σ H ⟨m, S, ρ, R, En, q⟩ => by
  unfold ex at q
  exact q m H σ .refl R En
theorem s_brk : PS X (.Break pos) (T1v w C .brk) := ps_imp ps_break fun D σ H ⟨m, S, ρ, R, En, q⟩ => by
  unfold ex at q
  exact q m H σ .refl R En
theorem s_cnt : PS X (.Continue pos) (T1v w C .cnt) := ps_imp ps_continue fun D σ H ⟨m, S, ρ, R, En, q⟩ => by
  unfold ex at q
  exact q m H σ .refl R En
theorem s_exp (ha : PE X a (TEv w C a')) (hs : swapsWith a none pos.line X.env = pure false) : PS X (.Expr a pos) (T1v w C (.exp a')) :=
  ps_imp (ps_expr ha hs) fun D σ H ⟨m, S, ρ, R, En, q⟩ => by
    unfold ex at q
    exact ⟨m, S, ρ, R, En, (st_pst En q).mono fun x H1 ⟨m1, S1, u, e1, R1, r1, q1⟩ => q1 m1 H1 σ .refl R1 (En.ext e1)⟩
theorem s_ret (ha : PE X a (TEv w C a')) : PS X (.Return (some a) pos) (T1v w C (.ret a')) :=
  ps_imp (ps_ret ha) fun D σ H ⟨m, S, ρ, R, En, q⟩ => by
    unfold ex at q
    exact ⟨m, S, ρ, R, En, (st_pst En q).mono fun x H1 ⟨m1, S1, u, e1, R1, r1, q1⟩ => q1 m1 H1 x .refl R1 r1⟩
theorem s_retn : PS X (.Return none pos) (T1v w C .retn) := ps_imp ps_retN fun D σ H ⟨m, S, ρ, R, En, q⟩ => by
  unfold ex at q
  exact q m H .non .refl R rfl
theorem s_if (ht : PT X a (TTv w C [a'])) (hp : PSs X p (TSv w C p')) (hq : PSs X q (TSv w C q')) : PS X (.If a p q pos) (T1v w C (.ifS a' p' q')) :=
  ps_imp (ps_if ht hp hq) fun D σ H ⟨m, S, ρ, R, En, q⟩ => by
    unfold ex at q
    refine ⟨m, S, ρ, R, En, (st_pst En q).mono fun k H1 ⟨m1, S1, u, e1, R1, r1, q1⟩ => ?_⟩
    cases r1
    cases k with
    | true => exact ⟨m1, S1, ρ, R1, En.ext e1, q1⟩
    | false => exact ⟨m1, S1, ρ, R1, En.ext e1, q1⟩
theorem s_while (ok : SxOk w C tc X) (ht : PT X a (TTv w C [a'])) (hp : PSs X p (TSv w C p')) : PS X (.While a p [] pos) (T1v w C (.whl a' p')) :=
  ps_imp (ps_while ok.pass ht hp) fun D σ H ⟨m, S, ρ, R, En, q⟩ => by
    unfold ex at q
    refine ⟨fun n σ' H' => ∃ m S ρ, Rel w.K m S H' ∧ REnv w.K m H' ρ σ' ∧ Sst w m H' (wloop (fun ρ S => evT C [a'] ρ S) (fun ρ S => exs C p' ρ S) n ρ S) D, ⟨_, m, S, ρ, R, En, q⟩, ?_⟩
    rintro n σ1 H1 ⟨m1, S1, ρ1, R1, En1, q1⟩
    unfold wloop at q1
    refine ⟨m1, S1, ρ1, R1, En1, (st_pst En1 q1).mono fun k H2 ⟨m2, S2, u, e2, R2, r2, q2⟩ => ?_⟩
    cases r2
    cases k with
    | false => exact q2 m2 H2 σ1 .refl R2 (En1.ext e2)
    | true =>
      cases n with
      | zero => exact q2.elim
      | succ n =>
        simp only [if_true] at q2 ⊢
        refine ⟨fun σ' H' => ∃ m S ρ, Rel w.K m S H' ∧ REnv w.K m H' ρ σ' ∧ Sst w m H' (wloop (fun ρ S => evT C [a'] ρ S) (fun ρ S => exs C p' ρ S) n ρ S) D, fun σ' H' h => ⟨n, Nat.lt_succ_self n, h⟩, m2, S2, ρ1, R2, En1.ext e2, ?_⟩
        cases e : exs C p' ρ1 S2 with
        | nx ρ3 S3 => rw [e] at q2; exact fun m' H' σ' e' R' En' => ⟨m', S3, ρ3, R', En', Sst.ext e' q2⟩
        | ct ρ3 S3 => rw [e] at q2; exact fun m' H' σ' e' R' En' => ⟨m', S3, ρ3, R', En', Sst.ext e' q2⟩
        | bk ρ3 S3 => rw [e] at q2; exact q2
        | rt v S3 => rw [e] at q2; exact q2
        | ex c d ρ3 S3 => rw [e] at q2; exact q2
        | bad => rw [e] at q2; exact q2
theorem s_for {t : Tg} {k : IK} {its : List E} {tg : Expr} (ok : SxOk w C tc X) (hi : PI X tg a (TIv w C k its)) (hg : PG X tg (TGv w t)) (hp : PSs X p (TSv w C p')) (hs : ∀ x, foldedSetIterable a X.env x = pure x) : PS X (.For tg a p [] pos) (T1v w C (.for t k its p')) :=
  ps_imp (ps_for ok.pass ok.cx.calm hi hg hp hs) fun D σ H ⟨m, S, ρ, R, En, q⟩ => by
    unfold ex at q
    generalize hb : (fun (v : Val) (ρ : Env) (S : Store) => match lay S t v ρ with
        | some ρ => exs C p' ρ S
        | none => .bad) = body at q
    have q : Sst w m H (((evs C its ρ S).bind fun us S => Mi.R.of (start k us S) S).st ρ fun iv S => floop iv.next body (iv.cnt S) 0 ρ S) D := by
      cases e : evs C its ρ S with
      | ok us S1 =>
        rw [e] at q
        simp only [Mi.R.bind_ok, Mi.R.st_ok] at q ⊢
        cases e2 : start k us S1 with
        | none => simp only [e2] at q; exact q.elim
        | some iv => simp only [e2] at q; exact q
      | ex c d S1 => rw [e] at q; exact q
      | bad => rw [e] at q; exact q
    refine ⟨m, S, ρ, R, En, (st_pst En q).mono fun J H1 ⟨m1, S1, iv, e1, R1, jk, q1⟩ => ?_⟩
    refine ⟨fun i n σ' H' => ∃ m2 S2 ρ2, Ext m1 H1 m2 H' ∧ Rel w.K m2 S2 H' ∧ REnv w.K m2 H' ρ2 σ' ∧ Sst w m2 H' (floop iv.next body n i ρ2 S2) D, ⟨_, m1, S1, ρ, .refl, R1, En.ext e1, q1⟩, ?_⟩
    rintro i n σ2 H2 ⟨m2, S2, ρ2, e2, R2, En2, q2⟩
    obtain ⟨j1, j2⟩ := jk m2 S2 H2 i e2 R2
    unfold floop at q2
    cases hx : iv.next i S2 with
    | none => rw [hx] at q2; exact q2.elim
    | some o =>
      cases o with
      | none => simp only [hx] at q2; exact .inl ⟨j1 hx, q2 m2 H2 σ2 .refl R2 En2⟩
      | some v =>
        cases n with
        | zero => simp only [hx] at q2; exact q2.elim
        | succ n =>
          simp only [hx] at q2
          obtain ⟨g1, g2⟩ := j2 v hx
          refine .inr ⟨g1, fun σ' H' => ∃ m2 S2 ρ2, Ext m1 H1 m2 H' ∧ Rel w.K m2 S2 H' ∧ REnv w.K m2 H' ρ2 σ' ∧ Sst w m2 H' (floop iv.next body n (i + 1) ρ2 S2) D, fun σ' H' hN => ⟨n, Nat.lt_succ_self n, hN⟩, fun x H' hy => ?_⟩
          obtain ⟨e4, R4, rv⟩ := g2 x H' hy
          rw [← hb] at q2
          cases hl : lay S2 t v ρ2 with
          | none => simp only [hl] at q2; exact q2.elim
          | some ρ3 =>
            simp only [hl] at q2
            refine ⟨m2, S2, v, ρ2, ρ3, R4, En2.ext e4, rv, hl, fun σ' En' _ => ⟨m2, S2, ρ3, R4, En', ?_⟩⟩
            rw [hb] at q2
            cases e : exs C p' ρ3 S2 with
            | nx ρ5 S5 => simp only [e] at q2; exact fun m' H'' σ' e' R' En' => ⟨m', S5, ρ5, (e2.trans e4).trans e', R', En', Sst.ext (e4.trans e') q2⟩
            | ct ρ5 S5 => simp only [e] at q2; exact fun m' H'' σ' e' R' En' => ⟨m', S5, ρ5, (e2.trans e4).trans e', R', En', Sst.ext (e4.trans e') q2⟩
            | bk ρ5 S5 => simp only [e] at q2; exact Sst.ext e4 (o := .nx ρ5 S5) q2
            | rt v5 S5 => simp only [e] at q2; exact Sst.ext e4 (o := .rt v5 S5) q2
            | ex c d ρ5 S5 => simp only [e] at q2; exact Sst.ext e4 (o := .ex c d ρ5 S5) q2
            | bad => simp only [e] at q2; exact q2
/-- what laying leaves of an assignment -/
theorem asg_read {t : Tg} {D : Ends} {σ : L2.St} {H : Hp} (h : T1v w C (.asg t e') D σ H) : tAsg (TEv w C e') (TGv w t) D σ H := by
  obtain ⟨m, S, ρ, R, En, q⟩ := h
  unfold ex at q
  refine ⟨m, S, ρ, R, En, (st_pst En q).mono fun x H1 ⟨m1, S1, u, e1, R1, r1, q1⟩ => ?_⟩
  cases hl : lay S1 t u ρ with
  | none => rw [hl] at q1; exact q1.elim
  | some ρ' => rw [hl] at q1; exact ⟨m1, S1, u, ρ, ρ', R1, En.ext e1, r1, hl, fun σ' En' _ => q1 m1 H1 σ' .refl R1 En'⟩
theorem as_one {tg : Expr} (hn : nst tg = true) : (assignEach [tg] X.env).map (·.2) = [assign tg X.env] := by
  rw [assignEach_cons hn]; rfl
theorem s_asg {tg : Expr} {t : Tg} (hn : nst tg = true) (he : PE X e (TEv w C e')) (hg : PG X tg (TGv w t)) (hs : swapsWithSole [tg] e pos.line X.env = pure false) (hw : swappedStores [tg] e X.env = pure none) : PS X (.Assign [tg] e pos) (T1v w C (.asg t e')) :=
  ps_imp (ps_asg he hg hs hw (as_one hn)) fun D σ H h => asg_read h
/-! u[i] = v -/
def rSetD : TSet := fun u k z H Fin => ∃ d H2, u = .ref d ∧ DPut H d k z H2 ∧ Fin H2
theorem set_dict (hu : X.A.units + 1 < cLine) : PSet X Mi.rSetD := by
  intro pins s σ H o i v ov iv u Q I ro ri rv ⟨a, H', e, g, q⟩
  subst e
  obtain rfl : ov = Value.ref a := ro
  exact d_setItem hu I g ri rv fun _ I1 => ⟨_, I1, q⟩
theorem pset_or {t t' : TSet} (h : PSet X t) (h' : PSet X t') : PSet X (fun o i v H Q => t o i v H Q ∨ t' o i v H Q) :=
  fun pins s σ H o i v ov iv u Q I r1 r2 r3 q => q.elim (h pins s σ H o i v ov iv u Q I r1 r2 r3) (h' pins s σ H o i v ov iv u Q I r1 r2 r3)
theorem setop_rv {K : PySem.W.Frag} {m : List Addr} {S S' : Store} {H : Hp} {u i v : Val} {x y z : V} (R : Rel K m S H) (r1 : RV K m H u x) (r2 : RV K m H i y) (r3 : RV K m H v z) (h : setop S u i v = some S') :
    ∃ p o, x = .ref p ∧ Ext m H m (upd H p o) ∧ Rel K m S' (upd H p o) ∧ ∀ Q : Hp → Prop, Q (upd H p o) → rSetL x y z H Q ∨ rSetD x y z H Q := by
  cases u with
  | ref r =>
    obtain ⟨p, hp, rfl⟩ := r1
    unfold setop at h
    cases e : S[r]? with
    | none => simp only [e] at h; cases h
    | some b =>
      simp only [e] at h
      obtain ⟨_, h1, h2⟩ := R.ob _ _ _ e hp
      cases b with
      | xd _ => cases h
      | lst xs =>
        obtain ⟨vs, rfl, h2⟩ := h2
        cases i with
        | int k =>
          cases r2
          obtain ⟨j, hj, rfl⟩ := mpp h
          refine ⟨p, _, rfl, R.ext_set e hp, R.set e hp (c := .lst (xs.set j v)) ⟨vs.set j z, rfl, RVs.set r3 j h2⟩, fun Q q => .inl ⟨p, vs, k, j, rfl, rfl, h1, by rw [← h2.len]; exact hj, q⟩⟩
        | _ => cases h
      | dK kvs =>
        obtain ⟨ws, rfl, h2⟩ := h2
        simp only at h
        split at h
        · rename_i hz
          obtain ⟨kk, ek, rfl⟩ := mpp h
          have := key_rv ek r2
          subst this
          exact ⟨p, _, rfl, R.ext_set e hp, R.set e hp (c := .dK (put kvs kk v)) ⟨_, rfl, h2.put kk r3⟩, fun Q q => .inr ⟨p, _, rfl, DPut.k h1 (by rw [← h2.len]; exact hz), q⟩⟩
        · cases h
      | dT kvs =>
        obtain ⟨ws, rfl, h2⟩ := h2
        simp only at h
        split at h
        · rename_i hz
          obtain ⟨kk, ek, rfl⟩ := mpp h
          obtain ⟨b, rfl, hb⟩ := tkey_rv ek r2
          exact ⟨p, _, rfl, R.ext_set e hp, R.set e hp (c := .dT (put kvs kk v)) ⟨_, rfl, h2.put kk r3⟩, fun Q q => .inr ⟨p, _, rfl, DPut.t h1 hb (by rw [← h2.len]; exact hz), q⟩⟩
        · cases h
  | _ => cases h
def notSl : Expr → Bool
  | .Slice .. => false
  | _ => true
theorem s_set {p2 : Pos} (ok : CxOk w C tc X) (hs : notSl b = true) (ha : PE X a (TEv w C a')) (hb : PE X b (TEv w C b')) (hc : PE X c (TEv w C c')) (hw : swapsWithSole [.Subscript a b p2] c pos.line X.env = pure false) :
    PS X (.Assign [.Subscript a b p2] c pos) (T1v w C (.set a' b' c')) := by
  have hu : X.A.units + 1 < cLine := Nat.lt_of_le_of_lt (Nat.add_le_add_left (by decide) _) ok.hu
  have pl : ∀ v, assign (.Subscript a b p2) X.env v = (do let ov ← holding [v] (eval a X.env); let iv ← holding [v, ov] (eval b X.env); standAt p2; holding [v, ov, iv] (setItem ov iv v); release [v, ov, iv] []) := by
    cases b <;> first | (intro _; rfl) | (exact Bool.noConfusion hs)
  refine ps_imp (ps_asg hc (pg_sub ha hb (pset_or set_list (set_dict hu)) pl) hw (by cases c <;> rfl) (as_one rfl)) fun D σ H ⟨m, S, ρ, R, En, q⟩ => ?_
  unfold ex at q
  refine ⟨m, S, ρ, R, En, (st_pst En q).mono fun z H1 ⟨m1, S1, v, e1, R1, r1, q1⟩ => ?_⟩
  refine ⟨m1, S1, ρ, R1, En.ext e1, (st_pst (En.ext e1) q1).mono fun x H2 ⟨m2, S2, u, e2, R2, r2, q2⟩ => ?_⟩
  refine ⟨m2, S2, ρ, R2, (En.ext e1).ext e2, (st_pst ((En.ext e1).ext e2) q2).mono fun y H3 ⟨m3, S3, i, e3, R3, r3, q3⟩ => ?_⟩
  cases hh : setop S3 u i v with
  | none => rw [hh] at q3; exact q3.elim
  | some S4 =>
    simp only [hh] at q3
    obtain ⟨pp, o, rfl, ee, RR, fin⟩ := setop_rv R3 (r2.ext e3) r3 ((r1.ext e2).ext e3) hh
    exact fin _ (q3 m3 _ σ ee RR ((((En.ext e1).ext e2).ext e3).ext ee))
end
end Mi
namespace Mi
open PySem L2
section
variable {w : Wd} {C : Ctx} {tc : TC} {X : Cx} {a b c e : Expr} {a' b' c' e' : E} {es : List Expr} {es' : List E} {pos : Pos} {st : Stmt} {rest p q : List Stmt} {s : Stm} {r p' q' : List Stm}
def rGet (K : PySem.W.Frag) : V → V → Hp → VK → Prop := fun x y H Q => rIxL K x y H Q ∨ ∃ p v, x = .ref p ∧ DGet H p y (some v) ∧ Q v H
theorem pget_ref (hu : X.A.units + 1 < cLine) : PGet X (rGet X.K) := by
  rintro pins s σ H x y v u Q I rx ry (⟨p, zs, n, z, rfl, rfl, sq, at', q⟩ | ⟨p, z, rfl, g, q⟩)
  · cases rx
    obtain ⟨tk, rfl⟩ := ry
    obtain ⟨arr, rvs, isl, _⟩ := I.list sq
    obtain ⟨j, ix, jz, _, lo, hi⟩ := atI_get at'
    obtain ⟨c, arrj, rc⟩ := rvs.get jz
    have len := rvs.length
    have big := line63
    have done : EP X pins σ Q c s := ⟨z, H, I, rc, q⟩
    by_cases pos : 0 ≤ n
    · have hj : n.toNat = j := by
        rw [seqIndex_of pos hi] at ix
        exact Option.some.inj ix
      exact wpAny_getItem_list isl.isList pos (by omega) (by rw [hj]; simpa using arrj) done
    · have hj : (n + arr.toArray.size).toNat = j := by
        rw [List.size_toArray, ← len]
        rw [seqIndex_neg (by omega) lo] at ix
        exact Option.some.inj ix
      exact wpAny_getItem_list_neg isl.isList (by omega) (by rw [List.size_toArray] <;> omega) (by omega) (by rw [hj]; simpa using arrj) done
  · cases rx
    exact d_getItem hu I g ry fun _ _ I1 r1 => ⟨z, H, I1, r1, q⟩
theorem itemR_rv {K : PySem.W.Frag} {m : List Addr} {S : Store} {H : Hp} {u i v : Val} {x y : V} (R : Rel K m S H) (r1 : RV K m H u x) (r2 : RV K m H i y) (h : itemR S u i = some v) :
    ∃ z, RV K m H v z ∧ ∀ Q : VK, Q z H → rGet K x y H Q := by
  cases u with
  | ref r =>
    have h : item S (.ref r) i = some v := h
    unfold item at h
    cases e : itemS S (.ref r) i with
    | some v' =>
      rw [e] at h
      cases h
      unfold itemS at e
      split at e
      · rename_i hh; cases hh
      · split at e
        · rename_i xs k hs _
          have hs : lstOf S (.ref r) = some xs := hs
          obtain ⟨p, vs, rfl, h1, h2⟩ := R.lst hs r1
          cases r2
          obtain ⟨z, e2, rz⟩ := atI_rv h2 e
          exact ⟨z, rz, fun Q q => .inl ⟨p, vs, k, z, rfl, rfl, h1, e2, q⟩⟩
        · cases e
    | none =>
      rw [e] at h
      cases e2 : dget S (.ref r) i with
      | none => rw [e2] at h; cases h
      | some o =>
        rw [e2] at h
        cases o with
        | none => cases h
        | some v' =>
          cases h
          obtain ⟨p, z, rfl, h3, z', rfl, h4⟩ := dget_DG R r1 r2 e2
          exact ⟨z', h4, fun Q q => .inr ⟨p, z', rfl, h3, q⟩⟩
  | _ => cases h
def augOp : O2 → Option Operator
  | .add => some .Add | .sub => some .Sub | _ => none
def augF : O2 → Int → Int → Int
  | .add => fun i j => i + j | .sub => fun i j => i - j | _ => fun i _ => i
theorem ip_op {o : O2} {p : Operator} (h : augOp o = some p) : PIp X p (ipI (augF o)) := by
  cases o <;> first | (cases h; exact ip_add) | (cases h; exact ip_sub) | (cases h; done)
theorem s_aug {i : Nat} {x : Str} {o : O2} {op : Operator} {p2 : Pos} (ok : CxOk w C tc X) (hm : (x, i) ∈ tc.own) (ho : augOp o = some op) (ha : PE X a (TEv w C a')) : PS X (.AugAssign (.Name x p2) op a pos) (T1v w C (.aug i o a')) := by
  obtain ⟨h1, h2, h3⟩ := ok.sto _ hm
  refine ps_imp (ps_aug (by rw [ok.N]; exact ok.nd) h1 h2 ha (ip_op ho) h3) fun D σ H ⟨m, S, ρ, R, En, q⟩ => ?_
  unfold ex at q
  cases e : ρ[i]? with
  | none => simp only [e] at q; exact q.elim
  | some v =>
    cases v with
    | none => simp only [e] at q; exact q.elim
    | some v =>
      cases v with
      | int k =>
        simp only [e] at q
        obtain ⟨z, hz, rz⟩ := En.2 _ _ e
        cases rz
        refine ⟨_, hz, m, S, ρ, R, En, (st_pst En q).mono fun y H1 ⟨m1, S1, u, e1, R1, r1, q1⟩ => ?_⟩
        have fin : ∀ {j : Int}, Sst w m1 H1 (.nx (ρ.set i (some (.int j))) S1) D → D.nx (σ.set i (some (.int j))) H1 := fun q1 => q1 m1 H1 _ .refl R1 ((En.ext e1).set i rfl)
        cases o <;> cases u <;> first | (exact q1.elim) | (cases r1; exact ⟨k, _, rfl, rfl, fin q1⟩)
      | _ => simp only [e] at q; exact q.elim
theorem s_augS {o : O2} {op : Operator} {p2 : Pos} (ok : CxOk w C tc X) (hs : notSl b = true) (ho : augOp o = some op) (ha : PE X a (TEv w C a')) (hb : PE X b (TEv w C b')) (hc : PE X c (TEv w C c')) :
    PS X (.AugAssign (.Subscript a b p2) op c pos) (T1v w C (.augS a' b' o c')) := by
  have hu : X.A.units + 1 < cLine := Nat.lt_of_le_of_lt (Nat.add_le_add_left (by decide) _) ok.hu
  have pl : ∀ ov iv new, augStore b ov iv new = (do holding [new, ov, iv] (setItem ov iv new); release [new, ov, iv] []; pure .next) := by
    cases b <;> first | (intros; rfl) | (exact Bool.noConfusion hs)
  refine ps_imp (ps_augS ha hb (pget_ref hu) hc (ip_op ho) (pset_or set_list (set_dict hu)) pl) fun D σ H ⟨m, S, ρ, R, En, q⟩ => ?_
  unfold ex at q
  refine ⟨m, S, ρ, R, En, (st_pst En q).mono fun x H1 ⟨m1, S1, u, e1, R1, r1, q1⟩ => ?_⟩
  have En1 := En.ext e1
  refine ⟨m1, S1, ρ, R1, En1, (st_pst En1 q1).mono fun y H2 ⟨m2, S2, k, e2, R2, r2, q2⟩ => ?_⟩
  have En2 := En1.ext e2
  cases hi : itemR S2 u k with
  | none => simp only [hi] at q2; exact q2.elim
  | some v =>
    cases v with
    | int j =>
      simp only [hi] at q2
      obtain ⟨z, rz, g⟩ := itemR_rv R2 (r1.ext e2) r2 hi
      cases rz
      rw [ok.K]
      refine g _ ⟨m2, S2, ρ, R2, En2, (st_pst En2 q2).mono fun t H3 ⟨m3, S3, d, e3, R3, r3, q3⟩ => ?_⟩
      have En3 := En2.ext e3
      have fin : ∀ {n : Int}, Sst w m3 H3 (match setop S3 u k (.int n) with | some S => .nx ρ S | none => .bad) D → rSetL x y (.int n) H3 (fun H6 => D.nx σ H6) ∨ Mi.rSetD x y (.int n) H3 (fun H6 => D.nx σ H6) := by
        intro n q3
        cases hh : setop S3 u k (.int n) with
        | none => simp only [hh] at q3; exact q3.elim
        | some S4 =>
          simp only [hh] at q3
          obtain ⟨pp, ob, rfl, ee, RR, f⟩ := setop_rv (z := .int n) R3 ((r1.ext e2).ext e3) (r2.ext e3) (show RV w.K m3 H3 (.int n) (.int n) from rfl) hh
          exact f _ (q3 m3 _ σ ee RR (En3.ext ee))
      cases o <;> cases d <;> first | (exact q3.elim) | (cases r3; exact ⟨j, _, rfl, rfl, fin q3⟩)
    | _ => simp only [hi] at q2; exact q2.elim
/-! a, b = x, y with local names -/
theorem s_par {i j : Nat} {x y : Str} {px py pt p3 : Pos} {kt k2 : Nat} (ok : CxOk w C tc X) (hi : X.N[i]? = some x) (hj : X.N[j]? = some y) (hij : i ≠ j) (hx : X.env.scope.names.lookup x = some .local) (hy : X.env.scope.names.lookup y = some .local)
    (hA : PA X [a, b] (TAv w C [a', b'])) (hw : swappedStores [.Tuple [.Name x px, .Name y py] kt pt] (.Tuple [a, b] k2 p3) X.env = pure (some [x, y])) :
    PS X (.Assign [.Tuple [.Name x px, .Name y py] kt pt] (.Tuple [a, b] k2 p3) pos) (T1v w C (.asg (.tup [.name i, .name j]) (.tup [a', b']))) :=
  ps_imp (ps_par ok.calm (by rw [ok.N]; exact ok.nd) hi hj hij hx hy hA hw rfl) fun D σ H ⟨m, S, ρ, R, En, q⟩ => by
    unfold ex at q
    refine ⟨m, S, ρ, R, En, ?_⟩
    have q : Sst w m H ((evs C [a', b'] ρ S).st ρ fun us S => match us with
      | [u, v] => .nx ((ρ.set i (some u)).set j (some v)) S
      | _ => .bad) D := by
      unfold ev at q
      cases e : evs C [a', b'] ρ S with
      | ok us S1 =>
        rw [e] at q
        simp only [Mi.R.bind_ok, Mi.R.st_ok] at q ⊢
        by_cases hz : us.length ≤ sizeLine
        · simp only [hz, if_true, Mi.R.st_ok] at q
          match us, q with
          | [], q => simp only [lay, lays] at q; exact q
          | [_], q => simp only [lay, lays] at q; exact q
          | [u, v], q => simp only [lay, lays] at q; exact q
          | _ :: _ :: _ :: _, q => simp only [lay, lays] at q; exact q
        · simp only [hz, if_false, Mi.R.st_bad] at q; exact q.elim
      | ex c d S1 => rw [e] at q; exact q
      | bad => rw [e] at q; exact q
    refine (st_pst En q).mono fun xs H1 ⟨m1, S1, us, e1, R1, r1, q1⟩ => ?_
    match us, q1, r1 with
    | [u, v], q1, ⟨x1, t1, hh, ru, y1, t2, hh2, rv, hn⟩ =>
      subst hh hh2
      cases hn
      exact ⟨x1, y1, rfl, q1 m1 H1 _ .refl R1 (((En.ext e1).set i ru).set j rv)⟩
    | [], q1, _ => exact q1.elim
    | [_], q1, _ => exact q1.elim
    | _ :: _ :: _ :: _, q1, _ => exact q1.elim
end
end Mi
namespace Mi
open PySem L2
/-! ### the suite of an except clause: names set, told, by what the error is -/
/-- what such a suite's expressions are: the error's name is x -/
def trq (tc : TC) (x : Str) : Nat → Expr → Option E
  | 0, _ => none
  | n + 1, e => match e with
    | .Call (.Name f _) args kws _ => match args, kws with
      | [.Name y _, .Name z _], [] => if x ≠ "" ∧ f = "isinstance" ∧ y = x ∧ isGl tc f = true ∧ isGl tc z = true ∧ (tc.fns.lookup f).isNone = true then (tc.cls.lookup z).map .isx else none
      | _, _ => none
    | .Name y _ => if y = "__debug__" ∨ y = "__classdict__" ∨ y = x then none else (slotOf tc y).map .var
    | .Constant c _ _ => match c with
      | .bool b => some (.cst (.bl b))
      | .none => some (.cst .non)
      | .str t => some (.cst (.str t))
      | _ => none
    | .BinOp a o b _ => match o with
      | .Add => (trq tc x n a).bind fun u => (trq tc x n b).map fun v => .bin .add u v
      | _ => none
    | .UnaryOp o a _ => match o with
      | .Not => (trq tc x n a).map .not
      | _ => none
    | .BoolOp o vs _ => match o with
      | .And => trBo .and (trq tc x n) vs
      | .Or => trBo .or (trq tc x n) vs
    | .List es _ => (trs (trq tc x n) es).map .lst
    | .Tuple es _ _ => (trs (trq tc x n) es).map .tup
    | _ => none
/-- names set one after another, then perhaps an answer -/
def trQ (tc : TC) (x : Str) (i : Nat) : List Stmt → Option (List Stm)
  | [] => some []
  | s :: r => match s with
    | .Assign ts e _ => match ts with
      | [.Name y _] => if notComp' e = true then (tc.own.lookup y).bind fun j => if j = i then none else (trq tc x 30 e).bind fun u => (trQ tc x i r).map fun rs => .asg (.name j) u :: rs else none
      | _ => none
    | .Return v _ => match v with
      | some e => if r.isEmpty then (trq tc x 30 e).map fun u => [.ret u] else none
      | none => none
    | .Pass _ => (trQ tc x i r).map fun rs => .pass :: rs
    | _ => none
where notComp' : Expr → Bool
  | .ListComp .. => false
  | .SetComp .. => false
  | .DictComp .. => false
  | _ => true
/-- a suite's context: the error stands at slot i, at address a, of class c -/
structure QxOk (w : Wd) (C : Ctx) (tc : TC) (X : Cx) (a : Addr) (i : Nat) (x : Str) (c : Nat) : Prop where
  K : X.K = w.K
  sc : X.env.scope = tc.sc
  N : X.N = tc.N
  nd : tc.N.Nodup
  blt : ∀ x ∈ bnames, X.mg x = none
  sto : ∀ p ∈ tc.own, X.N[p.2]? = some p.1 ∧ Loc X.env.scope p.1 ∧ (X.fn p.1 = true ∨ X.env.scope.names.lookup p.1 = some .local)
  nam : x ≠ "" → tc.N[i]? = some x ∧ Vis X.env.scope x
  ex : ∃ g, C excNo = some (c, g)
  isi : ∃ D, CallR X (.builtin "isinstance") (rIsE X.K D a) ∧ ∀ e ∈ tc.cls, isGl tc e.1 = true → ∃ (v : V) (cv : Value), (∀ p, PE X (.Name e.1 p) (tC v)) ∧ (∀ u, RelV v u → u = cv) ∧ PySem.W.kitOne X.K (.ref D) cv = some (exSub c e.2)
section
variable {w : Wd} {C : Ctx} {tc : TC} {X : Cx} {a : Addr} {i c : Nat} {x : Str} {pos : Pos}
def At (x : Str) (i : Nat) (a : Addr) (σ : L2.St) : Prop := x ≠ "" → σ[i]? = some (some (V.ref a))
def TEq (w : Wd) (C : Ctx) (x : Str) (i : Nat) (a : Addr) (e : E) : TE := fun σ H Q => At x i a σ ∧ TEv w C e σ H Q
def TAq (w : Wd) (C : Ctx) (x : Str) (i : Nat) (a : Addr) (es : List E) : TA := fun σ H Q => At x i a σ ∧ TAv w C es σ H Q
theorem q_gl (ok : QxOk w C tc X a i x c) {y : Str} (h : isGl tc y = true) : Gl X y ∧ (y == ("__debug__" : Str)) = false := by
  unfold isGl kindIn at h
  split at h
  · rename_i e
    refine ⟨?_, by simpa using h⟩
    show X.env.scope.names.lookup y = _
    rw [ok.sc]
    exact e
  · cases h
theorem q_isx (ok : QxOk w C tc X a i x c) {f z : Str} {p p2 p3 : Pos} {k : Nat} (hx0 : x ≠ "") (hf : f = "isinstance") (hgf : isGl tc f = true) (hgz : isGl tc z = true) (hk : tc.cls.lookup z = some k) (hxd : (x == ("__debug__" : Str)) = false) (hxc : (x == ("__classdict__" : Str)) = false) :
    PE X (.Call (.Name f p) [.Name x p2, .Name z p3] [] pos) (TEq w C x i a (.isx k)) := by
  obtain ⟨D, h1, h2⟩ := ok.isi
  obtain ⟨v, cv, e1, e2, e3⟩ := h2 _ (PySem.mem_of_lookup hk) hgz
  obtain ⟨g, hC⟩ := ok.ex
  have hx : PE X (.Name x p2) (tVar i) := pe_var (by rw [ok.N]; exact (ok.nam hx0).1) (ok.nam hx0).2 hxd hxc
  have hA : PA X [.Name x p2, .Name z p3] (tCons (tVar i) (tCons (tC v) tNil)) := pa_cons hx (pa_cons (e1 p3) pa_nil (starEach_cons rfl)) (starEach_cons rfl)
  subst hf
  refine pe_imp (pe_callB h1 (q_gl ok hgf).1 (ok.blt _ (by decide)) PyProof.Rows.boot_isinstance hA (by decide) (q_gl ok hgf).2 (starEach_cons rfl) (star_any rfl)) fun σ H Q ⟨hσ, m, S, ρ, R, En, q⟩ => ?_
  unfold ev at q
  rw [hC] at q
  exact ⟨_, hσ hx0, v, cv, _, rfl, e2, e3, q m H _ .refl R rfl⟩
theorem q_var (ok : QxOk w C tc X a i x c) {j : Nat} {y : Str} (hs : slotOf tc y = some j) (hd : (y == ("__debug__" : Str)) = false) (hcd : (y == ("__classdict__" : Str)) = false) : PE X (.Name y pos) (TEq w C x i a (.var j)) := by
  have hv : X.N[j]? = some y ∧ Vis X.env.scope y := by
    unfold slotOf kindIn at hs
    split at hs <;> first | (cases hs; done) | skip
    · rename_i e
      exact ⟨by rw [ok.N]; exact idx_get hs, .inl (by rw [ok.sc]; exact e)⟩
    · rename_i e
      exact ⟨by rw [ok.N]; exact idx_get hs, .inr (.inl (by rw [ok.sc]; exact e))⟩
    · rename_i e
      exact ⟨by rw [ok.N]; exact idx_get hs, .inr (.inr (by rw [ok.sc]; exact e))⟩
  refine pe_imp (pe_var hv.1 hv.2 hd hcd) fun σ H Q ⟨_, m, S, ρ, R, En, q⟩ => ?_
  unfold ev at q
  split at q
  · rename_i v hv
    obtain ⟨z, h1, h2⟩ := En.2 _ _ hv
    exact ⟨z, h1, q m H z .refl R h2⟩
  · exact q.elim
theorem q_cst {e : Expr} {v : Val} {z : V} (h : PE X e (tC z)) (hv : ∀ m H, RV w.K m H v z) : PE X e (TEq w C x i a (.cst v)) := pe_imp (se_cst h hv) fun σ H Q q => q.2
theorem qa_nil : PA X [] (TAq w C x i a []) := pa_imp sa_nil fun σ H Q q => q.2
theorem qa_cons {e : Expr} {es : List Expr} {e' : E} {es' : List E} (hn : nst e = true) (ha : PE X e (TEq w C x i a e')) (hs : PA X es (TAq w C x i a es')) : PA X (e :: es) (TAq w C x i a (e' :: es')) :=
  pa_imp (pa_cons ha hs (starEach_cons hn)) fun σ H Q ⟨hσ, m, S, ρ, R, En, q⟩ => by
    unfold evs at q
    refine ⟨hσ, m, S, ρ, R, En, q.bind.mono fun x H1 ⟨m1, S1, u, e1, R1, r1, q1⟩ => ?_⟩
    refine ⟨hσ, m1, S1, ρ, R1, En.ext e1, q1.bind.mono fun xs H2 ⟨m2, S2, us, e2, R2, r2, q2⟩ => ?_⟩
    exact q2 m2 H2 _ .refl R2 ⟨x, xs, rfl, r1.ext e2, r2⟩
theorem q_lst {es : List Expr} {es' : List E} (hs : PA X es (TAq w C x i a es')) : PE X (.List es pos) (TEq w C x i a (.lst es')) :=
  pe_imp (pe_lst hs) fun σ H Q ⟨hσ, m, S, ρ, R, En, q⟩ => by
    unfold ev at q
    refine ⟨hσ, m, S, ρ, R, En, q.bind.mono fun xs H1 ⟨m1, S1, us, e1, R1, r1, q1⟩ => ?_⟩
    refine po_alloc (us := us) ?_ R1 r1
    cases e : alloc S1 us with
    | none => rw [e] at q1; exact q1.elim
    | some p => rw [e] at q1; exact q1
theorem q_tup {k : Nat} {es : List Expr} {es' : List E} (hs : PA X es (TAq w C x i a es')) : PE X (.Tuple es k pos) (TEq w C x i a (.tup es')) :=
  pe_imp (pe_tup hs) fun σ H Q ⟨hσ, m, S, ρ, R, En, q⟩ => by
    unfold ev at q
    refine ⟨hσ, m, S, ρ, R, En, q.bind.mono fun xs H1 ⟨m1, S1, us, e1, R1, r1, q1⟩ => ?_⟩
    split at q1
    · rename_i hl
      refine ⟨by rw [← r1.len]; exact hl, fun p hp => ?_⟩
      have e := ext_upd (m := m1) (o := .tup xs) hp
      exact q1 m1 _ _ e (R1.side hp) ⟨p, xs, rfl, upd_same, r1.ext e⟩
    · exact q1.elim
theorem q_add (ok : QxOk w C tc X a i x c) {e f : Expr} {e' f' : E} (ha : PE X e (TEq w C x i a e')) (hb : PE X f (TEq w C x i a f')) : PE X (.BinOp e .Add f pos) (TEq w C x i a (.bin .add e' f')) :=
  pe_imp (pe_op (or_bin .add .Add rfl) ha hb) fun σ H Q ⟨hσ, m, S, ρ, R, En, q⟩ => by
    unfold ev at q
    refine ⟨hσ, m, S, ρ, R, En, q.bind.mono fun x H1 ⟨m1, S1, u, e1, R1, r1, q1⟩ => ?_⟩
    refine ⟨hσ, m1, S1, ρ, R1, En.ext e1, q1.bind.mono fun y H2 ⟨m2, S2, v, e2, R2, r2, q2⟩ => ?_⟩
    rw [ok.K]
    exact ⟨m2, S2, u, v, R2, r1.ext e2, r2, op_pst q2⟩
theorem q_and (ok : QxOk w C tc X a i x c) {e b : Expr} {es : List Expr} {e' b' : E} (ha : PE X e (TEq w C x i a e')) (hb : PE X (.BoolOp .And (b :: es) pos) (TEq w C x i a b')) : PE X (.BoolOp .And (e :: b :: es) pos) (TEq w C x i a (.and e' b')) :=
  pe_imp (pe_andT ha hb) fun σ H Q ⟨hσ, m, S, ρ, R, En, q⟩ => by
    unfold ev at q
    refine ⟨hσ, m, S, ρ, R, En, q.bind.mono fun x H1 ⟨m1, S1, u, e1, R1, r1, q1⟩ => ?_⟩
    obtain ⟨k, ek, q1⟩ := of_pst q1
    rw [ok.K]
    refine ⟨k, tru_rv R1 r1 ek, ?_⟩
    cases k with
    | true => exact ⟨hσ, m1, S1, ρ, R1, En.ext e1, q1⟩
    | false => exact q1 m1 H1 x .refl R1 r1
theorem q_or (ok : QxOk w C tc X a i x c) {e b : Expr} {es : List Expr} {e' b' : E} (ha : PE X e (TEq w C x i a e')) (hb : PE X (.BoolOp .Or (b :: es) pos) (TEq w C x i a b')) : PE X (.BoolOp .Or (e :: b :: es) pos) (TEq w C x i a (.or e' b')) :=
  pe_imp (pe_orT ha hb) fun σ H Q ⟨hσ, m, S, ρ, R, En, q⟩ => by
    unfold ev at q
    refine ⟨hσ, m, S, ρ, R, En, q.bind.mono fun x H1 ⟨m1, S1, u, e1, R1, r1, q1⟩ => ?_⟩
    obtain ⟨k, ek, q1⟩ := of_pst q1
    rw [ok.K]
    refine ⟨k, tru_rv R1 r1 ek, ?_⟩
    cases k with
    | true => exact q1 m1 H1 x .refl R1 r1
    | false => exact ⟨hσ, m1, S1, ρ, R1, En.ext e1, q1⟩
theorem q_not (ok : QxOk w C tc X a i x c) {e : Expr} {e' : E} (ha : PE X e (TEq w C x i a e')) : PE X (.UnaryOp .Not e pos) (TEq w C x i a (.not e')) :=
  pe_imp (pe_notT ha) fun σ H Q ⟨hσ, m, S, ρ, R, En, q⟩ => by
    unfold ev at q
    refine ⟨hσ, m, S, ρ, R, En, q.bind.mono fun x H1 ⟨m1, S1, u, e1, R1, r1, q1⟩ => ?_⟩
    have q1 := bl_pst R1 q1
    cases e : tru S1 u with
    | none => rw [e] at q1; exact q1.elim
    | some k =>
      rw [e] at q1
      rw [ok.K]
      exact ⟨k, tru_rv R1 r1 e, q1⟩
theorem trq_nst {n : Nat} {e : Expr} {e' : E} (h : trq tc x n e = some e') : nst e = true := by
  cases n with
  | zero => cases h
  | succ n => cases e <;> first | rfl | (cases h)
theorem trqs_ok {f : Expr → Option E} (hf : ∀ e e', f e = some e' → nst e = true ∧ PE X e (TEq w C x i a e')) : ∀ {es : List Expr} {es' : List E}, trs f es = some es' → PA X es (TAq w C x i a es')
  | [], es', h => by cases h; exact qa_nil
  | e :: es, es', h => by
    unfold trs at h
    obtain ⟨y, h1, h⟩ := bnd h
    obtain ⟨ys, h2, h⟩ := bnd h
    cases h
    obtain ⟨a1, a2⟩ := hf e y h1
    exact qa_cons a1 a2 (trqs_ok hf h2)
theorem trqB_and (ok : QxOk w C tc X a i x c) {f : Expr → Option E} (hf : ∀ e e', f e = some e' → PE X e (TEq w C x i a e')) : ∀ {es : List Expr} {e' : E}, trBo .and f es = some e' → PE X (.BoolOp .And es pos) (TEq w C x i a e')
  | [], _, h => by cases h
  | [e], e', h => pe_one (hf e e' h)
  | e :: b :: r, e', h => by
    unfold trBo at h
    obtain ⟨y, h1, h⟩ := bnd h
    obtain ⟨z, h2, h⟩ := bnd h
    cases h
    exact q_and ok (hf e y h1) (trqB_and ok hf h2)
theorem trqB_or (ok : QxOk w C tc X a i x c) {f : Expr → Option E} (hf : ∀ e e', f e = some e' → PE X e (TEq w C x i a e')) : ∀ {es : List Expr} {e' : E}, trBo .or f es = some e' → PE X (.BoolOp .Or es pos) (TEq w C x i a e')
  | [], _, h => by cases h
  | [e], e', h => pe_one (hf e e' h)
  | e :: b :: r, e', h => by
    unfold trBo at h
    obtain ⟨y, h1, h⟩ := bnd h
    obtain ⟨z, h2, h⟩ := bnd h
    cases h
    exact q_or ok (hf e y h1) (trqB_or ok hf h2)
theorem trq_ok (ok : QxOk w C tc X a i x c) (hxd : (x == ("__debug__" : Str)) = false) (hxc : (x == ("__classdict__" : Str)) = false) : ∀ (n : Nat) {e : Expr} {e' : E}, trq tc x n e = some e' → PE X e (TEq w C x i a e') := by
  intro n
  induction n with
  | zero => intro e e' h; cases h
  | succ n ih =>
  intro e e' h
  have hA : ∀ e e', trq tc x n e = some e' → nst e = true ∧ PE X e (TEq w C x i a e') := fun e e' h => ⟨trq_nst h, ih h⟩
  unfold trq at h
  split at h
  · split at h
    · split at h
      · rename_i hh
        obtain ⟨k0, k1, k2, k3, k4, k5⟩ := hh
        obtain ⟨k, hk, rfl⟩ := mpp h
        subst k2
        exact q_isx ok k0 k1 k3 k4 hk hxd hxc
      · cases h
    · cases h
  · split at h
    · cases h
    · rename_i hy
      obtain ⟨j, hj, rfl⟩ := mpp h
      have h1 : ¬ _ = ("__debug__" : Str) := fun q => hy (.inl q)
      have h2 : ¬ _ = ("__classdict__" : Str) := fun q => hy (.inr (.inl q))
      exact q_var ok hj (by simpa using h1) (by simpa using h2)
  · split at h
    · cases h; exact q_cst pe_bl fun _ _ => rfl
    · cases h; exact q_cst pe_non fun _ _ => rfl
    · cases h; exact q_cst pe_str fun _ _ => rfl
    · cases h
  · split at h
    · obtain ⟨u, h1, h⟩ := bnd h
      obtain ⟨v, h2, rfl⟩ := mpp h
      exact q_add ok (ih h1) (ih h2)
    · cases h
  · split at h
    · obtain ⟨u, h1, rfl⟩ := mpp h
      exact q_not ok (ih h1)
    · cases h
  · split at h
    · exact trqB_and ok (fun e e' h => ih h) h
    · exact trqB_or ok (fun e e' h => ih h) h
  · obtain ⟨us, h1, rfl⟩ := mpp h
    exact q_lst (trqs_ok hA h1)
  · obtain ⟨us, h1, rfl⟩ := mpp h
    exact q_tup (trqs_ok hA h1)
  · cases h
/-! no error comes out of such a suite -/
def R.nox {α : Type} : R α → Prop
  | .ex _ _ _ => False
  | _ => True
theorem R.nox_bind {α β : Type} {r : R α} {k : α → Store → R β} (h : r.nox) (hk : ∀ a S, (k a S).nox) : (r.bind k).nox := by
  cases r with
  | ok a S => exact hk a S
  | ex c d S => exact h.elim
  | bad => trivial
theorem R.nox_of {α : Type} (o : Option α) (S : Store) : (R.of o S).nox := by cases o <;> trivial
theorem R.nox_op (o : Option (Val × Store)) : (R.op o).nox := by cases o <;> trivial
theorem R.nox_bl (o : Option Bool) (S : Store) : (R.bl o S).nox := by cases o <;> trivial
theorem trqs_nox {tc : TC} {f : Expr → Option E} (hf : ∀ e e', f e = some e' → ∀ (C : Ctx) ρ S, (ev C e' ρ S).nox) : ∀ {es : List Expr} {es' : List E}, trs f es = some es' → ∀ (C : Ctx) ρ S, (evs C es' ρ S).nox
  | [], _, h, C, ρ, S => by cases h; unfold evs; trivial
  | e :: es, _, h, C, ρ, S => by
    unfold trs at h
    obtain ⟨y, h1, h⟩ := bnd h
    obtain ⟨ys, h2, h⟩ := bnd h
    cases h
    unfold evs
    exact R.nox_bind (hf e y h1 C ρ S) fun v S => R.nox_bind (trqs_nox (tc := tc) hf h2 C ρ S) fun vs S => trivial
theorem trqB_nox {f : Expr → Option E} {op : E → E → E} (hop : op = .and ∨ op = .or) (hf : ∀ e e', f e = some e' → ∀ (C : Ctx) ρ S, (ev C e' ρ S).nox) : ∀ {es : List Expr} {e' : E}, trBo op f es = some e' → ∀ (C : Ctx) ρ S, (ev C e' ρ S).nox
  | [], _, h => by cases h
  | [e], e', h => hf e e' h
  | e :: b :: r, e', h => fun C ρ S => by
    unfold trBo at h
    obtain ⟨y, h1, h⟩ := bnd h
    obtain ⟨z, h2, h⟩ := bnd h
    cases h
    have i1 := hf e y h1 C ρ S
    have i2 := trqB_nox hop hf h2
    rcases hop with rfl | rfl
    · unfold ev
      exact R.nox_bind i1 fun u S => R.nox_bind (R.nox_of _ _) fun k S => by
        cases k
        · trivial
        · exact i2 C ρ S
    · unfold ev
      exact R.nox_bind i1 fun u S => R.nox_bind (R.nox_of _ _) fun k S => by
        cases k
        · exact i2 C ρ S
        · trivial
theorem trq_nox {tc : TC} {x : Str} : ∀ (n : Nat) {e : Expr} {e' : E}, trq tc x n e = some e' → ∀ (C : Ctx) ρ S, (ev C e' ρ S).nox := by
  intro n
  induction n with
  | zero => intro e e' h; cases h
  | succ n ih =>
  intro e e' h C ρ S
  unfold trq at h
  split at h
  · split at h
    · split at h
      · obtain ⟨k, hk, rfl⟩ := mpp h
        unfold ev
        split <;> trivial
      · cases h
    · cases h
  · split at h
    · cases h
    · obtain ⟨j, hj, rfl⟩ := mpp h
      unfold ev
      split <;> trivial
  · split at h
    · cases h; unfold ev; trivial
    · cases h; unfold ev; trivial
    · cases h; unfold ev; trivial
    · cases h
  · split at h
    · obtain ⟨u, h1, h⟩ := bnd h
      obtain ⟨v, h2, rfl⟩ := mpp h
      unfold ev
      exact R.nox_bind (ih h1 C ρ S) fun a S => R.nox_bind (ih h2 C ρ S) fun b S => R.nox_op _
    · cases h
  · split at h
    · obtain ⟨u, h1, rfl⟩ := mpp h
      unfold ev
      exact R.nox_bind (ih h1 C ρ S) fun a S => R.nox_bl _ _
    · cases h
  · split at h
    · exact trqB_nox (.inl rfl) (fun e e' h => ih h) h C ρ S
    · exact trqB_nox (.inr rfl) (fun e e' h => ih h) h C ρ S
  · obtain ⟨us, h1, rfl⟩ := mpp h
    unfold ev
    exact R.nox_bind (trqs_nox (tc := tc) (fun e e' h => ih h) h1 C ρ S) fun vs S => R.nox_op _
  · obtain ⟨us, h1, rfl⟩ := mpp h
    unfold ev
    exact R.nox_bind (trqs_nox (tc := tc) (fun e e' h => ih h) h1 C ρ S) fun vs S => by split <;> trivial
  · cases h
def SO.nox : SO → Prop
  | .ex _ _ _ _ => False
  | _ => True
theorem st_nox {α : Type} {r : R α} {ρ : Env} {k : α → Store → SO} (h : r.nox) (hk : ∀ a S, (k a S).nox) : (r.st ρ k).nox := by
  cases r with
  | ok a S => exact hk a S
  | ex c d S => exact h.elim
  | bad => trivial
theorem then_nox {o : SO} {k : Env → Store → SO} (h : o.nox) (hk : ∀ ρ S, (k ρ S).nox) : (o.then k).nox := by
  cases o with
  | nx ρ S => exact hk ρ S
  | ex c d ρ S => exact h.elim
  | _ => trivial
theorem gone_nox {o : SO} {i : Nat} (h : o.nox) : (o.gone i).nox := by
  cases o <;> first | exact h | trivial
theorem trQ_nox {tc : TC} {x : Str} {i : Nat} : ∀ {ss : List Stmt} {p : List Stm}, trQ tc x i ss = some p → ∀ (C : Ctx) ρ S, (exs C p ρ S).nox
  | [], p, h, C, ρ, S => by cases h; unfold exs; trivial
  | st :: rest, p, h, C, ρ, S => by
    unfold trQ at h
    split at h
    · split at h
      · split at h
        · obtain ⟨j, hj, h⟩ := bnd h
          split at h
          · cases h
          · obtain ⟨u, h1, h⟩ := bnd h
            obtain ⟨rs, h2, rfl⟩ := mpp h
            unfold exs ex
            refine then_nox (st_nox (trq_nox 30 h1 C ρ S) fun a S => ?_) fun ρ S => trQ_nox h2 C ρ S
            split <;> trivial
        · cases h
      · cases h
    · split at h
      · split at h
        · obtain ⟨u, h1, rfl⟩ := mpp h
          unfold exs ex
          refine then_nox (st_nox (trq_nox 30 h1 C ρ S) fun a S => ?_) fun ρ S => ?_
          · trivial
          · unfold exs; trivial
        · cases h
      · cases h
    · obtain ⟨rs, h2, rfl⟩ := mpp h
      unfold exs ex
      exact trQ_nox h2 C ρ S
    · cases h
def TSq (w : Wd) (C : Ctx) (x : Str) (i : Nat) (a : Addr) (p : List Stm) : TS := fun D σ H => At x i a σ ∧ TSv w C p D σ H
theorem st_then {α : Type} (r : R α) (ρ : Env) (k : α → Store → SO) (g : Env → Store → SO) : (r.st ρ k).then g = r.st ρ fun a S => (k a S).then g := by
  cases r <;> rfl
theorem trQ_ok (ok : QxOk w C tc X a i x c) (hxd : (x == ("__debug__" : Str)) = false) (hxc : (x == ("__classdict__" : Str)) = false) : ∀ {ss : List Stmt} {p : List Stm}, trQ tc x i ss = some p → PSs X ss (TSq w C x i a p)
  | [], p, h => by
    cases h
    exact pss_imp ss_nil fun D σ H q => q.2
  | st :: rest, p, h => by
    unfold trQ at h
    split at h
    · rename_i ts e pos'
      split at h
      · rename_i y py
        split at h
        · rename_i hc
          obtain ⟨j, hj, h⟩ := bnd h
          split at h
          · cases h
          · rename_i hji
            obtain ⟨u, h1, h⟩ := bnd h
            obtain ⟨rs, h2, rfl⟩ := mpp h
            obtain ⟨s1, s2, s3⟩ := ok.sto _ (PySem.mem_of_lookup hj)
            have hg : PG X (.Name y py) (gName j) := pg_name (by rw [ok.N]; exact ok.nd) s1 s2 s3
            have sw : ∀ {t : Expr} {l : Nat}, swapsWith e (some t) l X.env = pure false := by
              intro t l
              cases e <;> first | rfl | (exact Bool.noConfusion hc)
            have hs : swapsWithSole [.Name y py] e pos'.line X.env = pure false := by
              have : swapsWithSole [.Name y py] e pos'.line X.env = swapsWith e (some (.Name y py)) pos'.line X.env := by unfold swapsWithSole; rfl
              rw [this, sw]
            refine pss_imp (pss_cons (ps_asg (trq_ok ok hxd hxc 30 h1) hg hs (by cases e <;> rfl) (as_one rfl)) (trQ_ok ok hxd hxc h2)) fun D σ H ⟨hσ, m, S, ρ, R, En, q⟩ => ?_
            unfold exs ex at q
            rw [st_then] at q
            refine ⟨hσ, m, S, ρ, R, En, (st_pst En q).mono fun z H1 ⟨m1, S1, v, e1, R1, r1, q1⟩ => ?_⟩
            unfold lay at q1
            refine ⟨?_, m1, S1, _, R1, (En.ext e1).set j r1, q1⟩
            intro hx0
            show (σ.set j (some z))[i]? = _
            rw [List.getElem?_set_ne hji]
            exact hσ hx0
        · cases h
      · cases h
    · split at h
      · split at h
        · rename_i e pos' he
          obtain ⟨u, h1, rfl⟩ := mpp h
          have hr : rest = [] := List.isEmpty_iff.mp he
          subst hr
          refine pss_imp (pss_cons (ps_ret (trq_ok ok hxd hxc 30 h1)) (ss_nil (w := w) (C := C))) fun D σ H ⟨hσ, m, S, ρ, R, En, q⟩ => ?_
          unfold exs ex at q
          rw [st_then] at q
          exact ⟨hσ, m, S, ρ, R, En, (st_pst En q).mono fun z H1 ⟨m1, S1, v, e1, R1, r1, q1⟩ => q1 m1 H1 z .refl R1 r1⟩
        · cases h
      · cases h
    · obtain ⟨rs, h2, rfl⟩ := mpp h
      refine pss_imp (pss_cons ps_pass (trQ_ok ok hxd hxc h2)) fun D σ H ⟨hσ, m, S, ρ, R, En, q⟩ => ?_
      unfold exs ex at q
      exact ⟨hσ, m, S, ρ, R, En, q⟩
    · cases h
end
end Mi
namespace Mi
open PySem L2
/-! ### x = {y: v}, one entry, y a name, v a name or a constant -/
/-- what such a value reads, with no eye to slot i -/
def sval (i : Nat) : E → Env → Option Val
  | .var l, ρ => if l = i then none else match ρ[l]? with
    | some (some v) => some v
    | _ => none
  | .cst v, _ => some v
  | .neg (.cst (.int k)), _ => some (.int (-k))
  | _, _ => none
def simple (i : Nat) : E → Bool
  | .var l => !decide (l = i)
  | .cst _ => true
  | .neg (.cst (.int _)) => true
  | _ => false
def disS (i j : Nat) (v : E) : Stm := .ifS (.cst (.bl true)) [.asg (.name i) .dK, .set (.var i) (.var j) v] []
section
variable {w : Wd} {C : Ctx} {tc : TC} {X : Cx}
theorem ev_var' (l : Nat) (ρ : Env) (S : Store) : ev C (.var l) ρ S = match ρ[l]? with
    | some (some v) => .ok v S
    | _ => .bad := by
  unfold ev
  cases ρ[l]? with
  | none => rfl
  | some o => cases o <;> rfl
theorem ev_sval {i : Nat} {v : E} (h : simple i v = true) (ρ : Env) (S : Store) : ev C v ρ S = R.of (sval i v ρ) S := by
  cases v with
  | var l =>
    have hl : ¬ l = i := by simpa [simple] using h
    rw [ev_var']
    show _ = R.of (if l = i then none else match ρ[l]? with
      | some (some v) => some v
      | _ => none) S
    rw [if_neg hl]
    cases ρ[l]? with
    | none => rfl
    | some o => cases o <;> rfl
  | cst v => unfold ev; rfl
  | neg a =>
    cases a with
    | cst v =>
      cases v with
      | int k => unfold ev; unfold ev; rfl
      | _ => exact Bool.noConfusion h
    | _ => exact Bool.noConfusion h
  | _ => exact Bool.noConfusion h
theorem sval_set {i : Nat} {v : E} (ρ : Env) (o : Option Val) : sval i v (ρ.set i o) = sval i v ρ := by
  cases v with
  | var l =>
    show (if l = i then none else match (ρ.set i o)[l]? with
      | some (some v) => some v
      | _ => none) = (if l = i then none else match ρ[l]? with
      | some (some v) => some v
      | _ => none)
    by_cases h : l = i
    · rw [if_pos h, if_pos h]
    · rw [if_neg h, if_neg h, List.getElem?_set_ne (fun e => h e.symm)]
  | neg a => cases a with
    | cst v => cases v <;> rfl
    | _ => rfl
  | _ => rfl
/-- what it does, if it does -/
theorem dis_ex {i j : Nat} {v : E} {ρ : Env} {S : Store} (hj : j ≠ i) (hv : simple i v = true) (h : ex C (disS i j v) ρ S ≠ .bad) :
    ∃ kv b kk, ρ[j]? = some (some kv) ∧ sval i v ρ = some b ∧ keyOf kv = some kk ∧ ex C (disS i j v) ρ S = .nx (ρ.set i (some (.ref S.length))) (S ++ [.dK (put [] kk b)]) := by
  have e0 : ex C (disS i j v) ρ S = (ex C (.set (.var i) (.var j) v) (ρ.set i (some (.ref S.length))) (S ++ [.dK []])).then fun ρ S => .nx ρ S := by
    have h1 : evT C [.cst (.bl true)] ρ S = .ok true S := by
      unfold evT
      unfold ev
      rfl
    have h2 : ∀ p q, ex C (.ifS (.cst (.bl true)) p q) ρ S = exs C p ρ S := fun p q => by
      conv => lhs; unfold ex
      rw [h1]
      rfl
    have h3 : ex C (.asg (.name i) .dK) ρ S = .nx (ρ.set i (some (.ref S.length))) (S ++ [.dK []]) := by
      unfold ex
      unfold ev
      rfl
    unfold disS
    rw [h2]
    conv => lhs; unfold exs
    rw [h3]
    show exs C [.set (.var i) (.var j) v] _ _ = _
    conv => lhs; unfold exs
    congr 1
  have e1 : ex C (.set (.var i) (.var j) v) (ρ.set i (some (.ref S.length))) (S ++ [.dK []]) = (R.of (sval i v ρ) (S ++ [.dK []])).st (ρ.set i (some (.ref S.length))) fun b S1 => (ev C (.var i) (ρ.set i (some (.ref S.length))) S1).st (ρ.set i (some (.ref S.length))) fun u S2 => (ev C (.var j) (ρ.set i (some (.ref S.length))) S2).st (ρ.set i (some (.ref S.length))) fun k S3 => match setop S3 u k b with
      | some S4 => .nx (ρ.set i (some (.ref S.length))) S4
      | none => .bad := by
    unfold ex
    rw [ev_sval hv, sval_set]
    first | done | rfl
  rw [e0, e1] at h ⊢
  cases hb : sval i v ρ with
  | none => rw [hb] at h; exact absurd rfl h
  | some b =>
    rw [hb] at h
    simp only [R.of_some, R.st_ok, ev_var', List.getElem?_set_ne (fun e => hj e.symm)] at h ⊢
    by_cases hi : i < ρ.length
    · rw [List.getElem?_set_self hi] at h ⊢
      simp only [R.st_ok] at h ⊢
      cases hk : ρ[j]? with
      | none => rw [hk] at h; exact absurd rfl h
      | some o =>
        cases o with
        | none => rw [hk] at h; exact absurd rfl h
        | some kv =>
          rw [hk] at h
          simp only [R.st_ok] at h ⊢
          have hs : setop (S ++ [.dK []]) (.ref S.length) kv b = (keyOf kv).map fun k => S ++ [.dK (put [] k b)] := by
            unfold setop
            simp only
            rw [List.getElem?_append_right (Nat.le_refl _), Nat.sub_self]
            simp only [List.getElem?_cons_zero, List.length_nil]
            rw [if_pos (Nat.lt_of_lt_of_le (by decide) (Nat.le_of_lt (show (1000000 : Nat) < sizeLine by decide)))]
            congr 1
            funext k
            rw [List.set_append_right _ _ (Nat.le_refl _), Nat.sub_self, List.set_cons_zero]
          rw [hs] at h ⊢
          cases hkk : keyOf kv with
          | none => rw [hkk] at h; exact absurd rfl h
          | some kk => exact ⟨kv, b, kk, rfl, rfl, hkk, rfl⟩
    · rw [List.getElem?_eq_none (by rw [List.length_set]; omega)] at h
      exact absurd rfl h
theorem s_dis {tg k v : Expr} {dp pos : Pos} {i j : Nat} {v' : E} (hn : nst tg = true) (hg : PG X tg (TGv w (.name i))) (hk : PE X k (TEv w C (.var j))) (hv : PE X v (TEv w C v')) (hj : j ≠ i) (hs : simple i v' = true)
    (hsw : swapsWithSole [tg] (.Dict [some k] [v] dp) pos.line X.env = pure false) (hw : swappedStores [tg] (.Dict [some k] [v] dp) X.env = pure none) : PS X (.Assign [tg] (.Dict [some k] [v] dp) pos) (T1v w C (disS i j v')) := by
  refine ps_imp (ps_asg (pe_disp (pps_cons hk hv pps_nil) rfl rfl (by simp) (by simp)) hg hsw hw (as_one hn)) fun D σ H ⟨m, S, ρ, R, En, q⟩ => ?_
  by_cases hbad : ex C (disS i j v') ρ S = .bad
  · rw [hbad] at q
    exact q.elim
  obtain ⟨kv, b, kk, h1, h2, h3, h4⟩ := dis_ex hj hs hbad
  rw [h4] at q
  show tDisp _ σ H _
  intro p hp
  have R1 := R.new hp (b := .dK []) (o := .dK []) ⟨[], rfl, rfl⟩
  refine ⟨m ++ [p], S ++ [.dK []], ρ, R1, En.ext (ext_new hp), ?_⟩
  rw [ev_var', h1]
  intro m1 H1 x e1 R2 r1
  refine ⟨m1, S ++ [.dK []], ρ, R2, (En.ext (ext_new hp)).ext e1, ?_⟩
  rw [ev_sval hs, h2]
  intro m2 H2 y e2 R3 r2
  have hS : (S ++ [Ob.dK []])[S.length]? = some (.dK []) := by
    rw [List.getElem?_append_right (Nat.le_refl _), Nat.sub_self]
    rfl
  have hm : m2[S.length]? = some p := e2.ix (e1.ix R.last)
  obtain ⟨o, g1, g2⟩ := R3.ob _ _ _ hS hm
  obtain ⟨ws, rfl, g3⟩ := g2
  have hws : ws = [] := List.length_eq_zero_iff.mp g3.len.symm
  subst hws
  have hx : x = kV kk := key_rv h3 r1
  subst hx
  have RR := R3.set hS hm (c := .dK (put [] kk b)) (o := .dK (putK [] kk y)) ⟨_, rfl, g3.put kk r2⟩
  have eS : (S ++ [Ob.dK []]).set S.length (.dK (put [] kk b)) = S ++ [.dK (put [] kk b)] := by
    rw [List.set_append_right _ _ (Nat.le_refl _), Nat.sub_self, List.set_cons_zero]
  rw [eS] at RR
  have ee := R3.ext_set (o := .dK (putK [] kk y)) hS hm
  have EE := (((ext_new hp).trans e1).trans e2).trans ee
  refine ⟨g1, [(kk, y)], rfl, by simp, m2, S ++ [.dK (put [] kk b)], .ref S.length, ρ, ρ.set i (some (.ref S.length)), RR, En.ext EE, ⟨p, hm, rfl⟩, rfl, fun σ' En' _ => q m2 _ σ' EE RR En'⟩
end
end Mi
namespace Mi
open PySem.Spec PyProof.Rows PySem L2
/-! several except clauses, each with a name or without -/
/-- a clause: its class; its name's slot; what its suite wants -/
structure Hd where
  k : Value
  at? : Option Nat
  ts : Addr → Value → Option Addr → TS
def offD (D : Ends) (j : Nat) : Ends := { nx := fun τ G => D.nx (τ.set j none) G, rt := D.rt, bk := fun τ G => D.bk (τ.set j none) G, ct := fun τ G => D.ct (τ.set j none) G }
def hdT (h : Hd) (e : Addr) (cl : Value) (dd : Option Addr) : TS := match h.at? with
  | none => h.ts e cl dd
  | some j => fun D τ G => h.ts e cl dd (offD D j) (τ.set j (some (.ref e))) G
def wHds (F : PySem.W.Frag) (Wo : WX) (D : Ends) : List Hd → WX
  | [] => Wo
  | h :: rest => fun cl dd τ G => ∃ t, PySem.W.exmOne F cl h.k = some t ∧ (t = true → ∀ e, G e = none → hdT h e cl dd D τ G) ∧ (t = false → wHds F Wo D rest cl dd τ G)
def suiOk (X : Cx) (ss : List Stmt) (h : Hd) : Prop := ∀ (e : Addr) (ob : Obj) (cl : Value) (dd : Option Addr) (pn : List (Addr × Obj)), Zc cl dd ob → (∃ vs, ob.data = .fields vs) → PSs (X.suite e ((e, ob) :: pn)) ss (h.ts e cl dd)
inductive HdsOk2 (X : Cx) : List ExceptHandler → List Hd → Prop
  | nil : HdsOk2 X [] []
  | cons {y : Str} {h : Hd} {s₁ : Stmt} {ss : List Stmt} {p1 p2 : Pos} {es : List ExceptHandler} {hs : List Hd} (hk : Names X y h.k) (hj : h.at? = none) (hu : suiOk X (s₁ :: ss) h) (rest : HdsOk2 X es hs) :
      HdsOk2 X (.ExceptHandler (some (.Name y p1)) none (s₁ :: ss) p2 :: es) (h :: hs)
  | named {y m : Str} {h : Hd} {j : Nat} {s₁ : Stmt} {ss : List Stmt} {p1 p2 : Pos} {es : List ExceptHandler} {hs : List Hd} (hk : Names X y h.k) (hj : h.at? = some j) (hi : X.N[j]? = some m) (hl : X.env.kindOf m = some .local) (hu : suiOk X (s₁ :: ss) h) (rest : HdsOk2 X es hs) :
      HdsOk2 X (.ExceptHandler (some (.Name y p1)) (some m) (s₁ :: ss) p2 :: es) (h :: hs)
section
variable {X : Cx} {inner : List Stmt} {e₁ : ExceptHandler} {es : List ExceptHandler} {hs : List Hd} {p0 : Pos} {T : WX → TS} {Wo : WX}
theorem ps_try_hds (hst : X.stack = X.env :: X.outer) (hfm : X.env.frame = some X.env.locals) (hN : X.N.Nodup) (hT : Takes X Wo)
    (hin : ∀ (W : WX) (pn : List (Addr × Obj)) (xe : Value → Shared → Prop), Takes (X.tr pn xe) W → PassesOwn (model X.prog X.w) X.A X.env xe → PSs (X.tr pn xe) inner (T W))
    (hh : HdsOk2 X (e₁ :: es) hs) : PS X (.Try inner (e₁ :: es) [] [] p0) (fun D τ G => T (wHds X.K Wo D hs) D τ G) := by
  refine ⟨fun pins s₀ τ G D J0 hw => ?_⟩
  have ok := J0.ok
  have hfs : X.A.frames = some (X.env :: X.outer) := by rw [ok.frames, hst]
  refine wpAny_Try_except ?_
  refine wpAny_mono ((hin (wHds X.K Wo D hs) (X.pn ++ pins) (fun v z₁ => wpAny (model X.prog X.w) X.A (noteFrame v X.env) (fun _ z₂ => wpAny (model X.prog X.w) X.A (setFlight v none) (fun _ z₃ => wpAny (model X.prog X.w) X.A (handleBy v X.env (e₁ :: es)) (SP X pins D) X.xe z₃) X.xe z₂) X.xe z₁)
    (fun u z' xx => ?_) PassesOwn.looking).run [] s₀ τ G D (J0.toTry _) hw) (fun fl z1 hz => ?_) (fun v z1 hv => hv)
  · obtain ⟨e, B, sI, pins', τ', G', cl, dd, rfl, J', nb, up, sky, na, os, ag, w⟩ := xx
    have J : Inv X pins τ' G' sI := J'.ofTry ok
    have sky2 : Sky B (X.env :: X.outer) e (Zc cl dd) X.env.locals z'.heap := by rw [← hst]; exact sky
    show wpAny (model X.prog X.w) X.A (noteFrame (.ref e) X.env) _ _ _
    refine Sky.land Zc.steady hfs hfm sky2 fun g3 f3 u3 => ?_
    have J3 : Inv X pins τ' G' { z' with heap := g3 } := J.landed nb f3.1 (up.trans u3) os ag
    obtain ⟨ob3, vs3, he3, hz3, hd3⟩ := f3.there
    have hout : ∀ {g : Heap} {ob : Obj} {vs : Array Value}, g.FunFrames B (X.env :: X.outer) → g.get? e = some ob → ob.data = .fields vs → e ∉ frs (X.env :: X.outer) := fun {g ob vs} ff he hdd hm => by
      obtain ⟨_, ob', he', hnf⟩ := ff.mem hm
      rw [he] at he'; cases he'
      exact hnf _ hdd
    have nfr := hout f3.2.2.1 he3 hd3
    have nL : e ≠ X.env.locals := fun q => nfr (List.mem_filterMap.mpr ⟨X.env, List.mem_cons_self, by rw [hfm, q]⟩)
    have nF : e ∉ X.fs := fun hm => by
      obtain ⟨v, hv, q⟩ := List.mem_filterMap.mp hm
      exact nfr (List.mem_filterMap.mpr ⟨v, List.mem_cons_of_mem _ hv, q⟩)
    have S3 := J3.suite he3 hd3 na nL nF; have LT : PySem.W.Looks (model X.prog X.w) g3 (typeOf (.ref e)) cl := fun A Q E s k q => wpAny_typeOf_ref (k _ _ he3) (by rw [hz3.1]; exact q)
    have look : ∀ {y : Str} {k : Value} {p1 : Pos} {Q E : Value → Shared → Prop}, Names X y k → Q k { z' with heap := g3 } → wpAny (model X.prog X.w) (X.A.mark (some (.ref e))) (eval (.Name y p1) X.env) Q E { z' with heap := g3 } := fun {y k p1 Q E} hk q => by
      obtain ⟨hg, hdbg, hm | ⟨hm, hv, hnn⟩⟩ := hk
      · exact ld_glob (X := X.suite e ((e, ob3) :: (X.pn ++ pins))) S3 hg hm q hdbg
      · exact ld_blt (X := X.suite e ((e, ob3) :: (X.pn ++ pins))) S3 hg hm hv q hnn hdbg
    have go : ∀ {es' : List ExceptHandler} {hs' : List Hd}, HdsOk2 X es' hs' → wHds X.K Wo D hs' cl dd τ' G' → wpAny (model X.prog X.w) X.A (handleBy (.ref e) X.env es') (SP X pins D) X.xe { z' with heap := g3 } := by
      intro es' hs' hk
      induction hk with
      | nil =>
        intro w
        refine wpAny_handleBy_nil ?_
        obtain ⟨k1, k2, k3, ob, vs, T', oT, ts', he, hz, hd, h1, hr⟩ := id f3
        unfold PySem.passOn
        refine wpAny_bind (wpAny_field he hd h1 ?_); rw [if_neg (show ¬ ((Value.ref T' == Value.none) = true) from by simp)]
        have last4 : wpAny (model X.prog X.w) X.A (setFlight (.ref e) X.env.frame) (fun _ z4 => wpAny (model X.prog X.w) X.A (throw (Value.ref e) : PySem.Sem Flow) (SP X pins D) X.xe z4) X.xe { z' with heap := g3 } := by
          rw [hfm]
          refine HandSPX.setFlight_upZ f3 fun g4 hg4 u4 => wpAny_throw (hT _ _ ?_)
          exact ⟨e, B, sI, pins, τ', G', cl, dd, rfl, J, nb, (up.trans u3).trans u4, .inr (.inr (by rw [hst]; exact hg4)), na, os, ag, w⟩
        first
          | exact wpAny_bind (wpAny_pure (wpAny_bind last4))
          | exact wpAny_bind last4
      | @cons y h s₁ ss p1 p2 es2 hs2 hk hj hu rest ih =>
        intro w
        obtain ⟨t, ht1, hyes, hno⟩ := w
        refine wpAny_handleBy_cons (codeAny_handlers_test ?_) (by intro q; cases q); have LM := PySem.W.exm_one (M := model X.prog X.w) (J3.kIn) LT ht1
        refine look hk (LM.here ?_)
        cases t with
        | true =>
          refine codeAny_handlers_suite ?_; refine HandSPX.lands_againZ f3 fun g4 f4 u4 => ?_
          have J4 : Inv X pins τ' G' { z' with heap := g4 } := J.landed nb f4.1 ((up.trans u3).trans u4) os ag
          obtain ⟨ob4, vs4, he4, hz4, hd4⟩ := f4.there
          have S4 := J4.suite he4 hd4 na nL nF; have hy := hyes rfl e na
          unfold hdT at hy
          rw [hj] at hy
          refine wpAny_mono ((hu e ob4 cl dd (X.pn ++ pins) hz4 ⟨_, hd4⟩).run [] _ _ G' _ S4 hy) (fun fl z6 hsp => ?_) (fun _ _ q => False.elim q)
          cases fl with
          | next =>
            obtain ⟨τ6, G6, S6, q6⟩ := hsp
            exact ⟨_, _, S6.unsuite ok, q6⟩ -- (here)
          | brk =>
            obtain ⟨τ6, G6, S6, q6⟩ := hsp
            exact ⟨_, _, S6.unsuite ok, q6⟩ -- (here)
          | cont =>
            obtain ⟨τ6, G6, S6, q6⟩ := hsp
            exact ⟨_, _, S6.unsuite ok, q6⟩ -- (here)
          | ret u =>
            obtain ⟨v6, τ6, G6, S6, r6, q6⟩ := hsp
            exact ⟨_, _, _, S6.unsuite ok, r6, q6⟩ -- (here)
        | false =>
          show wpAny _ X.A (handleBy (.ref e) X.env es2) _ _ _
          exact ih (hno rfl)
      | @named y m h j s₁ ss p1 p2 es2 hs2 hk hj hi hl hu rest ih =>
        intro w
        obtain ⟨t, ht1, hyes, hno⟩ := w
        refine wpAny_handleBy_cons (codeAny_handlers_test ?_) (by intro q; cases q); have LM := PySem.W.exm_one (M := model X.prog X.w) (J3.kIn) LT ht1
        have hloc : Loc X.env.scope m := .inl hl
        refine look hk (LM.here ?_)
        cases t with
        | true =>
          refine codeAny_handlers_suite_as ?_; refine HandSPX.lands_againZ f3 fun g4 f4 u4 => ?_
          have J4 : Inv X pins τ' G' { z' with heap := g4 } := J.landed nb f4.1 ((up.trans u3).trans u4) os ag
          obtain ⟨ob4, vs4, he4, hz4, hd4⟩ := f4.there
          have S4 := J4.suite he4 hd4 na nL nF; have hy := hyes rfl e na
          unfold hdT at hy
          rw [hj] at hy
          refine store_ok (X := X.suite e ((e, ob4) :: (X.pn ++ pins))) (v := .ref e) S4 hN hi hloc rfl (fun z5 S5 => ?_) (.inr hl)
          refine wpAny_mono ((hu e ob4 cl dd (X.pn ++ pins) hz4 ⟨_, hd4⟩).run [] z5 _ G' _ S5 hy) (fun fl z6 hsp => ?_) (fun _ _ q => False.elim q)
          have off : ∀ {τ6 : L2.St} {G6 : Hp} {Q : Shared → Prop}, Inv (X.suite e ((e, ob4) :: (X.pn ++ pins))) [] τ6 G6 z6 → (∀ z7, Inv X pins (τ6.set j none) G6 z7 → Q z7) →
              wpAny (model X.prog X.w) X.A (do bindName X.env m .none; unbindBehindTheSuite X.env m p2) (fun _ z7 => Q z7) X.xe z6 := fun {τ6 G6 Q} S6 hq => gone_ok (S6.unsuite ok) hN hi hl hq
          cases fl with
          | next =>
            obtain ⟨τ6, G6, S6, q6⟩ := hsp
            exact off S6 fun z7 J7 => ⟨_, _, J7, q6⟩
          | brk =>
            obtain ⟨τ6, G6, S6, q6⟩ := hsp
            exact off S6 fun z7 J7 => ⟨_, _, J7, q6⟩
          | cont =>
            obtain ⟨τ6, G6, S6, q6⟩ := hsp
            exact off S6 fun z7 J7 => ⟨_, _, J7, q6⟩
          | ret u =>
            obtain ⟨v6, τ6, G6, S6, r6, q6⟩ := hsp
            exact off S6 fun z7 J7 => ⟨_, _, _, J7, r6, q6⟩
        | false =>
          show wpAny _ X.A (handleBy (.ref e) X.env es2) _ _ _
          exact ih (hno rfl)
    exact go hh w
  · cases fl with
    | next =>
      obtain ⟨τ', G', J', q⟩ := hz
      exact wpAny_execs_nil ⟨τ', G', J'.ofTry ok, q⟩
    | brk =>
      obtain ⟨τ', G', J', q⟩ := hz
      exact ⟨τ', G', J'.ofTry ok, q⟩
    | cont =>
      obtain ⟨τ', G', J', q⟩ := hz
      exact ⟨τ', G', J'.ofTry ok, q⟩
    | ret u =>
      obtain ⟨v, τ', G', J', r, q⟩ := hz
      exact ⟨v, τ', G', J'.ofTry ok, r, q⟩
end
end Mi
namespace Mi
open PySem L2
/-! ### statements: from the text to what is done -/
def notComp : Expr → Bool
  | .ListComp .. => false
  | .SetComp .. => false
  | .DictComp .. => false
  | _ => true
def o2Aug : Operator → Option O2
  | .Add => some .add | .Sub => some .sub | _ => none
/-- a comprehension's value goes to the name without a stop -/
def swp (tc : TC) (x : Str) (px : Pos) (sc : Scope) (p : Pos) : Bool :=
  tc.sc.names.lookup x == some .local && px.line == p.line && !(sc.names.any fun (n, k) => n == x && (k == .local || k == .cell))
def isTup : Expr → Bool
  | .Tuple .. => true
  | _ => false
def trGen (n : Nat) (tc : TC) (tg e : Expr) : Option Stm := (trG tc.own n tg).bind fun t => (tr n tc e).map fun x => .asg t x
/-- two names at once, in the order of the machine -/
def parOk (tc : TC) (x y : Str) (px py : Pos) : Bool := tc.sc.names.lookup x == some .local && tc.sc.names.lookup y == some .local && px.line == py.line && !(x == y)
def trA (n : Nat) (tc : TC) (tg e : Expr) : Option Stm := match tg with
  | .Name x px => match e with
    | .ListComp elt gens sc p => if swp tc x px sc p then (tc.own.lookup x).bind fun i => (tr n tc (.ListComp elt gens sc p)).map fun e' => .asg (.name i) e' else trGen n tc (.Name x px) (.ListComp elt gens sc p)
    | e => if notComp e then trGen n tc (.Name x px) e else none
  | .Subscript a i _ => if notSl i && notComp e then (tr n tc a).bind fun x => (tr n tc i).bind fun y => (tr n tc e).map fun z => .set x y z else none
  | .Tuple ts k p => if isTup e then match ts, e with
      | [.Name x px, .Name y py], .Tuple [a, b] _ _ => if parOk tc x y px py then
          if (foldedForSure 8 a && foldedForSure 8 b) then trGen n tc tg e
          else if !(constantsAlone 8 a && constantsAlone 8 b) then
            (tc.N.idxOf? x).bind fun i => (tc.N.idxOf? y).bind fun j => (tr n tc a).bind fun u => (tr n tc b).map fun v => .asg (.tup [.name i, .name j]) (.tup [u, v])
          else none
        else none
      | _, _ => none
    else if notComp e then trGen n tc tg e else none
  | _ => none
/-- x = {y: v}, one entry -/
def trD (n : Nat) (tc : TC) (tg e : Expr) : Option Stm := match tg, e with
  | .Name x px, .Dict [some (.Name y py)] [v] _ => (tr n tc (.Name y py)).bind fun k => match k with
    | .var j => (trG tc.own n (.Name x px)).bind fun t => match t with
      | .name i => (tr n tc v).bind fun v' => if !decide (j = i) && simple i v' then some (disS i j v') else none
      | _ => none
    | _ => none
  | _, _ => none
def trSl (f : Stmt → Option Stm) : List Stmt → Option (List Stm)
  | [] => some []
  | s :: r => (f s).bind fun x => (trSl f r).map fun xs => x :: xs
/-- one except clause behind a body -/
def trH (tc : TC) (p : List Stm) : ExceptHandler → Option Stm
  | .ExceptHandler (some (.Name x _)) nm (b :: suite) _ => (tc.cls.lookup x).bind fun k => if isGl tc x = true then (match nm with
    | some m => if m ≠ "" ∧ tc.sc.names.lookup m = some .local ∧ (m == ("__debug__" : Str)) = false ∧ (m == ("__classdict__" : Str)) = false then
        (tc.N.idxOf? m).bind fun i => if i < 1000 then (trQ tc m i (b :: suite)).map fun q => .tri p k i tc.rai q else none else none
    | none => (trQ tc "" 1000 (b :: suite)).map fun q => .tri p k 1000 tc.rai q) else none
  | _ => none
/-- several, the first one innermost -/
def trHs (tc : TC) : ExceptHandler → List ExceptHandler → List Stm → Option Stm
  | h, [], p => trH tc p h
  | h, h2 :: r, p => (trH tc p h).bind fun s => trHs tc h2 r [s]
def trS : Nat → TC → Stmt → Option Stm
  | 0, _, _ => none
  | n + 1, tc, s => match s with
    | .Pass _ => some .pass
    | .Break _ => some .brk
    | .Continue _ => some .cnt
    | .Return v _ => match v with
      | some e => (tr n tc e).map .ret
      | none => some .retn
    | .Expr e _ => match e with
      | .Constant (.str _) _ _ => some .pass
      | e => if notComp e then (tr n tc e).map .exp else none
    | .If c p q _ => if okT n c then (tr n tc c).bind fun x => (trSl (trS n tc) p).bind fun y => (trSl (trS n tc) q).map fun z => .ifS x y z else none
    | .While c p o _ => match o with
      | [] => if okT n c then (tr n tc c).bind fun x => (trSl (trS n tc) p).map fun y => .whl x y else none
      | _ => none
    | .For t it p o _ => match o with
      | [] => if notSet it then (trG tc.own n t).bind fun t' => (trI (tr n tc) tc t it).bind fun r => (trSl (trS n tc) p).map fun y => .for t' r.1 r.2 y else none
      | _ => none
    | .Assign ts e _ => match ts with
      | [tg] => match trD n tc tg e with
        | some s => some s
        | none => trA n tc tg e
      | _ => none
    | .AugAssign t o e _ => match t with
      | .Name x _ => (tc.own.lookup x).bind fun i => (o2Aug o).bind fun p => (tr n tc e).map fun y => .aug i p y
      | .Subscript a i _ => if notSl i then (o2Aug o).bind fun p => (tr n tc a).bind fun x => (tr n tc i).bind fun y => (tr n tc e).map fun z => .augS x y p z else none
      | _ => none
    | .Raise v c _ => match v, c with
      | some (.Call (.Name x _) [.Constant (.str _) _ _] [] _), none => match tc.cls.lookup x with
        | some k => if isGl tc x = true ∧ k ∈ tc.rai ∧ k < 100 then some (.raise k) else some .nvr
        | none => some .nvr
      | _, _ => some .nvr
    | .Try body hs o f _ => match hs, o, f with
      | h1 :: r, [], [] => (trSl (trS n tc) body).bind fun p => trHs tc h1 r p
      | _, _, _ => none
    | _ => none
/-! ### it is sound -/
theorem ite_some {α : Type} {c : Bool} {x : Option α} {y : α} (h : (if c = true then x else none) = some y) : c = true ∧ x = some y := by
  cases c with
  | true => exact ⟨rfl, h⟩
  | false => cases h
theorem tr_lc {n : Nat} {tc : TC} {elt : Expr} {gens : List Comprehension} {sc : Scope} {p : Pos} {e' : E} (h : tr n tc (.ListComp elt gens sc p) = some e') :
    ∃ k t it ifs t' r cs e1, n = k + 1 ∧ gens = [⟨t, it, ifs, 0⟩] ∧ blkC tc.N tc.sc sc (ownOf tc sc) = true ∧ ownOk sc (ownOf tc sc) = true ∧ notSet it = true ∧ ifsOk k ifs = true ∧
      trG (ownOf tc sc) k t = some t' ∧ trI (tr k tc) tc t it = some r ∧ trs (tr k (tc.blk sc)) ifs = some cs ∧ tr k (tc.blk sc) elt = some e1 ∧ e' = .lc ((ownOf tc sc).map (·.2)) t' r.1 r.2 cs e1 := by
  cases n with
  | zero => cases h
  | succ k =>
    unfold tr at h
    simp only at h
    split at h
    · rename_i t it ifs
      obtain ⟨hh, h⟩ := ite_some h
      simp only [Bool.and_eq_true] at hh
      obtain ⟨⟨⟨k1, k2⟩, k3⟩, k4⟩ := hh
      obtain ⟨t', h1, h⟩ := bnd h
      obtain ⟨r, h2, h⟩ := bnd h
      obtain ⟨cs, h3, h⟩ := bnd h
      obtain ⟨e1, h4, rfl⟩ := mpp h
      exact ⟨k, t, it, ifs, t', r, cs, e1, rfl, rfl, k1, k2, k3, k4, h1, h2, h3, h4, rfl⟩
    · cases h
section
variable {w : Wd} {C : Ctx} {tc : TC} {X : Cx} {a b c e : Expr} {a' b' c' e' : E} {es : List Expr} {es' : List E} {pos : Pos} {st : Stmt} {rest p q : List Stmt} {s : Stm} {r p' q' : List Stm}
theorem notComp_sw {t : Expr} {l : Nat} {env : PySem.Env} (h : notComp e = true) : swapsWith e (some t) l env = pure false := by
  cases e <;> first | rfl | (exact Bool.noConfusion h)
theorem notComp_swN {l : Nat} {env : PySem.Env} (h : notComp e = true) : swapsWith e none l env = pure false := by
  cases e <;> first | rfl | (exact Bool.noConfusion h)
theorem sole_sw {t : Expr} {l : Nat} {env : PySem.Env} (h : notComp e = true) : swapsWithSole [t] e l env = pure false := by
  have : swapsWithSole [t] e l env = swapsWith e (some t) l env := by unfold swapsWithSole; rfl
  rw [this, notComp_sw h]
theorem block_kind (ok : SxOk w C tc X) : X.env.blockKind = .function := by
  unfold PySem.Env.blockKind
  rw [ok.cx.sc, ok.kind]
  rfl
theorem kind_of (ok : SxOk w C tc X) (x : Str) : X.env.kindOf x = tc.sc.names.lookup x := by
  show X.env.scope.names.lookup x = _
  rw [ok.cx.sc]
theorem swp_sw (ok : SxOk w C tc X) {x : Str} {px p : Pos} {elt : Expr} {gens : List Comprehension} {sc : Scope} {l : Nat} : swapsWith (.ListComp elt gens sc p) (some (.Name x px)) l X.env = pure (swp tc x px sc p) := by
  show (pure (X.env.blockKind == .function && X.env.kindOf x == some .local && px.line == p.line && !(sc.names.any fun (n, k) => n == x && (k == .local || k == .cell))) : PySem.Sem Bool) = _
  rw [block_kind ok, kind_of ok]
  rfl
theorem trGen_ok (n : Nat) {tg : Expr} (ok : SxOk w C tc X) (hn : nst tg = true) (hs : swapsWithSole [tg] e pos.line X.env = pure false) (hw : swappedStores [tg] e X.env = pure none) (h : trGen n tc tg e = some s) : PS X (.Assign [tg] e pos) (T1v w C s) := by
  unfold trGen at h
  obtain ⟨t, h1, h⟩ := bnd h
  obtain ⟨x, h2, rfl⟩ := mpp h
  exact s_asg hn (tr_ok n ok.cx h2).1 (trG_ok ok.cx n h1).1 hs hw
theorem ed2 {x y : Str} (h : x ≠ y) : [x, y].eraseDups.length = 2 := by
  rw [List.eraseDups_cons]
  have : List.filter (fun b => !b == x) [y] = [y] := by
    rw [List.filter_cons_of_pos]
    · rfl
    · simpa using fun e => h e.symm
  rw [this, List.eraseDups_cons]
  rfl
theorem par_sw {x y : Str} {px py pt p3 : Pos} {kt k2 : Nat} (ok : SxOk w C tc X) (h : parOk tc x y px py = true) (ha : nst a = true) (hb : nst b = true) : swappedStores [.Tuple [.Name x px, .Name y py] kt pt] (.Tuple [a, b] k2 p3) X.env =
    if (foldedForSure 8 a && foldedForSure 8 b) then pure none else if (constantsAlone 8 a && constantsAlone 8 b) then (do unsupported "assign.tuple-of-constant-expressions:order-of-the-stores"; pure (some [x, y])) else pure (some [x, y]) := by
  unfold parOk at h
  simp only [Bool.and_eq_true, beq_iff_eq, Bool.not_eq_true', beq_eq_false_iff_ne] at h
  obtain ⟨⟨⟨h1, h2⟩, h3⟩, h4⟩ := h; have k1 : X.env.kindOf x = some .local := by rw [kind_of ok]; exact h1
  have k2 : X.env.kindOf y = some .local := by rw [kind_of ok]; exact h2
  have hl : ((Expr.Name y py).pos.line == (Expr.Name x px).pos.line) = true := by rw [beq_iff_eq]; exact h3.symm
  unfold swappedStores
  have key : ∀ {e : Expr}, nst e = true → (fun | Expr.Starred .. => true | _ => false : Expr → Bool) e = false := by
    intro e h
    cases e <;> first | rfl | (exact Bool.noConfusion h)
  have hst : ([a, b].any fun | .Starred .. => true | _ => false) = false := by
    show (_ || (_ || false)) = false
    rw [Bool.or_false, key ha, key hb]
    rfl
  have hn : ([Expr.Name x px, Expr.Name y py].filterMap fun
    | .Name id pos => if X.env.kindOf id == some .local && pos.line == px.line then some id else none
    | _ => none) = [x, y] := by
    rw [List.filterMap_cons_some (b := x) (by simp [k1]), List.filterMap_cons_some (b := y) (by simp [k2, h3]), List.filterMap_nil]
  simp only [block_kind ok]
  rw [show ([Expr.Name x px, Expr.Name y py].head?.map (·.pos.line)).getD 0 = px.line from rfl]
  generalize hg : List.filterMap _ [Expr.Name x px, Expr.Name y py] = names
  have hn' : names = [x, y] := by rw [← hg]; exact hn
  subst hn'
  generalize hh : List.any [a, b] _ = stars
  have hst' : stars = false := by rw [← hh]; exact hst
  subst hst'
  have e2 : ([x, y].eraseDups.length != [x, y].length) = false := by rw [ed2 h4]; rfl
  rw [e2]
  simp only [List.all_cons, List.all_nil, Bool.and_true]
  by_cases e1 : (foldedForSure 8 a && foldedForSure 8 b) = true
  · simp [e1]
  · by_cases e2 : (constantsAlone 8 a && constantsAlone 8 b) = true
    · simp [e1, e2]
    · simp [e1, e2]
theorem trA_ok (n : Nat) {tg : Expr} (ok : SxOk w C tc X) (h : trA n tc tg e = some s) : PS X (.Assign [tg] e pos) (T1v w C s) := by
  have nt : ∀ {ts k p}, isTup e = false → swappedStores [.Tuple ts k p] e X.env = pure none := by
    intro ts k p h
    cases e <;> first | rfl | (exact Bool.noConfusion h)
  unfold trA at h
  split at h
  · rename_i x px
    split at h
    · rename_i elt gens sc p
      split at h
      · rename_i hs
        obtain ⟨i, h1, h⟩ := bnd h
        obtain ⟨e', h2, rfl⟩ := mpp h
        have hm := PySem.mem_of_lookup h1
        obtain ⟨k, t, it, ifs, t', r, cs, e1, rfl, rfl, k1, k2, k3, k4, q1, q2, q3, q4, rfl⟩ := tr_lc h2
        have hsl := (trG_ok (w := wF w) (C := C) (tc := tc.blk sc) (ok.cx.blk k2 X.s_0 X.H_0 0 [] []) k q1).2
        have hl : X.env.scope.names.lookup x = some .local := by
          unfold swp at hs
          simp only [Bool.and_eq_true, beq_iff_eq] at hs
          rw [ok.cx.sc]
          exact hs.1.1
        have hA : ∀ e e', tr k tc e = some e' → nst e = true ∧ PE X e (TEv w C e') := fun e e' h => ⟨tr_nst h, (tr_ok k ok.cx h).1⟩
        refine ps_imp (ps_setLc (own := ownOf tc sc) ok.cx.calm (by rw [ok.cx.N]; exact ok.cx.nd) (ok.cx.sto _ hm).1 hl (by rw [swp_sw ok, hs]) (trI_ok ok.cx hA q2) (blkOk_by (by rw [ok.cx.N, ok.cx.sc]; exact k1))
          (fun s H Cc cl fp => (trG_ok (ok.cx.blk k2 s H Cc cl fp) k q1).1) (fun s H Cc cl fp => trs_pts (n := k) (fun e e' he ht => (tr_ok k (ok.cx.blk k2 s H Cc cl fp) he).2 ht) q3 k4) (fun s H Cc cl fp => (tr_ok k (ok.cx.blk k2 s H Cc cl fp) q4).1) (notSet_fold k3))
          (fun D σ H q => ?_)
        obtain ⟨m, S, ρ, R, En, q⟩ := asg_read q
        refine lc_read hsl ⟨m, S, ρ, R, En, q.mono fun z H1 ⟨m1, S1, u, ρ1, ρ2, R1, En1, r1, l1, f1⟩ => ?_⟩
        unfold lay at l1
        cases l1
        exact f1 _ (En1.set i r1) (fun vs hv => wipe_set (hv i (by simp [slots])))
      · rename_i hs
        exact trGen_ok n ok rfl (show swapsWith (.ListComp elt gens sc p) (some (.Name x px)) pos.line X.env = pure false by rw [swp_sw ok, Bool.eq_false_iff.mpr hs]) rfl h
    · obtain ⟨hc, h⟩ := ite_some h
      exact trGen_ok n ok rfl (sole_sw hc) (by cases e <;> rfl) h
  · obtain ⟨hc, h⟩ := ite_some h
    rw [Bool.and_eq_true] at hc
    obtain ⟨x, h1, h⟩ := bnd h
    obtain ⟨y, h2, h⟩ := bnd h
    obtain ⟨z, h3, rfl⟩ := mpp h
    exact s_set ok.cx hc.1 (tr_ok n ok.cx h1).1 (tr_ok n ok.cx h2).1 (tr_ok n ok.cx h3).1 (sole_sw hc.2)
  · rename_i ts k p
    split at h
    · split at h
      · rename_i x px y py a b k2 p3 _
        obtain ⟨hp, h⟩ := ite_some h
        split at h
        · rename_i hf
          have nf : ∀ {e : Expr}, foldedForSure 8 e = true → nst e = true := by
            intro e he
            cases e <;> first | rfl | (simp [foldedForSure] at he)
          have hf2 := hf
          rw [Bool.and_eq_true] at hf2
          have hna : nst a = true := nf hf2.1
          have hnb : nst b = true := nf hf2.2
          exact trGen_ok n ok rfl rfl (by rw [par_sw ok hp hna hnb, if_pos hf]) h
        · rename_i hf
          obtain ⟨hc, h⟩ := ite_some h
          obtain ⟨i, h1, h⟩ := bnd h
          obtain ⟨j, h2, h⟩ := bnd h
          obtain ⟨u, h3, h⟩ := bnd h
          obtain ⟨v, h4, rfl⟩ := mpp h
          have hp2 := hp
          unfold parOk at hp2
          simp only [Bool.and_eq_true, beq_iff_eq, Bool.not_eq_true', beq_eq_false_iff_ne] at hp2
          obtain ⟨⟨⟨l1, l2⟩, l3⟩, l4⟩ := hp2
          have g1 := idx_get h1
          have g2 := idx_get h2
          have hA : PA X [a, b] (TAv w C [u, v]) := sa_cons (tr_nst h3) (tr_ok n ok.cx h3).1 (sa_cons (tr_nst h4) (tr_ok n ok.cx h4).1 sa_nil)
          refine s_par ok.cx (by rw [ok.cx.N]; exact g1) (by rw [ok.cx.N]; exact g2) (fun e => l4 ?_) (by rw [ok.cx.sc]; exact l1) (by rw [ok.cx.sc]; exact l2) hA ?_
          · subst e
            rw [g1] at g2
            exact Option.some.inj g2
          · rw [par_sw ok hp (tr_nst h3) (tr_nst h4), if_neg hf]
            have : ¬ (constantsAlone 8 a && constantsAlone 8 b) = true := by
              intro e
              rw [e] at hc
              cases hc
            rw [if_neg this]
      · cases h
    · rename_i hf
      obtain ⟨hc, h⟩ := ite_some h
      exact trGen_ok n ok rfl (sole_sw hc) (nt (Bool.eq_false_iff.mpr hf)) h
  · cases h
theorem trD_ok (n : Nat) {tg : Expr} (ok : SxOk w C tc X) (h : trD n tc tg e = some s) : PS X (.Assign [tg] e pos) (T1v w C s) := by
  unfold trD at h
  split at h
  · rename_i x px y py v dp
    obtain ⟨k, h1, h⟩ := bnd h
    split at h
    · rename_i j
      obtain ⟨t, h2, h⟩ := bnd h
      split at h
      · rename_i i
        obtain ⟨v', h3, h⟩ := bnd h
        obtain ⟨hc, h⟩ := ite_some h
        cases h
        rw [Bool.and_eq_true] at hc
        exact s_dis rfl (trG_ok ok.cx n h2).1 (tr_ok n ok.cx h1).1 (tr_ok n ok.cx h3).1 (by simpa using hc.1) hc.2 (sole_sw rfl) rfl
      · cases h
    · cases h
  · cases h
theorem trSl_ok {f : Stmt → Option Stm} (hf : ∀ st s, f st = some s → PS X st (T1v w C s)) : ∀ {ss : List Stmt} {ss' : List Stm}, trSl f ss = some ss' → PSs X ss (TSv w C ss')
  | [], _, h => by cases h; exact ss_nil
  | st :: rest, _, h => by
    unfold trSl at h
    obtain ⟨x, h1, h⟩ := bnd h
    obtain ⟨xs, h2, rfl⟩ := mpp h
    exact ss_cons (hf _ _ h1) (trSl_ok hf h2)
theorem aug_has {o : Operator} {p : O2} (h : o2Aug o = some p) : augOp p = some o := by
  cases o <;> first | (cases h; rfl) | (cases h; done)
theorem s_nvr : PS X st (T1v w C .nvr) := ⟨fun pins s σ H D I ⟨m, S, ρ, R, En, q⟩ => by
  unfold ex at q
  exact q.elim⟩
theorem s_raise {x : Str} {k j : Nat} {m : Str} {p p2 pos' : Pos} (ok : SxOk w C tc X) (hg : isGl tc x = true) (hk : tc.cls.lookup x = some k) (hr : k ∈ tc.rai) (h1 : k < 100) :
    PS X (.Raise (some (.Call (.Name x p) [.Constant (.str m) j p2] [] pos)) none pos') (T1v w C (.raise k)) := by
  obtain ⟨g1, g2⟩ := isGl_gl ok.cx hg
  obtain ⟨C1, o1, o2⟩ := ok.cx.cls.own _ (PySem.mem_of_lookup hk) h1
  obtain ⟨C2, bm, r1, r2, r3, r4, r5, r6, _⟩ := ok.cx.cls.rai k hr
  have o1 : w.cl k = .ref C1 := o1
  rw [o1] at r1
  obtain rfl := Value.ref.inj r1
  refine ps_imp (ps_raise ok.cx.calm ok.cx.tk (pmk_own r2 r3 o2 r4 (raises_own r5 r6) g1 g2)) fun D σ H ⟨m, S, ρ, R, En, q⟩ => ?_
  unfold ex at q
  have := q m H σ .refl R En
  rw [o1] at this
  exact this
theorem REnv.unset {K : PySem.W.Frag} {m : List Addr} {H : Hp} {ρ : Env} {σ : L2.St} {z : Option V} (En : REnv K m H ρ σ) (i : Nat) : REnv K m H (ρ.set i none) (σ.set i z) := by
  refine ⟨by rw [List.length_set, List.length_set, En.1], fun j v hv => ?_⟩
  by_cases h : i = j
  · subst h
    by_cases hl : i < ρ.length
    · rw [List.getElem?_set_self hl] at hv; cases hv
    · rw [List.getElem?_eq_none (by simpa using hl)] at hv; cases hv
  · rw [List.getElem?_set_ne h] at hv ⊢
    exact En.2 j v hv
theorem Sst.gone {m : List Addr} {H : Hp} {o : SO} {D : Ends} {i : Nat} (h : Sst w m H (o.gone i) D) :
    Sst w m H o { nx := fun σ' H' => D.nx (σ'.set i none) H', rt := D.rt, bk := fun σ' H' => D.bk (σ'.set i none) H', ct := fun σ' H' => D.ct (σ'.set i none) H' } := by
  cases o with
  | nx ρ S => exact fun m' H' σ' e R En => h m' H' _ e R (En.unset i)
  | bk ρ S => exact fun m' H' σ' e R En => h m' H' _ e R (En.unset i)
  | ct ρ S => exact fun m' H' σ' e R En => h m' H' _ e R (En.unset i)
  | rt v S => exact h
  | ex c d ρ S => exact h
  | bad => exact h
theorem REnv.weak {K : PySem.W.Frag} {m : List Addr} {H : Hp} {ρ : Env} {σ : L2.St} (En : REnv K m H ρ σ) (i : Nat) : REnv K m H (ρ.set i none) σ := by
  refine ⟨by rw [List.length_set, En.1], fun j v hv => ?_⟩
  by_cases h : i = j
  · subst h
    by_cases hl : i < ρ.length
    · rw [List.getElem?_set_self hl] at hv; cases hv
    · rw [List.getElem?_eq_none (by simpa using hl)] at hv; cases hv
  · rw [List.getElem?_set_ne h] at hv
    exact En.2 j v hv
theorem Sst.gone0 {m : List Addr} {H : Hp} {o : SO} {D : Ends} {i : Nat} (h : Sst w m H (o.gone i) D) : Sst w m H o D := by
  cases o with
  | nx ρ S => exact fun m' H' σ' e R En => h m' H' _ e R (En.weak i)
  | bk ρ S => exact fun m' H' σ' e R En => h m' H' _ e R (En.weak i)
  | ct ρ S => exact fun m' H' σ' e R En => h m' H' _ e R (En.weak i)
  | rt v S => exact h
  | ex c d ρ S => exact h
  | bad => exact h
/-- what a clause's suite wants of the error in hand -/
def tsQ (w : Wd) (C : Ctx) (R : List Nat) (x : Str) (i : Nat) (q : List Stm) (a : Addr) (cls : Value) (d : Option Addr) : TS := fun D σ H => ∃ c, c ∈ R ∧ cls = w.cl c ∧ d = none ∧ TSq w (curC C c) x i a q D σ H
theorem cls_names (ok : CxOk w C tc X) {x : Str} {k : Nat} (hg : isGl tc x = true) (hk : tc.cls.lookup x = some k) : Names X x (w.cl k) := by
  obtain ⟨g1, g2⟩ := isGl_gl ok hg
  have hm := PySem.mem_of_lookup hk
  by_cases h : k < 100
  · obtain ⟨C1, o1, o2⟩ := ok.cls.own _ hm h
    exact ⟨g1, g2, .inl (by rw [show w.cl k = _ from o1]; exact o2)⟩
  · obtain ⟨o1, o2, T, o3, o4⟩ := ok.cls.blt _ hm (Nat.le_of_not_lt h)
    exact ⟨g1, g2, .inr ⟨o1, by rw [show w.cl k = _ from o3]; exact o4, o2⟩⟩
/-- a clause read: its class, name, slot, suite -/
structure Rd where
  k : Nat
  nm : Str
  i : Nat
  q : List Stm
def Rd.hd (w : Wd) (C : Ctx) (R : List Nat) (r : Rd) : Hd := ⟨w.cl r.k, if r.nm = "" then none else some r.i, tsQ w C R r.nm r.i r.q⟩
/-- an outcome behind a clause -/
def clO (C : Ctx) (R : List Nat) (r : Rd) (o : SO) : SO := match o with
  | .ex c' d ρ' S' => if c' ∈ R ∧ d = none ∧ (r.i < ρ'.length ∨ 1000 ≤ r.i) then (if exSub c' r.k then (exs (curC C c') r.q (ρ'.set r.i none) S').gone r.i else .ex c' d ρ' S') else .bad
  | o => o
def clsO (C : Ctx) (R : List Nat) : List Rd → SO → SO
  | [], o => o
  | r :: l, o => clsO C R l (clO C R r o)
theorem clsO_nox {C : Ctx} {R : List Nat} : ∀ (l : List Rd) {o : SO}, o.nox → clsO C R l o = o
  | [], _, _ => rfl
  | r :: l, o, h => by
    have : clO C R r o = o := by
      cases o with
      | ex c d ρ S => exact h.elim
      | _ => rfl
    unfold clsO
    rw [this]
    exact clsO_nox l h
theorem ex_tri' {C : Ctx} {p : List Stm} {R : List Nat} {r : Rd} {ρ : Env} {S : Store} : ex C (.tri p r.k r.i R r.q) ρ S = clO C R r (exs C p ρ S) := by
  unfold ex clO
  rfl
theorem exs_one {C : Ctx} {s : Stm} {ρ : Env} {S : Store} : exs C [s] ρ S = ex C s ρ S := by
  unfold exs
  cases ex C s ρ S with
  | nx ρ S => rw [SO.then_nx]; unfold exs; rfl
  | _ => rfl
structure RdOk (tc : TC) (h : ExceptHandler) (r : Rd) : Prop where
  rd : ∃ y m b ss p1 p2, h = .ExceptHandler (some (.Name y p1)) m (b :: ss) p2 ∧ isGl tc y = true ∧ tc.cls.lookup y = some r.k ∧ trQ tc r.nm r.i (b :: ss) = some r.q ∧
    ((m = none ∧ r.nm = "" ∧ r.i = 1000) ∨ (m = some r.nm ∧ r.nm ≠ "" ∧ tc.sc.names.lookup r.nm = some .local ∧ tc.N[r.i]? = some r.nm ∧ r.i < 1000)) ∧ (r.nm == ("__debug__" : Str)) = false ∧ (r.nm == ("__classdict__" : Str)) = false
inductive RdsOk (tc : TC) : List ExceptHandler → List Rd → Prop
  | nil : RdsOk tc [] []
  | cons {h : ExceptHandler} {r : Rd} {hs : List ExceptHandler} {l : List Rd} (a : RdOk tc h r) (b : RdsOk tc hs l) : RdsOk tc (h :: hs) (r :: l)
theorem trH_ok {h : ExceptHandler} {p : List Stm} {s : Stm} (e : trH tc p h = some s) : ∃ r, RdOk tc h r ∧ s = .tri p r.k r.i tc.rai r.q := by
  unfold trH at e
  split at e
  · rename_i y p1 nm b ss p2
    obtain ⟨k, hk, e⟩ := bnd e
    split at e
    · rename_i hg
      split at e
      · rename_i m _
        split at e
        · rename_i hh
          obtain ⟨i, hi, e⟩ := bnd e
          split at e
          · rename_i hi2
            obtain ⟨q, hq, rfl⟩ := mpp e
            exact ⟨⟨k, m, i, q⟩, ⟨_, _, _, _, _, _, rfl, hg, hk, hq, .inr ⟨rfl, hh.1, hh.2.1, idx_get hi, hi2⟩, hh.2.2.1, hh.2.2.2⟩, rfl⟩
          · cases e
        · cases e
      · obtain ⟨q, hq, rfl⟩ := mpp e
        exact ⟨⟨k, "", 1000, q⟩, ⟨_, _, _, _, _, _, rfl, hg, hk, hq, .inl ⟨rfl, rfl, rfl⟩, show (("" : Str) == ("__debug__" : Str)) = false by decide, show (("" : Str) == ("__classdict__" : Str)) = false by decide⟩, rfl⟩
    · cases e
  · cases e
theorem trHs_ok : ∀ {r : List ExceptHandler} {h : ExceptHandler} {p : List Stm} {s : Stm}, trHs tc h r p = some s → ∃ r1 l, RdsOk tc (h :: r) (r1 :: l) ∧ ∀ C ρ S, ex C s ρ S = clsO C tc.rai (r1 :: l) (exs C p ρ S)
  | [], h, p, s, e => by
    obtain ⟨r1, h1, rfl⟩ := trH_ok e
    exact ⟨r1, [], .cons h1 .nil, fun C ρ S => ex_tri'⟩
  | h2 :: r, h, p, s, e => by
    unfold trHs at e
    obtain ⟨s1, e1, e2⟩ := bnd e
    obtain ⟨r1, h1, rfl⟩ := trH_ok e1
    obtain ⟨r2, l, h3, h4⟩ := trHs_ok e2
    refine ⟨r1, r2 :: l, .cons h1 h3, fun C ρ S => ?_⟩
    rw [h4, exs_one, ex_tri']
    rfl
theorem hds_ok (ok : SxOk w C tc X) : ∀ {hs : List ExceptHandler} {l : List Rd}, RdsOk tc hs l → HdsOk2 X hs (l.map (Rd.hd w C tc.rai))
  | _, _, .nil => .nil
  | _, _, .cons (h := h) (r := r) hr rest => by
    obtain ⟨y, m, b, ss, p1, p2, rfl, hg, hk, hq, hc, hd, hcd⟩ := hr.rd
    have hu : suiOk X (b :: ss) (r.hd w C tc.rai) := by
      intro a oe cls d pn hz hf
      refine ⟨fun pins s σ H D I ⟨c, hcR, e1, e2, h⟩ => ?_⟩
      obtain ⟨D1, bm, r1, r2, r3, r4, r5, r6, r7⟩ := ok.cx.cls.rai c hcR
      have r1 : w.cl c = .ref D1 := r1
      subst e2
      rw [e1, r1] at hz
      refine (trQ_ok (w := w) (C := curC C c) (X := X.suite a ((a, oe) :: pn)) (a := a) (i := r.i) (c := c) (x := r.nm) ⟨ok.cx.K, ok.cx.sc, ok.cx.N, ok.cx.nd, ok.cx.blt, ok.cx.sto, fun hne => ?_, ⟨_, if_pos rfl⟩, D1, call_isE r7 hz hf, fun e he hge => ?_⟩ hd hcd hq).run pins s σ H D I h
      · rcases hc with ⟨_, h2, _⟩ | ⟨_, _, h3, h4, _⟩
        · exact absurd h2 hne
        · exact ⟨h4, .inl (by show X.env.scope.names.lookup r.nm = _; rw [ok.cx.sc]; exact h3)⟩
      · have hkt := (ok.cx.cls.tst c hcR e he).1
        rw [r1] at hkt
        obtain ⟨g1, g2⟩ := isGl_gl ok.cx hge
        by_cases h100 : e.2 < 100
        · obtain ⟨C1, o1, o2⟩ := ok.cx.cls.own e he h100
          exact ⟨.ref C1, .ref C1, fun p => pe_glob g1 o2 rfl g2, fun u hu => hu, by rw [← o1]; exact hkt⟩
        · obtain ⟨o1, o2, T, o3, o4⟩ := ok.cx.cls.blt e he (Nat.le_of_not_lt h100)
          exact ⟨.ty T, .type T, fun p => pe_bltn g1 o1 o4 rfl o2 g2, fun u hu => hu, by rw [← o3]; exact hkt⟩
    have hn : Names X y (r.hd w C tc.rai).k := cls_names ok.cx hg hk
    rcases hc with ⟨rfl, h2, _⟩ | ⟨rfl, h2, h3, h4, _⟩
    · exact .cons hn (by unfold Rd.hd; rw [if_pos h2]) hu (hds_ok ok rest)
    · exact .named (j := r.i) hn (by unfold Rd.hd; rw [if_neg h2]) (by rw [ok.cx.N]; exact h4) (by show X.env.scope.names.lookup r.nm = _; rw [ok.cx.sc]; exact h3) hu (hds_ok ok rest)
/-- what the clauses' outcome gives the wish -/
theorem hds_wish (ok : SxOk w C tc X) {m : List Addr} {H : Hp} {D : Ends} {c : Nat} {d : Option Nat} {ρ : Env} {S : Store} : ∀ {hs : List ExceptHandler} {l : List Rd}, RdsOk tc hs l → Sst w m H (clsO C tc.rai l (.ex c d ρ S)) D →
    ∀ m' H' σ', Ext m H m' H' → Rel w.K m' S H' → REnv w.K m' H' ρ σ' → wHds X.K w.We D (l.map (Rd.hd w C tc.rai)) (w.cl c) (dAt m' d) σ' H'
  | _, _, .nil, h => h
  | _, _, .cons (h := hh) (r := r) (l := l) hr rest, h => by
    intro m' H' σ' e' R' En'
    have hu : clsO C tc.rai (r :: l) (.ex c d ρ S) = clsO C tc.rai l (if c ∈ tc.rai ∧ d = none ∧ (r.i < ρ.length ∨ 1000 ≤ r.i) then (if exSub c r.k then (exs (curC C c) r.q (ρ.set r.i none) S).gone r.i else .ex c d ρ S) else .bad) := rfl
    rw [hu] at h
    obtain ⟨y, mm, b, ss, p1, p2, _, hg, hk, hq, hc, hd, hcd⟩ := hr.rd
    by_cases hcond : c ∈ tc.rai ∧ d = none ∧ (r.i < ρ.length ∨ 1000 ≤ r.i)
    · rw [if_pos hcond] at h
      obtain ⟨h1, h2, h3⟩ := hcond
      refine ⟨exSub c r.k, by rw [ok.cx.K]; have := (ok.cx.cls.tst c h1 _ (PySem.mem_of_lookup hk)).2; rw [ok.cx.K] at this; exact this, fun hb a na => ?_, fun hb => ?_⟩
      · rw [if_pos hb, clsO_nox l (gone_nox (trQ_nox hq _ _ _))] at h
        subst h2
        unfold hdT Rd.hd
        rcases hc with ⟨_, q2, q3⟩ | ⟨_, q2, q3, q4, q5⟩
        · rw [if_pos q2]
          exact ⟨c, h1, rfl, rfl, fun hne => absurd q2 hne, m', S, _, R', En'.weak r.i, (Sst.ext e' h).gone0⟩
        · rw [if_neg q2]
          refine ⟨c, h1, rfl, rfl, fun _ => ?_, m', S, _, R', En'.unset r.i, (Sst.ext e' h).gone⟩
          show (σ'.set r.i _)[r.i]? = _
          rw [List.getElem?_set_self (by rw [← En'.1]; omega)]
      · rw [if_neg (by rw [hb]; exact Bool.false_ne_true)] at h
        exact hds_wish ok rest h m' H' σ' e' R' En'
    · rw [if_neg hcond, clsO_nox l (show SO.bad.nox from trivial)] at h
      exact h.elim
theorem s_tryN {h1 : ExceptHandler} {r : List ExceptHandler} {body : List Stmt} {p : List Stm} {s : Stm} (ok : SxOk w C tc X) (hs : trHs tc h1 r p = some s)
    (hb : ∀ {w : Wd} {X : Cx}, SxOk w C tc X → PSs X body (TSv w C p)) : PS X (.Try body (h1 :: r) [] [] pos) (T1v w C s) := by
  obtain ⟨r1, l, hF, hE⟩ := trHs_ok hs
  refine ps_imp (ps_try_hds (T := fun W => TSv ⟨w.K, w.cl, W⟩ C p) (Wo := w.We) ok.stk ok.frm (by rw [ok.cx.N]; exact ok.cx.nd) ok.cx.tk ?_ (hds_ok ok hF)) fun D σ H ⟨m, S, ρ, R, En, h⟩ => ?_
  · intro W pn xe tk ps
    refine hb ⟨⟨ok.cx.K, ok.cx.calm, ok.cx.sc, ok.cx.N, ok.cx.nd, ok.cx.hu, ok.cx.blt, fun x f n g h1 h2 => ?_, ok.cx.cst, tk, ok.cx.cls, ok.cx.sto⟩, ps, ok.kind, ok.stk, ok.frm⟩
    obtain ⟨k, fa, fd, ps, F, hr, hm, hk, hb⟩ := (ok.cx.fns x f n g h1 h2).has
    exact ⟨k, fa, fd, ps, F, hr, hm, hk, hb⟩
  · rw [hE] at h
    refine ⟨m, S, ρ, R, En, ?_⟩
    cases e : exs C p ρ S with
    | ex c d ρ' S' =>
      rw [e] at h
      exact hds_wish ok hF h
    | nx ρ S => rw [e, clsO_nox _ (by trivial)] at h; exact h
    | bk ρ S => rw [e, clsO_nox _ (by trivial)] at h; exact h
    | ct ρ S => rw [e, clsO_nox _ (by trivial)] at h; exact h
    | rt v S => rw [e, clsO_nox _ (by trivial)] at h; exact h
    | bad => rw [e, clsO_nox _ (by trivial)] at h; exact h
theorem trS_ok : ∀ (n : Nat) {w : Wd} {X : Cx} {st : Stmt} {s : Stm}, SxOk w C tc X → trS n tc st = some s → PS X st (T1v w C s) := by
  intro n
  induction n with
  | zero => intro w X st s _ h; cases h
  | succ n ih =>
  intro w X st s ok h
  have hE : ∀ {e e'}, tr n tc e = some e' → PE X e (TEv w C e') := fun h => (tr_ok n ok.cx h).1
  have hA : ∀ e e', tr n tc e = some e' → nst e = true ∧ PE X e (TEv w C e') := fun e e' h => ⟨tr_nst h, (tr_ok n ok.cx h).1⟩
  have hS : ∀ {ss ss'}, trSl (trS n tc) ss = some ss' → PSs X ss (TSv w C ss') := fun h => trSl_ok (fun st s h => ih ok h) h
  unfold trS at h
  split at h
  · cases h; exact s_pass
  · cases h; exact s_brk
  · cases h; exact s_cnt
  · split at h
    · obtain ⟨x, h1, rfl⟩ := mpp h
      exact s_ret (hE h1)
    · cases h; exact s_retn
  · split at h
    · cases h; exact s_doc
    · obtain ⟨hc, h⟩ := ite_some h
      obtain ⟨x, h1, rfl⟩ := mpp h
      exact s_exp (hE h1) (notComp_swN hc)
  · obtain ⟨hc, h⟩ := ite_some h
    obtain ⟨x, h1, h⟩ := bnd h
    obtain ⟨y, h2, h⟩ := bnd h
    obtain ⟨z, h3, rfl⟩ := mpp h
    exact s_if ((tr_ok n ok.cx h1).2 hc) (hS h2) (hS h3)
  · split at h
    · obtain ⟨hc, h⟩ := ite_some h
      obtain ⟨x, h1, h⟩ := bnd h
      obtain ⟨y, h2, rfl⟩ := mpp h
      exact s_while ok ((tr_ok n ok.cx h1).2 hc) (hS h2)
    · cases h
  · split at h
    · obtain ⟨hc, h⟩ := ite_some h
      obtain ⟨t', h1, h⟩ := bnd h
      obtain ⟨r, h2, h⟩ := bnd h
      obtain ⟨y, h3, rfl⟩ := mpp h
      exact s_for ok (trI_ok ok.cx hA h2) (trG_ok ok.cx n h1).1 (hS h3) (notSet_fold hc)
    · cases h
  · split at h
    · split at h
      · rename_i s' hd
        cases h
        exact trD_ok n ok hd
      · exact trA_ok n ok h
    · cases h
  · split at h
    · obtain ⟨i, h1, h⟩ := bnd h
      obtain ⟨p, h2, h⟩ := bnd h
      obtain ⟨y, h3, rfl⟩ := mpp h
      exact s_aug ok.cx (PySem.mem_of_lookup h1) (aug_has h2) (hE h3)
    · obtain ⟨hc, h⟩ := ite_some h
      obtain ⟨p, h2, h⟩ := bnd h
      obtain ⟨x, h3, h⟩ := bnd h
      obtain ⟨y, h4, h⟩ := bnd h
      obtain ⟨z, h5, rfl⟩ := mpp h
      exact s_augS ok.cx hc (aug_has h2) (hE h3) (hE h4) (hE h5)
    · cases h
  · split at h
    · split at h
      · rename_i k hk
        split at h
        · rename_i hh
          cases h
          exact s_raise ok hh.1 hk hh.2.1 hh.2.2
        · cases h; exact s_nvr
      · cases h; exact s_nvr
    · cases h; exact s_nvr
  · split at h
    · obtain ⟨p, hp, h⟩ := bnd h
      exact s_tryN ok h fun ok => trSl_ok (fun st s h => ih ok h) hp
    · cases h
  · cases h
end
end Mi
namespace Mi
open PySem L2
/-! ### defs -/
/-- a def under its name does what g does (its k: how deep it calls) -/
structure FnAt (P : Program) (w : World) (K : PySem.W.Frag) (mg : Str → Option Value) (base : Heap) (cl : Nat → Value) (k : Nat) (x : Str) (n : Nat) (g : Sem) : Prop where
  has : ∃ fa fd ps, FnOk P w K mg base (L2.CX P w) k fa fd ps (spOf K cl n g) ∧ mg x = some (.ref fa) ∧ PySem.W.keepIn K (.ref fa) = true ∧ Binds K fd ps []
theorem FnAt.mono {P : Program} {w : World} {K : PySem.W.Frag} {mg : Str → Option Value} {base : Heap} {cl : Nat → Value} {j k : Nat} {x : Str} {n : Nat} {g : Sem} (h : FnAt P w K mg base cl j x n g) (hk : j ≤ k) : FnAt P w K mg base cl k x n g := by
  obtain ⟨fa, fd, ps, F, r⟩ := h.has
  exact ⟨fa, fd, ps, F.mono hk, r⟩
/-- the promise may be read by any function that is the same where the first gives an answer -/
theorem FnAt.sem {P : Program} {w : World} {K : PySem.W.Frag} {mg : Str → Option Value} {base : Heap} {cl : Nat → Value} {k : Nat} {x : Str} {n : Nat} {g g' : Sem} (h : FnAt P w K mg base cl k x n g) (e : ∀ us S, us.length = n → g' us S = g us S ∨ g' us S = .bad) : FnAt P w K mg base cl k x n g' := by
  obtain ⟨fa, fd, ps, F, r⟩ := h.has
  refine ⟨fa, fd, ps, F.imp fun vs H Q E ⟨m, S, us, R, ru, hl, q⟩ => ⟨m, S, us, R, ru, hl, ?_⟩, r⟩
  rcases e us S hl with e | e
  · rw [← e]; exact q
  · rw [e] at q; exact q.elim
structure TxOk (P : Program) (w : World) (K : PySem.W.Frag) (mg : Str → Option Value) (base : Heap) (cl : Nat → Value) (C : Ctx) (k : Nat) (tc : TC) : Prop where
  cls : ClsF K mg cl tc.cls tc.rai
  blt : ∀ x ∈ bnames, mg x = none
  fns : ∀ x f n g, tc.fns.lookup x = some f → C f = some (n, g) → FnAt P w K mg base cl k x n g
  cst : ∀ x v, tc.cst.lookup x = some v → ∃ u z, mg x = some u ∧ RelV z u ∧ ∀ m H, RV K m H v z
def tcOf (sc : Scope) (N : List Str) (fns : List (Str × Nat)) (cst : List (Str × Val)) (dts : List Nat) (cls : List (Str × Nat) := []) (rai : List Nat := []) : TC :=
  { sc := sc, N := N, own := ownOf { sc := sc, N := N, own := [], fns := fns, cst := cst, dts := dts } sc, fns := fns, cst := cst, dts := dts, cls := cls, rai := rai }
theorem start_env {K : PySem.W.Frag} {m : List Addr} {H : Hp} {us : List Val} {vs : List V} {N : List Str} (r : RVs K m H us vs) : REnv K m H (us.map some ++ List.replicate (N.length - us.length) none) (L2.start N vs) := by
  have hl := r.len
  refine ⟨by unfold L2.start; rw [List.length_append, List.length_append, List.length_map, List.length_map, List.length_replicate, List.length_replicate, hl], fun i v hv => ?_⟩
  unfold L2.start
  by_cases h : i < us.length
  · rw [List.getElem?_append_left (by rw [List.length_map]; exact h), List.getElem?_map] at hv
    rw [List.getElem?_append_left (by rw [List.length_map, ← hl]; exact h), List.getElem?_map]
    cases e : us[i]? with
    | none => rw [e] at hv; cases hv
    | some u =>
      rw [e] at hv
      cases hv
      obtain ⟨z, h1, h2⟩ := r.get e
      exact ⟨z, by rw [h1]; rfl, h2⟩
  · rw [List.getElem?_append_right (by rw [List.length_map]; omega), List.getElem?_replicate] at hv
    split at hv <;> cases hv
/-- a look at a def's scope -/
def scGood (N ps : List Str) (sc : Scope) : Bool := (match sc.kind with | .function => true | _ => false) && !sc.isCoroutine && !sc.isGenerator && decide N.Nodup && decide (N.take ps.length = ps) &&
  ps.all (fun p => decide (sc.names.lookup p = some .local ∨ sc.names.lookup p = some .cell)) && sc.names.all fun y => decide (y.2 ≠ .free)
theorem scGood_ok {N ps : List Str} {sc : Scope} (h : scGood N ps sc = true) : FnScope N ps sc := by
  unfold scGood at h
  simp only [Bool.and_eq_true, Bool.not_eq_true', List.all_eq_true, decide_eq_true_eq] at h
  obtain ⟨⟨⟨⟨⟨⟨k1, k2⟩, k3⟩, k4⟩, k5⟩, k6⟩, k7⟩ := h
  refine ⟨?_, k2, k3, k4, k5, k6, k7⟩
  split at k1
  · assumption
  · cases k1
theorem fn_okX {P : Program} {w : World} {K : PySem.W.Frag} {mg : Str → Option Value} {base : Heap} {cl : Nat → Value} {C : Ctx} {k nf : Nat} {x : Str} {st : Stmt} {fa : Addr} {fd : FuncData} {N ps : List Str} {fns : List (Str × Nat)} {cst : List (Str × Val)} {dts : List Nat} {cls : List (Str × Nat)} {rai : List Nat} {body : List Stm}
    (F : Fun K x x st fa fd) (hs : scGood N ps (defScope st) = true) (T : TxOk P w K mg base cl C k (tcOf (defScope st) N fns cst dts cls rai))
    (ho : ownOk (defScope st) (ownOf (tcOf (defScope st) N fns cst dts cls rai) (defScope st)) = true)
    (ht : trSl (trS nf (tcOf (defScope st) N fns cst dts cls rai)) (defBody st) = some body) : FnOk P w K mg base (L2.CX P w) (k + 1) fa fd ps (spOf K cl ps.length (run C N.length body)) := by
  have S := scGood_ok hs
  refine F.okX S (fun vs H Q E ⟨m, S, us, R, ru, hl, q⟩ => by rw [← hl, ru.len]) (fun cdv A outer s H vs Q E hr ⟨m, S0, us, R, ru, hl, q⟩ => ?_)
  have ok : SxOk ⟨K, cl, fun c d _ H => E c d H⟩ C (tcOf (defScope st) N fns cst dts cls rai) (cxOf (L2.CX P w) P w K mg base N x (defScope st) fa cdv A outer s H E) := by
    refine ⟨⟨rfl, rfl, rfl, rfl, S.nd, ?_, T.blt, fun y f n g h1 h2 => ?_, T.cst, takes_of rfl rfl rfl rfl, T.cls, fun p hp => ?_⟩, passes_of rfl, S.kind, rfl, rfl⟩
    · have := hr.un
      show (A.deeper _).units + 65 < cLine
      omega
    · obtain ⟨fa', fd', ps', F', h3, h4, h5⟩ := (T.fns y f n g h1 h2).has
      exact ⟨k, fa', fd', ps', F', hr, h3, h4, h5⟩
    · have h1 : N[p.2]? = some p.1 := own_mem hp
      refine ⟨h1, ?_⟩
      have h2 := (List.all_eq_true.mp ho) p hp
      split at h2
      · rename_i e
        exact ⟨.inl e, .inr e⟩
      · rename_i e
        exact ⟨.inr e, .inl rfl⟩
      · cases h2
  refine ⟨_, trSl_ok (fun st s h => trS_ok nf ok h) ht, m, S0, _, R, start_env (N := N) ru, ?_⟩
  unfold run at q
  cases e : exs C body (us.map some ++ List.replicate (N.length - us.length) none) S0 with
  | nx ρ S1 => rw [e] at q; exact fun m' H' σ' e' R' En' => q m' H' .non e' R' rfl
  | rt v S1 => rw [e] at q; exact fun m' H' z e' R' rz => q m' H' z e' R' rz
  | ex c d ρ S1 => rw [e] at q; exact fun m' H' σ' e' R' En' => q m' H' e' R'
  | bk ρ S1 => rw [e] at q; exact q.elim
  | ct ρ S1 => rw [e] at q; exact q.elim
  | bad => rw [e] at q; exact q.elim
theorem fn_ok {P : Program} {w : World} {K : PySem.W.Frag} {mg : Str → Option Value} {base : Heap} {cl : Nat → Value} {C : Ctx} {k nf : Nat} {x : Str} {st : Stmt} {fa : Addr} {fd : FuncData} {N ps : List Str} {fns : List (Str × Nat)} {cst : List (Str × Val)} {dts : List Nat} {cls : List (Str × Nat)} {rai : List Nat} {body : List Stm}
    (F : Fun K x x st fa fd) (hm : mg x = some (.ref fa)) (hb : Binds K fd ps []) (hs : scGood N ps (defScope st) = true) (T : TxOk P w K mg base cl C k (tcOf (defScope st) N fns cst dts cls rai))
    (ho : ownOk (defScope st) (ownOf (tcOf (defScope st) N fns cst dts cls rai) (defScope st)) = true)
    (ht : trSl (trS nf (tcOf (defScope st) N fns cst dts cls rai)) (defBody st) = some body) : FnAt P w K mg base cl (k + 1) x ps.length (run C N.length body) :=
  ⟨fa, fd, ps, fn_okX F hs T ho ht, hm, F.kp, hb⟩
end Mi
namespace Mi
open PySem L2
/-! ### a law's defs -/
/-- what a def calls: names, numbers, how many arguments, what they do -/
abbrev Cal := List (Str × Nat × Nat × Sem)
def ctxOf (L : Cal) : Ctx := fun f => (L.find? fun e => e.2.1 == f).map fun e => (e.2.2.1, e.2.2.2)
def fnsOf (L : Cal) : List (Str × Nat) := L.map fun e => (e.1, e.2.1)
def AllAt (P : Program) (w : World) (K : PySem.W.Frag) (mg : Str → Option Value) (base : Heap) (cl : Nat → Value) (k : Nat) (L : Cal) : Prop := ∀ e ∈ L, FnAt P w K mg base cl k e.1 e.2.2.1 e.2.2.2
section
variable {P : Program} {w : World} {K : PySem.W.Frag} {mg : Str → Option Value} {base : Heap} {cl : Nat → Value} {k : Nat}
theorem AllAt.nil : AllAt P w K mg base cl k [] := fun e h => nomatch h
theorem AllAt.cons {x : Str} {f n : Nat} {g : Sem} {L : Cal} (h : FnAt P w K mg base cl k x n g) (t : AllAt P w K mg base cl k L) : AllAt P w K mg base cl k ((x, f, n, g) :: L) := fun e he => by
  rcases List.mem_cons.mp he with rfl | he -- (here)
  · exact h
  · exact t e he
theorem cal_find {L : Cal} {f n : Nat} {g : Sem} {x : Str} (hn : (L.map fun e => e.2.1).Nodup) (h : (fnsOf L).lookup x = some f) (hc : ctxOf L f = some (n, g)) : ∃ e ∈ L, e.1 = x ∧ e.2.2 = (n, g) := by
  have h1 := PySem.mem_of_lookup h
  unfold fnsOf at h1
  obtain ⟨e, he, hx⟩ := List.mem_map.mp h1
  unfold ctxOf at hc
  obtain ⟨e2, h2, h3⟩ := mpp hc
  have h4 := List.mem_of_find?_eq_some h2
  have h5 : e2.2.1 = f := by simpa using List.find?_some h2
  have hx1 : e.1 = x := congrArg Prod.fst hx
  have hx2 : e.2.1 = f := congrArg Prod.snd hx
  have : e = e2 := by
    have key : ∀ {l : Cal}, (l.map fun e => e.2.1).Nodup → e ∈ l → e2 ∈ l → e = e2 := by
      intro l
      induction l with
      | nil => intro _ h; cases h
      | cons a l ih =>
        intro hn h h'
        rw [List.map_cons, List.nodup_cons] at hn; rcases List.mem_cons.mp h with rfl | h6
        · rcases List.mem_cons.mp h' with rfl | h'
          · rfl
          · exact absurd (List.mem_map.mpr ⟨e2, h', h5.trans hx2.symm⟩) hn.1
        · rcases List.mem_cons.mp h' with rfl | h'
          · exact absurd (List.mem_map.mpr ⟨e, h6, hx2.trans h5.symm⟩) hn.1
          · exact ih hn.2 h6 h'
    exact key hn he h4
  subst this
  exact ⟨e, he, hx1, h3⟩
theorem clsF_nil : ClsF K mg cl [] [] := ⟨(fun e h => nomatch h), (fun e h => nomatch h), (fun e h => nomatch h), (fun e h => nomatch h)⟩
theorem txOf {L : Cal} {sc : Scope} {N : List Str} {cst : List (Str × Val)} {dts : List Nat} {cls : List (Str × Nat)} {rai : List Nat} (hcls : ClsF K mg cl cls rai) (hb : ∀ x ∈ bnames, mg x = none) (hn : (L.map fun e => e.2.1).Nodup) (h : AllAt P w K mg base cl k L) (hc : ∀ x v, cst.lookup x = some v → ∃ u z, mg x = some u ∧ RelV z u ∧ ∀ m H, RV K m H v z) :
    TxOk P w K mg base cl (ctxOf L) k (tcOf sc N (fnsOf L) cst dts cls rai) :=
  ⟨hcls, hb, fun x f n g h1 h2 => by
    obtain ⟨e, he, hx, hg⟩ := cal_find hn h1 h2
    have := h e he
    rw [hx] at this
    rw [show e.2.2.1 = n from congrArg Prod.fst hg, show e.2.2.2 = g from congrArg Prod.snd hg] at this
    exact this, hc⟩
theorem cst_nil : ∀ x v, ([] : List (Str × Val)).lookup x = some v → ∃ u z, mg x = some u ∧ RelV z u ∧ ∀ m H, RV K m H v z := fun x v h => by cases h
end
/-! is an error of a class, from what the written part says -/
theorem cls_some {K : PySem.W.Frag} {C : Addr} (hd : PySem.W.hasDictIn K C = true) : (PySem.W.clsIn K C).isSome = true := by
  obtain ⟨cd, hc, _⟩ := PySem.W.any_some hd
  rw [hc]; rfl
theorem kit_ref {K : PySem.W.Frag} {C D : Addr} {b : Bool} (hd : PySem.W.hasDictIn K C = true) (ht : PySem.W.typeIn K (.ref C) = some (.type "type")) (h4 : PySem.W.subIn K (.ref D) (.ref C) = some b) (hb : D = C → b = true) : PySem.W.kitOne K (.ref D) (.ref C) = some b := by
  unfold PySem.W.kitOne
  by_cases h : D = C
  · subst h
    rw [if_pos (beq_self_eq_true _), hb rfl]
  · rw [if_neg (by simpa using h)]
    unfold PySem.W.kitCls
    simp only
    rw [if_pos (by rw [cls_some hd, ht]; rfl)]
    exact h4
theorem kit_bt {K : PySem.W.Frag} {D : Addr} {T : String} {b : Bool} (hm : PySem.W.kitMeta T = true) (h4 : PySem.W.subIn K (.ref D) (.type T) = some b) : PySem.W.kitOne K (.ref D) (.type T) = some b := by
  unfold PySem.W.kitOne
  rw [if_neg (by simp)]
  unfold PySem.W.kitCls
  simp only
  rw [if_pos hm]
  exact h4
theorem exm_bt {K : PySem.W.Frag} {cls : Value} {T : String} {b : Bool} (h1 : PySem.W.subIn K (.type T) (.type "BaseException") = some true) (hm : PySem.W.kitMeta T = true) (h4 : PySem.W.subIn K cls (.type T) = some b) : PySem.W.exmOne K cls (.type T) = some b := by
  unfold PySem.W.exmOne
  rw [if_pos (by rw [h1]; rfl)]
  unfold PySem.W.kitCls
  simp only
  rw [if_pos hm]
  exact h4
/-- a def's promise where it answers -/
def spOk (K : PySem.W.Frag) (n : Nat) (g : Sem) : Sp := fun vs H Q E => ∃ m S us, Rel K m S H ∧ RVs K m H us vs ∧ us.length = n ∧ match g us S with
  | .ok v S' => ∀ m' H' z, Ext m H m' H' → Rel K m' S' H' → RV K m' H' v z → Q z H'
  | _ => False
theorem spOk_of {K : PySem.W.Frag} {cl : Nat → Value} {n : Nat} {g : Sem} (vs : List V) (H : Hp) (Q : VK) (E : XK) (h : spOk K n g vs H Q E) : spOf K cl n g vs H Q E := by
  obtain ⟨m, S, us, R, ru, hl, q⟩ := h
  refine ⟨m, S, us, R, ru, hl, ?_⟩
  cases e : g us S with
  | ok v S' => rw [e] at q; exact q
  | ex c d S' => rw [e] at q; exact q.elim
  | bad => rw [e] at q; exact q.elim
/-- classes by their numbers -/
def clOf (L : List (Nat × Value)) (k : Nat) : Value := (L.lookup k).getD .none
/-- nothing is let out of the law -/
theorem cx_none {P : Program} {w : World} {o : List PySem.Env} {H : Hp} {s s' : Shared} {e : Value} (h : L2.CX P w o H s (fun _ _ _ => False) e s') : False := by
  obtain ⟨_, _, _, _, _, _, _, _, _, _, _, _, z⟩ := h; exact z
/-- a script of whole numbers as the law's value -/
def scr (ns : List Int) : Val := .fro (ns.map .int)
theorem scr_rvs {K : PySem.W.Frag} {m : List Addr} {H : Hp} : ∀ ns : List Int, RVs K m H (ns.map .int) (ns.map V.int)
  | [] => rfl
  | n :: r => ⟨.int n, r.map V.int, rfl, rfl, scr_rvs r⟩
theorem sp_law {K : PySem.W.Frag} {cl : Nat → Value} {g : Sem} {H : Hp} {a : Addr} {ns : List Int} (hO : Only H) (hS : SqL K H a (ns.map V.int)) (h : ∃ S, g [scr ns] [] = .ok (.bl true) S) : spOf K cl 1 g [.ref a] H (fun v _ => v = .bl true) fun _ _ _ => False := by
  obtain ⟨S, h⟩ := h
  refine ⟨[], [], [scr ns], ⟨rfl, List.nodup_nil, fun i b a hb => by cases hb⟩, ⟨.ref a, [], rfl, ⟨a, ns.map V.int, rfl, .of hO hS, scr_rvs ns⟩, rfl⟩, rfl, ?_⟩
  rw [h]
  exact fun m' H' z e R rz => rz
theorem sp_lawO {K : PySem.W.Frag} {g : Sem} {H : Hp} {a : Addr} {ns : List Int} (hO : Only H) (hS : SqL K H a (ns.map V.int)) (h : ∃ S, g [scr ns] [] = .ok (.bl true) S) : spOk K 1 g [.ref a] H (fun v _ => v = .bl true) fun _ _ _ => False := by
  obtain ⟨S, h⟩ := h
  refine ⟨[], [], [scr ns], ⟨rfl, List.nodup_nil, fun i b a hb => by cases hb⟩, ⟨.ref a, [], rfl, ⟨a, ns.map V.int, rfl, .of hO hS, scr_rvs ns⟩, rfl⟩, rfl, ?_⟩
  rw [h]
  exact fun m' H' z e R rz => rz
end Mi
namespace Mi
open PySem L2
/-! ### plain reasoning -/
def RT {α : Type} (r : R α) (Q : α → Store → Prop) : Prop := match r with
  | .ok a S => Q a S
  | _ => False
@[simp] theorem RT_ok {α : Type} (a : α) (S : Store) (Q : α → Store → Prop) : RT (.ok a S) Q ↔ Q a S := Iff.trans Iff.rfl Iff.rfl
@[simp] theorem RT_bind {α β : Type} (r : R α) (k : α → Store → R β) (Q : β → Store → Prop) : RT (r.bind k) Q ↔ RT r (fun a S => RT (k a S) Q) := by
  cases r <;> exact Iff.rfl
theorem RT.mono {α : Type} {r : R α} {Q Q' : α → Store → Prop} (h : RT r Q) (f : ∀ a S, Q a S → Q' a S) : RT r Q' := by
  cases r with
  | ok a S => exact f a S h
  | ex _ _ _ => exact h
  | bad => exact h
theorem RT.get {α : Type} {r : R α} {Q : α → Store → Prop} (h : RT r Q) : ∃ a S, r = .ok a S ∧ Q a S := by
  cases r with
  | ok a S => exact ⟨a, S, rfl, h⟩
  | ex _ _ _ => exact h.elim
  | bad => exact h.elim
theorem RT.eq {α : Type} {r : R α} {a : α} {S : Store} {Q : α → Store → Prop} (e : r = .ok a S) (h : Q a S) : RT r Q := by rw [e]; exact h
def ST (o : SO) (N : Env → Store → Prop) (T : Val → Store → Prop) (B Ct : Env → Store → Prop) : Prop := match o with
  | .nx ρ S => N ρ S
  | .rt v S => T v S
  | .bk ρ S => B ρ S
  | .ct ρ S => Ct ρ S
  | _ => False
section
variable {N : Env → Store → Prop} {T : Val → Store → Prop} {B Ct : Env → Store → Prop}
@[simp] theorem ST_nx (ρ : Env) (S : Store) : ST (.nx ρ S) N T B Ct ↔ N ρ S := Iff.trans Iff.rfl Iff.rfl
@[simp] theorem ST_rt (v : Val) (S : Store) : ST (.rt v S) N T B Ct ↔ T v S := Iff.trans Iff.rfl Iff.rfl
@[simp] theorem ST_bk (ρ : Env) (S : Store) : ST (.bk ρ S) N T B Ct ↔ B ρ S := Iff.trans Iff.rfl Iff.rfl
@[simp] theorem ST_ct (ρ : Env) (S : Store) : ST (.ct ρ S) N T B Ct ↔ Ct ρ S := Iff.trans Iff.rfl Iff.rfl
@[simp] theorem ST_st {α : Type} (r : R α) (ρ : Env) (k : α → Store → SO) : ST (r.st ρ k) N T B Ct ↔ RT r (fun a S => ST (k a S) N T B Ct) := by
  cases r <;> exact Iff.rfl
@[simp] theorem ST_then (o : SO) (k : Env → Store → SO) : ST (o.then k) N T B Ct ↔ ST o (fun ρ S => ST (k ρ S) N T B Ct) T B Ct := by
  cases o <;> exact Iff.rfl
theorem ST.mono {o : SO} {N' : Env → Store → Prop} {T' : Val → Store → Prop} {B' Ct' : Env → Store → Prop} (h : ST o N T B Ct) (hN : ∀ ρ S, N ρ S → N' ρ S) (hT : ∀ v S, T v S → T' v S) (hB : ∀ ρ S, B ρ S → B' ρ S) (hC : ∀ ρ S, Ct ρ S → Ct' ρ S) : ST o N' T' B' Ct' := by
  cases o with
  | nx ρ S => exact hN _ _ h
  | rt v S => exact hT _ _ h
  | bk ρ S => exact hB _ _ h
  | ct ρ S => exact hC _ _ h
  | ex c d ρ S => exact h
  | bad => exact h
end
theorem RT_run {C : Ctx} {n : Nat} {body : List Stm} {us : List Val} {S : Store} {Q : Val → Store → Prop} : RT (run C n body us S) Q ↔ ST (exs C body (us.map some ++ List.replicate (n - us.length) none) S) (fun _ S => Q .non S) Q (fun _ _ => False) (fun _ _ => False) := by
  unfold run
  cases exs C body (us.map some ++ List.replicate (n - us.length) none) S <;> exact Iff.rfl
def SO.fin : SO → R Val
  | .nx _ S => .ok .non S
  | .rt v S => .ok v S
  | .ex c d _ S => .ex c d S
  | _ => .bad
@[simp] theorem fin_nx (ρ : Env) (S : Store) : (SO.nx ρ S).fin = .ok .non S := Eq.trans rfl rfl
@[simp] theorem fin_rt (v : Val) (S : Store) : (SO.rt v S).fin = .ok v S := Eq.trans rfl rfl
@[simp] theorem fin_ite (c : Prop) [Decidable c] (a b : SO) : (if c then a else b).fin = if c then a.fin else b.fin := by
  by_cases h : c
  · rw [if_pos h, if_pos h]
  · rw [if_neg h, if_neg h]
@[simp] theorem then_ite (c : Prop) [Decidable c] (a b : SO) (k : Env → Store → SO) : (if c then a else b).then k = if c then a.then k else b.then k := by
  by_cases h : c
  · rw [if_pos h, if_pos h]
  · rw [if_neg h, if_neg h]
theorem run_fin (C : Ctx) (n : Nat) (body : List Stm) (us : List Val) (S : Store) : Mi.run C n body us S = (exs C body (us.map some ++ List.replicate (n - us.length) none) S).fin := by
  unfold Mi.run
  cases exs C body (us.map some ++ List.replicate (n - us.length) none) S <;> rfl
/-! what each form does, for simp -/
section
variable (C : Ctx) (ρ : Env) (S : Store)
@[simp] theorem ev_var (i : Nat) : ev C (.var i) ρ S = match ρ[i]? with | some (some v) => .ok v S | _ => .bad := by first | (rw [ev]; done) | (rw [ev]; rfl)
@[simp] theorem ev_cst (v : Val) : ev C (.cst v) ρ S = .ok v S := by first | (rw [ev]; done) | (rw [ev]; rfl)
@[simp] theorem ev_lst (es : List E) : ev C (.lst es) ρ S = (evs C es ρ S).bind fun vs S => R.op (alloc S vs) := by first | (rw [ev]; done) | (rw [ev]; rfl)
@[simp] theorem ev_tup (es : List E) : ev C (.tup es) ρ S = (evs C es ρ S).bind fun vs S => if vs.length ≤ sizeLine then .ok (.tup vs) S else .bad := by first | (rw [ev]; done) | (rw [ev]; rfl)
@[simp] theorem ev_bin (o : O2) (a b : E) : ev C (.bin o a b) ρ S = (ev C a ρ S).bind fun u S => (ev C b ρ S).bind fun v S => R.op (binop o u v S) := by first | (rw [ev]; done) | (rw [ev]; rfl)
@[simp] theorem ev_neg (a : E) : ev C (.neg a) ρ S = (ev C a ρ S).bind fun u S => R.of ((intOf u).map fun i => .int (-i)) S := by first | (rw [ev]; done) | (rw [ev]; rfl)
@[simp] theorem ev_cmp (o : Cp) (a b : E) : ev C (.cmp o a b) ρ S = (ev C a ρ S).bind fun u S => (ev C b ρ S).bind fun v S => R.bl (cmpop o S u v) S := by first | (rw [ev]; done) | (rw [ev]; rfl)
@[simp] theorem ev_chain (o p : Cp) (a b c : E) : ev C (.chain o p a b c) ρ S = (ev C a ρ S).bind fun u S => (ev C b ρ S).bind fun v S => (R.of (cmpop o S u v) S).bind fun k S =>
      if k then (ev C c ρ S).bind fun w S => R.bl (cmpop p S v w) S else .ok (.bl false) S := by first | (rw [ev]; done) | (rw [ev]; rfl)
@[simp] theorem ev_and (a b : E) : ev C (.and a b) ρ S = (ev C a ρ S).bind fun u S => (R.of (tru S u) S).bind fun k S => if k then ev C b ρ S else .ok u S := by first | (rw [ev]; done) | (rw [ev]; rfl)
@[simp] theorem ev_or (a b : E) : ev C (.or a b) ρ S = (ev C a ρ S).bind fun u S => (R.of (tru S u) S).bind fun k S => if k then .ok u S else ev C b ρ S := by first | (rw [ev]; done) | (rw [ev]; rfl)
@[simp] theorem ev_not (a : E) : ev C (.not a) ρ S = (ev C a ρ S).bind fun u S => R.bl ((tru S u).map (!·)) S := by first | (rw [ev]; done) | (rw [ev]; rfl)
@[simp] theorem ev_ite (c a b : E) : ev C (.ite c a b) ρ S = (ev C c ρ S).bind fun u S => (R.of (tru S u) S).bind fun k S => if k then ev C a ρ S else ev C b ρ S := by first | (rw [ev]; done) | (rw [ev]; rfl)
@[simp] theorem ev_sub (a i : E) : ev C (.sub a i) ρ S = (ev C a ρ S).bind fun u S => (ev C i ρ S).bind fun v S => R.of (item S u v) S := by first | (rw [ev]; done) | (rw [ev]; rfl)
@[simp] theorem ev_slB (a lo hi : E) : ev C (.slB a lo hi) ρ S = (ev C a ρ S).bind fun u S => (ev C lo ρ S).bind fun i S => match i with
    | .int i => (ev C hi ρ S).bind fun j S => match j with
      | .int j => R.op (slice S u (some i) (some j))
      | _ => .bad
    | _ => .bad := by first | (rw [ev]; done) | (rw [ev]; rfl)
@[simp] theorem ev_slL (a lo : E) : ev C (.slL a lo) ρ S = (ev C a ρ S).bind fun u S => (ev C lo ρ S).bind fun i S => match i with
    | .int i => R.op (slice S u (some i) none)
    | _ => .bad := by first | (rw [ev]; done) | (rw [ev]; rfl)
@[simp] theorem ev_slH (a hi : E) : ev C (.slH a hi) ρ S = (ev C a ρ S).bind fun u S => (ev C hi ρ S).bind fun j S => match j with
    | .int j => R.op (slice S u none (some j))
    | _ => .bad := by first | (rw [ev]; done) | (rw [ev]; rfl)
@[simp] theorem ev_slA (a : E) : ev C (.slA a) ρ S = (ev C a ρ S).bind fun u S => R.op (slice S u none none) := by first | (rw [ev]; done) | (rw [ev]; rfl)
@[simp] theorem ev_slR (a : E) : ev C (.slR a) ρ S = (ev C a ρ S).bind fun u S => match lstOf S u with
    | some xs => R.op (alloc S xs.reverse)
    | none => .bad := by first | (rw [ev]; done) | (rw [ev]; rfl)
@[simp] theorem ev_slS (a lo st : E) : ev C (.slS a lo st) ρ S = (ev C a ρ S).bind fun u S => (ev C lo ρ S).bind fun i S => match i with
    | .int i => (ev C st ρ S).bind fun j S => match j with
      | .int j => if 0 ≤ i ∧ 0 < j then R.op (sliceS S u i.toNat j.toNat) else .bad
      | _ => .bad
    | _ => .bad := by first | (rw [ev]; done) | (rw [ev]; rfl)
@[simp] theorem ev_call (f : Nat) (es : List E) : ev C (.call f es) ρ S = match C f with
    | some (n, g) => (evs C es ρ S).bind fun us S => if us.length = n then g us S else .bad
    | none => .bad := by first | (rw [ev]; done) | (rw [ev]; rfl)
@[simp] theorem ev_isi (a : E) (T : String) : ev C (.isi a T) ρ S = (ev C a ρ S).bind fun u S => R.bl ((tyIn S u).bind fun t => L2.kitB t T) S := by first | (rw [ev]; done) | (rw [ev]; rfl)
@[simp] theorem ev_pr (p : Pr) (es : List E) : ev C (.pr p es) ρ S = (evs C es ρ S).bind fun us S => R.op (prim p us S) := by first | (rw [ev]; done) | (rw [ev]; rfl)
@[simp] theorem ev_me (m : Me) (o : E) (es : List E) : ev C (.me m o es) ρ S = (ev C o ρ S).bind fun u S => if recv m S u then (evs C es ρ S).bind fun us S => R.op (meth m u us S) else .bad := by first | (rw [ev]; done) | (rw [ev]; rfl)
@[simp] theorem ev_dK : ev C .dK ρ S = .ok (.ref S.length) (S ++ [.dK []]) := by first | (rw [ev]; done) | (rw [ev]; rfl)
@[simp] theorem ev_dT : ev C .dT ρ S = .ok (.ref S.length) (S ++ [.dT []]) := by first | (rw [ev]; done) | (rw [ev]; rfl)
@[simp] theorem ev_lrg1 (a : E) : ev C (.lrg1 a) ρ S = (ev C a ρ S).bind fun u S => match u with
    | .int n => if n ≤ 1000000 ∧ -(2 ^ 62) ≤ n then R.op (alloc S (rng 0 n.toNat)) else .bad
    | _ => .bad := by first | (rw [ev]; done) | (rw [ev]; rfl)
@[simp] theorem ev_lrg2 (a b : E) : ev C (.lrg2 a b) ρ S = (ev C a ρ S).bind fun u S => (ev C b ρ S).bind fun v S => match u, v with
    | .int i, .int j => if small62 i && small62 j && decide (j - i ≤ 1000000) then R.op (alloc S (rng i (j - i).toNat)) else .bad
    | _, _ => .bad := by first | (rw [ev]; done) | (rw [ev]; rfl)
@[simp] theorem evs_nil : evs C [] ρ S = .ok [] S := by first | (rw [evs]; done) | (rw [evs]; rfl)
@[simp] theorem evs_cons (e : E) (es : List E) : evs C (e :: es) ρ S = (ev C e ρ S).bind fun v S => (evs C es ρ S).bind fun vs S => .ok (v :: vs) S := by first | (rw [evs]; done) | (rw [evs]; rfl)
@[simp] theorem evT_nil : evT C [] ρ S = .ok true S := by first | (rw [evT]; done) | (rw [evT]; rfl)
@[simp] theorem evT_one (e : E) : evT C [e] ρ S = (ev C e ρ S).bind fun u S => R.of (tru S u) S := by first | (rw [evT]; done) | (rw [evT]; rfl)
@[simp] theorem ex_asg (t : Tg) (e : E) : ex C (.asg t e) ρ S = (ev C e ρ S).st ρ fun v S => match lay S t v ρ with
    | some ρ => .nx ρ S
    | none => .bad := by first | (rw [ex]; done) | (rw [ex]; rfl)
@[simp] theorem ex_set (a i e : E) : ex C (.set a i e) ρ S = (ev C e ρ S).st ρ fun v S => (ev C a ρ S).st ρ fun u S => (ev C i ρ S).st ρ fun k S => match setop S u k v with
    | some S => .nx ρ S
    | none => .bad := by first | (rw [ex]; done) | (rw [ex]; rfl)
@[simp] theorem ex_aug (i : Nat) (o : O2) (e : E) : ex C (.aug i o e) ρ S = match ρ[i]? with
    | some (some (.int a)) => (ev C e ρ S).st ρ fun v S => match o, v with
      | .add, .int b => .nx (ρ.set i (some (.int (a + b)))) S
      | .sub, .int b => .nx (ρ.set i (some (.int (a - b)))) S
      | _, _ => .bad
    | _ => .bad := by first | (rw [ex]; done) | (rw [ex]; rfl)
@[simp] theorem ex_exp (e : E) : ex C (.exp e) ρ S = (ev C e ρ S).st ρ fun _ S => .nx ρ S := by first | (rw [ex]; done) | (rw [ex]; rfl)
@[simp] theorem ex_ret (e : E) : ex C (.ret e) ρ S = (ev C e ρ S).st ρ fun v S => .rt v S := by first | (rw [ex]; done) | (rw [ex]; rfl)
@[simp] theorem ex_retn : ex C .retn ρ S = .rt .non S := by first | (rw [ex]; done) | (rw [ex]; rfl)
@[simp] theorem ex_pass : ex C .pass ρ S = .nx ρ S := by first | (rw [ex]; done) | (rw [ex]; rfl)
@[simp] theorem ex_brk : ex C .brk ρ S = .bk ρ S := by first | (rw [ex]; done) | (rw [ex]; rfl)
@[simp] theorem ex_cnt : ex C .cnt ρ S = .ct ρ S := by first | (rw [ex]; done) | (rw [ex]; rfl)
@[simp] theorem ex_if (c : E) (p q : List Stm) : ex C (.ifS c p q) ρ S = (evT C [c] ρ S).st ρ fun k S => if k then exs C p ρ S else exs C q ρ S := by first | (rw [ex]; done) | (rw [ex]; rfl)
def forB (C : Ctx) (t : Tg) (p : List Stm) : Val → Env → Store → SO := fun v ρ S => match lay S t v ρ with
  | some ρ => exs C p ρ S
  | none => .bad
def forL (C : Ctx) (t : Tg) (p : List Stm) (ρ : Env) (S : Store) : Option IV → SO
  | none => .bad
  | some iv => floop iv.next (forB C t p) (iv.cnt S) 0 ρ S
@[simp] theorem ex_for (t : Tg) (k : IK) (its : List E) (p : List Stm) : ex C (.for t k its p) ρ S = (evs C its ρ S).st ρ fun us S => forL C t p ρ S (start k us S) := by
  rw [ex]
  cases evs C its ρ S with
  | ok us S1 =>
    show (match start k us S1 with | none => _ | some iv => _) = forL C t p ρ S1 (start k us S1)
    cases start k us S1 <;> rfl
  | ex _ _ _ => rfl
  | bad => rfl
def whT (C : Ctx) (c : E) : Env → Store → R Bool := fun ρ S => evT C [c] ρ S
def whB (C : Ctx) (p : List Stm) : Env → Store → SO := fun ρ S => exs C p ρ S
@[simp] theorem ex_whl (c : E) (p : List Stm) : ex C (.whl c p) ρ S = wloop (whT C c) (whB C p) wmax ρ S := by rw [ex]; rfl
@[simp] theorem exs_nil : exs C [] ρ S = .nx ρ S := by first | (rw [exs]; done) | (rw [exs]; rfl)
@[simp] theorem exs_cons (s : Stm) (r : List Stm) : exs C (s :: r) ρ S = (ex C s ρ S).then fun ρ S => exs C r ρ S := by first | (rw [exs]; done) | (rw [exs]; rfl)
def lcL (C : Ctx) (own : List Nat) (t : Tg) (ifs : List E) (e : E) (ρ : Env) (S : Store) : Option IV → R Val
  | none => .bad
  | some iv => (cloop iv.next (cstep C own t ifs e ρ S.length) (iv.cnt S) 0 (S ++ [.lst []])).bind fun _ S1 => .ok (.ref S.length) S1
@[simp] theorem ev_lc' (own : List Nat) (t : Tg) (k : IK) (its ifs : List E) (e : E) : ev C (.lc own t k its ifs e) ρ S = (evs C its ρ S).bind fun us S => lcL C own t ifs e ρ S (start k us S) := by
  rw [ev_lc]
  cases evs C its ρ S with
  | ok us S1 =>
    simp only [R.bind_ok]
    cases start k us S1 <;> rfl
  | ex _ _ _ => rfl
  | bad => rfl
@[simp] theorem lay_name (i : Nat) (v : Val) : lay S (.name i) v ρ = some (ρ.set i (some v)) := by rw [lay]
@[simp] theorem lay_tup (ts : List Tg) (v : Val) : lay S (.tup ts) v ρ = match seqOf S v with
    | some vs => lays S ts vs ρ
    | none => none := by first | (rw [lay]; done) | (rw [lay]; rfl)
@[simp] theorem lays_nil : lays S [] [] ρ = some ρ := by rw [lays]
@[simp] theorem lays_cons (t : Tg) (ts : List Tg) (v : Val) (vs : List Val) : lays S (t :: ts) (v :: vs) ρ = (lay S t v ρ).bind fun ρ => lays S ts vs ρ := by rw [lays]
end
/-! values' own -/
section
variable (S : Store) (i j : Int)
@[simp] theorem bin_add : binop .add (.int i) (.int j) S = some (.int (i + j), S) := Eq.trans rfl rfl
@[simp] theorem bin_sub : binop .sub (.int i) (.int j) S = some (.int (i - j), S) := Eq.trans rfl rfl
@[simp] theorem bin_mul : binop .mul (.int i) (.int j) S = if mulOk i j then some (.int (i * j), S) else none := Eq.trans rfl rfl
@[simp] theorem bin_fdiv : binop .fdiv (.int i) (.int j) S = if 0 < j ∧ j.natAbs.log2 < 9000 then some (.int (i / j), S) else none := Eq.trans rfl rfl
@[simp] theorem bin_mod : binop .mod (.int i) (.int j) S = if 0 < j then some (.int (i % j), S) else none := Eq.trans rfl rfl
@[simp] theorem bin_pow : binop .pow (.int i) (.int j) S = if 0 ≤ j ∧ j ≤ 1000000 ∧ i.natAbs < 2 ^ 64 then some (.int (i ^ j.toNat), S) else none := Eq.trans rfl rfl
@[simp] theorem bin_addL (r q : Nat) : binop .add (.ref r) (.ref q) S = match S[r]?, S[q]? with
    | some (.lst xs), some (.lst ys) => alloc S (xs ++ ys)
    | _, _ => none := Eq.trans rfl rfl
@[simp] theorem bin_mulL (r : Nat) (k : Int) : binop .mul (.ref r) (.int k) S = match S[r]? with
    | some (.lst xs) => if sg63 k = true ∧ xs.length * k.toNat ≤ sizeLine then alloc S (List.replicate k.toNat xs).flatten else none
    | _ => none := Eq.trans rfl rfl
@[simp] theorem cmp_lt : cmpop .lt S (.int i) (.int j) = some (decide (i < j)) := Eq.trans rfl rfl
@[simp] theorem cmp_le : cmpop .le S (.int i) (.int j) = some (decide (i ≤ j)) := Eq.trans rfl rfl
@[simp] theorem cmp_gt : cmpop .gt S (.int i) (.int j) = some (decide (j < i)) := Eq.trans rfl rfl
@[simp] theorem cmp_ge : cmpop .ge S (.int i) (.int j) = some (decide (j ≤ i)) := Eq.trans rfl rfl
@[simp] theorem cmp_eq (u v : Val) : cmpop .eq S u v = eqop S u v := Eq.trans rfl rfl
@[simp] theorem cmp_ne (u v : Val) : cmpop .ne S u v = (eqop S u v).map (!·) := Eq.trans rfl rfl
@[simp] theorem cmp_isn (u : Val) : cmpop .isn S u .non = some (isNon u) := Eq.trans rfl rfl
@[simp] theorem cmp_notn (u : Val) : cmpop .notn S u .non = some (!isNon u) := Eq.trans rfl rfl
@[simp] theorem cmp_in (u v : Val) : cmpop .isin S u v = inop S u v := Eq.trans rfl rfl
@[simp] theorem cmp_notin (u v : Val) : cmpop .notin S u v = (inop S u v).map (!·) := Eq.trans rfl rfl
@[simp] theorem eq_int : eqop S (.int i) (.int j) = some (decide (i = j)) := Eq.trans rfl rfl
@[simp] theorem eq_bl (a b : Bool) : eqop S (.bl a) (.bl b) = some (decide (a = b)) := Eq.trans rfl rfl
@[simp] theorem isNon_non : isNon .non = true := Eq.trans rfl rfl
@[simp] theorem isNon_int : isNon (.int i) = false := Eq.trans rfl rfl
@[simp] theorem isNon_tup (vs : List Val) : isNon (.tup vs) = false := Eq.trans rfl rfl
@[simp] theorem isNon_ref (r : Nat) : isNon (.ref r) = false := Eq.trans rfl rfl
@[simp] theorem tru_bl (b : Bool) : tru S (.bl b) = some b := Eq.trans rfl rfl
@[simp] theorem tru_int : tru S (.int i) = some (i != 0) := Eq.trans rfl rfl
@[simp] theorem tru_non : tru S .non = some false := Eq.trans rfl rfl
@[simp] theorem lstOf_ref (r : Nat) : lstOf S (.ref r) = match S[r]? with | some (.lst xs) => some xs | _ => none := Eq.trans rfl rfl
@[simp] theorem lstOf_fro (xs : List Val) : lstOf S (.fro xs) = some xs := Eq.trans rfl rfl
@[simp] theorem lstOf_tup (xs : List Val) : lstOf S (.tup xs) = none := Eq.trans rfl rfl
@[simp] theorem seqOf_tup (xs : List Val) : seqOf S (.tup xs) = some xs := Eq.trans rfl rfl
@[simp] theorem seqOf_ref (r : Nat) : seqOf S (.ref r) = match S[r]? with | some (.lst xs) => some xs | _ => none := Eq.trans rfl rfl
@[simp] theorem seqOf_fro (xs : List Val) : seqOf S (.fro xs) = some xs := Eq.trans rfl rfl
@[simp] theorem intOf_int : intOf (.int i) = some i := Eq.trans rfl rfl
@[simp] theorem sz_le {n : Nat} (h : n ≤ 1000000) : (n ≤ sizeLine) = True := eq_true (Nat.le_trans h (by decide))
@[simp] theorem sz_lt {n : Nat} (h : n ≤ 1000000) : (n < sizeLine) = True := eq_true (Nat.lt_of_le_of_lt h (by decide))
@[simp] theorem alloc_small (xs : List Val) (h : xs.length ≤ 1000000) : alloc S xs = some (.ref S.length, S ++ [.lst xs]) := by unfold alloc; rw [if_pos (Nat.le_trans h (by decide))]
@[simp] theorem len_ref (r : Nat) : prim .len [.ref r] S = match S[r]? with
    | some (.lst xs) => some ((.int xs.length), S)
    | some (.dK kvs) => some ((.int kvs.length), S)
    | _ => none := Eq.trans rfl rfl
@[simp] theorem len_fro (xs : List Val) : prim .len [.fro xs] S = some ((.int xs.length), S) := Eq.trans rfl rfl
@[simp] theorem len_tup (xs : List Val) : prim .len [.tup xs] S = some ((.int xs.length), S) := Eq.trans rfl rfl
@[simp] theorem app_ref (r : Nat) (y : Val) : meth .append (.ref r) [y] S = match S[r]? with
    | some (.lst xs) => if xs.length < sizeLine then some (.non, (S.set r (.lst (xs ++ [y])))) else none
    | _ => none := Eq.trans rfl rfl
@[simp] theorem rec_app (u : Val) : recv .append S u = (lstOf S u).isSome := Eq.trans rfl rfl
@[simp] theorem start_rng1 (n : Int) : start .rng1 [.int n] S = if small62 n then some (.items (rng 0 n.toNat)) else none := Eq.trans rfl rfl
@[simp] theorem start_rng2 : start .rng2 [.int i, .int j] S = if small62 i && small62 j then some (.items (rng i (j - i).toNat)) else none := Eq.trans rfl rfl
@[simp] theorem start_tup (vs : List Val) : start .seq [.tup vs] S = some (.items vs) := Eq.trans rfl rfl
@[simp] theorem start_ref (r : Nat) : start .seq [.ref r] S = (lstOf S (.ref r)).map fun _ => .seq (.ref r) := Eq.trans rfl rfl
@[simp] theorem start_fro (xs : List Val) : start .seq [.fro xs] S = some (.seq (.fro xs)) := Eq.trans rfl rfl
@[simp] theorem start_enum (u : Val) : start .enum [u] S = (lstOf S u).map fun _ => .en u := Eq.trans rfl rfl
@[simp] theorem start_zip (u v : Val) : start .zip [u, v] S = match lstOf S u, lstOf S v with
    | some _, some _ => some (.zp u v)
    | _, _ => none := Eq.trans rfl rfl
@[simp] theorem forL_some (C : Ctx) (t : Tg) (p : List Stm) (ρ : Env) (iv : IV) : forL C t p ρ S (some iv) = floop iv.next (forB C t p) (iv.cnt S) 0 ρ S := Eq.trans rfl rfl
@[simp] theorem lcL_some (C : Ctx) (own : List Nat) (t : Tg) (ifs : List E) (e : E) (ρ : Env) (iv : IV) : lcL C own t ifs e ρ S (some iv) = (cloop iv.next (cstep C own t ifs e ρ S.length) (iv.cnt S) 0 (S ++ [.lst []])).bind fun _ S1 => .ok (.ref S.length) S1 := Eq.trans rfl rfl
@[simp] theorem cnt_items (vs : List Val) : (IV.items vs).cnt S = vs.length := Eq.trans rfl rfl
@[simp] theorem small62_of {i : Int} (h : -1000000 ≤ i ∧ i ≤ 1000000) : small62 i = true := by
  rw [small62_def]
  simp only [Bool.and_eq_true, decide_eq_true_eq]; omega
theorem mulOk_l {i j : Int} (h : -(2 ^ 64) < i ∧ i < 2 ^ 64) : mulOk i j = true := by
  rw [mulOk_def]
  simp only [Bool.or_eq_true, Bool.and_eq_true, decide_eq_true_eq]
  exact .inl (.inl h)
theorem mulOk_r {i j : Int} (h : -(2 ^ 64) < j ∧ j < 2 ^ 64) : mulOk i j = true := by
  rw [mulOk_def]
  simp only [Bool.or_eq_true, Bool.and_eq_true, decide_eq_true_eq]
  exact .inl (.inr h)
theorem item_lst {r : Nat} {xs : List Val} {i : Nat} {v : Val} (h : S[r]? = some (.lst xs)) (hi : xs[i]? = some v) (hl : i < 2 ^ 62) : item S (.ref r) (.int i) = some v := by
  unfold item itemS
  simp only [seqOf_ref, h]
  have : L2.atI xs (i : Int) = some v := L2.atI_nat hi
  rw [this]
theorem item_tup {vs : List Val} {i : Nat} {v : Val} (hi : vs[i]? = some v) : item S (.tup vs) (.int i) = some v := by
  unfold item itemS
  simp only [seqOf_tup]
  have : L2.atI vs (i : Int) = some v := L2.atI_nat hi
  rw [this]
theorem item_fro {vs : List Val} {i : Nat} {v : Val} (hi : vs[i]? = some v) : item S (.fro vs) (.int i) = some v := by
  unfold item itemS
  simp only [seqOf_fro]
  have : L2.atI vs (i : Int) = some v := L2.atI_nat hi
  rw [this]
@[simp] theorem set_last (S : Store) (a b : Ob) : (S ++ [a]).set S.length b = S ++ [b] := by
  rw [List.set_append_right _ _ (Nat.le_refl _), Nat.sub_self]
  rfl
theorem push_ok {D : Nat} {y : Val} {S : Store} {acc : List Val} (h : S[D]? = some (.lst acc)) (hl : acc.length < sizeLine) : push D y S = .ok () (S.set D (.lst (acc ++ [y]))) := by
  unfold push
  simp only [h, hl, if_true]
end
theorem line_big : (1000000 : Nat) < sizeLine := by decide
/-! ### loops -/
section
variable {nxt : Nat → Store → Option (Option Val)} {body : Val → Env → Store → SO} {N : Env → Store → Prop} {T : Val → Store → Prop} {B Ct : Env → Store → Prop}
theorem floop_rule (I : Nat → Env → Store → Prop) (n : Nat) (step : ∀ k ρ S, k < n → I k ρ S → ∃ v, nxt k S = some (some v) ∧ ST (body v ρ S) (I (k + 1)) T N (I (k + 1)))
    (fin : ∀ ρ S, I n ρ S → nxt n S = some none ∧ N ρ S) : ∀ F k ρ S, n ≤ k + F → k ≤ n → I k ρ S → ST (floop nxt body F k ρ S) N T B Ct := by
  intro F
  induction F with
  | zero =>
    intro k ρ S h1 h2 h3
    have hk : k = n := by omega
    rw [hk] at h3 ⊢
    obtain ⟨h4, h5⟩ := fin ρ S h3
    unfold floop
    simp only [h4]
    exact h5
  | succ F ih =>
    intro k ρ S h1 h2 h3
    by_cases hk : k = n
    · rw [hk] at h3 ⊢
      obtain ⟨h4, h5⟩ := fin ρ S h3
      unfold floop
      simp only [h4]
      exact h5
    · obtain ⟨v, h4, h5⟩ := step k ρ S (by omega) h3
      unfold floop
      simp only [h4]
      cases e : body v ρ S with
      | nx ρ' S' => rw [e] at h5; exact ih (k + 1) ρ' S' (by omega) (by omega) h5
      | ct ρ' S' => rw [e] at h5; exact ih (k + 1) ρ' S' (by omega) (by omega) h5
      | bk ρ' S' => rw [e] at h5; exact h5
      | rt v S' => rw [e] at h5; exact h5
      | ex c d ρ' S' => rw [e] at h5; exact h5
      | bad => rw [e] at h5; exact h5
/-- over fixed items -/
theorem for_items (vs : List Val) (I : Nat → Env → Store → Prop) {ρ : Env} {S : Store} (h0 : I 0 ρ S) (step : ∀ k v ρ S, vs[k]? = some v → I k ρ S → ST (body v ρ S) (I (k + 1)) T N (I (k + 1)))
    (fin : ∀ ρ S, I vs.length ρ S → N ρ S) : ST (floop (IV.items vs).next body vs.length 0 ρ S) N T B Ct := by
  refine floop_rule I vs.length (fun k ρ S hk h => ?_) (fun ρ S h => ⟨?_, fin ρ S h⟩) _ _ _ _ (by omega) (by omega) h0
  · exact ⟨vs[k], by show some vs[k]? = _; rw [List.getElem?_eq_getElem hk], step k _ ρ S (List.getElem?_eq_getElem hk) h⟩
  · show some vs[vs.length]? = _
    rw [List.getElem?_eq_none (Nat.le_refl _)]
/-- over range(lo, lo + n) -/
theorem for_rng (lo : Int) (n : Nat) (I : Nat → Env → Store → Prop) {ρ : Env} {S : Store} (h0 : I 0 ρ S) (step : ∀ k ρ S, k < n → I k ρ S → ST (body (.int (lo + k)) ρ S) (I (k + 1)) T N (I (k + 1)))
    (fin : ∀ ρ S, I n ρ S → N ρ S) : ST (floop (IV.items (rng lo n)).next body (rng lo n).length 0 ρ S) N T B Ct := by
  have hl : (rng lo n).length = n := by unfold rng; rw [List.length_map, List.length_range]
  refine for_items (rng lo n) I h0 (fun k v ρ S hv h => ?_) (fun ρ S h => fin ρ S (by rw [hl] at h; exact h))
  have hk : k < n := by
    have := (List.getElem?_eq_some_iff.mp hv).1
    rwa [hl] at this
  unfold rng at hv
  rw [List.getElem?_map, List.getElem?_range hk] at hv
  cases hv
  exact step k ρ S hk h
/-- over a list that stays as it is -/
theorem for_list (u : Val) (vs : List Val) (I : Nat → Env → Store → Prop) {ρ : Env} {S : Store} (hu : ∀ k ρ S, I k ρ S → lstOf S u = some vs) (h0 : I 0 ρ S) (step : ∀ k v ρ S, vs[k]? = some v → I k ρ S → ST (body v ρ S) (I (k + 1)) T N (I (k + 1)))
    (fin : ∀ ρ S, I vs.length ρ S → N ρ S) : ST (floop (IV.seq u).next body ((IV.seq u).cnt S) 0 ρ S) N T B Ct := by
  have nx : ∀ k ρ S, I k ρ S → ∀ j, (IV.seq u).next j S = some vs[j]? := fun k ρ S h j => by
    show (lstOf S u).map _ = _
    rw [hu k ρ S h]
    rfl
  have hc : (IV.seq u).cnt S = vs.length := by
    show ((lstOf S u).getD []).length = _
    rw [hu 0 ρ S h0]
    rfl
  rw [hc]
  refine floop_rule I vs.length (fun k ρ S hk h => ?_) (fun ρ S h => ⟨?_, fin ρ S h⟩) _ _ _ _ (by omega) (by omega) h0
  · exact ⟨vs[k], by rw [nx k ρ S h, List.getElem?_eq_getElem hk], step k _ ρ S (List.getElem?_eq_getElem hk) h⟩
  · rw [nx _ ρ S h, List.getElem?_eq_none (Nat.le_refl _)]
end
section
variable {nxt : Nat → Store → Option (Option Val)} {step : Val → Store → R Unit} {Q : Unit → Store → Prop}
theorem cloop_rule (I : Nat → Store → Prop) (n : Nat) (hs : ∀ k S, k < n → I k S → ∃ v, nxt k S = some (some v) ∧ RT (step v S) (fun _ S => I (k + 1) S))
    (fin : ∀ S, I n S → nxt n S = some none ∧ Q () S) : ∀ F k S, n ≤ k + F → k ≤ n → I k S → RT (cloop nxt step F k S) Q := by
  intro F
  induction F with
  | zero =>
    intro k S h1 h2 h3
    have hk : k = n := by omega
    rw [hk] at h3 ⊢
    obtain ⟨h4, h5⟩ := fin S h3
    unfold cloop
    simp only [h4]
    exact h5
  | succ F ih =>
    intro k S h1 h2 h3
    by_cases hk : k = n
    · rw [hk] at h3 ⊢
      obtain ⟨h4, h5⟩ := fin S h3
      unfold cloop
      simp only [h4]
      exact h5
    · obtain ⟨v, h4, h5⟩ := hs k S (by omega) h3
      unfold cloop
      simp only [h4]
      obtain ⟨u, S', h6, h7⟩ := h5.get
      rw [h6]
      exact ih (k + 1) S' (by omega) (by omega) h7
/-- a comprehension by an invariant: the list so far, what else is new -/
theorem lc_rule {S : Store} {iv : IV} {Q : Val → Store → Prop} (vs : List Val) (I : Nat → Store → Prop) (hn : ∀ k S1 j, I k S1 → iv.next j S1 = some vs[j]?) (h0 : I 0 (S ++ [.lst []])) (hc : vs.length ≤ iv.cnt S)
    (hs : ∀ k v S1, vs[k]? = some v → I k S1 → RT (step v S1) (fun _ S => I (k + 1) S)) (fin : ∀ S1, I vs.length S1 → Q (.ref S.length) S1) :
    RT ((cloop iv.next step (iv.cnt S) 0 (S ++ [.lst []])).bind fun _ S1 => .ok (.ref S.length) S1) Q := by
  rw [RT_bind]
  refine cloop_rule I vs.length (fun k S1 hk h => ?_) (fun S1 h => ⟨?_, fin S1 h⟩) _ _ _ (by omega) (by omega) h0
  · exact ⟨vs[k], by rw [hn k S1 k h, List.getElem?_eq_getElem hk], hs k _ S1 (List.getElem?_eq_getElem hk) h⟩
  · rw [hn _ S1 _ h, List.getElem?_eq_none (Nat.le_refl _)]
/-- a comprehension whose steps change nothing: some items picked, each one's value -/
theorem lc_pick {S : Store} {iv : IV} (vs : List Val) (p : Val → Bool) (f : Val → Val) (hn : ∀ acc j, iv.next j (S ++ [.lst acc]) = some vs[j]?) (hc : vs.length ≤ iv.cnt S) (hz : vs.length ≤ 1000000)
    (hs : ∀ v ∈ vs, ∀ acc, step v (S ++ [.lst acc]) = if p v then push S.length (f v) (S ++ [.lst acc]) else .ok () (S ++ [.lst acc])) :
    cloop iv.next step (iv.cnt S) 0 (S ++ [.lst []]) = .ok () (S ++ [.lst ((vs.filter p).map f)]) := by
  have : RT (cloop iv.next step (iv.cnt S) 0 (S ++ [.lst []])) (fun _ S1 => S1 = S ++ [.lst ((vs.filter p).map f)]) := by
    refine cloop_rule (fun k S1 => S1 = S ++ [.lst (((vs.take k).filter p).map f)]) vs.length (fun k S1 hk h => ?_) (fun S1 h => ?_) _ _ _ (by omega) (by omega) (by rw [List.take_zero]; rfl)
    · subst h
      refine ⟨vs[k], by rw [hn, List.getElem?_eq_getElem hk], ?_⟩
      have e1 : vs.take (k + 1) = vs.take k ++ [vs[k]] := by rw [List.take_add_one, List.getElem?_eq_getElem hk]; rfl
      rw [hs _ (List.getElem_mem hk), e1, List.filter_append, List.map_append]
      have hl : (((vs.take k).filter p).map f).length < sizeLine := by
        rw [List.length_map]
        have h1 := List.length_filter_le p (vs.take k)
        have h2 := List.length_take_le k vs
        have h3 := line_big
        have h4 : (vs.take k).length ≤ vs.length := by rw [List.length_take]; omega
        omega
      by_cases hp : p vs[k] = true
      · rw [if_pos hp, push_ok (List.getElem?_concat_length ..) hl, set_last]
        show S ++ [Ob.lst (_ ++ [f vs[k]])] = S ++ [Ob.lst (_ ++ (List.filter p [vs[k]]).map f)]
        rw [List.filter_cons_of_pos hp]
        rfl
      · rw [if_neg hp]
        show S ++ [Ob.lst _] = S ++ [Ob.lst (_ ++ (List.filter p [vs[k]]).map f)]
        rw [List.filter_cons_of_neg hp]
        simp
    · subst h
      rw [List.take_length]
      exact ⟨by rw [hn, List.getElem?_eq_none (Nat.le_refl _)], rfl⟩
  obtain ⟨u, S1, h1, h2⟩ := this.get
  rw [h1, h2]
end
end Mi
namespace Mi
open PySem L2
/-! ### stores that grow; lists and rows in a store -/
theorem get_app {S : Store} {i : Nat} {o : Ob} (T : Store) (h : S[i]? = some o) : (S ++ T)[i]? = some o := by
  rw [List.getElem?_append_left (List.getElem?_eq_some_iff.mp h).1]; exact h
theorem get_lt {S : Store} {i : Nat} {o : Ob} (h : S[i]? = some o) : i < S.length := (List.getElem?_eq_some_iff.mp h).1
@[simp] theorem get_end (S : Store) (a : Ob) (T : Store) : (S ++ a :: T)[S.length]? = some a := by
  rw [List.getElem?_append_right (Nat.le_refl _), Nat.sub_self]; rfl
theorem set_app {S : Store} {i : Nat} (o : Ob) (T : Store) (h : i < S.length) : (S ++ T).set i o = S.set i o ++ T := by
  rw [List.set_append_left _ _ h]
@[simp] theorem set_end (S : Store) (a b : Ob) (T : Store) : (S ++ a :: T).set S.length b = S ++ b :: T := by
  rw [List.set_append_right _ _ (Nat.le_refl _), Nat.sub_self]; rfl
def obI (xs : List Int) : Ob := .lst (xs.map .int)
/-- v is a list of lists of whole numbers -/
def Rw (S : Store) (v : Val) (L : List (List Int)) : Prop := ∃ (r : Nat) (rs : List Nat), v = .ref r ∧ S[r]? = some (.lst (rs.map .ref)) ∧ rs.length = L.length ∧ ∀ (p q : Nat) (row : List Int), rs[p]? = some q → L[p]? = some row → S[q]? = some (obI row)
theorem Rw.app {S : Store} {v : Val} {L : List (List Int)} (T : Store) (h : Rw S v L) : Rw (S ++ T) v L := by
  obtain ⟨r, rs, e, h1, h2, h3⟩ := h
  exact ⟨r, rs, e, get_app T h1, h2, fun p q row hp hq => get_app T (h3 p q row hp hq)⟩
theorem allSome_map {α β : Type} {f : α → Option β} {g : α → β} : ∀ {xs : List α}, (∀ x ∈ xs, f x = some (g x)) → allSome (xs.map f) = some (xs.map g)
  | [], _ => rfl
  | x :: r, h => by
    have ih := allSome_map (xs := r) fun y hy => h y (List.mem_cons_of_mem _ hy)
    rw [List.map_cons, h x List.mem_cons_self]
    show (allSome (r.map f)).map _ = _
    rw [ih]
    rfl
theorem dat_ints (S : Store) (n : Nat) (xs : List Int) : allSome ((xs.map Val.int).map (dat S (n + 1))) = some (xs.map PyData.int) := by
  rw [List.map_map]
  exact allSome_map fun x _ => by show dat S (n + 1) (.int x) = _; rw [dat]
def dRow (xs : List Int) : PyData := .list (xs.map .int)
theorem dat_row {S : Store} {q n : Nat} {row : List Int} (h : S[q]? = some (obI row)) : dat S (n + 2) (.ref q) = some (dRow row) := by
  rw [dat]
  unfold obI at h
  simp only [h]
  rw [dat_ints]
  rfl
theorem dat_rw {S : Store} {v : Val} {n : Nat} {L : List (List Int)} (h : Rw S v L) : dat S (n + 3) v = some (.list (L.map dRow)) := by
  obtain ⟨r, rs, rfl, h1, h2, h3⟩ := h
  rw [dat]
  simp only [h1]
  have : allSome ((rs.map Val.ref).map (dat S (n + 2))) = some (L.map dRow) := by
    rw [List.map_map]
    clear h1
    induction rs generalizing L with
    | nil =>
      cases L with
      | nil => rfl
      | cons _ _ => cases h2
    | cons q rs ih =>
      cases L with
      | nil => cases h2
      | cons row L =>
        have e1 : dat S (n + 2) (.ref q) = some (dRow row) := dat_row (h3 0 q row rfl rfl)
        have e2 := ih (L := L) (by simpa using h2) fun p q' row' hp hq => h3 (p + 1) q' row' hp hq
        rw [List.map_cons]
        show allSome (dat S (n + 2) (.ref q) :: _) = _
        rw [e1]
        show (allSome (rs.map _)).map _ = _
        rw [e2]
        rfl
  rw [this]
  rfl
theorem eqvAll_ints : ∀ xs ys : List Int, PyData.eqvAll (xs.map .int) (ys.map .int) = decide (xs = ys)
  | [], [] => by rw [List.map_nil, PyData.eqvAll]; rfl
  | [], _ :: _ => by rw [List.map_nil, List.map_cons, PyData.eqvAll]; rfl
  | _ :: _, [] => by rw [List.map_nil, List.map_cons, PyData.eqvAll]; rfl
  | x :: xs, y :: ys => by
    rw [List.map_cons, List.map_cons, PyData.eqvAll, PyData.eqv, eqvAll_ints xs ys]
    by_cases h : x = y
    · subst h
      simp
    · simp [h]
theorem eqv_dRow (xs ys : List Int) : PyData.eqv (dRow xs) (dRow ys) = decide (xs = ys) := by
  unfold dRow
  rw [PyData.eqv, eqvAll_ints]
theorem eqvAll_rows : ∀ L M : List (List Int), PyData.eqvAll (L.map dRow) (M.map dRow) = decide (L = M)
  | [], [] => by rw [List.map_nil, PyData.eqvAll]; rfl
  | [], _ :: _ => by rw [List.map_nil, List.map_cons, PyData.eqvAll]; rfl
  | _ :: _, [] => by rw [List.map_nil, List.map_cons, PyData.eqvAll]; rfl
  | x :: xs, y :: ys => by
    rw [List.map_cons, List.map_cons, PyData.eqvAll, eqv_dRow, eqvAll_rows xs ys]
    by_cases h : x = y
    · subst h
      simp
    · simp [h]
theorem eqF_ref (r q : Nat) : eqF (.ref r) (.ref q) = none := rfl
/-- == of two lists of lists -/
theorem eq_rw {S : Store} {u v : Val} {L M : List (List Int)} (h : Rw S u L) (h' : Rw S v M) : eqop S u v = some (decide (L = M)) := by
  have e1 := dat_rw (n := 5) h
  have e2 := dat_rw (n := 5) h'
  obtain ⟨r, rs, rfl, _⟩ := h
  obtain ⟨q, qs, rfl, _⟩ := h'
  unfold eqop
  rw [eqF_ref]
  show (match dat S 8 (.ref r), dat S 8 (.ref q) with | some d, some e => some (PyData.eqv d e) | _, _ => none) = _
  rw [e1, e2]
  show some (PyData.eqv (.list _) (.list _)) = _
  rw [PyData.eqv, eqvAll_rows]
theorem eq_row {S : Store} {r q : Nat} {xs ys : List Int} (h : S[r]? = some (obI xs)) (h' : S[q]? = some (obI ys)) : eqop S (.ref r) (.ref q) = some (decide (xs = ys)) := by
  have e1 := dat_row (n := 6) h
  have e2 := dat_row (n := 6) h'
  unfold eqop
  rw [eqF_ref]
  show (match dat S 8 (.ref r), dat S 8 (.ref q) with | some d, some e => some (PyData.eqv d e) | _, _ => none) = _
  rw [e1, e2]
  show some (PyData.eqv (dRow _) (dRow _)) = _
  rw [eqv_dRow]
/-- a comprehension over a list of given things, whose steps change nothing -/
theorem lc_pickM {α : Type} {S : Store} {iv : IV} {step : Val → Store → R Unit} (xs : List α) (g : α → Val) (p : α → Bool) (f : α → Val) (hn : ∀ acc j, iv.next j (S ++ [.lst acc]) = some (xs.map g)[j]?) (hc : xs.length ≤ iv.cnt S) (hz : xs.length ≤ 1000000)
    (hs : ∀ x ∈ xs, ∀ acc, step (g x) (S ++ [.lst acc]) = if p x = true then push S.length (f x) (S ++ [.lst acc]) else .ok () (S ++ [.lst acc])) :
    cloop iv.next step (iv.cnt S) 0 (S ++ [.lst []]) = .ok () (S ++ [.lst ((xs.filter p).map f)]) := by
  have : RT (cloop iv.next step (iv.cnt S) 0 (S ++ [.lst []])) (fun _ S1 => S1 = S ++ [.lst ((xs.filter p).map f)]) := by
    refine cloop_rule (fun k S1 => S1 = S ++ [.lst (((xs.take k).filter p).map f)]) xs.length (fun k S1 hk h => ?_) (fun S1 h => ?_) _ _ _ (by omega) (by omega) (by rw [List.take_zero]; rfl)
    · subst h
      refine ⟨g xs[k], by rw [hn, List.getElem?_map, List.getElem?_eq_getElem hk]; rfl, ?_⟩
      have e1 : xs.take (k + 1) = xs.take k ++ [xs[k]] := by rw [List.take_add_one, List.getElem?_eq_getElem hk]; rfl
      rw [hs _ (List.getElem_mem hk), e1, List.filter_append, List.map_append]
      have hl : (((xs.take k).filter p).map f).length < PySem.sizeLine := by
        rw [List.length_map]
        have h1 := List.length_filter_le p (xs.take k)
        have h4 : (xs.take k).length ≤ xs.length := by rw [List.length_take]; omega
        have h3 := line_big
        omega
      by_cases hp : p xs[k] = true
      · rw [if_pos hp, push_ok (List.getElem?_concat_length ..) hl, set_last]
        show S ++ [Ob.lst (_ ++ [f xs[k]])] = S ++ [Ob.lst (_ ++ (List.filter p [xs[k]]).map f)]
        rw [List.filter_cons_of_pos hp]
        rfl
      · rw [if_neg hp]
        show S ++ [Ob.lst _] = S ++ [Ob.lst (_ ++ (List.filter p [xs[k]]).map f)]
        rw [List.filter_cons_of_neg hp]
        simp
    · subst h
      rw [List.take_length]
      exact ⟨by rw [hn, List.getElem?_eq_none (by rw [List.length_map]; exact Nat.le_refl _)], rfl⟩
  obtain ⟨u, S1, h1, h2⟩ := this.get
  rw [h1, h2]
theorem intsOf_map : ∀ xs : List Int, intsOf (xs.map .int) = some xs
  | [] => rfl
  | x :: r => by rw [List.map_cons, intsOf, intsOf_map r]; rfl
theorem seq_next {S : Store} {r : Nat} {xs : List Val} (h : S[r]? = some (.lst xs)) (j : Nat) : (IV.seq (.ref r)).next j S = some xs[j]? := by
  show (lstOf S (.ref r)).map _ = _
  simp only [lstOf_ref, h]
  rfl
theorem seq_cnt {S : Store} {r : Nat} {xs : List Val} (h : S[r]? = some (.lst xs)) : (IV.seq (.ref r)).cnt S = xs.length := by
  show ((lstOf S (.ref r)).getD []).length = _
  simp only [lstOf_ref, h]
  rfl
/-- sorted -/
def srt (xs : List Int) : List Int := xs.mergeSort (fun a b => decide (a ≤ b))
theorem sorted_at {S : Store} {r : Nat} {xs : List Int} (h : S[r]? = some (obI xs)) (hz : xs.length ≤ 1000000) : prim .sorted [.ref r] S = some (.ref S.length, S ++ [obI (srt xs)]) := by
  show (match (lstOf S (.ref r)).bind intsOf with | some ns => alloc S ((ns.mergeSort (fun a b => decide (a ≤ b))).map .int) | none => match (lstOf S (.ref r)).bind prsOf with | some ps => alloc S ((ps.mergeSort lePr).map vPr) | none => none) = _
  unfold obI at h
  simp only [lstOf_ref, h, Option.bind_some, intsOf_map]
  exact alloc_small _ _ (by rw [List.length_map, List.length_mergeSort]; exact hz)
theorem perm_sorted_eq : ∀ {xs ys : List Int}, xs.Perm ys → xs.Pairwise (· ≤ ·) → ys.Pairwise (· ≤ ·) → xs = ys
  | [], ys, h, _, _ => (List.nil_perm.mp h).symm
  | x :: xs, [], h, _, _ => absurd h.length_eq (by simp)
  | x :: xs, y :: ys, h, h1, h2 => by
    rw [List.pairwise_cons] at h1 h2
    have e : x = y := by
      have m1 : x ∈ y :: ys := h.mem_iff.mp List.mem_cons_self
      have m2 : y ∈ x :: xs := h.mem_iff.mpr List.mem_cons_self
      rcases List.mem_cons.mp m1 with e | m1
      · exact e
      · rcases List.mem_cons.mp m2 with e | m2
        · exact e.symm
        · have := h1.1 y m2
          have := h2.1 x m1
          omega
    subst e
    rw [perm_sorted_eq (List.Perm.cons_inv h) h1.2 h2.2]
theorem srt_eq {xs ys : List Int} (h : xs.Perm ys) (hs : ys.Pairwise (· ≤ ·)) : srt xs = ys := by
  refine perm_sorted_eq ((List.mergeSort_perm xs _).trans h) ?_ hs
  have := List.pairwise_mergeSort (le := fun a b : Int => decide (a ≤ b)) (fun a b c h1 h2 => by simp only [decide_eq_true_eq] at *; omega) (fun a b => by simp only [Bool.or_eq_true, decide_eq_true_eq]; omega) xs
  exact this.imp fun h => by simpa using h
/-- a list of lists, the rows right behind it -/
def rowsAt (D : Nat) (rows : List (List Int)) : Store := .lst ((List.range rows.length).map fun i => .ref (D + 1 + i)) :: rows.map obI
theorem rowsAt_len (D : Nat) (rows : List (List Int)) : (rowsAt D rows).length = rows.length + 1 := by unfold rowsAt; rw [List.length_cons, List.length_map]
theorem rowsAt_top (S T : Store) (rows : List (List Int)) : (S ++ (rowsAt S.length rows ++ T))[S.length]? = some (.lst ((List.range rows.length).map fun i => .ref (S.length + 1 + i))) := get_end ..
theorem rowsAt_row {rows : List (List Int)} {p : Nat} {row : List Int} (S T : Store) (h : rows[p]? = some row) : (S ++ (rowsAt S.length rows ++ T))[S.length + 1 + p]? = some (obI row) := by
  have hp := (List.getElem?_eq_some_iff.mp h).1
  rw [List.getElem?_append_right (by omega), show S.length + 1 + p - S.length = p + 1 by omega]
  show (_ :: (rows.map obI ++ T))[p + 1]? = _
  rw [List.getElem?_cons_succ, List.getElem?_append_left (by rw [List.length_map]; exact hp), List.getElem?_map, h]
  rfl
theorem rowsAt_set (S T : Store) (rows : List (List Int)) (p : Nat) (row : List Int) (hp : p < rows.length) : (S ++ (rowsAt S.length rows ++ T)).set (S.length + 1 + p) (obI row) = S ++ (rowsAt S.length (rows.set p row) ++ T) := by
  rw [List.set_append_right _ _ (by omega), show S.length + 1 + p - S.length = p + 1 by omega]
  show S ++ (_ :: (rows.map obI ++ T)).set (p + 1) _ = _
  rw [List.set_cons_succ, List.set_append_left _ _ (by rw [List.length_map]; exact hp), ← List.map_set]
  unfold rowsAt
  rw [List.length_set]
  rfl
theorem rowsAt_rw (S T : Store) (rows : List (List Int)) : Rw (S ++ (rowsAt S.length rows ++ T)) (.ref S.length) rows := by
  refine ⟨S.length, (List.range rows.length).map fun i => S.length + 1 + i, rfl, by rw [rowsAt_top, List.map_map]; rfl, by rw [List.length_map, List.length_range], fun p q row hp hq => ?_⟩
  have h := (List.getElem?_eq_some_iff.mp hq).1
  rw [List.getElem?_map, List.getElem?_range h] at hp
  cases hp
  exact rowsAt_row S T hq
end Mi
/-! Tv: the evaluator once more, over trees: who owns a list is told by the tree. -/
namespace Tv
open Mi PySem
inductive T where
  | non | bl (b : Bool) | int (i : Int) | str (x : Str) | ty (n : String)
  | lst (o : Bool) (xs : List T) | tup (xs : List T) | fro (xs : List T)
  | dK (o : Bool) (ks : List DKey) (xs : List T) | dT (o : Bool) (ks : List (List DKey)) (xs : List T)
  deriving Inhabited
mutual
/-- frozen -/
def fz : T → T
  | .lst _ xs => .lst false (fzs xs)
  | .tup xs => .tup (fzs xs)
  | .fro xs => .fro (fzs xs)
  | .dK _ ks xs => .dK false ks (fzs xs)
  | .dT _ ks xs => .dT false ks (fzs xs)
  | .non => .non | .bl b => .bl b | .int i => .int i | .str x => .str x | .ty n => .ty n
def fzs : List T → List T
  | [] => []
  | t :: r => fz t :: fzs r
end
mutual
/-- nothing owned in it -/
def af : T → Bool
  | .lst o xs => !o && afs xs
  | .tup xs => afs xs
  | .fro xs => afs xs
  | .dK o _ xs => !o && afs xs
  | .dT o _ xs => !o && afs xs
  | _ => true
def afs : List T → Bool
  | [] => true
  | t :: r => af t && afs r
end
mutual
/-- nothing frozen in it -/
def nf : T → Bool
  | .lst o xs => o && nfs xs
  | .tup xs => nfs xs
  | .fro _ => false
  | .dK o _ xs => o && nfs xs
  | .dT o _ xs => o && nfs xs
  | _ => true
def nfs : List T → Bool
  | [] => true
  | t :: r => nf t && nfs r
end
/-! ### reading -/
def tlst : T → Option (List T)
  | .lst _ xs => some xs
  | .fro xs => some xs
  | _ => none
def tseq : T → Option (List T)
  | .tup xs => some xs
  | t => tlst t
def tints : List T → Option (List Int)
  | [] => some []
  | .int i :: r => (tints r).map (i :: ·)
  | _ :: _ => none
def tprs : List T → Option (List (Int × Int))
  | [] => some []
  | .tup [.int i, .int j] :: r => (tprs r).map ((i, j) :: ·)
  | _ :: _ => none
def tPr (p : Int × Int) : T := .tup [.int p.1, .int p.2]
def tbls : List T → Option (List Bool)
  | [] => some []
  | .bl i :: r => (tbls r).map (i :: ·)
  | _ :: _ => none
def tflat : T → Bool
  | .non => true | .bl _ => true | .int _ => true | .str _ => true | _ => false
def tfeq : T → T → Bool
  | .non, .non => true
  | .bl a, .bl b => a == b
  | .bl a, .int b => ((if a then 1 else 0) == b)
  | .int a, .bl b => (a == (if b then 1 else 0))
  | .int a, .int b => a == b
  | .str a, .str b => a == b
  | _, _ => false
def tdat : Nat → T → Option PyData
  | 0, _ => none
  | n + 1, v => match v with
    | .non => some .none
    | .bl b => some (.bool b)
    | .int i => some (.int i)
    | .tup vs => (allSome (vs.map (tdat n))).map .tuple
    | .fro vs => (allSome (vs.map (tdat n))).map .list
    | .lst _ vs => (allSome (vs.map (tdat n))).map .list
    | _ => none
def teqF : T → T → Option Bool
  | .int a, .int b => some (decide (a = b))
  | .bl a, .bl b => some (decide (a = b))
  | .str a, .str b => some (decide (a = b))
  | .non, .non => some true
  | .non, .int _ => some false | .int _, .non => some false | .non, .bl _ => some false | .bl _, .non => some false | .non, .str _ => some false | .str _, .non => some false
  | .int _, .str _ => some false | .str _, .int _ => some false | .bl _, .str _ => some false | .str _, .bl _ => some false
  | _, _ => none
def teq (u v : T) : Option Bool := match teqF u v with
  | some b => some b
  | none => match tdat deep u, tdat deep v with
    | some d, some e => some (PyData.eqv d e)
    | _, _ => none
def tkey : T → Option DKey
  | .int i => some (.inl i)
  | .str x => some (.inr x)
  | _ => none
def tkeys : T → Option (List DKey)
  | .tup vs => allSome (vs.map tkey)
  | _ => none
def kpos {κ : Type} [DecidableEq κ] : List κ → κ → Option Nat
  | [], _ => none
  | a :: r, k => if a = k then some 0 else (kpos r k).map (· + 1)
/-- where d[k] stands -/
def tdpos (d k : T) : Option (Option Nat) := match d with
  | .dK _ ks _ => (tkey k).map (kpos ks)
  | .dT _ ks _ => (tkeys k).map (kpos ks)
  | _ => none
def tkids : T → List T
  | .lst _ xs => xs | .tup xs => xs | .fro xs => xs | .dK _ _ xs => xs | .dT _ _ xs => xs | _ => []
def tinS (u v : T) : Option Bool := match u, v with
  | .str x, .str z => match x.cps.toList with
    | [c] => some (decide (c ∈ z.cps.toList))
    | _ => none
  | u, v => match tseq v with
    | some xs => if tflat u && xs.all tflat then some (xs.any fun y => tfeq y u) else match tlst v with
      | some _ => match tdat deep u, tdat deep v with
        | some d, some (.list ds) => some (ds.any fun z => PyData.eqv z d)
        | _, _ => none
      | none => none
    | none => none
def tin (u v : T) : Option Bool := match tinS u v with
  | some b => some b
  | none => (tdpos v u).map (·.isSome)
def tisNon : T → Bool
  | .non => true
  | _ => false
def tcmp (o : Cp) (u v : T) : Option Bool :=
  match o, u, v with
  | .lt, .int i, .int j => some (decide (i < j))
  | .le, .int i, .int j => some (decide (i ≤ j))
  | .gt, .int i, .int j => some (decide (j < i))
  | .ge, .int i, .int j => some (decide (j ≤ i))
  | .eq, u, v => teq u v
  | .ne, u, v => (teq u v).map (!·)
  | .isn, u, .non => some (tisNon u)
  | .notn, u, .non => some (!tisNon u)
  | .isn, .bl a, .bl b => some (decide (a = b))
  | .notn, .bl a, .bl b => some (!decide (a = b))
  | .isin, u, v => tin u v
  | .notin, u, v => (tin u v).map (!·)
  | _, _, _ => none
def ttru : T → Option Bool
  | .non => some false
  | .bl b => some b
  | .int i => some (i != 0)
  | .lst _ xs => some (!xs.isEmpty)
  | .dK _ ks _ => some (!ks.isEmpty)
  | .tup xs => some (!xs.isEmpty)
  | .fro xs => some (!xs.isEmpty)
  | _ => none
/-- a new list: its items are nobody's -/
def tnew (xs : List T) : Option T := if xs.length ≤ sizeLine then some (.lst true xs) else none
def tbin (o : O2) (u v : T) : Option T :=
  match o, u, v with
  | .add, .int i, .int j => some (.int (i + j))
  | .sub, .int i, .int j => some (.int (i - j))
  | .mul, .int i, .int j => if mulOk i j then some (.int (i * j)) else none
  | .fdiv, .int i, .int j => if 0 < j ∧ j.natAbs.log2 < 9000 then some (.int (i / j)) else none
  | .mod, .int i, .int j => if 0 < j then some (.int (i % j)) else none
  | .pow, .int i, .int j => if 0 ≤ j ∧ j ≤ 1000000 ∧ i.natAbs < 2 ^ 64 then some (.int (i ^ j.toNat)) else none
  | .add, .str x, .str y => if x.length + y.length ≤ sizeLine then some (.str (x ++ y)) else none
  | .add, .lst _ xs, .lst _ ys => tnew (xs ++ ys)
  | .mul, .lst _ xs, .int k => if sg63 k = true ∧ xs.length * k.toNat ≤ sizeLine ∧ afs xs = true then tnew (List.replicate k.toNat xs).flatten else none
  | _, _, _ => none
/-- u[i]: where it stands -/
def tixp (u i : T) : Option Nat := match tseq u, i with
  | some xs, .int k => L2.ixN xs.length k
  | _, _ => (tdpos u i).join
/-- u[i] of a text -/
def tsign (u i : T) : Option T := match u, i with
  | .str x, .int i => if x.length ≤ sizeLine then (L2.atI x.cps.toList i).map fun c => .str ⟨#[c]⟩ else none
  | _, _ => none
def tslice (u : T) (lo hi : Option Int) : Option T := match tlst u with
  | some xs => tnew (cut xs lo hi)
  | none => none
def tstp (u : T) (a k : Nat) : Option T := match tlst u with
  | some xs => tnew (stp xs a k)
  | none => none
def tintOf : T → Option Int
  | .int i => some i
  | _ => none
def tfind1 (y : T) : List T → Nat → Option Nat
  | [], _ => none
  | x :: r, k => if tfeq x y then some k else tfind1 y r (k + 1)
def tprim (p : Pr) (us : List T) : Option T :=
  match p, us with
  | .len, [.str x] => if x.length ≤ sizeLine then some (.int x.length) else none
  | .len, [.lst _ xs] => some (.int xs.length)
  | .len, [.dK _ ks _] => some (.int ks.length)
  | .len, [.tup xs] => some (.int xs.length)
  | .len, [.fro xs] => some (.int xs.length)
  | .sum, [u] => (tlst u).bind fun xs => (tints xs).map fun ns => .int ns.sum
  | .max, [u] => (tlst u).bind fun xs => (tints xs).bind fun ns => if ns.isEmpty then none else some (.int (maxL ns))
  | .min, [u] => (tlst u).bind fun xs => (tints xs).bind fun ns => if ns.isEmpty then none else some (.int (minL ns))
  | .max2, [.int i, .int j] => some (.int (if j > i then j else i))
  | .min2, [.int i, .int j] => some (.int (if j < i then j else i))
  | .sorted, [u] => match (tlst u).bind tints with
    | some ns => tnew ((ns.mergeSort (fun a b => decide (a ≤ b))).map .int)
    | none => match (tlst u).bind tprs with
      | some ps => tnew ((ps.mergeSort lePr).map tPr)
      | none => none
  | .abs, [.int i] => some (.int (if i < 0 then -i else i))
  | .str, [.int i] => if i.natAbs.log2 < 1920 then some (.str (toString i)) else none
  | .int, [.int i] => some (.int i)
  | .int, [.bl k] => some (.int (if k then 1 else 0))
  | .int, [.str x] => match PySem.intText? x with
    | some n => if x.length ≤ 640 then some (.int n) else none
    | none => none
  | .all, [u] => (tlst u).bind fun xs => (tbls xs).map fun bs => .bl (bs.all id)
  | .any, [u] => (tlst u).bind fun xs => (tbls xs).map fun bs => .bl (bs.any id)
  | .list, [u] => match tseq u with
    | some xs => tnew xs
    | none => none
  | .tuple, [u] => match tseq u with
    | some xs => some (.tup xs)
    | none => none
  | _, _ => none
def ttyIn : T → Option String
  | .non => some "NoneType" | .bl _ => some "bool" | .int _ => some "int" | .str _ => some "str" | .tup _ => some "tuple"
  | .lst _ _ => some "list" | .dK _ _ _ => some "dict"
  | _ => none
/-! ### changing: a list's methods, stores -/
def tmeth (m : Me) (u : T) (us : List T) : Option (T × T) := match u with
  | .lst true xs => match m, us with
    | .append, [y] => if xs.length < sizeLine then some (.non, .lst true (xs ++ [y])) else none
    | .extend, [.lst _ ys] => if xs.length + ys.length ≤ sizeLine ∧ afs ys = true then some (.non, .lst true (xs ++ ys)) else none
    | .pop, [] => match xs[xs.length - 1]? with
      | some y => some (y, .lst true xs.dropLast)
      | none => none
    | .popAt, [.int i] => if in63 i = true then match xs[i.toNat]? with
      | some y => some (y, .lst true (xs.eraseIdx i.toNat))
      | none => none else none
    | .insert, [.int i, y] => if xs.length < sizeLine ∧ in63 i = true then some (.non, .lst true (xs.take i.toNat ++ [y] ++ xs.drop i.toNat)) else none
    | .reverse, [] => some (.non, .lst true xs.reverse)
    | _, _ => none
  | _ => none
/-- methods that only look -/
def trmeth (m : Me) (u : T) (us : List T) : Option T := match m, us with
  | .index, [y] => match tlst u with
    | some xs => if tflat y && xs.all tflat then (tfind1 y xs 0).map fun j => .int (j : Nat) else none
    | none => none
  | _, _ => none
def isMut : Me → Bool
  | .append => true | .extend => true | .pop => true | .popAt => true | .insert => true | .reverse => true | _ => false
/-- u[i] = v -/
def tsetop (u i v : T) : Option T := match u with
  | .lst true xs => match i with
    | .int k => (L2.ixN xs.length k).map fun j => .lst true (xs.set j v)
    | _ => none
  | .dK true ks xs => if ks.length < sizeLine then (tkey i).map fun k => match kpos ks k with
      | some j => .dK true ks (xs.set j v)
      | none => .dK true (ks ++ [k]) (xs ++ [v]) else none
  | .dT true ks xs => if ks.length < sizeLine then (tkeys i).map fun k => match kpos ks k with
      | some j => .dT true ks (xs.set j v)
      | none => .dT true (ks ++ [k]) (xs ++ [v]) else none
  | _ => none
/-! ### places -/
def tAt : T → List Nat → Option T
  | t, [] => some t
  | t, k :: p => match (tkids t)[k]? with
    | some c => tAt c p
    | none => none
/-- with other kids; owned lists and tuples alone -/
def tkidsSet (t : T) (k : Nat) (c : T) : Option T := match t with
  | .lst true xs => some (.lst true (xs.set k c))
  | .tup xs => some (.tup (xs.set k c))
  | .dK true ks xs => some (.dK true ks (xs.set k c))
  | .dT true ks xs => some (.dT true ks (xs.set k c))
  | _ => none
def tPut : T → List Nat → T → Option T
  | _, [], c => some c
  | t, k :: p, c => match (tkids t)[k]? with
    | some d => match tPut d p c with
      | some d' => tkidsSet t k d'
      | none => none
    | none => none
structure St where
  τ : List (Option T)
  α : List (Nat × Nat × List Nat)
  β : List (Option (Nat × List Nat))
inductive V2 where
  | own (t : T) | vw (r : Nat) (p : List Nat)
def St.at (s : St) (i : Nat) : Option T := match s.τ[i]? with
  | some (some t) => some t
  | _ => none
def look (s : St) : V2 → Option T
  | .own t => some t
  | .vw r p => match s.at r with
    | some t => tAt t p
    | none => none
/-- of a tree at a place: itself, if nothing is owned in it; else the place -/
def seen (t : T) (r : Nat) (p : List Nat) : V2 := if af t then .own t else .vw r p
/-- no alias leads into slot r deeper than q -/
def killA (r n : Nat) (α : List (Nat × Nat × List Nat)) : List (Nat × Nat × List Nat) := α.filter fun e => !(decide (e.2.1 = r) && decide (n < e.2.2.length))
def killB (r n : Nat) (β : List (Option (Nat × List Nat))) : List (Option (Nat × List Nat)) := β.map fun e => match e with
  | some (r', p) => if r' = r ∧ n < p.length then none else some (r', p)
  | none => none
def killA0 (r : Nat) (α : List (Nat × Nat × List Nat)) : List (Nat × Nat × List Nat) := α.filter fun e => !(decide (e.2.1 = r) || decide (e.1 = r))
def killB0 (r : Nat) (β : List (Option (Nat × List Nat))) : List (Option (Nat × List Nat)) := β.map fun e => match e with
  | some (r', p) => if r' = r then none else some (r', p)
  | none => none
/-- slot r gets a new value (or none): what led into it leads nowhere -/
def St.setS (s : St) (r : Nat) (o : Option T) : St := ⟨s.τ.set r o, killA0 r s.α, killB0 r s.β⟩
/-- the same object at slot r, its tree told anew -/
def St.reS (s : St) (r : Nat) (t : T) : St := ⟨s.τ.set r (some t), s.α, s.β⟩
def St.frz (s : St) (r : Nat) : St := match s.at r with
  | some t => s.reS r (fz t)
  | none => s
/-- a change at a place -/
def St.put (s : St) (r : Nat) (p : List Nat) (c : T) (deep : Bool) : Option St := match s.at r with
  | some t => match tPut t p c with
    | some t' => some (if deep then ⟨s.τ.set r (some t'), killA r p.length s.α, killB r p.length s.β⟩ else s.reS r t')
    | none => none
  | none => none
inductive TR (α : Type) where
  | ok (a : α) (s : St) | ex (c : Nat) (d : Option T) (s : St) | bad
def TR.bind {α β : Type} (r : TR α) (k : α → St → TR β) : TR β := match r with
  | .ok a s => k a s
  | .ex c d s => .ex c d s
  | .bad => .bad
@[simp] theorem TR.bind_ok {α β : Type} (a : α) (s : St) (k : α → St → TR β) : (TR.ok a s).bind k = k a s := Eq.trans rfl rfl
@[simp] theorem TR.bind_ex {α β : Type} (c : Nat) (d : Option T) (s : St) (k : α → St → TR β) : (TR.ex c d s).bind k = .ex c d s := Eq.trans rfl rfl
@[simp] theorem TR.bind_bad {α β : Type} (k : α → St → TR β) : (TR.bad : TR α).bind k = .bad := Eq.trans rfl rfl
def TR.of {α : Type} (o : Option α) (s : St) : TR α := match o with
  | some a => .ok a s
  | none => .bad
@[simp] theorem TR.of_some {α : Type} (a : α) (s : St) : TR.of (some a) s = .ok a s := Eq.trans rfl rfl
@[simp] theorem TR.of_none {α : Type} (s : St) : TR.of (none : Option α) s = .bad := Eq.trans rfl rfl
/-- a new value -/
def TR.ow (o : Option T) (s : St) : TR V2 := match o with
  | some a => .ok (.own a) s
  | none => .bad
@[simp] theorem TR.ow_some (a : T) (s : St) : TR.ow (some a) s = .ok (.own a) s := Eq.trans rfl rfl
@[simp] theorem TR.ow_none (s : St) : TR.ow none s = .bad := Eq.trans rfl rfl
inductive TF where
  | ok (t : T) (outs : List T) | ex (c : Nat) (d : Option T) (outs : List T) | bad
abbrev TSem := List T → TF
structure Fn where
  n : Nat
  io : List Nat
  tk : List Nat
  g : TSem
/-- calls by number; slots that stay; slots whose trees go away when they are put elsewhere -/
structure Cf where
  C : Nat → Option Fn
  P : List Nat
  M : Nat → Bool
mutual
/-- nothing that was there is changed -/
def pur (C : Nat → Option Fn) : E → Bool
  | .var _ => true
  | .cst _ => true
  | .lst es => purs C es
  | .tup es => purs C es
  | .bin _ a b => pur C a && pur C b
  | .neg a => pur C a
  | .cmp _ a b => pur C a && pur C b
  | .chain _ _ a b c => pur C a && pur C b && pur C c
  | .and a b => pur C a && pur C b
  | .or a b => pur C a && pur C b
  | .not a => pur C a
  | .ite c a b => pur C c && pur C a && pur C b
  | .sub a i => pur C a && pur C i
  | .slB a lo hi => pur C a && pur C lo && pur C hi
  | .slS a lo st => pur C a && pur C lo && pur C st
  | .slL a lo => pur C a && pur C lo
  | .slH a hi => pur C a && pur C hi
  | .slA a => pur C a
  | .slR a => pur C a
  | .call f es => (match C f with
    | some F => F.io.isEmpty && F.tk.isEmpty
    | none => true) && purs C es
  | .isi a _ => pur C a
  | .pr _ es => purs C es
  | .me m o es => !isMut m && pur C o && purs C es
  | .lc _ _ _ its ifs e => purs C its && purs C ifs && pur C e
  | .dK => true
  | .dT => true
  | .dis ks vs => purs C ks && purs C vs
  | .isx _ => true
  | .lrg1 a => pur C a
  | .lrg2 a b => pur C a && pur C b
def purs (C : Nat → Option Fn) : List E → Bool
  | [] => true
  | e :: es => pur C e && purs C es
end
/-- a name read -/
def tvar (i : Nat) (s : St) : Option V2 := match s.α.lookup i with
  | some (r, p) => match look s (.vw r p) with
    | some t => some (seen t r p)
    | none => none
  | none => match s.at i with
    | some t => some (seen t i [])
    | none => none
/-- what was read ahead, behind the reading of others -/
def keep (C : Nat → Option Fn) (e : E) (u : V2) (es : List E) (s : St) : Option V2 := match u with
  | .own t => some (.own t)
  | .vw r p => match e with
    | .var i => tvar i s
    | _ => if purs C es then match look s (.vw r p) with
      | some t => some (seen t r p)
      | none => none else none
/-- taken over -/
def claim (c : Cf) (u : V2) (s : St) : Option (T × St) := match u with
  | .own t => some (t, s)
  | .vw r p => match s.at r with
    | some t => if p = [] ∧ c.M r = true ∧ r ∉ c.P then some (t, s.setS r none) else match tAt (fz t) p with
      | some d => some (d, s.reS r (fz t))
      | none => none
    | none => none
def claims (c : Cf) : List V2 → St → Option (List T × St)
  | [], s => some ([], s)
  | u :: us, s => match claim c u s with
    | some (t, s) => match claims c us s with
      | some (ts, s) => some (t :: ts, s)
      | none => none
    | none => none
/-- the items of a list, taken over into a new one -/
def absorb (c : Cf) (u : V2) (s : St) : Option (T × St) := match look s u with
  | some t => if afs (tkids t) then some (t, s) else claim c u s
  | none => none
def tOf : Val → Option T
  | .non => some .non | .bl b => some (.bl b) | .int i => some (.int i) | .str x => some (.str x) | .ty n => some (.ty n)
  | .tup [] => some (.tup [])
  | _ => none
/-- u[i] -/
def tsub (s : St) (u : V2) (i : T) : Option V2 := match look s u with
  | some t => match tsign t i with
    | some d => some (.own d)
    | none => match tixp t i with
      | some k => match (tkids t)[k]? with
        | some d => match u with
          | .own _ => some (.own d)
          | .vw r p => some (seen d r (p ++ [k]))
        | none => none
      | none => none
  | none => none
/-- what a loop walks -/
inductive Sr where
  | snap (xs : List T) | live (j : Nat)
inductive TI where
  | sq (a : Sr) | en (a : Sr) | zp (a b : Sr) | rv (a : Sr) (n : Nat)
def tsrc (u : V2) (s : St) : Option (Sr × Nat × St) := match u with
  | .own t => match t with
    | .str x => some (.snap ((x.cps.toList).map fun c => .str ⟨#[c]⟩), x.cps.toList.length, s)
    | t => match tseq t with
      | some xs => some (.snap (fzs xs), xs.length, s)
      | none => none
  | .vw r p => match look s (.vw r p) with
    | some t => match tseq t with
      | some xs => some (.live s.β.length, xs.length, ⟨s.τ, s.α, s.β ++ [some (r, p)]⟩)
      | none => none
    | none => none
def trng (lo : Int) (n : Nat) : List T := (List.range n).map fun (i : Nat) => .int (lo + i)
def trngc (lo : Int) (n : Nat) : List T := (List.range n).map fun (i : Nat) => .int (lo + i * 2)
def isTupT : T → Bool
  | .tup _ => true
  | .str _ => true
  | _ => false
/-- lists alone -/
def lonly (s : St) (u : V2) : Bool := match look s u with
  | some t => !isTupT t
  | none => false
def tstart (k : IK) (us : List V2) (s : St) : Option (TI × Nat × St) := match k, us with
  | .seq, [u] => (tsrc u s).map fun (a, n, s) => (.sq a, n, s)
  | .rng1, [.own (.int n)] => if small62 n then some (.sq (.snap (trng 0 n.toNat)), n.toNat, s) else none
  | .rng2, [.own (.int i), .own (.int j)] => if small62 i && small62 j then some (.sq (.snap (trng i (j - i).toNat)), (j - i).toNat, s) else none
  | .rng3, [.own (.int i), .own (.int j)] => if small62 i && small62 j then some (.sq (.snap (trngc i ((j - i + 1) / 2).toNat)), ((j - i + 1) / 2).toNat, s) else none
  | .enum, [u] => if lonly s u then (tsrc u s).map fun (a, n, s) => (.en a, n, s) else none
  | .zip, [u, v] => if lonly s u && lonly s v then (tsrc u s).bind fun (a, n, s) => (tsrc v s).map fun (b, m, s) => (.zp a b, min n m, s) else none
  | .rev, [u] => if lonly s u then (tsrc u s).map fun (a, n, s) => (.rv a n, n, s) else none
  | _, _ => none
def elemAt (s : St) (a : Sr) (k : Nat) : Option (Option V2) := match a with
  | .snap xs => some (xs[k]?.map .own)
  | .live j => match s.β[j]? with
    | some (some (r, p)) => match look s (.vw r p) with
      | some t => match tseq t with
        | some xs => some (xs[k]?.map fun d => seen d r (p ++ [k]))
        | none => none
      | none => none
    | _ => none
inductive It where
  | one (u : V2) | two (u v : V2)
def tnext (ti : TI) (k : Nat) (s : St) : Option (Option It) := match ti with
  | .sq a => (elemAt s a k).map fun o => o.map .one
  | .en a => (elemAt s a k).map fun o => o.map fun u => .two (.own (.int (k : Nat))) u
  | .zp a b => match elemAt s a k, elemAt s b k with
    | some x, some y => some (match x, y with
      | some u, some v => some (.two u v)
      | _, _ => none)
    | _, _ => none
  | .rv a n => if k < n then match elemAt s a (n - 1 - k) with
      | some (some u) => some (some (.one u))
      | _ => none else some none
/-- what is still to be laid does not stand in the target's slots -/
def okV (t : Tg) (us : List V2) : Bool := us.all fun u => match u with
  | .own _ => true
  | .vw r _ => !decide (r ∈ Mi.slots t)
/- a value laid into a target -/
mutual
def tlay (P : List Nat) : Tg → V2 → St → Option St
  | .name i, u, s => if i ∈ P then none else match u with
    | .own t => some (s.setS i (some t))
    | .vw r p => if r = i ∨ ¬ i < s.τ.length ∨ (s.at r).isNone = true then none else some ⟨(s.setS i none).τ, (i, r, p) :: (s.setS i none).α, (s.setS i none).β⟩
  | .tup ts, u, s => match look s u with
    | some t => match tseq t with
      | some xs => tlays P ts (match u with
        | .own _ => xs.map .own
        | .vw r p => (xs.zipIdx).map fun d => seen d.1 r (p ++ [d.2])) s
      | none => none
    | none => none
def tlays (P : List Nat) : List Tg → List V2 → St → Option St
  | [], [], s => some s
  | t :: ts, u :: us, s => if okV t us then match tlay P t u s with
    | some s => tlays P ts us s
    | none => none
    else none
  | _, _, _ => none
end
def tlayIt (P : List Nat) (t : Tg) (x : It) (s : St) : Option St := match x with
  | .one u => tlay P t u s
  | .two u v => match t with
    | .tup [t1, t2] => tlays P [t1, t2] [u, v] s
    | .name i => match u, v with
      | .own a, .own b => tlay P (.name i) (.own (.tup [a, b])) s
      | _, _ => none
    | _ => none
/-- it does not stand in these slots -/
def v2Free (own : List Nat) : V2 → Bool
  | .own _ => true
  | .vw r _ => !decide (r ∈ own)
def itFree (own : List Nat) : It → Bool
  | .one u => v2Free own u
  | .two u w => v2Free own u && v2Free own w
def wipeS (s : St) : List Nat → St
  | [] => s
  | v :: vs => (wipeS s vs).setS v none
/-- the slots that a comprehension had for itself, as they were ahead of it -/
def backS (τ0 : List (Option T)) (s : St) : List Nat → St
  | [] => s
  | v :: vs => (backS τ0 s vs).setS v ((τ0[v]?).join)
/-- a comprehension's turns: what is made so far -/
def tcl (nxt : Nat → St → Option (Option It)) (step : It → St → TR (Option T)) : Nat → Nat → List T → St → TR (List T)
  | F, k, acc, s => match nxt k s with
    | none => .bad
    | some none => .ok acc s
    | some (some v) => match F with
      | 0 => .bad
      | F + 1 => match step v s with
        | .ok o s' => match o with
          | some y => if acc.length < sizeLine then tcl nxt step F (k + 1) (acc ++ [y]) s' else .bad
          | none => tcl nxt step F (k + 1) acc s'
        | _ => .bad
def inL (r : Nat) (l : List (Option (Nat × List Nat))) : Bool := l.any fun e => match e with
  | some (r', _) => decide (r' = r)
  | none => false
/-- the places that a call may change (of a value that is nobody's: none) -/
def ioArgs (us : List V2) (s : St) : List Nat → Option (List (Option (Nat × List Nat)))
  | [] => some []
  | j :: js => match us[j]?, ioArgs us s js with
    | some (.vw r p), some l => if inL r l then none else some (some (r, p) :: l)
    | some (.own _), some l => some (none :: l)
    | _, _ => none
/-- what is handed in -/
def callArgs (io tk : List Nat) (l : List (Option (Nat × List Nat))) (s : St) : Nat → List V2 → Option (List T)
  | _, [] => some []
  | j, u :: us => match look s u, callArgs io tk l s (j + 1) us with
    | some t, some ts => if j ∈ io ∨ j ∈ tk then some (t :: ts) else match u with
      | .own _ => some (fz t :: ts)
      | .vw r _ => if inL r l then none else some (fz t :: ts)
    | _, _ => none
def putAll : List (Option (Nat × List Nat)) → List T → St → Option St
  | [], [], s => some s
  | some (r, p) :: l, t :: ts, s => match s.put r p t true with
    | some s => putAll l ts s
    | none => none
  | none :: l, _ :: ts, s => putAll l ts s
  | _, _, _ => none
def frzRead (io : List Nat) : Nat → List V2 → St → St
  | _, [], s => s
  | j, u :: us, s => if j ∈ io then frzRead io (j + 1) us s else match u with
    | .own _ => frzRead io (j + 1) us s
    | .vw r _ => frzRead io (j + 1) us (s.frz r)
def nfo : Option T → Bool
  | some t => nf t
  | none => true
/-- what is handed over for good -/
def tkArgs (c : Cf) (tk : List Nat) : Nat → List V2 → St → Option (List V2 × St)
  | _, [], s => some ([], s)
  | j, u :: us, s => if j ∈ tk then match claim c u s with
      | some (t, s) => match tkArgs c tk (j + 1) us s with
        | some (us, s) => some (.own t :: us, s)
        | none => none
      | none => none
    else match tkArgs c tk (j + 1) us s with
      | some (us, s) => some (u :: us, s)
      | none => none
def tcall (c : Cf) (F : Fn) (us : List V2) (s : St) : TR V2 := if us.length = F.n then match tkArgs c F.tk 0 us s with
  | none => .bad
  | some (us, s) => match ioArgs us s F.io with
  | some l => match callArgs F.io F.tk l s 0 us with
    | some ts => match F.g ts with
      | .ok t outs => match putAll l outs (if nf t && nfs outs then s else frzRead F.io 0 us s) with
        | some s' => .ok (.own t) s'
        | none => .bad
      | .ex c d outs => match putAll l outs (if nfo d && nfs outs then s else frzRead F.io 0 us s) with
        | some s' => .ex c d s'
        | none => .bad
      | .bad => .bad
    | none => .bad
  | none => .bad
  else .bad
def lstMe : Me → Bool
  | .join => false | .split => false | .get1 => false | .get2 => false | _ => true
def isLst (o : Option T) : Bool := match o with
  | some t => (tlst t).isSome
  | none => false
/-- its tree -/
def r1 (x : TR V2) : TR T := x.bind fun u s => TR.of (look s u) s
def r2 (C : Nat → Option Fn) (a b : E) (x : TR V2) (y : St → TR V2) : TR (T × T) := x.bind fun u s => (y s).bind fun v s => match keep C a u [b] s with
  | some u => match look s u, look s v with
    | some x, some y => .ok (x, y) s
    | _, _ => .bad
  | none => .bad
def deepM : Me → Bool
  | .append => false | .extend => false | _ => true
/-- a method that changes: of what stands at a place -/
def tmut (m : Me) (u : V2) (ts : List T) (s : St) : TR V2 := match u with
  | .vw r p => match look s (.vw r p) with
    | some t => match tmeth m t ts with
      | some (x, t') => match s.put r p t' (deepM m) with
        | some s' => .ok (.own x) s'
        | none => .bad
      | none => .bad
    | none => .bad
  | _ => .bad
/-- what is said of a place while other things are read: the place is pinned -/
def pinQ (C : Nat → Option Fn) (o : E) (es : List E) : Bool := match o with
  | .var _ => false
  | _ => !purs C es
def tmutP (m : Me) (n : Nat) (q : Option (List T × St)) : TR V2 := match q with
  | some (ts, s) => match s.β[n]? with
    | some (some (r, p)) => tmut m (.vw r p) ts ⟨s.τ, s.α, s.β.take n⟩
    | _ => .bad
  | none => .bad
mutual
def tv (c : Cf) : E → St → TR V2
  | .var i, s => TR.of (tvar i s) s
  | .cst v, s => TR.ow (tOf v) s
  | .lst es, s => (tvs c es s).bind fun us s => match claims c us s with
    | some (ts, s) => if ts.length ≤ sizeLine then .ok (.own (.lst true ts)) s else .bad
    | none => .bad
  | .tup es, s => (tvs c es s).bind fun us s => match claims c us s with
    | some (ts, s) => if ts.length ≤ sizeLine then .ok (.own (.tup ts)) s else .bad
    | none => .bad
  | .bin o a b, s => (tv c a s).bind fun u s => (tv c b s).bind fun v s => match keep c.C a u [b] s with
    | some u => match absorb c u s with
      | some (x, s) => match absorb c v s with
        | some (y, s) => TR.ow (tbin o x y) s
        | none => .bad
      | none => .bad
    | none => .bad
  | .neg a, s => (r1 (tv c a s)).bind fun u s => TR.ow ((tintOf u).map fun i => .int (-i)) s
  | .cmp o a (.tup es), s => (tv c a s).bind fun u s => (tvs c es s).bind fun vs s => match keep c.C a u es s with
    | some u => match look s u, allSome (vs.map (look s)) with
      | some x, some ys => if ys.length ≤ sizeLine then TR.ow ((tcmp o x (.tup ys)).map .bl) s else .bad
      | _, _ => .bad
    | none => .bad
  | .cmp o a b, s => (r2 c.C a b (tv c a s) fun s => tv c b s).bind fun (u, v) s => TR.ow ((tcmp o u v).map .bl) s
  | .chain o p a b d, s => (tv c a s).bind fun u s => (tv c b s).bind fun v s => match keep c.C a u [b] s with
    | some u => match look s u, look s v with
      | some x, some y => match tcmp o x y with
        | some k => if k then (tv c d s).bind fun w s => match keep c.C b v [d] s with
            | some v => match look s v, look s w with
              | some y, some z => TR.ow ((tcmp p y z).map .bl) s
              | _, _ => .bad
            | none => .bad
          else .ok (.own (.bl false)) s
        | none => .bad
      | _, _ => .bad
    | none => .bad
  | .and a b, s => (tv c a s).bind fun u s => match (look s u).bind ttru with
    | some k => if k then tv c b s else .ok u s
    | none => .bad
  | .or a b, s => (tv c a s).bind fun u s => match (look s u).bind ttru with
    | some k => if k then .ok u s else tv c b s
    | none => .bad
  | .not a, s => (r1 (tv c a s)).bind fun u s => TR.ow ((ttru u).map fun k => .bl (!k)) s
  | .ite d a b, s => (tv c d s).bind fun u s => match (look s u).bind ttru with
    | some k => if k then tv c a s else tv c b s
    | none => .bad
  | .sub a i, s => (tv c a s).bind fun u s => (tv c i s).bind fun v s => match keep c.C a u [i] s, look s v with
    | some u, some k => TR.of (tsub s u k) s
    | _, _ => .bad
  | .slB a lo hi, s => (tv c a s).bind fun u s => (r1 (tv c lo s)).bind fun i s => match i with
    | .int i => (r1 (tv c hi s)).bind fun j s => match j with
      | .int j => match keep c.C a u [lo, hi] s with
        | some u => match absorb c u s with
          | some (t, s) => TR.ow (tslice t (some i) (some j)) s
          | none => .bad
        | none => .bad
      | _ => .bad
    | _ => .bad
  | .slS a lo st, s => (tv c a s).bind fun u s => (r1 (tv c lo s)).bind fun i s => match i with
    | .int i => (r1 (tv c st s)).bind fun j s => match j with
      | .int j => if 0 ≤ i ∧ 0 < j then match keep c.C a u [lo, st] s with
        | some u => match absorb c u s with
          | some (t, s) => TR.ow (tstp t i.toNat j.toNat) s
          | none => .bad
        | none => .bad else .bad
      | _ => .bad
    | _ => .bad
  | .slL a lo, s => (tv c a s).bind fun u s => (r1 (tv c lo s)).bind fun i s => match i with
    | .int i => match keep c.C a u [lo] s with
      | some u => match absorb c u s with
        | some (t, s) => TR.ow (tslice t (some i) none) s
        | none => .bad
      | none => .bad
    | _ => .bad
  | .slH a hi, s => (tv c a s).bind fun u s => (r1 (tv c hi s)).bind fun j s => match j with
    | .int j => match keep c.C a u [hi] s with
      | some u => match absorb c u s with
        | some (t, s) => TR.ow (tslice t none (some j)) s
        | none => .bad
      | none => .bad
    | _ => .bad
  | .slA a, s => (tv c a s).bind fun u s => match absorb c u s with
    | some (t, s) => TR.ow (tslice t none none) s
    | none => .bad
  | .slR a, s => (tv c a s).bind fun u s => match absorb c u s with
    | some (t, s) => match tlst t with
      | some xs => TR.ow (tnew xs.reverse) s
      | none => .bad
    | none => .bad
  | .call f es, s => match c.C f with
    | some F => (tvs c es s).bind fun us s => tcall c F us s
    | none => .bad
  | .isi a Tn, s => (r1 (tv c a s)).bind fun t s => TR.ow (((ttyIn t).bind fun x => L2.kitB x Tn).map .bl) s
  | .pr p es, s => (tvs c es s).bind fun us s => match allSome (us.map (look s)) with
    | some ts => match p, us with
      | .list, [u] => (match absorb c u s with
        | some (t, s) => TR.ow (tprim .list [t]) s
        | none => .bad)
      | .tuple, [u] => (match absorb c u s with
        | some (t, s) => TR.ow (tprim .tuple [t]) s
        | none => .bad)
      | p, _ => TR.ow (tprim p ts) s
    | none => .bad
  | .me m o es, s => (tv c o s).bind fun u s => if isLst (look s u) && lstMe m then if isMut m && pinQ c.C o es then (match u with
      | .vw r p => (match tvs c es ⟨s.τ, s.α, s.β ++ [some (r, p)]⟩ with
        | .ok us s1 => tmutP m s.β.length (claims c us s1)
        | _ => .bad)
      | .own _ => .bad)
    else (tvs c es s).bind fun us s => if isMut m then match claims c us s with
      | some (ts, s) => match keep c.C o u es s with
        | some u => tmut m u ts s
        | none => .bad
      | none => .bad
    else match keep c.C o u es s with
      | some u => match look s u, allSome (us.map (look s)) with
        | some t, some ts => TR.ow (trmeth m t ts) s
        | _, _ => .bad
      | none => .bad
    else .bad
  | .lc own t k its ifs e, s => (tvs c its s).bind fun us s => match tstart k us s with
    | none => .bad
    | some (ti, n, s1) => if ¬ (Mi.slots t).all (fun i => decide (i ∈ own)) = true then .bad else (tcl (tnext ti) (fun v s => match (if itFree own v then tlayIt [] t v (wipeS s own) else none) with
        | none => .bad
        | some s => (tvT c ifs s).bind fun b s => if b then (tv c e s).bind fun y s => match claim c y s with
            | some (d, s) => .ok (some d) s
            | none => .bad
          else .ok none s) n 0 [] (wipeS s1 own)).bind fun ts s2 => .ok (.own (.lst true ts)) ⟨(backS s1.τ s2 own).τ, (backS s1.τ s2 own).α, (backS s1.τ s2 own).β.take s.β.length⟩
  | .dK, s => .ok (.own (.dK true [] [])) s
  | .dT, s => .ok (.own (.dT true [] [])) s
  | .dis _ _, _ => .bad
  | .isx k, s => match c.C excNo with
    | some F => .ok (.own (.bl (exSub F.n k))) s
    | none => .bad
  | .lrg1 a, s => (r1 (tv c a s)).bind fun u s => match u with
    | .int n => if n ≤ 1000000 ∧ -(2 ^ 62) ≤ n then .ok (.own (.lst true (trng 0 n.toNat))) s else .bad
    | _ => .bad
  | .lrg2 a b, s => (r2 c.C a b (tv c a s) fun s => tv c b s).bind fun (u, v) s => match u, v with
    | .int i, .int j => if small62 i && small62 j && decide (j - i ≤ 1000000) then .ok (.own (.lst true (trng i (j - i).toNat))) s else .bad
    | _, _ => .bad
def tvs (c : Cf) : List E → St → TR (List V2)
  | [], s => .ok [] s
  | e :: es, s => (tv c e s).bind fun u s => (tvs c es s).bind fun us s => match keep c.C e u es s with
    | some u => .ok (u :: us) s
    | none => .bad
def tvT (c : Cf) : List E → St → TR Bool
  | [], s => .ok true s
  | [e], s => (tv c e s).bind fun u s => TR.of ((look s u).bind ttru) s
  | _, _ => .bad
end
/-- a list or a dict -/
def isRef (o : Option T) : Bool := match o with
  | some (.lst _ _) => true | some (.dK _ _ _) => true | some (.dT _ _ _) => true | _ => false
/-- how a statement ends -/
inductive TO where
  | nx (s : St) | bk (s : St) | ct (s : St) | rt (t : T) (s : St) | ex (c : Nat) (d : Option T) (s : St) | bad
def TR.st {α : Type} (r : TR α) (k : α → St → TO) : TO := match r with
  | .ok a s => k a s
  | .ex c d s => .ex c d s
  | .bad => .bad
@[simp] theorem TR.st_ok {α : Type} (a : α) (s : St) (k : α → St → TO) : (TR.ok a s).st k = k a s := Eq.trans rfl rfl
@[simp] theorem TR.st_ex {α : Type} (c : Nat) (d : Option T) (s : St) (k : α → St → TO) : (TR.ex c d s : TR α).st k = .ex c d s := Eq.trans rfl rfl
@[simp] theorem TR.st_bad {α : Type} (k : α → St → TO) : (TR.bad : TR α).st k = .bad := Eq.trans rfl rfl
def TO.then (o : TO) (k : St → TO) : TO := match o with
  | .nx s => k s
  | o => o
@[simp] theorem TO.then_nx (s : St) (k : St → TO) : (TO.nx s).then k = k s := Eq.trans rfl rfl
@[simp] theorem TO.then_bk (s : St) (k : St → TO) : (TO.bk s).then k = .bk s := Eq.trans rfl rfl
@[simp] theorem TO.then_ct (s : St) (k : St → TO) : (TO.ct s).then k = .ct s := Eq.trans rfl rfl
@[simp] theorem TO.then_rt (t : T) (s : St) (k : St → TO) : (TO.rt t s).then k = .rt t s := Eq.trans rfl rfl
@[simp] theorem TO.then_ex (c : Nat) (d : Option T) (s : St) (k : St → TO) : (TO.ex c d s).then k = .ex c d s := Eq.trans rfl rfl
@[simp] theorem TO.then_bad (k : St → TO) : TO.bad.then k = .bad := Eq.trans rfl rfl
def TO.of (o : Option St) : TO := match o with
  | some s => .nx s
  | none => .bad
@[simp] theorem TO.of_some (s : St) : TO.of (some s) = .nx s := Eq.trans rfl rfl
@[simp] theorem TO.of_none : TO.of none = .bad := Eq.trans rfl rfl
/-- the pins of a loop are let go -/
def TO.unpin (n : Nat) (o : TO) : TO := match o with
  | .nx s => .nx ⟨s.τ, s.α, s.β.take n⟩
  | o => o
def tfl (nxt : Nat → St → Option (Option It)) (body : It → St → TO) : Nat → Nat → St → TO
  | F, k, s => match nxt k s with
    | none => .bad
    | some none => .nx s
    | some (some v) => match F with
      | 0 => .bad
      | F + 1 => match body v s with
        | .nx s' => tfl nxt body F (k + 1) s'
        | .ct s' => tfl nxt body F (k + 1) s'
        | .bk s' => .nx s'
        | o => o
def twl (c : St → TR Bool) (body : St → TO) : Nat → St → TO
  | F, s => (c s).st fun k s => if k then match F with
      | 0 => .bad
      | F + 1 => match body s with
        | .nx s' => twl c body F s'
        | .ct s' => twl c body F s'
        | .bk s' => .nx s'
        | o => o
    else .nx s
/-- an assignment: a name's object goes over to the new name, or both have it, frozen -/
def tasg (c : Cf) (t : Tg) (u : V2) (s : St) : Option St := match t, u with
  | .name i, .vw r [] => match claim c (.vw r []) s with
    | some (d, s) => tlay c.P (.name i) (.own d) s
    | none => none
  | t, u => tlay c.P t u s
/-- u[i] = y at a place -/
def tset (u : V2) (k y : T) (s : St) : Option St := match u with
  | .vw r p => match look s (.vw r p) with
    | some t => match tsetop t k y with
      | some t' => s.put r p t' true
      | none => none
    | none => none
  | _ => none
/-! an error in hand -/
def curT (C : Nat → Option Fn) (c : Nat) : Nat → Option Fn := fun f => if f = excNo then some ⟨c, [], [], fun _ => .bad⟩ else C f
/-- nothing is pinned any more -/
def St.unp (s : St) (n : Nat) : St := ⟨s.τ, s.α, List.replicate n none⟩
def TO.gone (i : Nat) (o : TO) : TO := match o with
  | .nx s => .nx (s.setS i none)
  | .bk s => .bk (s.setS i none)
  | .ct s => .ct (s.setS i none)
  | o => o
def triO (i : Nat) (h : Nat → St → TO) (o : TO) : TO := match o with
  | .ex c d s => match d with
    | none => h c s
    | some _ => .bad
  | o => o
/-! a loop's own slots are wiped behind each turn: those that the policy tells -/
mutual
def asgs : Stm → List Nat
  | .asg t _ => Mi.slots t
  | .aug i _ _ => [i]
  | .ifS _ p q => asgss p ++ asgss q
  | .whl _ p => asgss p
  | .for t _ _ p => Mi.slots t ++ asgss p
  | .tri p _ i _ q => i :: (asgss p ++ asgss q)
  | _ => []
def asgss : List Stm → List Nat
  | [] => []
  | a :: r => asgs a ++ asgss r
end
def wsOf (c : Cf) (o : List Nat) (p : List Stm) : List Nat := ((o ++ asgss p).filter fun i => c.M (i + 1000)).eraseDups
def TO.wp (ws : List Nat) (o : TO) : TO := match o with
  | .nx s => .nx (wipeS s ws)
  | .ct s => .ct (wipeS s ws)
  | .bk s => .bk (wipeS s ws)
  | o => o
mutual
def tx (c : Cf) : Stm → St → TO
  | .asg t e, s => (tv c e s).st fun u s => TO.of (tasg c t u s)
  | .set a i e, s => (tv c e s).st fun u s => (tv c a s).st fun v s => (tv c i s).st fun k s => match keep c.C e u [a, i] s, keep c.C a v [i] s, look s k with
    | some u, some v, some k => match claim c u s with
      | some (y, s) => TO.of (tset v k y s)
      | none => .bad
    | _, _, _ => .bad
  | .aug i o e, s => match tvar i s with
    | some (.own (.int a)) => (tv c e s).st fun v s => match o, v with
      | .add, .own (.int b) => if i ∈ c.P then .bad else .nx (s.setS i (some (.int (a + b))))
      | .sub, .own (.int b) => if i ∈ c.P then .bad else .nx (s.setS i (some (.int (a - b))))
      | _, _ => .bad
    | _ => .bad
  | .augS a i o e, s => (tv c a s).st fun u s => (tv c i s).st fun k s => match keep c.C a u [i] s, k with
    | some u, .own k => if ¬ isRef (look s u) = true then .bad else match tsub s u k with
      | some (.own (.int x)) => (tv c e s).st fun v s => match keep c.C a u [e] s with
        | some u => match o, v with
          | .add, .own (.int b) => TO.of (tset u k (.int (x + b)) s)
          | .sub, .own (.int b) => TO.of (tset u k (.int (x - b)) s)
          | _, _ => .bad
        | none => .bad
      | _ => .bad
    | _, _ => .bad
  | .exp e, s => (tv c e s).st fun _ s => .nx s
  | .ret e, s => (tv ⟨c.C, c.P, fun _ => true⟩ e s).st fun u s => match claim ⟨c.C, c.P, fun _ => true⟩ u s with
    | some (t, s) => .rt t s
    | none => .bad
  | .retn, s => .rt .non s
  | .pass, s => .nx s
  | .brk, s => .bk s
  | .cnt, s => .ct s
  | .ifS d p q, s => (tvT c [d] s).st fun k s => if k then txs c p s else txs c q s
  | .whl d p, s => twl (fun s => tvT c [d] s) (fun s => (txs c p s).wp (wsOf c [] p)) wmax (wipeS s (wsOf c [] p))
  | .for t k its p, s => (tvs c its s).st fun us s => match tstart k us s with
    | none => .bad
    | some (ti, n, s1) => (tfl (tnext ti) (fun v s => (match tlayIt c.P t v s with
        | some s => txs c p s
        | none => .bad).wp (wsOf c (Mi.slots t) p)) n 0 (wipeS s1 (wsOf c (Mi.slots t) p))).unpin s.β.length
  | .raise k, s => .ex k none s
  | .tri p cl i kn q, s => triO i (fun c' s' => if c' ∈ kn ∧ (i < s'.τ.length ∨ 1000 ≤ i) ∧ i ∉ c.P then (if exSub c' cl then (txs ⟨curT c.C c', c.P, c.M⟩ q ((s'.setS i none).unp s.β.length)).gone i else .ex c' none s') else .bad) (txs c p s)
  | .nvr, _ => .bad
def txs (c : Cf) : List Stm → St → TO
  | [], s => .nx s
  | a :: r, s => (tx c a s).then fun s => txs c r s
end
def outsOf (io : List Nat) (s : St) : Option (List T) := allSome (io.map s.at)
def TO.fin (io : List Nat) (o : TO) : TF := match o with
  | .nx s => match outsOf io s with
    | some ts => .ok .non ts
    | none => .bad
  | .rt t s => match outsOf io s with
    | some ts => .ok t ts
    | none => .bad
  | .ex c d s => match outsOf io s with
    | some ts => .ex c d ts
    | none => .bad
  | _ => .bad
/-- a def: its slots, which of its arguments it changes, which slots let go, its body -/
def trun (C : Nat → Option Fn) (n : Nat) (io : List Nat) (M : Nat → Bool) (body : List Stm) : TSem := fun us =>
  (txs ⟨C, io, M⟩ body ⟨us.map some ++ List.replicate (n - us.length) none, [], []⟩).fin io
end Tv
namespace Tv
open Mi PySem
/-! ### what a tree says of a value -/
abbrev Ad := Nat → Prop
def Nd (o : Bool) (Z : Ad) (i : Nat) (F G : Ad) : Prop := if o = true then F i ∧ (∀ x, G x → F x ∧ x ≠ i) else Z i ∧ ∀ x, ¬ G x
def KL {κ : Type} (ks : List κ) (us : List Val) : Prop := ks.length = us.length ∧ ks.Nodup
mutual
def Rp (S : Store) (Z : Ad) : T → Val → Ad → Prop
  | .non, v, _ => v = .non
  | .bl b, v, _ => v = .bl b
  | .int i, v, _ => v = .int i
  | .str x, v, _ => v = .str x
  | .ty n, v, _ => v = .ty n
  | .lst o ts, v, F => ∃ i us G, v = .ref i ∧ S[i]? = some (.lst us) ∧ Rps S Z ts us G ∧ Nd o Z i F G
  | .tup ts, v, F => ∃ us, v = .tup us ∧ Rps S Z ts us F
  | .fro ts, v, _ => ∃ us, v = .fro us ∧ Rps S Z ts us (fun _ => False)
  | .dK o ks ts, v, F => ∃ i us G, v = .ref i ∧ S[i]? = some (.dK (ks.zip us)) ∧ KL ks us ∧ Rps S Z ts us G ∧ Nd o Z i F G
  | .dT o ks ts, v, F => ∃ i us G, v = .ref i ∧ S[i]? = some (.dT (ks.zip us)) ∧ KL ks us ∧ Rps S Z ts us G ∧ Nd o Z i F G
def Rps (S : Store) (Z : Ad) : List T → List Val → Ad → Prop
  | [], us, _ => us = []
  | t :: ts, us, F => ∃ u r F1 F2, us = u :: r ∧ Rp S Z t u F1 ∧ Rps S Z ts r F2 ∧ (∀ x, F1 x → F x ∧ ¬ F2 x) ∧ (∀ x, F2 x → F x)
end
section
variable {S S' : Store} {Z Z' : Ad}
theorem Nd.mono {o : Bool} {i : Nat} {F F' G : Ad} (h : Nd o Z i F G) (f : ∀ x, F x → F' x) : Nd o Z i F' G := by
  unfold Nd at *
  split
  · rename_i e
    rw [if_pos e] at h
    exact ⟨f _ h.1, fun x hx => ⟨f _ (h.2 x hx).1, (h.2 x hx).2⟩⟩
  · rename_i e
    rw [if_neg e] at h
    exact h
mutual
theorem Rp.mono : ∀ {t : T} {v : Val} {F F' : Ad}, Rp S Z t v F → (∀ x, F x → F' x) → Rp S Z t v F'
  | .non, _, _, _, h, _ => h
  | .bl _, _, _, _, h, _ => h
  | .int _, _, _, _, h, _ => h
  | .str _, _, _, _, h, _ => h
  | .ty _, _, _, _, h, _ => h
  | .lst _ _, _, _, _, ⟨i, us, G, h1, h2, h3, h4⟩, f => ⟨i, us, G, h1, h2, h3, h4.mono f⟩
  | .tup _, _, _, _, ⟨us, h1, h2⟩, f => ⟨us, h1, Rps.mono h2 f⟩
  | .fro _, _, _, _, h, _ => h
  | .dK _ _ _, _, _, _, ⟨i, us, G, h1, h2, h3, h4, h5⟩, f => ⟨i, us, G, h1, h2, h3, h4, h5.mono f⟩
  | .dT _ _ _, _, _, _, ⟨i, us, G, h1, h2, h3, h4, h5⟩, f => ⟨i, us, G, h1, h2, h3, h4, h5.mono f⟩
theorem Rps.mono : ∀ {ts : List T} {us : List Val} {F F' : Ad}, Rps S Z ts us F → (∀ x, F x → F' x) → Rps S Z ts us F'
  | [], _, _, _, h, _ => h
  | _ :: _, _, _, _, ⟨u, r, F1, F2, h1, h2, h3, h4, h5⟩, f => ⟨u, r, F1, F2, h1, h2, h3, fun x hx => ⟨f x (h4 x hx).1, (h4 x hx).2⟩, fun x hx => f x (h5 x hx)⟩
end
theorem Nd.z {o : Bool} {i : Nat} {F G : Ad} (h : Nd o Z i F G) (f : ∀ x, Z x → Z' x) : Nd o Z' i F G := by
  unfold Nd at *
  split
  · rename_i e
    rw [if_pos e] at h
    exact h
  · rename_i e
    rw [if_neg e] at h
    exact ⟨f _ h.1, h.2⟩
theorem Nd.sub {o : Bool} {i : Nat} {F G : Ad} (h : Nd o Z i F G) : (F i ∨ Z i) ∧ ∀ x, G x → F x := by
  unfold Nd at h
  split at h
  · exact ⟨.inl h.1, fun x hx => (h.2 x hx).1⟩
  · exact ⟨.inr h.1, fun x hx => absurd hx (h.2 x)⟩
mutual
theorem Rp.st : ∀ {t : T} {v : Val} {F : Ad}, Rp S Z t v F → (∀ x, F x ∨ Z x → S'[x]? = S[x]?) → (∀ x, Z x → Z' x) → Rp S' Z' t v F
  | .non, _, _, h, _, _ => h
  | .bl _, _, _, h, _, _ => h
  | .int _, _, _, h, _, _ => h
  | .str _, _, _, h, _, _ => h
  | .ty _, _, _, h, _, _ => h
  | .lst _ _, _, _, ⟨i, us, G, h1, h2, h3, h4⟩, f, g => ⟨i, us, G, h1, by rw [f i h4.sub.1]; exact h2, Rps.st h3 (fun x hx => f x (hx.imp (h4.sub.2 x) id)) g, h4.z g⟩
  | .tup _, _, _, ⟨us, h1, h2⟩, f, g => ⟨us, h1, Rps.st h2 f g⟩
  | .fro _, _, _, ⟨us, h1, h2⟩, f, g => ⟨us, h1, Rps.st h2 (fun x hx => f x (hx.imp False.elim id)) g⟩
  | .dK _ _ _, _, _, ⟨i, us, G, h1, h2, h3, h4, h5⟩, f, g => ⟨i, us, G, h1, by rw [f i h5.sub.1]; exact h2, h3, Rps.st h4 (fun x hx => f x (hx.imp (h5.sub.2 x) id)) g, h5.z g⟩
  | .dT _ _ _, _, _, ⟨i, us, G, h1, h2, h3, h4, h5⟩, f, g => ⟨i, us, G, h1, by rw [f i h5.sub.1]; exact h2, h3, Rps.st h4 (fun x hx => f x (hx.imp (h5.sub.2 x) id)) g, h5.z g⟩
theorem Rps.st : ∀ {ts : List T} {us : List Val} {F : Ad}, Rps S Z ts us F → (∀ x, F x ∨ Z x → S'[x]? = S[x]?) → (∀ x, Z x → Z' x) → Rps S' Z' ts us F
  | [], _, _, h, _, _ => h
  | _ :: _, _, _, ⟨u, r, F1, F2, h1, h2, h3, h4, h5⟩, f, g => ⟨u, r, F1, F2, h1, Rp.st h2 (fun x hx => f x (hx.imp (fun q => (h4 x q).1) id)) g, Rps.st h3 (fun x hx => f x (hx.imp (h5 x) id)) g, h4, h5⟩
end
theorem Nd.fz {o : Bool} {i : Nat} {F G : Ad} (h : Nd o Z i F G) (f : ∀ x, F x ∨ Z x → Z' x) (F' : Ad) : Nd false Z' i F' (fun _ => False) := by
  unfold Nd
  rw [if_neg (by decide)]
  exact ⟨f i h.sub.1, fun _ h => h⟩
mutual
theorem Rp.fz : ∀ {t : T} {v : Val} {F : Ad}, Rp S Z t v F → (∀ x, F x ∨ Z x → Z' x) → ∀ F', Rp S Z' (fz t) v F'
  | .non, _, _, h, _, _ => h
  | .bl _, _, _, h, _, _ => h
  | .int _, _, _, h, _, _ => h
  | .str _, _, _, h, _, _ => h
  | .ty _, _, _, h, _, _ => h
  | .lst _ _, _, _, ⟨i, us, G, h1, h2, h3, h4⟩, f, F' => ⟨i, us, fun _ => False, h1, h2, Rps.fz h3 (fun x hx => f x (hx.imp (h4.sub.2 x) id)) _, h4.fz f F'⟩
  | .tup _, _, _, ⟨us, h1, h2⟩, f, F' => ⟨us, h1, Rps.fz h2 f F'⟩
  | .fro _, _, _, ⟨us, h1, h2⟩, f, F' => ⟨us, h1, Rps.fz h2 (fun x hx => f x (hx.imp False.elim id)) _⟩
  | .dK _ _ _, _, _, ⟨i, us, G, h1, h2, h3, h4, h5⟩, f, F' => ⟨i, us, fun _ => False, h1, h2, h3, Rps.fz h4 (fun x hx => f x (hx.imp (h5.sub.2 x) id)) _, h5.fz f F'⟩
  | .dT _ _ _, _, _, ⟨i, us, G, h1, h2, h3, h4, h5⟩, f, F' => ⟨i, us, fun _ => False, h1, h2, h3, Rps.fz h4 (fun x hx => f x (hx.imp (h5.sub.2 x) id)) _, h5.fz f F'⟩
theorem Rps.fz : ∀ {ts : List T} {us : List Val} {F : Ad}, Rps S Z ts us F → (∀ x, F x ∨ Z x → Z' x) → ∀ F', Rps S Z' (fzs ts) us F'
  | [], _, _, h, _, _ => h
  | _ :: _, _, _, ⟨u, r, F1, F2, h1, h2, h3, h4, h5⟩, f, F' => ⟨u, r, fun _ => False, F', h1, Rp.fz h2 (fun x hx => f x (hx.imp (fun q => (h4 x q).1) id)) _, Rps.fz h3 (fun x hx => f x (hx.imp (h5 x) id)) F', fun _ h => h.elim, fun _ h => h⟩
end
theorem Nd.af {o : Bool} {i : Nat} {F G : Ad} (h : Nd o Z i F G) (ho : (!o) = true) (F' : Ad) : Nd o Z i F' (fun _ => False) := by
  cases o with
  | true => cases ho
  | false =>
    unfold Nd at *
    rw [if_neg (by decide)] at *
    exact ⟨h.1, fun _ h => h⟩
mutual
theorem Rp.af : ∀ {t : T} {v : Val} {F : Ad}, Rp S Z t v F → af t = true → ∀ F', Rp S Z t v F'
  | .non, _, _, h, _, _ => h
  | .bl _, _, _, h, _, _ => h
  | .int _, _, _, h, _, _ => h
  | .str _, _, _, h, _, _ => h
  | .ty _, _, _, h, _, _ => h
  | .lst o _, _, _, ⟨i, us, G, h1, h2, h3, h4⟩, f, F' => by
    unfold Tv.af at f
    rw [Bool.and_eq_true] at f
    exact ⟨i, us, fun _ => False, h1, h2, Rps.af h3 f.2 _, h4.af f.1 F'⟩
  | .tup _, _, _, ⟨us, h1, h2⟩, f, F' => by unfold Tv.af at f; exact ⟨us, h1, Rps.af h2 f F'⟩
  | .fro _, _, _, ⟨us, h1, h2⟩, f, F' => ⟨us, h1, h2⟩
  | .dK _ _ _, _, _, ⟨i, us, G, h1, h2, h3, h4, h5⟩, f, F' => by
    unfold Tv.af at f
    rw [Bool.and_eq_true] at f
    exact ⟨i, us, fun _ => False, h1, h2, h3, Rps.af h4 f.2 _, h5.af f.1 F'⟩
  | .dT _ _ _, _, _, ⟨i, us, G, h1, h2, h3, h4, h5⟩, f, F' => by
    unfold Tv.af at f
    rw [Bool.and_eq_true] at f
    exact ⟨i, us, fun _ => False, h1, h2, h3, Rps.af h4 f.2 _, h5.af f.1 F'⟩
theorem Rps.af : ∀ {ts : List T} {us : List Val} {F : Ad}, Rps S Z ts us F → afs ts = true → ∀ F', Rps S Z ts us F'
  | [], _, _, h, _, _ => h
  | _ :: _, _, _, ⟨u, r, F1, F2, h1, h2, h3, h4, h5⟩, f, F' => by
    unfold afs at f
    rw [Bool.and_eq_true] at f
    exact ⟨u, r, fun _ => False, F', h1, Rp.af h2 f.1 _, Rps.af h3 f.2 F', fun _ h => h.elim, fun _ h => h⟩
end
theorem Nd.nf {o : Bool} {i : Nat} {F G : Ad} (h : Nd o Z i F G) (ho : o = true) : Nd o Z' i F G := by
  unfold Nd at *
  rw [if_pos ho] at *
  exact h
mutual
theorem Rp.nf : ∀ {t : T} {v : Val} {F : Ad}, Rp S Z t v F → nf t = true → Rp S Z' t v F
  | .non, _, _, h, _ => h
  | .bl _, _, _, h, _ => h
  | .int _, _, _, h, _ => h
  | .str _, _, _, h, _ => h
  | .ty _, _, _, h, _ => h
  | .lst o _, _, _, ⟨i, us, G, h1, h2, h3, h4⟩, f => by
    unfold Tv.nf at f
    rw [Bool.and_eq_true] at f
    exact ⟨i, us, G, h1, h2, Rps.nf h3 f.2, h4.nf f.1⟩
  | .tup _, _, _, ⟨us, h1, h2⟩, f => by unfold Tv.nf at f; exact ⟨us, h1, Rps.nf h2 f⟩
  | .fro _, _, _, ⟨us, h1, h2⟩, f => by unfold Tv.nf at f; cases f
  | .dK _ _ _, _, _, ⟨i, us, G, h1, h2, h3, h4, h5⟩, f => by
    unfold Tv.nf at f
    rw [Bool.and_eq_true] at f
    exact ⟨i, us, G, h1, h2, h3, Rps.nf h4 f.2, h5.nf f.1⟩
  | .dT _ _ _, _, _, ⟨i, us, G, h1, h2, h3, h4, h5⟩, f => by
    unfold Tv.nf at f
    rw [Bool.and_eq_true] at f
    exact ⟨i, us, G, h1, h2, h3, Rps.nf h4 f.2, h5.nf f.1⟩
theorem Rps.nf : ∀ {ts : List T} {us : List Val} {F : Ad}, Rps S Z ts us F → nfs ts = true → Rps S Z' ts us F
  | [], _, _, h, _ => h
  | _ :: _, _, _, ⟨u, r, F1, F2, h1, h2, h3, h4, h5⟩, f => by
    unfold nfs at f
    rw [Bool.and_eq_true] at f
    exact ⟨u, r, F1, F2, h1, Rp.nf h2 f.1, Rps.nf h3 f.2, h4, h5⟩
end
/-! lists of them -/
theorem Rps.len : ∀ {ts : List T} {us : List Val} {F : Ad}, Rps S Z ts us F → ts.length = us.length
  | [], _, _, h => by rw [show _ = [] from h]; rfl
  | _ :: _, _, _, ⟨u, r, F1, F2, h1, h2, h3, h4, h5⟩ => by rw [h1, List.length_cons, List.length_cons, Rps.len h3]
/-- an item: it, and what else there is -/
theorem Rps.item : ∀ {ts : List T} {us : List Val} {F : Ad} {k : Nat} {c : T}, Rps S Z ts us F → ts[k]? = some c →
    ∃ u F1, us[k]? = some u ∧ Rp S Z c u F1 ∧ (∀ x, F1 x → F x) ∧
      ∀ {S' : Store} {Z' : Ad} {c' : T} {u' : Val} {F' : Ad}, (∀ x, (F x ∧ ¬ F1 x) ∨ Z x → S'[x]? = S[x]?) → (∀ x, Z x → Z' x) → Rp S' Z' c' u' F' → (∀ x, F' x → ¬ (F x ∧ ¬ F1 x)) →
        Rps S' Z' (ts.set k c') (us.set k u') (fun x => (F x ∧ ¬ F1 x) ∨ F' x)
  | [], _, _, _, _, _, e => by cases e
  | t :: ts, _, F, 0, c, ⟨u, r, F1, F2, h1, h2, h3, h4, h5⟩, e => by
    cases e
    subst h1
    refine ⟨u, F1, rfl, h2, fun x hx => (h4 x hx).1, fun {S' Z' c' u' F'} a b d e => ⟨u', r, F', F2, rfl, d, ?_, fun x hx => ⟨.inr hx, fun h => e x hx ⟨h5 x h, fun h' => (h4 x h').2 h⟩⟩, fun x hx => .inl ⟨h5 x hx, fun h' => (h4 x h').2 hx⟩⟩⟩
    exact h3.st (fun x hx => a x (hx.imp (fun h => ⟨h5 x h, fun h' => (h4 x h').2 h⟩) id)) b
  | t :: ts, _, F, k + 1, c, ⟨u, r, F1, F2, h1, h2, h3, h4, h5⟩, e => by
    subst h1
    obtain ⟨w, G, g1, g2, g3, g4⟩ := Rps.item h3 (show ts[k]? = some c from e)
    refine ⟨w, G, g1, g2, fun x hx => h5 x (g3 x hx), fun {S' Z' c' u' F'} a b d e => ⟨u, r.set k u', F1, fun x => (F2 x ∧ ¬ G x) ∨ F' x, rfl, ?_, ?_, fun x hx => ⟨.inl ⟨(h4 x hx).1, fun h => (h4 x hx).2 (g3 x h)⟩, ?_⟩, fun x hx => ?_⟩⟩
    · exact h2.st (fun x hx => a x (hx.imp (fun h => ⟨(h4 x h).1, fun h' => (h4 x h).2 (g3 x h')⟩) id)) b
    · exact g4 (fun x hx => a x (hx.imp (fun h => ⟨h5 x h.1, h.2⟩) id)) b d (fun x hx h => e x hx ⟨h5 x h.1, h.2⟩)
    · rintro (h | h)
      · exact (h4 x hx).2 h.1
      · exact e x h ⟨(h4 x hx).1, fun h' => (h4 x hx).2 (g3 x h')⟩
    · rcases hx with h | h
      · exact .inl ⟨h5 x h.1, h.2⟩
      · exact .inr h
theorem Rps.none {ts : List T} {us : List Val} {F : Ad} {k : Nat} (h : Rps S Z ts us F) (e : ts[k]? = none) : us[k]? = none := by
  have := h.len
  rw [List.getElem?_eq_none_iff] at e ⊢
  omega
theorem Rps.append : ∀ {ts xs : List T} {us ws : List Val} {F G H : Ad}, Rps S Z ts us F → Rps S Z xs ws G → (∀ x, F x → H x ∧ ¬ G x) → (∀ x, G x → H x) → Rps S Z (ts ++ xs) (us ++ ws) H
  | [], _, _, _, _, _, _, h, h', f, g => by rw [show _ = [] from h]; exact h'.mono g
  | t :: ts, _, _, _, F, G, H, ⟨u, r, F1, F2, h1, h2, h3, h4, h5⟩, h', f, g => by
    subst h1
    exact ⟨u, r ++ _, F1, fun x => F2 x ∨ G x, rfl, h2, Rps.append h3 h' (fun x hx => ⟨.inl hx, (f x (h5 x hx)).2⟩) (fun x hx => .inr hx),
      fun x hx => ⟨(f x (h4 x hx).1).1, fun h => h.elim (h4 x hx).2 (f x (h4 x hx).1).2⟩, fun x hx => hx.elim (fun h => (f x (h5 x h)).1) (g x)⟩
theorem Rps.one {t : T} {u : Val} {F : Ad} (h : Rp S Z t u F) : Rps S Z [t] [u] F := ⟨u, [], F, fun _ => False, rfl, h, rfl, fun x hx => ⟨hx, fun h => h⟩, fun _ h => h.elim⟩
theorem Rps.nil {F : Ad} : Rps S Z [] [] F := rfl
/-- some of them, in their order -/
theorem Rps.drop : ∀ (n : Nat) {ts : List T} {us : List Val} {F : Ad}, Rps S Z ts us F → Rps S Z (ts.drop n) (us.drop n) F
  | 0, _, _, _, h => h
  | _ + 1, [], _, _, h => by rw [show _ = [] from h]; rfl
  | n + 1, _ :: _, _, F, ⟨u, r, F1, F2, h1, h2, h3, h4, h5⟩ => by subst h1; exact (Rps.drop n h3).mono h5
theorem Rps.take : ∀ (n : Nat) {ts : List T} {us : List Val} {F : Ad}, Rps S Z ts us F → Rps S Z (ts.take n) (us.take n) F
  | 0, _, _, _, h => rfl
  | _ + 1, [], _, _, h => by rw [show _ = [] from h]; rfl
  | n + 1, _ :: _, _, F, ⟨u, r, F1, F2, h1, h2, h3, h4, h5⟩ => by subst h1; exact ⟨u, r.take n, F1, F2, rfl, h2, Rps.take n h3, h4, h5⟩
/-- apart at place n -/
theorem Rps.split : ∀ (n : Nat) {ts : List T} {us : List Val} {F : Ad}, Rps S Z ts us F → ∃ F1 F2, Rps S Z (ts.take n) (us.take n) F1 ∧ Rps S Z (ts.drop n) (us.drop n) F2 ∧ (∀ x, F1 x → F x ∧ ¬ F2 x) ∧ (∀ x, F2 x → F x)
  | 0, _, _, F, h => ⟨fun _ => False, F, rfl, h, fun _ h => h.elim, fun _ h => h⟩
  | _ + 1, [], _, F, h => by rw [show _ = [] from h]; exact ⟨fun _ => False, F, rfl, rfl, fun _ h => h.elim, fun _ h => h⟩
  | n + 1, _ :: _, _, F, ⟨u, r, F1, F2, h1, h2, h3, h4, h5⟩ => by
    subst h1
    obtain ⟨G1, G2, g1, g2, g3, g4⟩ := Rps.split n h3
    exact ⟨fun x => F1 x ∨ G1 x, G2, ⟨u, r.take n, F1, G1, rfl, h2, g1, fun x hx => ⟨.inl hx, fun h => (h4 x hx).2 (g3 x h).1⟩, fun x hx => .inr hx⟩, g2,
      fun x hx => hx.elim (fun h => ⟨(h4 x h).1, fun h' => (h4 x h).2 (g4 x h')⟩) (fun h => ⟨h5 x (g3 x h).1, (g3 x h).2⟩), fun x hx => h5 x (g4 x hx)⟩
theorem Rps.reverse : ∀ {ts : List T} {us : List Val} {F : Ad}, Rps S Z ts us F → Rps S Z ts.reverse us.reverse F
  | [], _, _, h => by rw [show _ = [] from h]; rfl
  | _ :: _, _, F, ⟨u, r, F1, F2, h1, h2, h3, h4, h5⟩ => by
    subst h1
    rw [List.reverse_cons, List.reverse_cons]; exact (Rps.reverse h3).append (Rps.one h2) (fun x hx => ⟨h5 x hx, fun h => (h4 x h).2 hx⟩) (fun x hx => (h4 x hx).1)
theorem Rps.dropLast {ts : List T} {us : List Val} {F : Ad} (h : Rps S Z ts us F) : Rps S Z ts.dropLast us.dropLast F := by
  rw [List.dropLast_eq_take, List.dropLast_eq_take, h.len]
  exact h.take _
theorem Rps.cut {ts : List T} {us : List Val} {F : Ad} (h : Rps S Z ts us F) (lo hi : Option Int) : Rps S Z (Mi.cut ts lo hi) (Mi.cut us lo hi) F := by
  unfold Mi.cut
  rw [h.len]
  exact (h.drop _).take _
theorem Rps.pick : ∀ {ts : List T} {us : List Val} {F : Ad}, Rps S Z ts us F → ∀ is : List Nat, is.Pairwise (· < ·) → Rps S Z (is.filterMap (ts[·]?)) (is.filterMap (us[·]?)) F
  | [], us, F, h, is, _ => by
    rw [show us = [] from h]
    have e1 : is.filterMap (([] : List T)[·]?) = [] := by simp
    have e2 : is.filterMap (([] : List Val)[·]?) = [] := by simp
    rw [e1, e2]
    rfl
  | t :: ts, _, F, ⟨u, r, F1, F2, h1, h2, h3, h4, h5⟩, is, hp => by
    subst h1
    have pos : ∀ js : List Nat, js.Pairwise (· < ·) → (∀ i ∈ js, 0 < i) → Rps S Z (js.filterMap ((t :: ts)[·]?)) (js.filterMap ((u :: r)[·]?)) F2 := fun js hj h0 => by
      rw [Mi.fm_pred t ts js h0, Mi.fm_pred u r js h0]
      exact Rps.pick h3 _ (Mi.pw_pred hj h0)
    cases is with
    | nil => rfl
    | cons i is =>
      rw [List.pairwise_cons] at hp
      cases i with
      | zero =>
        rw [List.filterMap_cons_some (show (t :: ts)[0]? = some t from rfl), List.filterMap_cons_some (show (u :: r)[0]? = some u from rfl)]
        exact ⟨u, _, F1, F2, rfl, h2, pos is hp.2 hp.1, h4, h5⟩
      | succ i => exact (pos ((i + 1) :: is) (List.pairwise_cons.mpr hp) (fun x hx => by
          rcases List.mem_cons.mp hx with rfl | hx -- (here)
          · omega
          · have := hp.1 x hx; omega)).mono h5
theorem Rps.stp {ts : List T} {us : List Val} {F : Ad} (h : Rps S Z ts us F) (a k : Nat) (hk : 0 < k) : Rps S Z (Mi.stp ts a k) (Mi.stp us a k) F := by
  unfold Mi.stp
  rw [h.len]
  exact h.pick _ (Mi.stpIx_pw hk)
/-- one of them apart from the others -/
theorem Rps.erase : ∀ {ts : List T} {us : List Val} {F : Ad} {k : Nat} {c : T}, Rps S Z ts us F → ts[k]? = some c →
    ∃ u F1 F2, us[k]? = some u ∧ Rp S Z c u F1 ∧ Rps S Z (ts.eraseIdx k) (us.eraseIdx k) F2 ∧ (∀ x, F1 x → F x ∧ ¬ F2 x) ∧ (∀ x, F2 x → F x)
  | [], _, _, _, _, _, e => by cases e
  | t :: ts, _, F, 0, c, ⟨u, r, F1, F2, h1, h2, h3, h4, h5⟩, e => by
    cases e
    subst h1
    exact ⟨u, F1, F2, rfl, h2, h3, h4, h5⟩
  | t :: ts, _, F, k + 1, c, ⟨u, r, F1, F2, h1, h2, h3, h4, h5⟩, e => by
    subst h1
    obtain ⟨w, G1, G2, g1, g2, g3, g4, g5⟩ := Rps.erase h3 (show ts[k]? = some c from e)
    exact ⟨w, G1, fun x => F1 x ∨ G2 x, g1, g2, ⟨u, r.eraseIdx k, F1, G2, rfl, h2, g3, fun x hx => ⟨.inl hx, fun h => (h4 x hx).2 (g5 x h)⟩, fun x hx => .inr hx⟩,
      fun x hx => ⟨h5 x (g4 x hx).1, fun h => h.elim (fun h' => (h4 x h').2 (g4 x hx).1) (g4 x hx).2⟩, fun x hx => hx.elim (fun h => (h4 x h).1) (fun h => h5 x (g5 x h))⟩
theorem Rps.afs_rep {ts : List T} {us : List Val} {F : Ad} (h : Rps S Z ts us F) (a : afs ts = true) (F' : Ad) : ∀ k : Nat, Rps S Z (List.replicate k ts).flatten (List.replicate k us).flatten F'
  | 0 => rfl
  | k + 1 => by
    rw [List.replicate_succ, List.replicate_succ, List.flatten_cons, List.flatten_cons]; exact (h.af a (fun _ => False)).append (Rps.afs_rep h a F' k) (fun _ h => h.elim) (fun _ h => h)
end
end Tv
namespace Tv
open Mi PySem
/-! ### places -/
def vkids (S : Store) : Val → List Val
  | .tup us => us
  | .fro us => us
  | .ref r => match S[r]? with
    | some (.lst us) => us
    | some (.dK kvs) => kvs.map (·.2)
    | some (.dT kvs) => kvs.map (·.2)
    | _ => []
  | _ => []
def vAt (S : Store) : Val → List Nat → Option Val
  | v, [] => some v
  | v, k :: p => match (vkids S v)[k]? with
    | some u => vAt S u p
    | none => none
theorem zip_snd {α β : Type} : ∀ {ks : List α} {us : List β}, ks.length = us.length → (ks.zip us).map (·.2) = us
  | [], [], _ => rfl
  | [], _ :: _, h => by cases h
  | _ :: _, [], h => by cases h
  | _ :: ks, _ :: us, h => by rw [List.zip_cons_cons, List.map_cons, zip_snd (Nat.succ.inj h)]
theorem zip_fst {α β : Type} : ∀ {ks : List α} {us : List β}, ks.length = us.length → (ks.zip us).map (·.1) = ks
  | [], [], _ => rfl
  | [], _ :: _, h => by cases h
  | _ :: _, [], h => by cases h
  | _ :: ks, _ :: us, h => by rw [List.zip_cons_cons, List.map_cons, zip_fst (Nat.succ.inj h)]
section
variable {S S' : Store} {Z Z' : Ad}
/-- the kids of a tree and of its value -/
theorem Rp.kids : ∀ {t : T} {v : Val} {F : Ad}, Rp S Z t v F → ∃ G, Rps S Z (tkids t) (vkids S v) G ∧ (∀ x, G x → F x) ∧ ∀ i, v = .ref i → (F i ∧ ¬ G i ∨ Z i ∧ ∀ x, ¬ G x)
  | .non, _, _, h => by cases h; exact ⟨fun _ => False, rfl, fun _ h => h.elim, fun _ h => nomatch h⟩
  | .bl _, _, _, h => by cases h; exact ⟨fun _ => False, rfl, fun _ h => h.elim, fun _ h => nomatch h⟩
  | .int _, _, _, h => by cases h; exact ⟨fun _ => False, rfl, fun _ h => h.elim, fun _ h => nomatch h⟩
  | .str _, _, _, h => by cases h; exact ⟨fun _ => False, rfl, fun _ h => h.elim, fun _ h => nomatch h⟩
  | .ty _, _, _, h => by cases h; exact ⟨fun _ => False, rfl, fun _ h => h.elim, fun _ h => nomatch h⟩
  | .lst o _, _, F, ⟨i, us, G, h1, h2, h3, h4⟩ => by
    subst h1
    refine ⟨G, by unfold vkids; simp only [h2]; exact h3, h4.sub.2, fun j e => ?_⟩
    cases e
    unfold Nd at h4
    split at h4
    · exact .inl ⟨h4.1, fun h => (h4.2 _ h).2 rfl⟩
    · exact .inr h4
  | .tup _, _, F, ⟨us, h1, h2⟩ => by subst h1; exact ⟨F, h2, fun _ h => h, fun _ h => nomatch h⟩
  | .fro _, _, F, ⟨us, h1, h2⟩ => by subst h1; exact ⟨fun _ => False, h2, fun _ h => h.elim, fun _ h => nomatch h⟩
  | .dK o _ _, _, F, ⟨i, us, G, h1, h2, h3, h4, h5⟩ => by
    subst h1
    refine ⟨G, by unfold vkids; simp only [h2]; rw [zip_snd h3.1]; exact h4, h5.sub.2, fun j e => ?_⟩
    cases e
    unfold Nd at h5
    split at h5
    · exact .inl ⟨h5.1, fun h => (h5.2 _ h).2 rfl⟩
    · exact .inr h5
  | .dT o _ _, _, F, ⟨i, us, G, h1, h2, h3, h4, h5⟩ => by
    subst h1
    refine ⟨G, by unfold vkids; simp only [h2]; rw [zip_snd h3.1]; exact h4, h5.sub.2, fun j e => ?_⟩
    cases e
    unfold Nd at h5
    split at h5
    · exact .inl ⟨h5.1, fun h => (h5.2 _ h).2 rfl⟩
    · exact .inr h5
theorem vkids_st {v : Val} (h : ∀ i, v = .ref i → S'[i]? = S[i]?) : vkids S' v = vkids S v := by
  unfold vkids
  cases v with
  | ref i => simp only [h i rfl]
  | _ => rfl
/-- old objects as they were: places as they were -/
theorem vAt_old (h : ∀ x, x < S.length → S'[x]? = S[x]?) : ∀ {p : List Nat} {v w : Val}, vAt S v p = some w → vAt S' v p = some w
  | [], _, _, e => e
  | k :: p, v, w, e => by
    unfold vAt at e ⊢
    cases hk : (vkids S v)[k]? with
    | none => rw [hk] at e; cases e
    | some u =>
      have : vkids S' v = vkids S v ∨ vkids S v = [] := by
        cases v with
        | ref i =>
          cases hi : S[i]? with
          | none => right; unfold vkids; simp only [hi]
          | some o => left; exact vkids_st fun j hj => by cases hj; exact h _ (get_lt hi)
        | _ => exact .inl rfl
      rcases this with e' | e'
      · rw [e', hk]
        rw [hk] at e
        exact vAt_old h e
      · rw [e'] at hk; cases hk
/-- the kids, and the tree again with one of them anew -/
theorem Rp.kids' {t : T} {v : Val} {F : Ad} (h : Rp S Z t v F) : ∃ G, Rps S Z (tkids t) (vkids S v) G ∧ (∀ x, G x → F x) ∧ (∀ i, v = .ref i → (F i ∧ ¬ G i ∨ Z i ∧ ∀ x, ¬ G x)) ∧
    ∀ {k : Nat} {c' t' : T} {S' : Store} {Z' F' G' : Ad}, tkidsSet t k c' = some t' → Rps S' Z' ((tkids t).set k c') (vkids S v) G' → (∀ i, v = .ref i → F i ∧ ¬ G i → S'[i]? = S[i]? ∧ F' i ∧ ¬ G' i) → (∀ x, G' x → F' x) → Rp S' Z' t' v F' := by
  have own : ∀ {i : Nat} {G : Ad}, Nd true Z i F G → F i ∧ ¬ G i ∧ ∀ x, G x → F x := fun {i G} h => by
    unfold Nd at h
    rw [if_pos rfl] at h
    exact ⟨h.1, fun hx => (h.2 i hx).2 rfl, fun x hx => (h.2 x hx).1⟩
  have nd : ∀ {i : Nat} {Z' F' G' : Ad}, F' i → ¬ G' i → (∀ x, G' x → F' x) → Nd true Z' i F' G' := fun {i Z' F' G'} h1 h2 h3 => by
    unfold Nd
    rw [if_pos rfl]
    exact ⟨h1, fun x hx => ⟨h3 x hx, fun e => h2 (e ▸ hx)⟩⟩
  match t, h with
  | .lst o xs, h =>
    obtain ⟨i, us, G, h1, h2, h3, h4⟩ := h
    subst h1
    cases o with
    | false =>
      obtain ⟨G, k1, k2, k3⟩ := Rp.kids (t := .lst false xs) (F := F) (⟨i, us, G, rfl, h2, h3, h4⟩ : ∃ i' us G, Val.ref i = .ref i' ∧ S[i']? = some (.lst us) ∧ Rps S Z xs us G ∧ Nd false Z i' F G)
      exact ⟨G, k1, k2, k3, fun e => by cases e⟩
    | true =>
      have o4 := own h4
      have hv : vkids S (.ref i) = us := by unfold vkids; simp only [h2]
      refine ⟨G, by rw [hv]; exact h3, o4.2.2, fun j e => by cases e; exact .inl ⟨o4.1, o4.2.1⟩, fun {k c' t' S' Z' F' G'} e r f g => ?_⟩
      cases e
      obtain ⟨f1, f2, f3⟩ := f i rfl ⟨o4.1, o4.2.1⟩
      rw [hv] at r
      exact ⟨i, us, G', rfl, by rw [f1]; exact h2, r, nd f2 f3 g⟩
  | .dK o ks xs, h =>
    obtain ⟨i, us, G, h1, h2, hl, h3, h4⟩ := h
    subst h1
    cases o with
    | false =>
      obtain ⟨G, k1, k2, k3⟩ := Rp.kids (t := .dK false ks xs) (F := F) (⟨i, us, G, rfl, h2, hl, h3, h4⟩ : ∃ i' us G, Val.ref i = .ref i' ∧ S[i']? = some (.dK (ks.zip us)) ∧ KL ks us ∧ Rps S Z xs us G ∧ Nd false Z i' F G)
      exact ⟨G, k1, k2, k3, fun e => by cases e⟩
    | true =>
      have o4 := own h4
      have hv : vkids S (.ref i) = us := by unfold vkids; simp only [h2]; exact zip_snd hl.1
      refine ⟨G, by rw [hv]; exact h3, o4.2.2, fun j e => by cases e; exact .inl ⟨o4.1, o4.2.1⟩, fun {k c' t' S' Z' F' G'} e r f g => ?_⟩
      cases e
      obtain ⟨f1, f2, f3⟩ := f i rfl ⟨o4.1, o4.2.1⟩
      rw [hv] at r
      exact ⟨i, us, G', rfl, by rw [f1]; exact h2, hl, r, nd f2 f3 g⟩
  | .dT o ks xs, h =>
    obtain ⟨i, us, G, h1, h2, hl, h3, h4⟩ := h
    subst h1
    cases o with
    | false =>
      obtain ⟨G, k1, k2, k3⟩ := Rp.kids (t := .dT false ks xs) (F := F) (⟨i, us, G, rfl, h2, hl, h3, h4⟩ : ∃ i' us G, Val.ref i = .ref i' ∧ S[i']? = some (.dT (ks.zip us)) ∧ KL ks us ∧ Rps S Z xs us G ∧ Nd false Z i' F G)
      exact ⟨G, k1, k2, k3, fun e => by cases e⟩
    | true =>
      have o4 := own h4
      have hv : vkids S (.ref i) = us := by unfold vkids; simp only [h2]; exact zip_snd hl.1
      refine ⟨G, by rw [hv]; exact h3, o4.2.2, fun j e => by cases e; exact .inl ⟨o4.1, o4.2.1⟩, fun {k c' t' S' Z' F' G'} e r f g => ?_⟩
      cases e
      obtain ⟨f1, f2, f3⟩ := f i rfl ⟨o4.1, o4.2.1⟩
      rw [hv] at r
      exact ⟨i, us, G', rfl, by rw [f1]; exact h2, hl, r, nd f2 f3 g⟩
  | .tup xs, h =>
    obtain ⟨us, h1, h2⟩ := h
    subst h1
    exact ⟨F, h2, fun _ h => h, fun _ h => (nomatch h), fun {k c' t' S' Z' F' G'} e r f g => by cases e; exact ⟨us, rfl, Rps.mono r g⟩⟩
  | .fro xs, h => obtain ⟨G, k1, k2, k3⟩ := h.kids; exact ⟨G, k1, k2, k3, fun e => by cases e⟩
  | .non, h => obtain ⟨G, k1, k2, k3⟩ := h.kids; exact ⟨G, k1, k2, k3, fun e => by cases e⟩
  | .bl _, h => obtain ⟨G, k1, k2, k3⟩ := h.kids; exact ⟨G, k1, k2, k3, fun e => by cases e⟩
  | .int _, h => obtain ⟨G, k1, k2, k3⟩ := h.kids; exact ⟨G, k1, k2, k3, fun e => by cases e⟩
  | .str _, h => obtain ⟨G, k1, k2, k3⟩ := h.kids; exact ⟨G, k1, k2, k3, fun e => by cases e⟩
  | .ty _, h => obtain ⟨G, k1, k2, k3⟩ := h.kids; exact ⟨G, k1, k2, k3, fun e => by cases e⟩
theorem set_id {α : Type} {us : List α} {k : Nat} {u : α} (h : us[k]? = some u) : us.set k u = us := by
  apply List.ext_getElem?
  intro j
  rw [List.getElem?_set]
  by_cases hj : k = j
  · subst hj; rw [if_pos rfl, h, if_pos (List.getElem?_eq_some_iff.mp h).1]
  · rw [if_neg hj]
/-- what may be said of F1, the owned part of a kid u: c' may stand there -/
def PutOk (S : Store) (Z F F1 : Ad) (u v : Val) (c' t' : T) : Prop := ∀ {S' : Store} {Z' : Ad} {F' : Ad}, (∀ x, (F x ∧ ¬ F1 x) ∨ Z x → S'[x]? = S[x]?) → (∀ x, Z x → Z' x) → Rp S' Z' c' u F' → (∀ x, F' x → ¬ (F x ∧ ¬ F1 x)) →
        Rp S' Z' t' v (fun x => (F x ∧ ¬ F1 x) ∨ F' x)
/-- a kid: it, the others, what may be put there -/
theorem Rp.kid {t : T} {v : Val} {F : Ad} {k : Nat} {c : T} (h : Rp S Z t v F) (hk : (tkids t)[k]? = some c) :
    ∃ u F1, (vkids S v)[k]? = some u ∧ Rp S Z c u F1 ∧ (∀ x, F1 x → F x) ∧ (∀ i, v = .ref i → (F i ∨ Z i) ∧ ¬ F1 i) ∧
      (∀ {j : Nat} {y : Val}, j ≠ k → (vkids S v)[j]? = some y → ∃ c' F3, Rp S Z c' y F3 ∧ ∀ x, F3 x → F x ∧ ¬ F1 x) ∧
      ∀ c' t', tkidsSet t k c' = some t' → PutOk S Z F F1 u v c' t' := by
  obtain ⟨G, h1, h2, h3, h0⟩ := h.kids'
  obtain ⟨u, F1, g1, g2, g3, g4⟩ := h1.item hk
  refine ⟨u, F1, g1, g2, fun x hx => h2 x (g3 x hx), fun i hi => ?_, fun {j y} n hy => ?_, fun c' t' ht {S' Z' F'} a b d e => ?_⟩
  · rcases h3 i hi with a | a
    · exact ⟨.inl a.1, fun h => a.2 (g3 i h)⟩
    · exact ⟨.inr a.1, fun h => a.2 i (g3 i h)⟩
  · have key := g4 (S' := S) (Z' := Z) (c' := .non) (u' := .non) (F' := fun _ => False) (fun _ _ => rfl) (fun _ h => h) rfl (fun x hx => hx.elim)
    have hy' : ((vkids S v).set k .non)[j]? = some y := by rw [List.getElem?_set_ne (fun e => n e.symm)]; exact hy
    cases e' : ((tkids t).set k T.non)[j]? with
    | none => rw [key.none e'] at hy'; cases hy'
    | some d' =>
      obtain ⟨a, F3, a1, a2, a3, _⟩ := key.item e'
      rw [a1] at hy'
      cases hy'
      exact ⟨d', F3, a2, fun x hx => ⟨h2 x ((a3 x hx).elim (fun h => h.1) False.elim), (a3 x hx).elim (fun h => h.2) False.elim⟩⟩
  · have key := g4 (S' := S') (Z' := Z') (u' := u) (c' := c') (F' := F') (fun x hx => a x (hx.imp (fun q => ⟨h2 x q.1, q.2⟩) id)) b d (fun x hx q => e x hx ⟨h2 x q.1, q.2⟩)
    rw [set_id g1] at key
    refine h0 ht key (fun i hi ho => ?_) (fun x hx => hx.imp (fun q => ⟨h2 x q.1, q.2⟩) id)
    have hI' : F i ∧ ¬ F1 i := ⟨ho.1, fun h => ho.2 (g3 i h)⟩
    refine ⟨a i (.inl hI'), .inl hI', fun hx => ?_⟩
    rcases hx with hx | hx
    · exact ho.2 hx.1
    · exact e i hx hI'
/-- the tree at a place, its value -/
theorem Rp.place : ∀ {p : List Nat} {t c : T} {v : Val} {F : Ad}, Rp S Z t v F → tAt t p = some c → ∃ u F1, vAt S v p = some u ∧ Rp S Z c u F1 ∧ ∀ x, F1 x → F x
  | [], t, c, v, F, h, e => by cases e; exact ⟨v, F, rfl, h, fun _ h => h⟩
  | k :: p, t, c, v, F, h, e => by
    unfold tAt at e
    cases hk : (tkids t)[k]? with
    | none => rw [hk] at e; cases e
    | some d =>
      rw [hk] at e
      obtain ⟨G, h1, h2, h3⟩ := h.kids
      obtain ⟨u, F1, g1, g2, g3, _⟩ := h1.item hk
      obtain ⟨w, F2, k1, k2, k3⟩ := Rp.place g2 e
      exact ⟨w, F2, by unfold vAt; rw [g1]; exact k1, k2, fun x hx => h2 x (g3 x (k3 x hx))⟩
/-- a value at a place of it has a tree -/
theorem Rp.place' : ∀ {p : List Nat} {t : T} {v w : Val} {F : Ad}, Rp S Z t v F → vAt S v p = some w → ∃ c, tAt t p = some c
  | [], t, v, w, F, h, e => ⟨t, rfl⟩
  | k :: p, t, v, w, F, h, e => by
    unfold vAt at e
    obtain ⟨G, h1, h2, h3⟩ := h.kids
    cases hk : (tkids t)[k]? with
    | none => rw [h1.none hk] at e; cases e
    | some d =>
      obtain ⟨u, F1, g1, g2, g3, _⟩ := h1.item hk
      rw [g1] at e
      obtain ⟨c, hc⟩ := Rp.place' g2 e
      exact ⟨c, by unfold tAt; rw [hk]; exact hc⟩
/-- where nothing that it holds is changed, its places are as they were -/
theorem Rp.same : ∀ {p : List Nat} {t : T} {v w : Val} {F : Ad}, Rp S Z t v F → (∀ x, x < S.length → F x ∨ Z x → S'[x]? = S[x]?) → vAt S v p = some w → vAt S' v p = some w
  | [], _, _, _, _, _, _, e => e
  | k :: p, t, v, w, F, h, f, e => by
    unfold vAt at e ⊢
    obtain ⟨G, h1, h2, h3⟩ := h.kids
    have hkids : vkids S' v = vkids S v := by
      refine vkids_st fun i hi => ?_
      cases hS : S[i]? with
      | none => unfold vkids at e; subst hi; simp only [hS] at e; cases e
      | some o => rw [f i (get_lt hS) ((h3 i hi).imp (fun h => h.1) (fun h => h.1)), hS]
    rw [hkids]
    cases hk : (tkids t)[k]? with
    | none => rw [h1.none hk] at e; cases e
    | some d =>
      obtain ⟨u, F1, g1, g2, g3, _⟩ := h1.item hk
      rw [g1] at e ⊢
      exact Rp.same g2 (fun x hx hF => f x hx (hF.imp (fun h => h2 x (g3 x h)) id)) e
/-- a place: the tree at it, its value, its own part F1; walks no deeper than it stay where nothing but F1 is changed; another tree may be put there -/
theorem Rp.walk : ∀ {q : List Nat} {t c : T} {v : Val} {F : Ad}, Rp S Z t v F → (∀ x, F x → ¬ Z x) → tAt t q = some c → ∃ u F1, vAt S v q = some u ∧ Rp S Z c u F1 ∧ (∀ x, F1 x → F x) ∧
    (∀ {p : List Nat} {w : Val} {S' : Store}, p.length ≤ q.length → (∀ x, x < S.length → (F x ∧ ¬ F1 x) ∨ Z x → S'[x]? = S[x]?) → vAt S v p = some w → vAt S' v p = some w) ∧
    ∀ {c' t' : T}, tPut t q c' = some t' → PutOk S Z F F1 u v c' t'
  | [], t, c, v, F, h, nz, e => by
    cases e
    refine ⟨v, F, rfl, h, fun _ h => h, fun {p w S'} hl hs hv => ?_, fun {c' t'} e {S' Z' F'} a b d e' => ?_⟩
    · cases p with
      | nil => exact hv
      | cons a b => simp at hl
    · cases e
      exact d.mono fun x hx => .inr hx
  | k :: q, t, c, v, F, h, nz, e => by
    unfold tAt at e
    cases hk : (tkids t)[k]? with
    | none => rw [hk] at e; cases e
    | some d =>
      rw [hk] at e
      obtain ⟨u, F1, g1, g2, g3, g4, g5, g6⟩ := h.kid hk
      obtain ⟨w, F2, k1, k2, k3, k4, k5⟩ := Rp.walk g2 (fun x hx => nz x (g3 x hx)) e
      refine ⟨w, F2, by unfold vAt; rw [g1]; exact k1, k2, fun x hx => g3 x (k3 x hx), fun {p z S'} hl hs hv => ?_, fun {c' t'} ep {S' Z' F'} ha hb hc hd => ?_⟩
      · cases p with
        | nil => exact hv
        | cons j p =>
          unfold vAt at hv ⊢
          have hkids : vkids S' v = vkids S v := by
            refine vkids_st fun i hi => ?_
            cases hS : S[i]? with
            | none => unfold vkids at hv; subst hi; simp only [hS] at hv; cases hv
            | some o => rw [hs i (get_lt hS) ((g4 i hi).1.imp (fun a => ⟨a, fun hF => (g4 i hi).2 (k3 i hF)⟩) id), hS]
          rw [hkids]
          cases hj : (vkids S v)[j]? with
          | none => rw [hj] at hv; cases hv
          | some y =>
            rw [hj] at hv
            have hl' : p.length ≤ q.length := by simpa using hl
            by_cases ejk : j = k
            · subst ejk
              rw [g1] at hj
              cases hj
              exact k4 hl' (fun x hx h => hs x hx (h.imp (fun q => ⟨g3 x q.1, q.2⟩) id)) hv
            · obtain ⟨c', F3, m1, m2⟩ := g5 ejk hj
              exact m1.same (fun x hx hF => hs x hx (hF.imp (fun q => ⟨(m2 x q).1, fun h => (m2 x q).2 (k3 x h)⟩) id)) hv
      · unfold tPut at ep
        rw [hk] at ep
        simp only at ep
        cases e2 : tPut d q c' with
        | none => rw [e2] at ep; cases ep
        | some d' =>
          rw [e2] at ep
          have := g6 d' t' ep (S' := S') (Z' := Z') (F' := fun x => (F1 x ∧ ¬ F2 x) ∨ F' x) (fun x hx => ha x (hx.imp (fun q => ⟨q.1, fun h => q.2 (k3 x h)⟩) id)) hb
            (k5 e2 (fun x hx => ha x (hx.imp (fun q => ⟨g3 x q.1, q.2⟩) id)) hb hc (fun x hx q => hd x hx ⟨g3 x q.1, q.2⟩))
            (fun x hx q => hx.elim (fun h => q.2 h.1) (fun h => hd x h ⟨q.1, fun h' => q.2 (k3 x h')⟩))
          refine this.mono fun x hx => ?_
          rcases hx with hx | hx | hx
          · exact .inl ⟨hx.1, fun h => hx.2 (k3 x h)⟩
          · exact .inl ⟨g3 x hx.1, hx.2⟩
          · exact .inr hx
end
end Tv
namespace Tv
open Mi
open PySem hiding Env Ctx
def U (Fs : Nat → Ad) : Ad := fun x => ∃ i, Fs i x
/-- a state of trees tells of slots and store -/
structure OK (S : Store) (Z : Ad) (s : St) (ρ : Env) (pv : List Val) (Fs : Nat → Ad) : Prop where
  len : s.τ.length = ρ.length
  rep : ∀ (i : Nat) (t : T), s.at i = some t → ∃ v, ρ[i]? = some (some v) ∧ Rp S Z t v (Fs i)
  dj : ∀ i j x, Fs i x → Fs j x → i = j
  nz : ∀ i x, Fs i x → ¬ Z x ∧ x < S.length
  zl : ∀ x, Z x → x < S.length
  al : ∀ (x r : Nat) (p : List Nat), (x, r, p) ∈ s.α → ∃ v w, ρ[r]? = some (some v) ∧ vAt S v p = some w ∧ ρ[x]? = some (some w) ∧ ∃ t, s.at r = some t
  bn : pv.length = s.β.length
  bl : ∀ (j r : Nat) (p : List Nat), s.β[j]? = some (some (r, p)) → ∃ v w, ρ[r]? = some (some v) ∧ vAt S v p = some w ∧ pv[j]? = some w ∧ ∃ t, s.at r = some t
/-- what a step may do to the store -/
structure Tr (S : Store) (Z : Ad) (Fs : Nat → Ad) (S' : Store) (Z' : Ad) (Fs' : Nat → Ad) : Prop where
  len : S.length ≤ S'.length
  fr : ∀ x, x < S.length → ¬ U Fs x → S'[x]? = S[x]?
  zz : ∀ x, Z x → Z' x
  zn : ∀ x, Z' x → Z x ∨ U Fs x ∨ S.length ≤ x
  fs : ∀ x, U Fs' x → U Fs x ∨ S.length ≤ x
theorem Tr.refl {S : Store} {Z : Ad} {Fs : Nat → Ad} : Tr S Z Fs S Z Fs := ⟨Nat.le_refl _, fun _ _ _ => rfl, fun _ h => h, fun _ h => .inl h, fun _ h => .inl h⟩
theorem Tr.trans {S S' S'' : Store} {Z Z' Z'' : Ad} {Fs Fs' Fs'' : Nat → Ad} (a : Tr S Z Fs S' Z' Fs') (b : Tr S' Z' Fs' S'' Z'' Fs'') : Tr S Z Fs S'' Z'' Fs'' := by
  refine ⟨Nat.le_trans a.len b.len, fun x h1 h2 => ?_, fun x h => b.zz x (a.zz x h), fun x h => ?_, fun x h => ?_⟩
  · have h3 : ¬ U Fs' x := fun h => (a.fs x h).elim h2 (fun h => by omega)
    rw [b.fr x (Nat.lt_of_lt_of_le h1 a.len) h3, a.fr x h1 h2]
  · rcases b.zn x h with h | h | h
    · exact a.zn x h
    · exact (a.fs x h).elim (fun h => .inr (.inl h)) (fun h => .inr (.inr h))
    · exact .inr (.inr (Nat.le_trans a.len h))
  · rcases b.fs x h with h | h
    · exact a.fs x h
    · exact .inr (Nat.le_trans a.len h)
/-- owned by nobody yet, within B -/
def Ow (S : Store) (Z : Ad) (Fs : Nat → Ad) (B F : Ad) : Prop := ∀ x, F x → ¬ U Fs x ∧ ¬ Z x ∧ x < S.length ∧ B x
def Bd (S : Store) (Fs : Nat → Ad) : Ad := fun x => U Fs x ∨ S.length ≤ x
theorem Tr.bd {S S' : Store} {Z Z' : Ad} {Fs Fs' : Nat → Ad} (a : Tr S Z Fs S' Z' Fs') : ∀ x, Bd S' Fs' x → Bd S Fs x := fun x h => h.elim (a.fs x) (fun h => .inr (Nat.le_trans a.len h))
/-- a result: its value -/
def V1 (S : Store) (Z : Ad) (ρ : Env) : V2 → Val → Ad → Prop
  | .own t, v, F => Rp S Z t v F
  | .vw r p, v, _ => ∃ w, ρ[r]? = some (some w) ∧ vAt S w p = some v
def Vs (S : Store) (Z : Ad) (ρ : Env) : List V2 → List Val → Ad → Prop
  | [], us, _ => us = []
  | u :: us, vs, F => ∃ v r F1 F2, vs = v :: r ∧ V1 S Z ρ u v F1 ∧ Vs S Z ρ us r F2 ∧ (∀ x, F1 x → F x ∧ ¬ F2 x) ∧ (∀ x, F2 x → F x)
section
variable {S S' : Store} {Z Z' : Ad} {s s' : St} {ρ : Env} {pv : List Val} {Fs Fs' : Nat → Ad} {B B' F G : Ad}
theorem Ow.mono (h : Ow S Z Fs B F) (f : ∀ x, G x → F x) : Ow S Z Fs B G := fun x hx => h x (f x hx)
theorem Ow.bmono (h : Ow S Z Fs B F) (f : ∀ x, B x → B' x) : Ow S Z Fs B' F := fun x hx => ⟨(h x hx).1, (h x hx).2.1, (h x hx).2.2.1, f x (h x hx).2.2.2⟩
theorem Ow.none : Ow S Z Fs B (fun _ => False) := fun _ h => h.elim
/-- it stays so -/
theorem Ow.tr (h : Ow S Z Fs B F) (t : Tr S Z Fs S' Z' Fs') : Ow S' Z' Fs' B F := fun x hx => by
  obtain ⟨h1, h2, h3, h4⟩ := h x hx
  exact ⟨fun q => (t.fs x q).elim h1 (fun q => by omega), fun q => (t.zn x q).elim h2 (fun q => q.elim h1 (fun q => by omega)), Nat.lt_of_lt_of_le h3 t.len, h4⟩
theorem Rp.tr {t : T} {v : Val} (h : Rp S Z t v F) (o : Ow S Z Fs B F) (k : OK S Z s ρ pv Fs) (r : Tr S Z Fs S' Z' Fs') : Rp S' Z' t v F :=
  h.st (fun x hx => hx.elim (fun h => r.fr x (o x h).2.2.1 (o x h).1) (fun h => r.fr x (k.zl x h) (fun ⟨i, q⟩ => (k.nz i x q).1 h))) r.zz
theorem Rps.tr {ts : List T} {vs : List Val} (h : Rps S Z ts vs F) (o : Ow S Z Fs B F) (k : OK S Z s ρ pv Fs) (r : Tr S Z Fs S' Z' Fs') : Rps S' Z' ts vs F :=
  h.st (fun x hx => hx.elim (fun h => r.fr x (o x h).2.2.1 (o x h).1) (fun h => r.fr x (k.zl x h) (fun ⟨i, q⟩ => (k.nz i x q).1 h))) r.zz
/-- nothing old is changed -/
def Same (S S' : Store) : Prop := S.length ≤ S'.length ∧ ∀ x, x < S.length → S'[x]? = S[x]?
theorem Same.refl : Same S S := ⟨Nat.le_refl _, fun _ _ => rfl⟩
theorem Same.trans {S'' : Store} (a : Same S S') (b : Same S' S'') : Same S S'' := ⟨Nat.le_trans a.1 b.1, fun x h => by rw [b.2 x (Nat.lt_of_lt_of_le h a.1), a.2 x h]⟩
theorem Same.app (T : Store) : Same S (S ++ T) := ⟨by simp, fun x h => List.getElem?_append_left h⟩
/-- the store grows -/
theorem OK.grow (h : OK S Z s ρ pv Fs) (e : Same S S') : OK S' Z s ρ pv Fs := by
  refine ⟨h.len, fun i t ht => ?_, h.dj, fun i x hx => ⟨(h.nz i x hx).1, Nat.lt_of_lt_of_le (h.nz i x hx).2 e.1⟩, fun x hx => Nat.lt_of_lt_of_le (h.zl x hx) e.1, fun x r p hm => ?_, h.bn, fun j r p hj => ?_⟩
  · obtain ⟨v, h1, h2⟩ := h.rep i t ht
    exact ⟨v, h1, h2.st (fun x hx => e.2 x (hx.elim (fun q => (h.nz i x q).2) (h.zl x))) fun _ h => h⟩
  · obtain ⟨v, w, h1, h2, h3, h4⟩ := h.al x r p hm
    exact ⟨v, w, h1, vAt_old e.2 h2, h3, h4⟩
  · obtain ⟨v, w, h1, h2, h3, h4⟩ := h.bl j r p hj
    exact ⟨v, w, h1, vAt_old e.2 h2, h3, h4⟩
theorem Same.tr (e : Same S S') : Tr S Z Fs S' Z Fs := ⟨e.1, fun x h _ => e.2 x h, fun _ h => h, fun _ h => .inl h, fun _ h => .inl h⟩
/-- the tree that is seen -/
theorem V1.look {u : V2} {v : Val} {t : T} (h : V1 S Z ρ u v F) (k : OK S Z s ρ pv Fs) (e : Tv.look s u = some t) : ∃ F0, Rp S Z t v F0 ∧ ∀ x, F0 x → F x ∨ U Fs x := by
  cases u with
  | own t' => cases e; exact ⟨F, h, fun x hx => .inl hx⟩
  | vw r p =>
    obtain ⟨w, h1, h2⟩ := h
    change (match s.at r with | some t => tAt t p | none => none) = some t at e
    cases hr : s.at r with
    | none => rw [hr] at e; cases e
    | some t0 =>
      rw [hr] at e
      obtain ⟨w', k1, k2⟩ := k.rep r t0 hr
      rw [h1] at k1
      cases k1
      obtain ⟨u, F1, g1, g2, g3⟩ := k2.place e
      rw [h2] at g1
      cases g1
      exact ⟨F1, g2, fun x hx => .inr ⟨r, g3 x hx⟩⟩
theorem Vs.look {us : List V2} {vs : List Val} {ts : List T} (h : Vs S Z ρ us vs F) (k : OK S Z s ρ pv Fs) (e : allSome (us.map (Tv.look s)) = some ts) : ∀ (j : Nat) (t : T), ts[j]? = some t → ∃ v F0, vs[j]? = some v ∧ Rp S Z t v F0 := by
  induction us generalizing vs ts F with
  | nil => cases e; intro j t h; cases h
  | cons u us ih =>
    obtain ⟨v, r, F1, F2, h1, h2, h3, h4, h5⟩ := h
    subst h1
    rw [List.map_cons] at e
    cases e1 : Tv.look s u with
    | none => rw [e1] at e; cases e
    | some t0 =>
      rw [e1] at e
      unfold allSome at e
      cases e2 : allSome (us.map (Tv.look s)) with
      | none => rw [e2] at e; cases e
      | some ts' =>
        rw [e2] at e
        cases e
        intro j t hj
        cases j with
        | zero =>
          cases hj
          obtain ⟨F0, a, _⟩ := h2.look k e1
          exact ⟨v, F0, rfl, a⟩
        | succ j => exact ih h3 e2 j t hj
theorem Vs.len : ∀ {us : List V2} {vs : List Val} {F : Ad}, Vs S Z ρ us vs F → us.length = vs.length
  | [], _, _, h => by rw [show _ = [] from h]; rfl
  | _ :: _, _, _, ⟨v, r, F1, F2, h1, h2, h3, h4, h5⟩ => by rw [h1, List.length_cons, List.length_cons, Vs.len h3]
theorem allSome_len {α : Type} : ∀ {l : List (Option α)} {ts : List α}, allSome l = some ts → ts.length = l.length
  | [], _, e => by cases e; rfl
  | none :: l, _, e => by cases e
  | some a :: l, ts, e => by
    unfold allSome at e
    cases e2 : allSome l with
    | none => rw [e2] at e; cases e
    | some ts' => rw [e2] at e; cases e; rw [List.length_cons, List.length_cons, allSome_len e2]
/-- seen at a place: itself, or the place -/
theorem seen_ok {t : T} {r : Nat} {p : List Nat} {v w : Val} (k : OK S Z s ρ pv Fs) (h1 : ρ[r]? = some (some w)) (h2 : vAt S w p = some v) (h3 : Tv.look s (.vw r p) = some t) : V1 S Z ρ (seen t r p) v (fun _ => False) := by
  unfold seen
  split
  · rename_i ha
    have : V1 S Z ρ (.vw r p) v (fun _ => False) := ⟨w, h1, h2⟩
    obtain ⟨F0, a, _⟩ := this.look k h3
    exact a.af ha _
  · exact ⟨w, h1, h2⟩
theorem mem_of_lookup {l : List (Nat × Nat × List Nat)} {i : Nat} {e : Nat × List Nat} (h : l.lookup i = some e) : (i, e) ∈ l := by
  induction l with
  | nil => cases h
  | cons a l ih =>
    rw [List.lookup_cons] at h
    split at h
    · rename_i he
      cases h
      have : i = a.1 := by simpa using he
      rw [this]
      exact List.mem_cons_self
    · exact List.mem_cons_of_mem _ (ih h)
theorem tvar_ok {i : Nat} {u : V2} (k : OK S Z s ρ pv Fs) (e : tvar i s = some u) : ∃ v, ρ[i]? = some (some v) ∧ V1 S Z ρ u v (fun _ => False) := by
  unfold tvar at e
  split at e
  · rename_i r p ha
    split at e
    · rename_i t ht
      cases e
      obtain ⟨v, w, h1, h2, h3, _⟩ := k.al i r p (mem_of_lookup ha)
      exact ⟨w, h3, seen_ok k h1 h2 ht⟩
    · cases e
  · split at e
    · rename_i t ht
      cases e
      obtain ⟨v, h1, h2⟩ := k.rep i t ht
      exact ⟨v, h1, seen_ok k h1 rfl (by show (match s.at i with | some t => tAt t [] | none => none) = some t; rw [ht]; rfl)⟩
    · cases e
/-- what was seen ahead -/
theorem keep_ok {Ct : Nat → Option Fn} {e : E} {es : List E} {u u' : V2} {v : Val} (h : V1 S Z ρ u v F) (o : Ow S Z Fs B F) (k : OK S Z s ρ pv Fs) (k' : OK S' Z' s' ρ pv Fs') (r : Tr S Z Fs S' Z' Fs')
    (hv : ∀ i, e = .var i → ρ[i]? = some (some v)) (hp : purs Ct es = true → Same S S') (q : keep Ct e u es s' = some u') : ∃ F', V1 S' Z' ρ u' v F' ∧ ∀ x, F' x → F x := by
  unfold keep at q
  split at q
  · cases q
    exact ⟨F, Rp.tr h o k r, fun _ h => h⟩
  · rename_i r0 p0
    split at q
    · rename_i i
      obtain ⟨w, h1, h2⟩ := tvar_ok k' q
      rw [hv i rfl] at h1
      cases h1
      exact ⟨fun _ => False, h2, fun _ h => h.elim⟩
    · split at q
      · rename_i hpu
        split at q
        · rename_i t ht
          cases q
          obtain ⟨w, h1, h2⟩ := h
          exact ⟨fun _ => False, seen_ok k' h1 (vAt_old (hp hpu).2 h2) ht, fun _ h => h.elim⟩
        · cases q
      · cases q
/-! ### slots changed -/
theorem at_set {τ : List (Option T)} {α β} {r i : Nat} {o : Option T} : (⟨τ.set r o, α, β⟩ : St).at i = if r = i then (if r < τ.length then o else none) else (⟨τ, α, β⟩ : St).at i := by
  unfold St.at
  simp only
  rw [List.getElem?_set]
  by_cases h : r = i
  · rw [if_pos h, if_pos h]
    by_cases hl : r < τ.length
    · rw [if_pos hl, if_pos hl]
      cases o <;> rfl
    · rw [if_neg hl, if_neg hl]
  · rw [if_neg h, if_neg h]
def upF (Fs : Nat → Ad) (r : Nat) (F : Ad) : Nat → Ad := fun i => if i = r then F else Fs i
theorem upF_same (r : Nat) : upF Fs r F r = F := if_pos rfl
theorem upF_ne {r i : Nat} (h : i ≠ r) : upF Fs r F i = Fs i := if_neg h
theorem U_upF {r : Nat} {x : Nat} (h : U (upF Fs r F) x) : U Fs x ∨ F x := by
  obtain ⟨i, h⟩ := h
  unfold upF at h
  split at h
  · exact .inr h
  · exact .inl ⟨i, h⟩
/-- the object at slot r stays, its tree is told anew -/
theorem OK.reS {r : Nat} {t : T} {v : Val} (k : OK S Z s ρ pv Fs) (hv : ρ[r]? = some (some v)) (hZ : ∀ x, Z x → Z' x) (hz : ∀ x, Z' x → Z x ∨ Fs r x) (h : Rp S Z' t v G) (hG : ∀ x, G x → Fs r x ∧ ¬ Z' x) : OK S Z' (s.reS r t) ρ pv (upF Fs r G) := by
  unfold St.reS
  have some_at : ∀ i, (∃ t, s.at i = some t) → ∃ t', (⟨s.τ.set r (some t), s.α, s.β⟩ : St).at i = some t' := fun i ⟨t', ht⟩ => by
    rw [at_set]
    split
    · rename_i e
      subst e
      refine ⟨t, if_pos ?_⟩
      rw [k.len]
      exact (List.getElem?_eq_some_iff.mp hv).1
    · exact ⟨t', ht⟩
  refine ⟨by simp [k.len], fun i t' ht => ?_, fun i j x h1 h2 => ?_, fun i x hx => ?_, fun x hx => ?_, fun x r' p h => ?_, k.bn, fun j r' p h => ?_⟩
  · rw [at_set] at ht
    split at ht
    · rename_i e
      subst e
      split at ht
      · cases ht
        exact ⟨v, hv, by rw [upF_same]; exact h⟩
      · cases ht
    · rename_i e
      obtain ⟨w, h1, h2⟩ := k.rep i t' ht
      exact ⟨w, h1, by rw [upF_ne fun e' => e e'.symm]; exact h2.st (fun _ _ => rfl) hZ⟩
  · have key : ∀ i, upF Fs r G i x → Fs i x := fun i h => by
      unfold upF at h
      split at h
      · rename_i e; rw [e]; exact (hG x h).1
      · exact h
    exact k.dj i j x (key i h1) (key j h2)
  · unfold upF at hx
    split at hx
    · exact ⟨(hG x hx).2, (k.nz r x (hG x hx).1).2⟩
    · rename_i e
      exact ⟨fun q => (hz x q).elim (k.nz i x hx).1 (fun q => e (k.dj i r x hx q)), (k.nz i x hx).2⟩
  · exact (hz x hx).elim (k.zl x) (fun q => (k.nz r x q).2)
  · obtain ⟨v, w, h1, h2, h3, h4⟩ := k.al x r' p h
    exact ⟨v, w, h1, h2, h3, some_at _ h4⟩
  · obtain ⟨v, w, h1, h2, h3, h4⟩ := k.bl j r' p h
    exact ⟨v, w, h1, h2, h3, some_at _ h4⟩
theorem Tr.reS {r : Nat} (hZ : ∀ x, Z x → Z' x) (hz : ∀ x, Z' x → Z x ∨ Fs r x) (hG : ∀ x, G x → Fs r x) : Tr S Z Fs S Z' (upF Fs r G) :=
  ⟨Nat.le_refl _, fun _ _ _ => rfl, hZ, fun x h => (hz x h).imp id fun q => .inl ⟨r, q⟩, fun x h => (U_upF h).elim .inl fun q => .inl ⟨r, hG x q⟩⟩
theorem frz_at {r i : Nat} (h : i ≠ r) : (s.frz r).at i = s.at i := by
  unfold St.frz
  cases s.at r with
  | none => rfl
  | some t => show (⟨s.τ.set r _, s.α, s.β⟩ : St).at i = _; rw [at_set, if_neg fun e => h e.symm]
theorem OK.frz {r : Nat} (k : OK S Z s ρ pv Fs) : ∃ Z' Fs', OK S Z' (s.frz r) ρ pv Fs' ∧ Tr S Z Fs S Z' Fs' ∧ (∀ i x, Fs' i x → Fs i x) ∧ (∀ x, Z' x → Z x ∨ Fs r x) ∧ ((∃ t, s.at r = some t) → ∀ x, Fs r x → Z' x) ∧
    (∀ i, i ≠ r → ∀ x, Fs i x → Fs' i x) ∧ ((∃ t, s.at r = some t) → ∃ t, (s.frz r).at r = some t) := by
  unfold St.frz
  cases hr : s.at r with
  | none => exact ⟨Z, Fs, k, .refl, fun _ _ h => h, fun _ h => .inl h, fun ⟨_, h⟩ => (by cases h), fun _ _ _ h => h, fun ⟨_, h⟩ => (by cases h)⟩
  | some t =>
    obtain ⟨v, h1, h2⟩ := k.rep r t hr
    refine ⟨fun x => Z x ∨ Fs r x, upF Fs r (fun _ => False), k.reS h1 (fun _ h => .inl h) (fun _ h => h) (h2.fz (fun x hx => hx.symm) _) (fun _ h => h.elim), .reS (fun _ h => .inl h) (fun _ h => h) (fun _ h => h.elim), fun i x hx => ?_, fun x hx => hx, fun _ x hx => .inr hx, fun i hi x hx => by rw [upF_ne hi]; exact hx, fun _ => ⟨Tv.fz t, ?_⟩⟩
    · unfold upF at hx
      split at hx
      · exact hx.elim
      · exact hx
    · show (⟨s.τ.set r _, s.α, s.β⟩ : St).at r = _
      rw [at_set, if_pos rfl, if_pos (by rw [k.len]; exact (List.getElem?_eq_some_iff.mp h1).1)]
/-- a slot let go -/
theorem killA0_mem {r : Nat} {α : List (Nat × Nat × List Nat)} {e : Nat × Nat × List Nat} (h : e ∈ killA0 r α) : e ∈ α ∧ e.2.1 ≠ r ∧ e.1 ≠ r := by
  unfold killA0 at h
  rw [List.mem_filter] at h
  refine ⟨h.1, ?_, ?_⟩ <;> · intro q; simp [q] at h
theorem killB0_get {r : Nat} {β : List (Option (Nat × List Nat))} {j r' : Nat} {p : List Nat} (h : (killB0 r β)[j]? = some (some (r', p))) : β[j]? = some (some (r', p)) ∧ r' ≠ r := by
  unfold killB0 at h
  rw [List.getElem?_map] at h
  cases e : β[j]? with
  | none => (rw [e] at h; cases h)
  | some o =>
    rw [e] at h
    cases o with
    | none => cases h
    | some q =>
      obtain ⟨r1, p1⟩ := q
      simp only [Option.map_some] at h
      split at h
      · cases h
      · rename_i hn
        cases h
        exact ⟨rfl, hn⟩
theorem OK.setS {r : Nat} {o : Option T} {ρ' : Env} (k : OK S Z s ρ pv Fs) (hl : ρ'.length = ρ.length) (rne : ∀ i, i ≠ r → ρ'[i]? = ρ[i]?) (ho : ∀ t, o = some t → ∃ v, ρ'[r]? = some (some v) ∧ Rp S Z t v G)
    (hG : ∀ x, G x → ¬ Z x ∧ x < S.length ∧ ∀ i, i ≠ r → ¬ Fs i x) : OK S Z (s.setS r o) ρ' pv (upF Fs r G) := by
  unfold St.setS
  refine ⟨by simp [k.len, hl], fun i t' ht => ?_, fun i j x h1 h2 => ?_, fun i x hx => ?_, k.zl, fun x r' p hm => ?_, by rw [k.bn]; unfold killB0; rw [List.length_map], fun j r' p hj => ?_⟩
  · rw [at_set] at ht
    split at ht
    · rename_i e
      subst e
      split at ht
      · subst ht
        obtain ⟨v, h1, h2⟩ := ho t' rfl
        exact ⟨v, h1, by rw [upF_same]; exact h2⟩
      · cases ht
    · rename_i e
      obtain ⟨w, h1, h2⟩ := k.rep i t' ht
      exact ⟨w, by rw [rne i fun e' => e e'.symm]; exact h1, by rw [upF_ne fun e' => e e'.symm]; exact h2⟩
  · by_cases hi : i = r
    · subst hi
      by_cases hj : j = i
      · exact hj.symm
      · rw [upF_same] at h1
        rw [upF_ne hj] at h2
        exact absurd h2 ((hG x h1).2.2 j hj)
    · rw [upF_ne hi] at h1
      by_cases hj : j = r
      · subst hj
        rw [upF_same] at h2
        exact absurd h1 ((hG x h2).2.2 i hi)
      · rw [upF_ne hj] at h2
        exact k.dj i j x h1 h2
  · unfold upF at hx
    split at hx
    · exact ⟨(hG x hx).1, (hG x hx).2.1⟩
    · exact k.nz i x hx
  · obtain ⟨h1, h2, h3⟩ := killA0_mem hm
    obtain ⟨v, w, g1, g2, g3, t, g4⟩ := k.al x r' p h1
    exact ⟨v, w, by rw [rne _ h2]; exact g1, g2, by rw [rne _ h3]; exact g3, t, by rw [at_set, if_neg fun e => h2 e.symm]; exact g4⟩
  · obtain ⟨h1, h2⟩ := killB0_get hj
    obtain ⟨v, w, g1, g2, g3, t, g4⟩ := k.bl j r' p h1
    exact ⟨v, w, by rw [rne _ h2]; exact g1, g2, g3, t, by rw [at_set, if_neg fun e => h2 e.symm]; exact g4⟩
theorem Tr.setS {r : Nat} (hG : ∀ x, G x → U Fs x ∨ S.length ≤ x) : Tr S Z Fs S Z (upF Fs r G) :=
  ⟨Nat.le_refl _, fun _ _ _ => rfl, fun _ h => h, fun _ h => .inl h, fun x h => (U_upF h).elim .inl (hG x)⟩
theorem killA_mem {r n : Nat} {α : List (Nat × Nat × List Nat)} {e : Nat × Nat × List Nat} (h : e ∈ killA r n α) : e ∈ α ∧ (e.2.1 = r → e.2.2.length ≤ n) := by
  unfold killA at h
  rw [List.mem_filter] at h
  refine ⟨h.1, fun q => ?_⟩
  have := h.2
  simp [q] at this
  exact this
theorem killB_get {r n : Nat} {β : List (Option (Nat × List Nat))} {j r' : Nat} {p : List Nat} (h : (killB r n β)[j]? = some (some (r', p))) : β[j]? = some (some (r', p)) ∧ (r' = r → p.length ≤ n) := by
  unfold killB at h
  rw [List.getElem?_map] at h
  cases e : β[j]? with
  | none => (rw [e] at h; cases h)
  | some o =>
    rw [e] at h
    cases o with
    | none => cases h
    | some q =>
      obtain ⟨r1, p1⟩ := q
      simp only [Option.map_some] at h
      split at h
      · cases h
      · rename_i hn
        cases h
        exact ⟨rfl, fun q => by omega⟩
/-- a change at a place -/
theorem OK.put {r : Nat} {p : List Nat} {t0 c : T} (k : OK S Z s ρ pv Fs) (h0 : s.at r = some t0) (hc : tAt t0 p = some c) : ∃ w u F1, ρ[r]? = some (some w) ∧ vAt S w p = some u ∧ Rp S Z c u F1 ∧ (∀ x, F1 x → Fs r x) ∧
    ∀ {c' : T} {s' : St} {deep : Bool} {S' : Store} {Z' F' : Ad}, s.put r p c' deep = some s' → S.length ≤ S'.length → (∀ x, x < S.length → ¬ F1 x → S'[x]? = S[x]?) → (∀ x, Z x → Z' x) → (∀ x, Z' x → Z x ∨ F1 x ∨ S.length ≤ x) → (∀ x, Z' x → x < S'.length) →
      Rp S' Z' c' u F' → (∀ x, F' x → ¬ Z' x ∧ x < S'.length ∧ (F1 x ∨ ∀ i, ¬ Fs i x)) → (deep = false → ∀ (p' : List Nat) (w' : Val), vAt S w p' = some w' → vAt S' w p' = some w') →
      OK S' Z' s' ρ pv (upF Fs r (fun x => (Fs r x ∧ ¬ F1 x) ∨ F' x)) := by
  obtain ⟨w, h1, h2⟩ := k.rep r t0 h0
  obtain ⟨u, F1, a1, a2, a3, a4, a5⟩ := h2.walk (fun x hx => (k.nz r x hx).1) hc
  refine ⟨w, u, F1, h1, a1, a2, a3, fun {c' s' deep S' Z' F'} hp hl hs hz hz' hzl hr hF hd => ?_⟩
  unfold St.put at hp
  rw [h0] at hp
  simp only at hp
  cases e : tPut t0 p c' with
  | none => rw [e] at hp; cases hp
  | some t' =>
    rw [e] at hp
    simp only [Option.some.injEq] at hp
    have nz1 : ∀ x, F1 x → ∀ i, Fs i x → i = r := fun x hx i hi => k.dj i r x hi (a3 x hx)
    have newT := a5 e (S' := S') (Z' := Z') (F' := F') (fun x hx => hx.elim (fun q => hs x (k.nz r x q.1).2 q.2) (fun q => hs x (k.zl x q) (fun q' => (k.nz r x (a3 x q')).1 q))) hz hr (fun x hx q => (hF x hx).2.2.elim q.2 (fun n => n r q.1))
    have other : ∀ i t, i ≠ r → s.at i = some t → ∃ v, ρ[i]? = some (some v) ∧ Rp S' Z' t v (Fs i) := fun i t hi ht => by
      obtain ⟨v, g1, g2⟩ := k.rep i t ht
      exact ⟨v, g1, g2.st (fun x hx => hx.elim (fun q => hs x (k.nz i x q).2 (fun q' => hi (nz1 x q' i q))) (fun q => hs x (k.zl x q) (fun q' => (k.nz r x (a3 x q')).1 q))) hz⟩
    have rep' : ∀ (τ' : List (Option T)) α β, τ' = s.τ.set r (some t') → ∀ (i : Nat) (t : T), (⟨τ', α, β⟩ : St).at i = some t → ∃ v, ρ[i]? = some (some v) ∧ Rp S' Z' t v (upF Fs r (fun x => (Fs r x ∧ ¬ F1 x) ∨ F' x) i) := by
      intro τ' α β hτ i t ht
      subst hτ
      rw [at_set] at ht
      split at ht
      · rename_i e'
        subst e'
        split at ht
        · cases ht
          exact ⟨w, h1, by rw [upF_same]; exact newT⟩
        · cases ht
      · rename_i e'
        obtain ⟨v, g1, g2⟩ := other i t (fun q => e' q.symm) ht
        exact ⟨v, g1, by rw [upF_ne fun q => e' q.symm]; exact g2⟩
    have dj' : ∀ i j x, upF Fs r (fun x => (Fs r x ∧ ¬ F1 x) ∨ F' x) i x → upF Fs r (fun x => (Fs r x ∧ ¬ F1 x) ∨ F' x) j x → i = j := by
      have key : ∀ i j x, i ≠ r → Fs i x → ((Fs r x ∧ ¬ F1 x) ∨ F' x) → i = j := fun i j x hi h1 h2 => by
        rcases h2 with h2 | h2
        · exact absurd (k.dj i r x h1 h2.1) hi
        · rcases (hF x h2).2.2 with h3 | h3
          · exact absurd (nz1 x h3 i h1) hi
          · exact absurd h1 (h3 i)
      intro i j x g1 g2
      by_cases hi : i = r
      · by_cases hj : j = r
        · rw [hi, hj]
        · subst hi
          rw [upF_same] at g1
          rw [upF_ne hj] at g2
          exact (key j i x hj g2 g1).symm
      · rw [upF_ne hi] at g1
        by_cases hj : j = r
        · subst hj
          rw [upF_same] at g2
          exact key i j x hi g1 g2
        · rw [upF_ne hj] at g2
          exact k.dj i j x g1 g2
    have nz' : ∀ i x, upF Fs r (fun x => (Fs r x ∧ ¬ F1 x) ∨ F' x) i x → ¬ Z' x ∧ x < S'.length := by
      have key : ∀ i x, Fs i x → ¬ F1 x → ¬ Z' x ∧ x < S'.length := fun i x h1 h2 =>
        ⟨fun q => (hz' x q).elim (k.nz i x h1).1 (fun q => q.elim h2 (fun q => by have := (k.nz i x h1).2; omega)), Nat.lt_of_lt_of_le (k.nz i x h1).2 hl⟩
      intro i x g
      unfold upF at g
      split at g
      · rcases g with g | g
        · exact key r x g.1 g.2
        · exact ⟨(hF x g).1, (hF x g).2.1⟩
      · rename_i hi
        exact key i x g fun q => hi (nz1 x q i g)
    -- walks
    have walkO : ∀ r' p' v w', r' ≠ r → ρ[r']? = some (some v) → (∃ t, s.at r' = some t) → vAt S v p' = some w' → vAt S' v p' = some w' := fun r' p' v w' hr' hv ⟨t, ht⟩ hw => by
      obtain ⟨v', g1, g2⟩ := k.rep r' t ht
      rw [hv] at g1
      cases g1
      exact g2.same (fun x _ hx => hx.elim (fun q => hs x (k.nz r' x q).2 (fun q' => hr' (nz1 x q' r' q))) (fun q => hs x (k.zl x q) (fun q' => (k.nz r x (a3 x q')).1 q))) hw
    have walkR : ∀ p' w', (deep = true → p'.length ≤ p.length) → vAt S w p' = some w' → vAt S' w p' = some w' := fun p' w' hd' hw => by
      cases deep with
      | true => exact a4 (hd' rfl) (fun x hx h => hs x hx (h.elim (fun q => q.2) (fun q q' => (k.nz r x (a3 x q')).1 q))) hw
      | false => exact hd rfl p' w' hw
    have some_at : ∀ i τ' α β, τ' = s.τ.set r (some t') → (∃ t, s.at i = some t) → ∃ t', (⟨τ', α, β⟩ : St).at i = some t' := fun i τ' α β hτ ⟨t, ht⟩ => by
      subst hτ
      rw [at_set]
      split
      · rename_i e
        subst e
        refine ⟨t', if_pos ?_⟩
        rw [k.len]
        exact (List.getElem?_eq_some_iff.mp h1).1
      · exact ⟨t, ht⟩
    have alw : ∀ r' p' v w', ρ[r']? = some (some v) → (∃ t, s.at r' = some t) → (r' = r → deep = true → p'.length ≤ p.length) → vAt S v p' = some w' → vAt S' v p' = some w' := fun r' p' v w' hv ht hd' hw => by
      by_cases hr' : r' = r
      · subst hr'
        rw [h1] at hv
        cases hv
        exact walkR p' w' (hd' rfl) hw
      · exact walkO r' p' v w' hr' hv ht hw
    cases deep with
    | true =>
      simp only [if_true] at hp
      subst hp
      refine ⟨by simp [k.len], rep' _ _ _ rfl, dj', nz', hzl, fun x r' p' h => ?_, by rw [k.bn]; unfold killB; rw [List.length_map], fun j r' p' h => ?_⟩
      · obtain ⟨g0, g0'⟩ := killA_mem h
        obtain ⟨v, w', g1, g2, g3, g4⟩ := k.al x r' p' g0
        exact ⟨v, w', g1, alw r' p' v w' g1 g4 (fun q _ => g0' q) g2, g3, some_at _ _ _ _ rfl g4⟩
      · obtain ⟨g0, g0'⟩ := killB_get h
        obtain ⟨v, w', g1, g2, g3, g4⟩ := k.bl j r' p' g0
        exact ⟨v, w', g1, alw r' p' v w' g1 g4 (fun q _ => g0' q) g2, g3, some_at _ _ _ _ rfl g4⟩
    | false =>
      simp only [Bool.false_eq_true, if_false] at hp
      subst hp
      unfold St.reS
      refine ⟨by simp [k.len], rep' _ _ _ rfl, dj', nz', hzl, fun x r' p' h => ?_, k.bn, fun j r' p' h => ?_⟩
      · obtain ⟨v, w', g1, g2, g3, g4⟩ := k.al x r' p' h
        exact ⟨v, w', g1, alw r' p' v w' g1 g4 (fun _ q => nomatch q) g2, g3, some_at _ _ _ _ rfl g4⟩
      · obtain ⟨v, w', g1, g2, g3, g4⟩ := k.bl j r' p' h
        exact ⟨v, w', g1, alw r' p' v w' g1 g4 (fun _ q => nomatch q) g2, g3, some_at _ _ _ _ rfl g4⟩
end
end Tv
namespace Tv
open Mi
open PySem hiding Env Ctx
section
variable {S S' : Store} {Z Z' : Ad} {s s' : St} {ρ : Env} {pv : List Val} {Fs Fs' : Nat → Ad} {B B' F G : Ad}
theorem Vs.tr : ∀ {us : List V2} {vs : List Val} {F : Ad}, Vs S Z ρ us vs F → Ow S Z Fs B F → OK S Z s ρ pv Fs → Tr S Z Fs S Z' Fs' → Vs S Z' ρ us vs F
  | [], _, _, h, _, _, _ => h
  | .own t :: us, _, _, ⟨v, r, F1, F2, h1, h2, h3, h4, h5⟩, o, k, q => ⟨v, r, F1, F2, h1, Rp.tr h2 (o.mono fun x hx => (h4 x hx).1) k q, Vs.tr h3 (o.mono h5) k q, h4, h5⟩
  | .vw _ _ :: us, _, _, ⟨v, r, F1, F2, h1, h2, h3, h4, h5⟩, o, k, q => ⟨v, r, F1, F2, h1, h2, Vs.tr h3 (o.mono h5) k q, h4, h5⟩
theorem Tr.fs0 (a : Tr S Z Fs S Z' Fs') (k : OK S Z' s' ρ pv Fs') : ∀ x, U Fs' x → U Fs x := fun x ⟨i, q⟩ => (a.fs x ⟨i, q⟩).elim id fun h => by have := (k.nz i x q).2; omega
theorem claim_ok {c : Cf} {u : V2} {v : Val} {t : T} (k : OK S Z s ρ pv Fs) (h : V1 S Z ρ u v F) (o : Ow S Z Fs B F) (e : claim c u s = some (t, s')) :
    ∃ Z' Fs' F', OK S Z' s' ρ pv Fs' ∧ Tr S Z Fs S Z' Fs' ∧ Rp S Z' t v F' ∧ Ow S Z' Fs' (fun x => B x ∨ U Fs x) F' ∧ (∀ x, F' x → F x ∨ U Fs x) ∧ s'.β.length = s.β.length := by
  unfold claim at e
  split at e
  · cases e
    exact ⟨Z, Fs, F, k, .refl, h, o.bmono fun x hx => .inl hx, fun x hx => .inl hx, rfl⟩
  · rename_i r p
    obtain ⟨w, h1, h2⟩ := h
    cases hr : s.at r with
    | none => rw [hr] at e; cases e
    | some t0 =>
      rw [hr] at e
      obtain ⟨w', g1, g2⟩ := k.rep r t0 hr
      rw [h1] at g1
      cases g1
      simp only at e
      split at e
      · rename_i hc
        obtain ⟨rfl, _, _⟩ := hc
        cases e
        cases h2
        refine ⟨Z, upF Fs r (fun _ => False), Fs r, k.setS rfl (fun _ _ => rfl) (fun _ h => nomatch h) (fun _ h => h.elim), .setS (fun _ h => h.elim), g2, fun x hx => ⟨fun ⟨i, q⟩ => ?_, (k.nz r x hx).1, (k.nz r x hx).2, .inr ⟨r, hx⟩⟩, fun x hx => .inr ⟨r, hx⟩, ?_⟩
        · unfold upF at q
          split at q
          · exact q
          · rename_i hi; exact hi (k.dj i r x q hx)
        · unfold St.setS killB0
          rw [List.length_map]
      · split at e
        · rename_i d hd
          cases e
          have hz : Rp S (fun x => Z x ∨ Fs r x) (fz t0) w (fun _ => False) := g2.fz (fun x hx => hx.symm) _
          obtain ⟨u, F1, a1, a2, a3⟩ := hz.place hd
          rw [h2] at a1
          cases a1
          exact ⟨fun x => Z x ∨ Fs r x, upF Fs r (fun _ => False), fun _ => False, k.reS h1 (fun _ h => .inl h) (fun _ h => h) hz (fun _ h => h.elim), .reS (fun _ h => .inl h) (fun _ h => h) (fun _ h => h.elim), a2.mono a3, .none, fun _ h => h.elim, rfl⟩
        · cases e
theorem claims_ok {c : Cf} : ∀ {us : List V2} {vs : List Val} {ts : List T} {s s' : St} {Z : Ad} {Fs : Nat → Ad} {F : Ad}, OK S Z s ρ pv Fs → Vs S Z ρ us vs F → Ow S Z Fs B F → claims c us s = some (ts, s') →
    ∃ Z' Fs' F', OK S Z' s' ρ pv Fs' ∧ Tr S Z Fs S Z' Fs' ∧ Rps S Z' ts vs F' ∧ Ow S Z' Fs' (fun x => B x ∨ U Fs x) F' ∧ (∀ x, F' x → F x ∨ U Fs x) ∧ s'.β.length = s.β.length
  | [], vs, ts, s, s', Z, Fs, F, k, h, o, e => by
    cases e
    cases h
    exact ⟨Z, Fs, fun _ => False, k, .refl, rfl, .none, fun _ h => h.elim, rfl⟩
  | u :: us, vs, ts, s, s', Z, Fs, F, k, ⟨v, r, F1, F2, h1, h2, h3, h4, h5⟩, o, e => by
    subst h1
    unfold claims at e
    cases e1 : claim c u s with
    | none => rw [e1] at e; cases e
    | some q =>
      obtain ⟨t, s1⟩ := q
      rw [e1] at e
      simp only at e
      cases e2 : claims c us s1 with
      | none => rw [e2] at e; cases e
      | some q =>
        obtain ⟨ts', s2⟩ := q
        rw [e2] at e
        cases e
        obtain ⟨Z1, Fs1, F1', a1, a2, a3, a4, a5, a6⟩ := claim_ok k h2 (o.mono fun x hx => (h4 x hx).1) e1
        have o2 := (o.mono h5).tr a2
        obtain ⟨Z2, Fs2, F2', b1, b2, b3, b4, b5, b6⟩ := claims_ok a1 (h3.tr (o.mono h5) k a2) o2 e2
        refine ⟨Z2, Fs2, fun x => F1' x ∨ F2' x, b1, a2.trans b2, ⟨v, r, F1', F2', rfl, a3.tr a4 a1 b2, b3, fun x hx => ⟨.inl hx, fun h => ?_⟩, fun x hx => .inr hx⟩, fun x hx => ?_, fun x hx => ?_, b6.trans a6⟩
        · rcases b5 x h with h' | h'
          · rcases a5 x hx with h'' | h''
            · exact (h4 x h'').2 h'
            · exact (o x (h5 x h')).1 h''
          · exact (a4 x hx).1 h'
        · rcases hx with hx | hx
          · exact (a4.tr b2) x hx
          · exact (b4.bmono (fun y q => q.imp id (a2.fs0 a1 y))) x hx
        · rcases hx with hx | hx
          · exact (a5 x hx).imp (fun q => (h4 x q).1) id
          · exact (b5 x hx).imp (h5 x) (a2.fs0 a1 x)
theorem absorb_ok {c : Cf} {u : V2} {v : Val} {t : T} (k : OK S Z s ρ pv Fs) (h : V1 S Z ρ u v F) (o : Ow S Z Fs B F) (e : absorb c u s = some (t, s')) :
    ∃ Z' Fs' G, OK S Z' s' ρ pv Fs' ∧ Tr S Z Fs S Z' Fs' ∧ (∃ F0, Rp S Z' t v F0) ∧ Rps S Z' (tkids t) (vkids S v) G ∧ Ow S Z' Fs' (fun x => B x ∨ U Fs x) G ∧ (∀ x, G x → F x ∨ U Fs x) ∧ s'.β.length = s.β.length := by
  unfold absorb at e
  cases hl : look s u with
  | none => rw [hl] at e; cases e
  | some t0 =>
    rw [hl] at e
    simp only at e
    split at e
    · rename_i ha
      cases e
      obtain ⟨F0, a1, _⟩ := h.look k hl
      obtain ⟨G, b1, _⟩ := a1.kids
      exact ⟨Z, Fs, fun _ => False, k, .refl, ⟨F0, a1⟩, b1.af ha _, .none, fun _ h => h.elim, rfl⟩
    · obtain ⟨Z', Fs', F', a1, a2, a3, a4, a5, a6⟩ := claim_ok k h o e
      obtain ⟨G, b1, b2, _⟩ := a3.kids
      exact ⟨Z', Fs', G, a1, a2, ⟨F', a3⟩, b1, a4.mono b2, fun x hx => a5 x (b2 x hx), a6⟩
/-! ### what is read -/
theorem tlst_ok {t : T} {v : Val} {xs : List T} (h : Rp S Z t v F) (e : tlst t = some xs) : lstOf S v = some (vkids S v) ∧ xs = tkids t := by
  unfold tlst at e
  split at e
  · cases e
    obtain ⟨i, us, G, rfl, h2, h3, h4⟩ := h
    exact ⟨by unfold lstOf vkids; simp only [h2], rfl⟩
  · cases e
    obtain ⟨us, rfl, h2⟩ := h
    exact ⟨rfl, rfl⟩
  · cases e
theorem tseq_ok {t : T} {v : Val} {xs : List T} (h : Rp S Z t v F) (e : tseq t = some xs) : seqOf S v = some (vkids S v) ∧ xs = tkids t := by
  unfold tseq at e
  split at e
  · cases e
    obtain ⟨us, rfl, h2⟩ := h
    exact ⟨rfl, rfl⟩
  · rename_i hn
    obtain ⟨a, b⟩ := tlst_ok h e
    refine ⟨?_, b⟩
    unfold seqOf
    cases v with
    | tup us =>
      unfold tlst at e
      split at e
      · obtain ⟨i, us', G, h1, _⟩ := h; cases h1
      · obtain ⟨us', h1, _⟩ := h; cases h1
      · cases e
    | _ => exact a
theorem tints_ok : ∀ {xs : List T} {us : List Val} {ns : List Int} {F : Ad}, Rps S Z xs us F → tints xs = some ns → intsOf us = some ns
  | [], _, _, _, h, e => by cases e; rw [show _ = [] from h]; rfl
  | .int i :: r, _, ns, _, ⟨u, r', F1, F2, h1, h2, h3, _, _⟩, e => by
    unfold tints at e
    cases e2 : tints r with
    | none => rw [e2] at e; cases e
    | some ks =>
      rw [e2] at e
      cases e
      subst h1
      cases h2
      unfold intsOf
      rw [tints_ok h3 e2]
      rfl
  | .non :: _, _, _, _, _, e => by cases e
  | .bl _ :: _, _, _, _, _, e => by cases e
  | .str _ :: _, _, _, _, _, e => by cases e
  | .ty _ :: _, _, _, _, _, e => by cases e
  | .lst _ _ :: _, _, _, _, _, e => by cases e
  | .tup _ :: _, _, _, _, _, e => by cases e
  | .fro _ :: _, _, _, _, _, e => by cases e
  | .dK _ _ _ :: _, _, _, _, _, e => by cases e
  | .dT _ _ _ :: _, _, _, _, _, e => by cases e
theorem tbls_ok : ∀ {xs : List T} {us : List Val} {ns : List Bool} {F : Ad}, Rps S Z xs us F → tbls xs = some ns → blsOf us = some ns
  | [], _, _, _, h, e => by cases e; rw [show _ = [] from h]; rfl
  | .bl i :: r, _, ns, _, ⟨u, r', F1, F2, h1, h2, h3, _, _⟩, e => by
    unfold tbls at e
    cases e2 : tbls r with
    | none => rw [e2] at e; cases e
    | some ks =>
      rw [e2] at e
      cases e
      subst h1
      cases h2
      unfold blsOf
      rw [tbls_ok h3 e2]
      rfl
  | .non :: _, _, _, _, _, e => by cases e
  | .int _ :: _, _, _, _, _, e => by cases e
  | .str _ :: _, _, _, _, _, e => by cases e
  | .ty _ :: _, _, _, _, _, e => by cases e
  | .lst _ _ :: _, _, _, _, _, e => by cases e
  | .tup _ :: _, _, _, _, _, e => by cases e
  | .fro _ :: _, _, _, _, _, e => by cases e
  | .dK _ _ _ :: _, _, _, _, _, e => by cases e
  | .dT _ _ _ :: _, _, _, _, _, e => by cases e
theorem tflat_ok {t : T} {v : Val} (h : Rp S Z t v F) (e : tflat t = true) : flat v = true := by
  cases t <;> first | (cases e; done) | (cases h; rfl)
theorem tfeq_ok {t u : T} {v w : Val} (h : Rp S Z t v F) (h' : Rp S Z u w G) (e : tflat t = true) (e' : tflat u = true) : feq v w = tfeq t u := by
  cases t <;> first | (cases e; done) | (cases h; cases u <;> first | (cases e'; done) | (cases h'; rfl))
theorem tflats_ok : ∀ {xs : List T} {us : List Val} {F : Ad}, Rps S Z xs us F → xs.all tflat = true → us.all flat = true
  | [], _, _, h, _ => by rw [show _ = [] from h]; rfl
  | t :: r, _, _, ⟨u, r', F1, F2, h1, h2, h3, _, _⟩, e => by
    subst h1
    rw [List.all_cons, Bool.and_eq_true] at e ⊢
    exact ⟨tflat_ok h2 e.1, tflats_ok h3 e.2⟩
theorem tany_ok {t : T} {v : Val} (ht : tflat t = true) (h : Rp S Z t v G) : ∀ {xs : List T} {us : List Val} {F : Ad}, Rps S Z xs us F → xs.all tflat = true → (us.any fun y => feq y v) = xs.any fun y => tfeq y t
  | [], _, _, h, _ => by rw [show _ = [] from h]; rfl
  | x :: r, _, _, ⟨u, r', F1, F2, h1, h2, h3, _, _⟩, e => by
    subst h1
    rw [List.all_cons, Bool.and_eq_true] at e
    rw [List.any_cons, List.any_cons, tany_ok ht h h3 e.2, tfeq_ok h2 h e.1 ht]
theorem tdats_ok {n : Nat} (hn : ∀ {t : T} {v : Val} {F : Ad} {d : PyData}, Rp S Z t v F → tdat n t = some d → dat S n v = some d) : ∀ {xs : List T} {us : List Val} {F : Ad} {ds : List PyData}, Rps S Z xs us F → allSome (xs.map (tdat n)) = some ds → allSome (us.map (dat S n)) = some ds
  | [], _, _, ds, h, e => by rw [show _ = [] from h]; exact e
  | t :: r, _, _, ds, ⟨u, r', F1, F2, h1, h2, h3, _, _⟩, e => by
    subst h1
    rw [List.map_cons] at e ⊢
    cases e1 : tdat n t with
    | none => rw [e1] at e; cases e
    | some d =>
      rw [e1] at e
      unfold allSome at e
      cases e2 : allSome (r.map (tdat n)) with
      | none => rw [e2] at e; cases e
      | some ds' =>
        rw [e2] at e
        cases e
        rw [hn h2 e1]
        unfold allSome
        rw [tdats_ok hn h3 e2]
        rfl
theorem tdat_ok : ∀ (n : Nat) {t : T} {v : Val} {F : Ad} {d : PyData}, Rp S Z t v F → tdat n t = some d → dat S n v = some d
  | 0, _, _, _, _, _, e => by cases e
  | n + 1, t, v, F, d, h, e => by
    unfold tdat at e
    split at e
    · cases e; cases h; rfl
    · cases e; cases h; rfl
    · cases e; cases h; rfl
    · obtain ⟨us, rfl, h2⟩ := h
      obtain ⟨ds, e1, rfl⟩ := Option.map_eq_some_iff.mp e
      unfold dat
      simp only [tdats_ok (fun h e => tdat_ok n h e) h2 e1, Option.map_some]
    · obtain ⟨us, rfl, h2⟩ := h
      obtain ⟨ds, e1, rfl⟩ := Option.map_eq_some_iff.mp e
      unfold dat
      simp only [tdats_ok (fun h e => tdat_ok n h e) h2 e1, Option.map_some]
    · obtain ⟨i, us, G, rfl, h2, h3, h4⟩ := h
      obtain ⟨ds, e1, rfl⟩ := Option.map_eq_some_iff.mp e
      unfold dat
      simp only [h2, tdats_ok (fun h e => tdat_ok n h e) h3 e1, Option.map_some]
    · cases e
theorem teqF_ok {t u : T} {v w : Val} (h : Rp S Z t v F) (h' : Rp S Z u w G) : eqF v w = teqF t u := by
  have rt : ∀ {t : T} {v : Val} {F : Ad}, Rp S Z t v F → (match t with | .lst .. => ∃ i, v = .ref i | .dK .. => ∃ i, v = .ref i | .dT .. => ∃ i, v = .ref i | .tup _ => ∃ us, v = .tup us | .fro _ => ∃ us, v = .fro us | .non => v = .non | .bl b => v = .bl b | .int i => v = .int i | .str x => v = .str x | .ty n => v = .ty n) := by
    intro t v F h
    cases t <;> first | exact h | (obtain ⟨i, us, G, h1, _⟩ := h; exact ⟨i, h1⟩) | (obtain ⟨us, h1, _⟩ := h; exact ⟨us, h1⟩)
  have a := rt h
  have b := rt h'
  cases t <;> simp only at a <;> first
    | (obtain ⟨i, rfl⟩ := a; cases u <;> simp only at b <;> first | (obtain ⟨j, rfl⟩ := b; rfl) | (subst b; rfl))
    | (subst a; cases u <;> simp only at b <;> first | (obtain ⟨j, rfl⟩ := b; rfl) | (subst b; rfl))
theorem teq_ok {t u : T} {v w : Val} {b : Bool} (h : Rp S Z t v F) (h' : Rp S Z u w G) (e : teq t u = some b) : eqop S v w = some b := by
  unfold teq at e
  unfold eqop
  rw [teqF_ok h h']
  generalize teqF t u = o at e ⊢
  cases o with
  | some b' => exact e
  | none =>
    replace e : (match tdat deep t, tdat deep u with | some d, some e => some (PyData.eqv d e) | _, _ => none) = some b := e
    show (match dat S deep v, dat S deep w with | some d, some e => some (PyData.eqv d e) | _, _ => none) = some b
    cases h1 : tdat deep t with
    | none => rw [h1] at e; cases e
    | some d => cases h2 : tdat deep u with
      | none => rw [h1, h2] at e; cases e
      | some d' =>
        rw [h1, h2] at e
        rw [tdat_ok _ h h1, tdat_ok _ h' h2]
        exact e
theorem tkey_ok {t : T} {v : Val} {k : DKey} (h : Rp S Z t v F) (e : tkey t = some k) : keyOf v = some k := by
  unfold tkey at e
  split at e
  · cases e; cases h; rfl
  · cases e; cases h; rfl
  · cases e
theorem tkeyss_ok : ∀ {xs : List T} {us : List Val} {F : Ad} {ks : List DKey}, Rps S Z xs us F → allSome (xs.map tkey) = some ks → allSome (us.map keyOf) = some ks
  | [], _, _, ds, h, e => by rw [show _ = [] from h]; exact e
  | t :: r, _, _, ds, ⟨u, r', F1, F2, h1, h2, h3, _, _⟩, e => by
    subst h1
    rw [List.map_cons] at e ⊢
    cases e1 : tkey t with
    | none => rw [e1] at e; cases e
    | some d =>
      rw [e1] at e
      unfold allSome at e
      cases e2 : allSome (r.map tkey) with
      | none => rw [e2] at e; cases e
      | some ds' =>
        rw [e2] at e
        cases e
        rw [tkey_ok h2 e1]
        unfold allSome
        rw [tkeyss_ok h3 e2]
        rfl
theorem tkeys_ok {t : T} {v : Val} {k : List DKey} (h : Rp S Z t v F) (e : tkeys t = some k) : keysOf v = some k := by
  unfold tkeys at e
  split at e
  · obtain ⟨us, rfl, h2⟩ := h
    exact tkeyss_ok h2 e
  · cases e
theorem kpos_look {κ : Type} [DecidableEq κ] : ∀ {ks : List κ} {us : List Val} {k : κ}, ks.length = us.length → Mi.look (ks.zip us) k = (kpos ks k).bind fun j => us[j]?
  | [], us, k, h => rfl
  | a :: ks, [], k, h => by cases h
  | a :: ks, u :: us, k, h => by
    have ih := kpos_look (k := k) (Nat.succ.inj h)
    unfold Mi.look at ih ⊢
    unfold kpos
    rw [List.zip_cons_cons, List.find?_cons]
    by_cases e : a = k
    · simp [e]
    · simp only [e, decide_false, if_false]
      rw [ih]
      cases kpos ks k <;> rfl
theorem kpos_lt {κ : Type} [DecidableEq κ] : ∀ {ks : List κ} {k : κ} {j : Nat}, kpos ks k = some j → j < ks.length ∧ ks[j]? = some k
  | [], _, _, e => by cases e
  | a :: ks, k, j, e => by
    unfold kpos at e
    split at e
    · rename_i h
      cases e
      exact ⟨by simp, by rw [← h]; rfl⟩
    · obtain ⟨j', h1, rfl⟩ := Option.map_eq_some_iff.mp e
      obtain ⟨h2, h3⟩ := kpos_lt h1
      exact ⟨by rw [List.length_cons]; omega, h3⟩
theorem tdpos_ok {d i : T} {v k : Val} {o : Option Nat} (h : Rp S Z d v F) (h' : Rp S Z i k G) (e : tdpos d i = some o) : dget S v k = some (o.bind fun j => (vkids S v)[j]?) := by
  unfold tdpos at e
  split at e
  · obtain ⟨a, us, G, rfl, h2, hl, h3, h4⟩ := h
    obtain ⟨kk, h5, rfl⟩ := Option.map_eq_some_iff.mp e
    unfold dget vkids
    simp only [h2, tkey_ok h' h5, Option.map_some, kpos_look hl.1, zip_snd hl.1]
  · obtain ⟨a, us, G, rfl, h2, hl, h3, h4⟩ := h
    obtain ⟨kk, h5, rfl⟩ := Option.map_eq_some_iff.mp e
    unfold dget vkids
    simp only [h2, tkeys_ok h' h5, Option.map_some, kpos_look hl.1, zip_snd hl.1]
  · cases e
end
end Tv
namespace Tv
open Mi
open PySem hiding Env Ctx
section
variable {S S' : Store} {Z Z' : Ad} {s s' : St} {ρ : Env} {pv : List Val} {Fs Fs' : Nat → Ad} {B B' F G : Ad}
theorem tinS_ok {t u : T} {v w : Val} {b : Bool} (h : Rp S Z t v F) (h' : Rp S Z u w G) (e : tinS t u = some b) : inopS S v w = some b := by
  unfold tinS at e
  split at e
  · cases h; cases h'
    exact e
  · rename_i hn
    have hn' : ∀ x z, v = .str x → w = .str z → False := by
      intro x z e1 e2
      subst e1 e2
      cases t with
      | str a => cases u with
        | str c => exact hn a c rfl rfl
        | lst _ _ => obtain ⟨_, _, _, h1, _⟩ := h'; cases h1
        | dK _ _ _ => obtain ⟨_, _, _, h1, _⟩ := h'; cases h1
        | dT _ _ _ => obtain ⟨_, _, _, h1, _⟩ := h'; cases h1
        | tup _ => obtain ⟨_, h1, _⟩ := h'; cases h1
        | fro _ => obtain ⟨_, h1, _⟩ := h'; cases h1
        | _ => cases h'
      | lst _ _ => obtain ⟨_, _, _, h1, _⟩ := h; cases h1
      | dK _ _ _ => obtain ⟨_, _, _, h1, _⟩ := h; cases h1
      | dT _ _ _ => obtain ⟨_, _, _, h1, _⟩ := h; cases h1
      | tup _ => obtain ⟨_, h1, _⟩ := h; cases h1
      | fro _ => obtain ⟨_, h1, _⟩ := h; cases h1
      | _ => cases h
    have red : inopS S v w = (match seqOf S w with
      | some xs => if flat v && xs.all flat then some (xs.any fun y => feq y v) else match lstOf S w with
        | some _ => match dat S deep v, dat S deep w with
          | some d, some (.list ds) => some (ds.any fun z => PyData.eqv z d)
          | _, _ => none
        | none => none
      | none => none) := by
      unfold inopS
      split
      · rename_i x z
        exact (hn' x z rfl rfl).elim
      · rfl
    rw [red]
    cases hs : tseq u with
    | none => rw [hs] at e; cases e
    | some xs =>
      rw [hs] at e
      obtain ⟨a, hxs⟩ := tseq_ok h' hs
      obtain ⟨G', k1, _⟩ := h'.kids
      rw [← hxs] at k1
      rw [a]
      simp only at e ⊢
      split at e
      · rename_i hf
        cases e
        rw [Bool.and_eq_true] at hf
        rw [if_pos (by rw [Bool.and_eq_true]; exact ⟨tflat_ok h hf.1, tflats_ok k1 hf.2⟩), tany_ok hf.1 h k1 hf.2]
      · rename_i hf
        cases hl : tlst u with
        | none => rw [hl] at e; cases e
        | some ys =>
          rw [hl] at e
          simp only at e
          split at e
          · rename_i d ds h1 h2
            cases e
            have d1 := tdat_ok _ h h1
            have d2 := tdat_ok _ h' h2
            -- flat on both sides: the same answer
            by_cases hfl : (flat v && (vkids S w).all flat) = true
            · exfalso
              rw [Bool.and_eq_true] at hfl
              apply hf
              rw [Bool.and_eq_true]
              have fl : ∀ {t : T} {v : Val} {F : Ad}, Rp S Z t v F → flat v = true → tflat t = true := by
                intro t v F h e
                cases t with
                | lst _ _ => obtain ⟨_, _, _, h1, _⟩ := h; subst h1; cases e
                | dK _ _ _ => obtain ⟨_, _, _, h1, _⟩ := h; subst h1; cases e
                | dT _ _ _ => obtain ⟨_, _, _, h1, _⟩ := h; subst h1; cases e
                | tup _ => obtain ⟨_, h1, _⟩ := h; subst h1; cases e
                | fro _ => obtain ⟨_, h1, _⟩ := h; subst h1; cases e
                | ty _ => cases h; cases e
                | _ => rfl
              have fls : ∀ {xs : List T} {us : List Val} {F : Ad}, Rps S Z xs us F → us.all flat = true → xs.all tflat = true := by
                intro xs
                induction xs with
                | nil => intro us F _ _; rfl
                | cons x r ih =>
                  intro us F ⟨u, r', F1, F2, h1, h2, h3, _, _⟩ e
                  subst h1
                  rw [List.all_cons, Bool.and_eq_true] at e ⊢
                  exact ⟨fl h2 e.1, ih h3 e.2⟩
              exact ⟨fl h hfl.1, fls k1 hfl.2⟩
            · rw [if_neg hfl, (tlst_ok h' hl).1, d1, d2]
          · cases e
theorem tin_ok {t u : T} {v w : Val} {b : Bool} (h : Rp S Z t v F) (h' : Rp S Z u w G) (e : tin t u = some b) (hd : ∀ o, tdpos u t = some o → tinS t u = none → inopS S v w = none) : inop S v w = some b := by
  unfold tin at e
  unfold inop
  cases e1 : tinS t u with
  | some b' => rw [e1] at e; cases e; rw [tinS_ok h h' e1]
  | none =>
    rw [e1] at e
    obtain ⟨o, h1, rfl⟩ := Option.map_eq_some_iff.mp e
    rw [hd o h1 e1, tdpos_ok h' h h1]
    simp only [Option.map_some]
    cases o with
    | none => rfl
    | some j =>
      have : j < (vkids S w).length := by
        obtain ⟨G', k1, _⟩ := h'.kids
        rw [← k1.len]
        unfold tdpos at h1
        split at h1
        · obtain ⟨kk, _, h2⟩ := Option.map_eq_some_iff.mp h1
          obtain ⟨a, us, G, rfl, h3, hl, h4, h5⟩ := h'
          have := (kpos_lt h2).1
          have e3 := h4.len
          have e4 := hl.1
          simp only [tkids]
          omega
        · obtain ⟨kk, _, h2⟩ := Option.map_eq_some_iff.mp h1
          obtain ⟨a, us, G, rfl, h3, hl, h4, h5⟩ := h'
          have := (kpos_lt h2).1
          have e3 := h4.len
          have e4 := hl.1
          simp only [tkids]
          omega
        · cases h1
      show some ((vkids S w)[j]?).isSome = some true
      rw [List.getElem?_eq_getElem this]
      rfl
theorem dict_in {t u : T} {v w : Val} {o : Option Nat} (h : Rp S Z t v F) (h' : Rp S Z u w G) (h1 : tdpos u t = some o) : inopS S v w = none := by
  unfold tdpos at h1
  split at h1
  · obtain ⟨a, us, G, rfl, h3, hl, h4, h5⟩ := h'
    unfold inopS
    split
    · rename_i e; cases e
    · unfold seqOf lstOf
      simp only [h3]
  · obtain ⟨a, us, G, rfl, h3, hl, h4, h5⟩ := h'
    unfold inopS
    split
    · rename_i e; cases e
    · unfold seqOf lstOf
      simp only [h3]
  · cases h1
theorem tcmp_ok {o : Cp} {t u : T} {v w : Val} {b : Bool} (h : Rp S Z t v F) (h' : Rp S Z u w G) (e : tcmp o t u = some b) : cmpop o S v w = some b := by
  have non : tisNon t = isNon v := by
    cases t with
    | lst _ _ => obtain ⟨_, _, _, h1, _⟩ := h; subst h1; rfl
    | dK _ _ _ => obtain ⟨_, _, _, h1, _⟩ := h; subst h1; rfl
    | dT _ _ _ => obtain ⟨_, _, _, h1, _⟩ := h; subst h1; rfl
    | tup _ => obtain ⟨_, h1, _⟩ := h; subst h1; rfl
    | fro _ => obtain ⟨_, h1, _⟩ := h; subst h1; rfl
    | _ => cases h; rfl
  unfold tcmp at e
  split at e
  · cases e; cases h; cases h'; rfl
  · cases e; cases h; cases h'; rfl
  · cases e; cases h; cases h'; rfl
  · cases e; cases h; cases h'; rfl
  · exact teq_ok h h' e
  · obtain ⟨b', h1, rfl⟩ := Option.map_eq_some_iff.mp e
    show (eqop S v w).map _ = _
    rw [teq_ok h h' h1]
    rfl
  · cases e; cases h'
    show some (isNon v) = _
    rw [non]
  · cases e; cases h'
    show some (!isNon v) = _
    rw [non]
  · cases e; cases h; cases h'; rfl
  · cases e; cases h; cases h'; rfl
  · exact tin_ok h h' e fun o h1 _ => dict_in h h' h1
  · obtain ⟨b', h1, rfl⟩ := Option.map_eq_some_iff.mp e
    show (inop S v w).map _ = _
    rw [tin_ok h h' h1 fun o h1 _ => dict_in h h' h1]
    rfl
  · cases e
theorem isEmpty_len {α β : Type} {xs : List α} {ys : List β} (h : xs.length = ys.length) : xs.isEmpty = ys.isEmpty := by
  cases xs <;> cases ys <;> first | rfl | (cases h)
theorem ttru_ok {t : T} {v : Val} {b : Bool} (h : Rp S Z t v F) (e : ttru t = some b) : tru S v = some b := by
  unfold ttru at e
  split at e
  · cases e; cases h; rfl
  · cases e; cases h; rfl
  · cases e; cases h; rfl
  · cases e
    obtain ⟨i, us, G, rfl, h2, h3, h4⟩ := h
    unfold tru
    simp only [h2]
    rw [isEmpty_len h3.len]
  · rename_i ks xs
    cases e
    obtain ⟨i, us, G, rfl, h2, hl, h3, h4⟩ := h
    unfold tru
    simp only [h2]
    rw [isEmpty_len (show (ks.zip us).length = ks.length by rw [List.length_zip, ← hl.1, Nat.min_self])]
  · cases e
    obtain ⟨us, rfl, h2⟩ := h
    unfold tru
    simp only
    rw [isEmpty_len h2.len]
  · cases e
    obtain ⟨us, rfl, h2⟩ := h
    unfold tru
    simp only
    rw [isEmpty_len h2.len]
  · cases e
theorem tsign_ok {t i d : T} {v k : Val} (h : Rp S Z t v F) (h' : Rp S Z i k G) (e : tsign t i = some d) : ∃ w, item S v k = some w ∧ Rp S Z d w (fun _ => False) := by
  unfold tsign at e
  split at e
  · cases h; cases h'
    split at e
    · rename_i hz
      obtain ⟨c, h1, rfl⟩ := Option.map_eq_some_iff.mp e
      refine ⟨.str ⟨#[c]⟩, ?_, rfl⟩
      unfold item itemS
      simp only [hz, if_true, h1, Option.map_some]
    · cases e
  · cases e
theorem ixN_lt {n j : Nat} {i : Int} (h : L2.ixN n i = some j) : j < n := by
  unfold L2.ixN at h
  split at h
  · split at h
    · cases h; omega
    · cases h
  · split at h
    · cases h; omega
    · cases h
theorem tixp_ok {t i : T} {v k : Val} {j : Nat} (h : Rp S Z t v F) (h' : Rp S Z i k G) (hn : ∀ x, t ≠ .str x) (e : tixp t i = some j) : item S v k = (vkids S v)[j]? := by
  have nstr : ∀ x, v ≠ .str x := by
    intro x e
    subst e
    cases t with
    | lst _ _ => obtain ⟨_, _, _, h1, _⟩ := h; cases h1
    | dK _ _ _ => obtain ⟨_, _, _, h1, _⟩ := h; cases h1
    | dT _ _ _ => obtain ⟨_, _, _, h1, _⟩ := h; cases h1
    | tup _ => obtain ⟨_, h1, _⟩ := h; cases h1
    | fro _ => obtain ⟨_, h1, _⟩ := h; cases h1
    | str y => exact hn y rfl
    | _ => cases h
  have red : itemS S v k = (match (generalizing := false) seqOf S v, k with
    | some xs, .int i => L2.atI xs i
    | _, _ => none) := by
    unfold itemS
    split
    · rename_i x i'; exact absurd rfl (nstr x)
    · rfl
  have dcase : (tdpos t i).join = some j → item S v k = (vkids S v)[j]? := by
    intro e
    cases e1 : tdpos t i with
    | none => rw [e1] at e; cases e
    | some o =>
      rw [e1] at e
      cases o with
      | none => cases e
      | some j' =>
        cases e
        have g := tdpos_ok h h' e1
        have sn : seqOf S v = none := by
          unfold tdpos at e1
          split at e1
          · obtain ⟨a, us, G, rfl, h3, _⟩ := h
            unfold seqOf lstOf; simp only [h3]
          · obtain ⟨a, us, G, rfl, h3, _⟩ := h
            unfold seqOf lstOf; simp only [h3]
          · cases e1
        unfold item
        rw [red, sn, g]
        rfl
  unfold tixp at e
  cases hs : tseq t with
  | none => rw [hs] at e; exact dcase e
  | some xs =>
    rw [hs] at e
    cases i with
    | int n =>
      simp only at e
      obtain ⟨a, hxs⟩ := tseq_ok h hs
      obtain ⟨G', k1, _⟩ := h.kids
      cases h'
      unfold item
      rw [red, a]
      simp only
      have : L2.atI (vkids S v) n = (vkids S v)[j]? := by
        unfold L2.atI
        rw [hxs, k1.len] at e
        rw [e]
        rfl
      rw [this]
      cases hj : (vkids S v)[j]? with
      | some w => rfl
      | none =>
        exfalso
        have := ixN_lt e
        rw [hxs, k1.len] at this
        rw [List.getElem?_eq_getElem this] at hj
        cases hj
    | _ => exact dcase e
end
end Tv
namespace Tv
open Mi
open PySem hiding Env Ctx
/-- an operation: a value, perhaps a new object -/
def Op (S : Store) (Z : Ad) (t : T) (G : Ad) (o : Mi.P) : Prop := ∃ v X F', o = some (v, S ++ X) ∧ Rp (S ++ X) Z t v F' ∧ ∀ x, F' x → G x ∨ (S.length ≤ x ∧ x < (S ++ X).length)
section
variable {S S' : Store} {Z Z' : Ad} {s s' : St} {ρ : Env} {pv : List Val} {Fs Fs' : Nat → Ad} {B B' F G G1 G2 : Ad}
theorem Op.same {t : T} {v : Val} (h : Rp S Z t v (fun _ => False)) : Op S Z t G (some (v, S)) := ⟨v, [], fun _ => False, by rw [List.append_nil], by rw [List.append_nil]; exact h, fun _ h => h.elim⟩
theorem Op.sameG {t : T} {v : Val} (h : Rp S Z t v G) : Op S Z t G (some (v, S)) := ⟨v, [], G, by rw [List.append_nil], by rw [List.append_nil]; exact h, fun _ h => .inl h⟩
theorem Op.mono {t : T} {o : Mi.P} (h : Op S Z t G o) (f : ∀ x, G x → G1 x) : Op S Z t G1 o := by
  obtain ⟨v, X, F', h1, h2, h3⟩ := h
  exact ⟨v, X, F', h1, h2, fun x hx => (h3 x hx).imp (f x) id⟩
theorem Rps.grow {ts : List T} {us : List Val} (h : Rps S Z ts us F) (hF : ∀ x, F x → x < S.length) (zl : ∀ x, Z x → x < S.length) (X : Store) : Rps (S ++ X) Z ts us F :=
  h.st (fun x hx => List.getElem?_append_left (hx.elim (hF x) (zl x))) fun _ h => h
theorem Rp.grow {t : T} {v : Val} (h : Rp S Z t v F) (hF : ∀ x, F x → x < S.length) (zl : ∀ x, Z x → x < S.length) (X : Store) : Rp (S ++ X) Z t v F :=
  h.st (fun x hx => List.getElem?_append_left (hx.elim (hF x) (zl x))) fun _ h => h
theorem new_op {xs : List T} {us : List Val} (h : Rps S Z xs us G) (hG : ∀ x, G x → x < S.length) (zl : ∀ x, Z x → x < S.length) (hl : xs.length ≤ sizeLine) : Op S Z (.lst true xs) G (alloc S us) := by
  refine ⟨.ref S.length, [.lst us], fun x => x = S.length ∨ G x, ?_, ⟨S.length, us, G, rfl, List.getElem?_concat_length .., h.grow hG zl _, ?_⟩, fun x hx => ?_⟩
  · unfold Mi.alloc
    rw [if_pos (by rw [← h.len]; exact hl)]
  · unfold Nd
    rw [if_pos rfl]
    exact ⟨.inl rfl, fun x hx => ⟨.inr hx, fun e => by have := hG x hx; omega⟩⟩
  · rcases hx with hx | hx
    · right
      subst hx
      simp
    · exact .inl hx
theorem tnew_op {xs : List T} {us : List Val} {t : T} (h : Rps S Z xs us G) (hG : ∀ x, G x → x < S.length) (zl : ∀ x, Z x → x < S.length) (e : tnew xs = some t) : Op S Z t G (alloc S us) := by
  unfold tnew at e
  split at e
  · rename_i hl
    cases e
    exact new_op h hG zl hl
  · cases e
theorem tbin_ok {o : O2} {t u d : T} {v w : Val} (h : Rp S Z t v F) (h' : Rp S Z u w B) (k : Rps S Z (tkids t) (vkids S v) G1) (k' : Rps S Z (tkids u) (vkids S w) G2) (d12 : ∀ x, G1 x → ¬ G2 x) (hG1 : ∀ x, G1 x → x < S.length) (hG2 : ∀ x, G2 x → x < S.length)
    (zl : ∀ x, Z x → x < S.length) (e : tbin o t u = some d) : Op S Z d (fun x => G1 x ∨ G2 x) (binop o v w S) := by
  unfold tbin at e
  split at e
  · cases e; cases h; cases h'; exact .same rfl
  · cases e; cases h; cases h'; exact .same rfl
  · split at e
    · rename_i hm
      cases e; cases h; cases h'
      unfold binop
      simp only [hm, if_true]
      exact .same rfl
    · cases e
  · split at e
    · rename_i hm
      cases e; cases h; cases h'
      unfold binop
      simp only
      rw [if_pos hm]
      exact .same rfl
    · cases e
  · split at e
    · rename_i hm
      cases e; cases h; cases h'
      unfold binop
      simp only
      rw [if_pos hm]
      exact .same rfl
    · cases e
  · split at e
    · rename_i hm
      cases e; cases h; cases h'
      unfold binop
      simp only
      rw [if_pos hm]
      exact .same rfl
    · cases e
  · split at e
    · rename_i hm
      cases e; cases h; cases h'
      unfold binop
      simp only
      rw [if_pos hm]
      exact .same rfl
    · cases e
  · obtain ⟨i, us, _, rfl, h2, h3, h4⟩ := h
    obtain ⟨j, ws, _, rfl, g2, g3, g4⟩ := h'
    have e1 : vkids S (.ref i) = us := by unfold vkids; simp only [h2]
    have e2 : vkids S (.ref j) = ws := by unfold vkids; simp only [g2]
    rw [e1] at k
    rw [e2] at k'
    unfold binop
    simp only [h2, g2]
    exact tnew_op (k.append k' (fun x hx => ⟨.inl hx, d12 x hx⟩) (fun x hx => .inr hx)) (fun x hx => hx.elim (hG1 x) (hG2 x)) zl e
  · split at e
    · rename_i hm
      obtain ⟨i, us, _, rfl, h2, h3, h4⟩ := h
      cases h'
      have e1 : vkids S (.ref i) = us := by unfold vkids; simp only [h2]
      rw [e1] at k
      unfold binop
      simp only [h2]
      rw [if_pos ⟨hm.1, by rw [← h3.len]; exact hm.2.1⟩]
      exact tnew_op (k.afs_rep hm.2.2 _ _) (fun x hx => hx.elim (hG1 x) (hG2 x)) zl e
    · cases e
  · cases e
theorem tslice_ok {t d : T} {v : Val} {lo hi : Option Int} (h : Rp S Z t v F) (k : Rps S Z (tkids t) (vkids S v) G) (hG : ∀ x, G x → x < S.length) (zl : ∀ x, Z x → x < S.length) (e : tslice t lo hi = some d) : Op S Z d G (slice S v lo hi) := by
  unfold tslice at e
  cases hl : tlst t with
  | none => rw [hl] at e; cases e
  | some xs =>
    rw [hl] at e
    obtain ⟨a, rfl⟩ := tlst_ok h hl
    unfold slice
    rw [a]
    exact tnew_op (k.cut lo hi) hG zl e
theorem tstp_ok {t d : T} {v : Val} {lo st : Nat} (hk : 0 < st) (h : Rp S Z t v F) (k : Rps S Z (tkids t) (vkids S v) G) (hG : ∀ x, G x → x < S.length) (zl : ∀ x, Z x → x < S.length) (e : tstp t lo st = some d) : Op S Z d G (sliceS S v lo st) := by
  unfold tstp at e
  cases hl : tlst t with
  | none => rw [hl] at e; cases e
  | some xs =>
    rw [hl] at e
    obtain ⟨a, rfl⟩ := tlst_ok h hl
    unfold sliceS
    rw [a]
    exact tnew_op (k.stp lo st hk) hG zl e
theorem tfind_ok {y : T} {w : Val} (hy : tflat y = true) (ry : Rp S Z y w B) : ∀ {xs : List T} {us : List Val} {F : Ad} {k : Nat}, Rps S Z xs us F → xs.all tflat = true → find1 w us k = tfind1 y xs k
  | [], _, _, _, h, _ => by rw [show _ = [] from h]; rfl
  | t :: r, _, _, k, ⟨u, r', F1, F2, h1, h2, h3, _, _⟩, e => by
    subst h1
    rw [List.all_cons, Bool.and_eq_true] at e
    unfold find1 tfind1
    rw [tfeq_ok h2 ry e.1 hy, tfind_ok hy ry h3 e.2]
/-- pointwise -/
def Pts (S : Store) (Z : Ad) (ts : List T) (vs : List Val) : Prop := ts.length = vs.length ∧ ∀ (j : Nat) (t : T), ts[j]? = some t → ∃ v F0, vs[j]? = some v ∧ Rp S Z t v F0
theorem Pts.one {t : T} {vs : List Val} (h : Pts S Z [t] vs) : ∃ v F0, vs = [v] ∧ Rp S Z t v F0 := by
  obtain ⟨hl, h⟩ := h
  obtain ⟨v, F0, h1, h2⟩ := h 0 t rfl
  cases vs with
  | nil => cases h1
  | cons v0 r =>
    cases r with
    | nil => cases h1; exact ⟨v, F0, rfl, h2⟩
    | cons _ _ => simp at hl
theorem Pts.two {t t' : T} {vs : List Val} (h : Pts S Z [t, t'] vs) : ∃ v v' F0 F1, vs = [v, v'] ∧ Rp S Z t v F0 ∧ Rp S Z t' v' F1 := by
  obtain ⟨hl, h⟩ := h
  obtain ⟨v, F0, h1, h2⟩ := h 0 t rfl
  obtain ⟨v', F1, h3, h4⟩ := h 1 t' rfl
  cases vs with
  | nil => cases h1
  | cons v0 r =>
    cases r with
    | nil => cases h3
    | cons v1 r =>
      cases r with
      | nil => cases h1; cases h3; exact ⟨v, v', F0, F1, rfl, h2, h4⟩
      | cons _ _ => simp at hl
theorem tprs_ok : ∀ {ts : List T} {us : List Val} {F : Ad} {ps : List (Int × Int)}, Rps S Z ts us F → tprs ts = some ps → prsOf us = some ps ∧ (ts ≠ [] → intsOf us = none)
  | [], us, F, ps, h, e => by
    cases e
    rw [show us = [] from h]
    exact ⟨rfl, fun h => absurd rfl h⟩
  | t :: ts, us, F, ps, ⟨u, r, F1, F2, h1, h2, h3, _, _⟩, e => by
    subst h1
    unfold tprs at e
    split at e
    · rename_i h0; cases h0
    · rename_i i j r' h0
      cases h0
      cases e3 : tprs ts with
      | none => rw [e3] at e; cases e
      | some ks =>
        rw [e3] at e
        cases e
        obtain ⟨g1, _⟩ := tprs_ok h3 e3
        obtain ⟨us', rfl, a, b, _, _, rfl, k1, k2, _, _⟩ := h2
        obtain ⟨c, d, _, _, rfl, k3, k4, _, _⟩ := k2
        cases k1; cases k3
        rw [show d = [] from k4]
        refine ⟨?_, fun _ => rfl⟩
        unfold prsOf
        rw [g1]
        rfl
    · cases e
theorem tprim_ok {p : Pr} {ts : List T} {vs : List Val} {d : T} (h : Pts S Z ts vs) (zl : ∀ x, Z x → x < S.length) (hp : p ≠ .list ∧ p ≠ .tuple) (e : tprim p ts = some d) : Op S Z d (fun _ => False) (prim p vs S) := by
  have intsK : ∀ {u : T} {v : Val} {F0 : Ad} {ns : List Int}, Rp S Z u v F0 → ∀ xs, tlst u = some xs → tints xs = some ns → lstOf S v = some (vkids S v) ∧ intsOf (vkids S v) = some ns := by
    intro u v F0 ns h xs hx hn
    obtain ⟨a, rfl⟩ := tlst_ok h hx
    obtain ⟨G, k, _⟩ := h.kids
    exact ⟨a, tints_ok k hn⟩
  unfold tprim at e
  split at e
  · split at e
    · rename_i hm
      cases e
      obtain ⟨v, F0, rfl, h1⟩ := h.one
      cases h1
      unfold prim
      simp only [hm, if_true]
      exact .same rfl
    · cases e
  · cases e
    obtain ⟨v, F0, rfl, i, us, G, rfl, h2, h3, h4⟩ := h.one
    unfold prim
    simp only [h2]
    refine .same (show _ = _ by rw [h3.len])
  · cases e
    obtain ⟨v, F0, rfl, i, us, G, rfl, h2, hl, h3, h4⟩ := h.one
    unfold prim
    simp only [h2]
    refine .same (show _ = _ by rw [List.length_zip, ← hl.1, Nat.min_self])
  · cases e
    obtain ⟨v, F0, rfl, us, rfl, h3⟩ := h.one
    unfold prim
    refine .same (show _ = _ by rw [h3.len])
  · cases e
    obtain ⟨v, F0, rfl, us, rfl, h3⟩ := h.one
    unfold prim
    refine .same (show _ = _ by rw [h3.len])
  · obtain ⟨v, F0, rfl, h1⟩ := h.one
    obtain ⟨xs, e1, e⟩ := Option.bind_eq_some_iff.mp e
    obtain ⟨ns, e2, rfl⟩ := Option.map_eq_some_iff.mp e
    obtain ⟨a, b⟩ := intsK h1 xs e1 e2
    unfold prim
    simp only [a, b, Option.bind_some, Option.map_some]
    exact .same rfl
  · obtain ⟨v, F0, rfl, h1⟩ := h.one
    obtain ⟨xs, e1, e⟩ := Option.bind_eq_some_iff.mp e
    obtain ⟨ns, e2, e⟩ := Option.bind_eq_some_iff.mp e
    obtain ⟨a, b⟩ := intsK h1 xs e1 e2
    unfold prim
    simp only [a, b, Option.bind_some]
    split at e
    · cases e
    · rename_i hn
      cases e
      rw [if_neg hn]
      exact .same rfl
  · obtain ⟨v, F0, rfl, h1⟩ := h.one
    obtain ⟨xs, e1, e⟩ := Option.bind_eq_some_iff.mp e
    obtain ⟨ns, e2, e⟩ := Option.bind_eq_some_iff.mp e
    obtain ⟨a, b⟩ := intsK h1 xs e1 e2
    unfold prim
    simp only [a, b, Option.bind_some]
    split at e
    · cases e
    · rename_i hn
      cases e
      rw [if_neg hn]
      exact .same rfl
  · cases e
    obtain ⟨v, v', F0, F1, rfl, h1, h2⟩ := h.two
    cases h1; cases h2
    exact .same rfl
  · cases e
    obtain ⟨v, v', F0, F1, rfl, h1, h2⟩ := h.two
    cases h1; cases h2
    exact .same rfl
  · obtain ⟨v, F0, rfl, h1⟩ := h.one
    split at e
    · rename_i ns hns
      obtain ⟨xs, e1, e2⟩ := Option.bind_eq_some_iff.mp hns
      obtain ⟨a, b⟩ := intsK h1 xs e1 e2
      unfold prim
      simp only [a, b, Option.bind_some]
      have key : ∀ ns : List Int, Rps S Z (ns.map T.int) (ns.map Val.int) (fun _ => False) := by
        intro ns
        induction ns with
        | nil => rfl
        | cons n r ih => exact ⟨_, _, fun _ => False, fun _ => False, rfl, rfl, ih, fun _ h => h.elim, fun _ h => h⟩
      exact tnew_op (key _) (fun _ h => h.elim) zl e
    · rename_i hnn
      split at e
      · rename_i ps hps
        obtain ⟨xs, e1, e2⟩ := Option.bind_eq_some_iff.mp hps
        obtain ⟨a, rfl⟩ := tlst_ok h1 e1
        obtain ⟨G, k, _⟩ := h1.kids
        obtain ⟨b1, b2⟩ := tprs_ok k e2
        have hne : intsOf (vkids S v) = none := by
          by_cases hx : tkids ‹T› = []
          · rw [e1, Option.bind_some, hx] at hnn
            cases hnn
          · exact b2 hx
        unfold prim
        simp only [a, b1, hne, Option.bind_some]
        have key : ∀ ns : List (Int × Int), Rps S Z (ns.map tPr) (ns.map vPr) (fun _ => False) := by
          intro ns
          induction ns with
          | nil => rfl
          | cons n r ih => exact ⟨_, _, fun _ => False, fun _ => False, rfl, ⟨_, rfl, _, _, fun _ => False, fun _ => False, rfl, rfl, ⟨_, _, fun _ => False, fun _ => False, rfl, rfl, rfl, fun _ h => h.elim, fun _ h => h⟩, fun _ h => h.elim, fun _ h => h⟩, ih, fun _ h => h.elim, fun _ h => h⟩
        exact tnew_op (key _) (fun _ h => h.elim) zl e
      · cases e
  · cases e
    obtain ⟨v, F0, rfl, h1⟩ := h.one
    cases h1
    exact .same rfl
  · obtain ⟨v, F0, rfl, h1⟩ := h.one
    cases h1
    unfold prim
    simp only
    split at e
    · rename_i hm
      cases e
      rw [if_pos hm]
      exact .same rfl
    · cases e
  · cases e
    obtain ⟨v, F0, rfl, h1⟩ := h.one
    cases h1
    exact .same rfl
  · cases e
    obtain ⟨v, F0, rfl, h1⟩ := h.one
    cases h1
    exact .same rfl
  · obtain ⟨v, F0, rfl, h1⟩ := h.one
    cases h1
    unfold prim
    simp only
    split at e
    · rename_i n hn
      try rw [hn]
      try simp only
      split at e
      · rename_i hm
        cases e
        rw [if_pos hm]
        exact .same rfl
      · cases e
    · cases e
  · obtain ⟨v, F0, rfl, h1⟩ := h.one
    obtain ⟨xs, e1, e⟩ := Option.bind_eq_some_iff.mp e
    obtain ⟨ns, e2, rfl⟩ := Option.map_eq_some_iff.mp e
    obtain ⟨a, rfl⟩ := tlst_ok h1 e1
    obtain ⟨G, k, _⟩ := h1.kids
    unfold prim
    simp only [a, tbls_ok k e2, Option.bind_some, Option.map_some]
    exact .same rfl
  · obtain ⟨v, F0, rfl, h1⟩ := h.one
    obtain ⟨xs, e1, e⟩ := Option.bind_eq_some_iff.mp e
    obtain ⟨ns, e2, rfl⟩ := Option.map_eq_some_iff.mp e
    obtain ⟨a, rfl⟩ := tlst_ok h1 e1
    obtain ⟨G, k, _⟩ := h1.kids
    unfold prim
    simp only [a, tbls_ok k e2, Option.bind_some, Option.map_some]
    exact .same rfl
  · exact absurd rfl hp.1
  · exact absurd rfl hp.2
  · cases e
theorem tlist_ok {t d : T} {v : Val} (h : Rp S Z t v F) (k : Rps S Z (tkids t) (vkids S v) G) (hG : ∀ x, G x → x < S.length) (zl : ∀ x, Z x → x < S.length) (e : tprim .list [t] = some d) : Op S Z d G (prim .list [v] S) := by
  change (match tseq t with | some xs => tnew xs | none => none) = some d at e
  show Op S Z d G (match seqOf S v with | some xs => alloc S xs | none => none)
  cases hs : tseq t with
  | none => rw [hs] at e; cases e
  | some xs =>
    rw [hs] at e
    obtain ⟨a, rfl⟩ := tseq_ok h hs
    rw [a]
    exact tnew_op k hG zl e
theorem ttuple_ok {t d : T} {v : Val} (h : Rp S Z t v F) (k : Rps S Z (tkids t) (vkids S v) G) (e : tprim .tuple [t] = some d) : Op S Z d G (prim .tuple [v] S) := by
  change (match tseq t with | some xs => some (.tup xs) | none => none) = some d at e
  show Op S Z d G (P.of ((seqOf S v).map .tup) S)
  cases hs : tseq t with
  | none => rw [hs] at e; cases e
  | some xs =>
    rw [hs] at e
    obtain ⟨a, rfl⟩ := tseq_ok h hs
    rw [a]
    cases e
    exact Op.sameG (v := .tup (vkids S v)) ⟨_, rfl, k⟩
theorem ttyIn_ok {t : T} {v : Val} {n : String} (h : Rp S Z t v F) (e : ttyIn t = some n) : tyIn S v = some n := by
  cases t with
  | lst _ _ => obtain ⟨i, us, G, rfl, h2, _⟩ := h; cases e; unfold tyIn; simp only [h2]
  | dK _ _ _ => obtain ⟨i, us, G, rfl, h2, _⟩ := h; cases e; unfold tyIn; simp only [h2]
  | dT _ _ _ => cases e
  | tup _ => obtain ⟨us, rfl, h2⟩ := h; cases e; rfl
  | fro _ => cases e
  | ty _ => cases e
  | _ => cases h; cases e; rfl
theorem trmeth_ok {m : Me} {t d : T} {v : Val} {ts : List T} {vs : List Val} (h : Rp S Z t v F) (hs : Pts S Z ts vs) (e : trmeth m t ts = some d) : Op S Z d (fun _ => False) (meth m v vs S) := by
  unfold trmeth at e
  split at e
  · cases hl : tlst t with
    | none => rw [hl] at e; cases e
    | some xs =>
      rw [hl] at e
      simp only at e
      split at e
      · rename_i hf
        rw [Bool.and_eq_true] at hf
        obtain ⟨j, e1, rfl⟩ := Option.map_eq_some_iff.mp e
        obtain ⟨w, F0, rfl, h1⟩ := hs.one
        obtain ⟨a, rfl⟩ := tlst_ok h hl
        obtain ⟨G, k, _⟩ := h.kids
        show Op S Z _ _ (match lstOf S v with | some xs => if flat w && xs.all flat then P.of ((find1 w xs 0).map fun j => .int (j : Nat)) S else none | none => none)
        rw [a]
        simp only
        rw [if_pos (by rw [Bool.and_eq_true]; exact ⟨tflat_ok h1 hf.1, tflats_ok k hf.2⟩), tfind_ok hf.1 h1 k hf.2, e1]
        exact .same rfl
      · cases e
  · cases e
end
end Tv
namespace Tv
open Mi
open PySem hiding Env Ctx
/-- a step that may also take up what A holds -/
structure TrB (S : Store) (Z : Ad) (Fs : Nat → Ad) (A : Ad) (S' : Store) (Z' : Ad) (Fs' : Nat → Ad) : Prop where
  len : S.length ≤ S'.length
  fr : ∀ x, x < S.length → ¬ U Fs x → ¬ A x → S'[x]? = S[x]?
  zz : ∀ x, Z x → Z' x
  zn : ∀ x, Z' x → Z x ∨ U Fs x ∨ S.length ≤ x ∨ A x
  fs : ∀ x, U Fs' x → U Fs x ∨ S.length ≤ x ∨ A x
section
variable {S S' S'' : Store} {Z Z' Z'' : Ad} {s s' : St} {ρ : Env} {pv : List Val} {Fs Fs' Fs'' : Nat → Ad} {A B B' F G G1 G2 : Ad}
theorem Tr.transB (a : Tr S Z Fs S' Z' Fs') (b : TrB S' Z' Fs' A S'' Z'' Fs'') (h : ∀ x, A x → Bd S Fs x) : Tr S Z Fs S'' Z'' Fs'' := by
  refine ⟨Nat.le_trans a.len b.len, fun x h1 h2 => ?_, fun x h => b.zz x (a.zz x h), fun x hx => ?_, fun x hx => ?_⟩
  · have h3 : ¬ U Fs' x := fun h => (a.fs x h).elim h2 (fun h => by omega)
    have h4 : ¬ A x := fun q => (h x q).elim h2 (fun q => by omega)
    rw [b.fr x (Nat.lt_of_lt_of_le h1 a.len) h3 h4, a.fr x h1 h2]
  · rcases b.zn x hx with q | q | q | q
    · exact a.zn x q
    · exact (a.fs x q).elim (fun q => .inr (.inl q)) (fun q => .inr (.inr q))
    · exact .inr (.inr (Nat.le_trans a.len q))
    · exact .inr (h x q)
  · rcases b.fs x hx with q | q | q
    · exact a.fs x q
    · exact .inr (Nat.le_trans a.len q)
    · exact h x q
theorem vAt_ext (h : ∀ i, vkids S (.ref i) <+: vkids S' (.ref i)) : ∀ {p : List Nat} {v w : Val}, vAt S v p = some w → vAt S' v p = some w
  | [], _, _, e => e
  | k :: p, v, w, e => by
    unfold vAt at e ⊢
    cases hk : (vkids S v)[k]? with
    | none => rw [hk] at e; cases e
    | some u =>
      rw [hk] at e
      have : (vkids S' v)[k]? = some u := by
        cases v with
        | ref i =>
          obtain ⟨t, ht⟩ := h i
          rw [← ht, List.getElem?_append_left (List.getElem?_eq_some_iff.mp hk).1]
          exact hk
        | _ => exact hk
      rw [this]
      exact vAt_ext h e
/-- a change at a place, told -/
theorem put_ok {r : Nat} {p : List Nat} {c : T} {v : Val} (k : OK S Z s ρ pv Fs) (h : V1 S Z ρ (.vw r p) v F) (hl : look s (.vw r p) = some c) : ∃ F1, Rp S Z c v F1 ∧ (∀ x, F1 x → Fs r x) ∧
    ∀ {c' : T} {s' : St} {deep : Bool} {S' : Store} {F' : Ad}, s.put r p c' deep = some s' → S'.length = S.length → (∀ x, x < S.length → ¬ F1 x → S'[x]? = S[x]?) → Rp S' Z c' v F' → (∀ x, F' x → F1 x ∨ A x) → Ow S Z Fs B A →
      (deep = false → ∀ i, vkids S (.ref i) <+: vkids S' (.ref i)) → ∃ Fs', OK S' Z s' ρ pv Fs' ∧ TrB S Z Fs A S' Z Fs' ∧ (∀ x, U Fs' x → (U Fs x ∧ ¬ F1 x) ∨ F' x) ∧ s'.β.length = s.β.length := by
  obtain ⟨w, h1, h2⟩ := h
  change (match s.at r with | some t => tAt t p | none => none) = some c at hl
  cases h0 : s.at r with
  | none => rw [h0] at hl; cases hl
  | some t0 =>
    rw [h0] at hl
    obtain ⟨w', u, F1, a1, a2, a3, a4, a5⟩ := k.put h0 hl
    rw [h1] at a1
    cases a1
    rw [h2] at a2
    cases a2
    refine ⟨F1, a3, a4, fun {c' s' deep S' F'} hp hlen hs hr hF hA hd => ⟨upF Fs r (fun x => (Fs r x ∧ ¬ F1 x) ∨ F' x), ?_, ?_, ?_, ?_⟩⟩
    · refine a5 hp (by omega) hs (fun _ h => h) (fun x h => .inl h) (fun x h => by rw [hlen]; exact k.zl x h) hr (fun x hx => ?_) (fun e p' w' hw => vAt_ext (hd e) hw)
      rcases hF x hx with q | q
      · exact ⟨(k.nz r x (a4 x q)).1, by rw [hlen]; exact (k.nz r x (a4 x q)).2, .inl q⟩
      · obtain ⟨b1, b2, b3, b4⟩ := hA x q
        exact ⟨b2, by rw [hlen]; exact b3, .inr fun i hi => b1 ⟨i, hi⟩⟩
    · refine ⟨by omega, fun x h3 h4 _ => hs x h3 fun q => h4 ⟨r, a4 x q⟩, fun _ h => h, fun x h => .inl h, fun x h => ?_⟩
      rcases U_upF h with q | q
      · exact .inl q
      · rcases q with q | q
        · exact .inl ⟨r, q.1⟩
        · exact (hF x q).elim (fun q => .inl ⟨r, a4 x q⟩) (fun q => .inr (.inr q))
    · intro x ⟨i, hx⟩
      unfold upF at hx
      split at hx
      · rcases hx with hx | hx
        · exact .inl ⟨⟨r, hx.1⟩, hx.2⟩
        · exact .inr hx
      · rename_i hi
        exact .inl ⟨⟨i, hx⟩, fun q => hi (k.dj i r x hx (a4 x q))⟩
    · unfold St.put at hp
      rw [h0] at hp
      simp only at hp
      cases e : tPut t0 p c' with
      | none => rw [e] at hp; cases hp
      | some t' =>
        rw [e] at hp
        simp only [Option.some.injEq] at hp
        subst hp
        cases deep
        · rfl
        · show (killB r p.length s.β).length = _
          unfold killB
          rw [List.length_map]
theorem own_nd {i : Nat} {F G : Ad} (h : Nd true Z i F G) : F i ∧ (∀ x, G x → F x ∧ x ≠ i) := by
  unfold Nd at h
  rw [if_pos rfl] at h
  exact h
theorem nd_own {i : Nat} {F G : Ad} (h : F i) (g : ∀ x, G x → F x ∧ x ≠ i) : Nd true Z i F G := by
  unfold Nd
  rw [if_pos rfl]
  exact ⟨h, g⟩
/-- an owned list's change -/
theorem list_put {r : Nat} {p : List Nat} {xs : List T} {v : Val} (k : OK S Z s ρ pv Fs) (h : V1 S Z ρ (.vw r p) v F) (hl : look s (.vw r p) = some (.lst true xs)) : ∃ a us G, v = .ref a ∧ S[a]? = some (.lst us) ∧ Rps S Z xs us G ∧ (∀ x, G x → U Fs x) ∧
    ∀ {xs' : List T} {us' : List Val} {G' : Ad} {s' : St} {deep : Bool}, s.put r p (.lst true xs') deep = some s' → Rps S Z xs' us' G' → (∀ x, G' x → G x ∨ A x) → Ow S Z Fs B A → (deep = false → us <+: us') →
      ∃ Fs', OK (S.set a (.lst us')) Z s' ρ pv Fs' ∧ TrB S Z Fs A (S.set a (.lst us')) Z Fs' ∧ (∀ x, G x → ¬ G' x → ¬ U Fs' x) ∧ s'.β.length = s.β.length ∧ ∀ {t : T} {v' : Val} {H : Ad}, Rp S Z t v' H → (∀ x, H x → G x ∨ A x) → Rp (S.set a (.lst us')) Z t v' H := by
  obtain ⟨F1, a1, a2, a3⟩ := put_ok (A := A) (B := B) k h hl
  obtain ⟨a, us, G, rfl, b1, b2, b3⟩ := a1
  have b4 := own_nd b3
  refine ⟨a, us, G, rfl, b1, b2, fun x hx => ⟨r, a2 x (b4.2 x hx).1⟩, fun {xs' us' G' s' deep} hp hr hG hA hd => ?_⟩
  have haZ : ¬ Z a := (k.nz r a (a2 a b4.1)).1
  have haA : ¬ A a := fun q => (hA a q).1 ⟨r, a2 a b4.1⟩
  have pres : ∀ {t : T} {v' : Val} {H : Ad}, Rp S Z t v' H → (∀ x, H x → G x ∨ A x) → Rp (S.set a (.lst us')) Z t v' H := fun {t v' H} hh hH =>
    hh.st (fun x hx => List.getElem?_set_ne (fun e => by
      subst e
      rcases hx with hx | hx
      · exact (hH a hx).elim (fun q => (b4.2 a q).2 rfl) haA
      · exact haZ hx)) fun _ h => h
  have press : Rps (S.set a (.lst us')) Z xs' us' G' :=
    hr.st (fun x hx => List.getElem?_set_ne (fun e => by
      subst e
      rcases hx with hx | hx
      · exact (hG a hx).elim (fun q => (b4.2 a q).2 rfl) haA
      · exact haZ hx)) fun _ h => h
  have hr' : Rp (S.set a (.lst us')) Z (.lst true xs') (.ref a) (fun x => x = a ∨ G' x) := by
    refine ⟨a, us', G', rfl, List.getElem?_set_self (get_lt b1), press, nd_own (.inl rfl) fun x hx => ⟨.inr hx, fun e => ?_⟩⟩
    subst e
    exact (hG x hx).elim (fun q => (b4.2 x q).2 rfl) haA
  obtain ⟨Fs', c1, c2, c3, c4⟩ := a3 (S' := S.set a (.lst us')) hp (by simp) (fun x _ hx => List.getElem?_set_ne fun e => hx (by rw [← e]; exact b4.1)) hr' (fun x hx => hx.elim (fun e => .inl (by rw [e]; exact b4.1)) (fun q => (hG x q).imp (fun q => (b4.2 x q).1) id)) hA
    (fun hd' i => by
      by_cases e : a = i
      · subst e
        have e1 : vkids S (.ref a) = us := by unfold vkids; simp only [b1]
        have e2 : vkids (S.set a (.lst us')) (.ref a) = us' := by unfold vkids; simp only [List.getElem?_set_self (get_lt b1)]
        rw [e1, e2]
        exact hd hd'
      · rw [vkids_st (S' := S.set a (.lst us')) (S := S) (v := .ref i) fun j hj => by cases hj; exact List.getElem?_set_ne e]
        exact List.prefix_refl _)
  refine ⟨Fs', c1, c2, fun x hx hn q => ?_, c4, pres⟩
  rcases c3 x q with q | q
  · exact q.2 (b4.2 x hx).1
  · exact q.elim (fun e => (b4.2 x hx).2 e) hn
theorem tmut_ok {m : Me} {u u' : V2} {v : Val} {ts : List T} {vs : List Val} (k : OK S Z s ρ pv Fs) (h : V1 S Z ρ u v F) (ha : Rps S Z ts vs A) (hA : Ow S Z Fs B A) (e : tmut m u ts s = .ok u' s') :
    ∃ w S' Fs' F', meth m v vs S = some (w, S') ∧ OK S' Z s' ρ pv Fs' ∧ TrB S Z Fs A S' Z Fs' ∧ V1 S' Z ρ u' w F' ∧ Ow S' Z Fs' (fun x => U Fs x) F' ∧ s'.β.length = s.β.length := by
  unfold tmut at e
  split at e
  · rename_i r p
    cases hl : look s (.vw r p) with
    | none => rw [hl] at e; cases e
    | some c =>
      rw [hl] at e
      simp only at e
      cases hm : tmeth m c ts with
      | none => rw [hm] at e; cases e
      | some q =>
        obtain ⟨x, t'⟩ := q
        rw [hm] at e
        simp only at e
        generalize hdp : deepM m = deep at e
        cases hp : s.put r p t' deep with
        | none => rw [hp] at e; cases e
        | some s1 =>
          rw [hp] at e
          cases e
          unfold tmeth at hm
          split at hm
          · rename_i xs
            obtain ⟨a, us, G, rfl, b1, b2, b3, b4⟩ := list_put (A := A) (B := B) k h hl
            have hl0 := b2.len
            split at hm
            · split at hm
              · rename_i y hlt
                cases hm
                obtain ⟨w0, _, F1, F2, rfl, c1, rfl, c3, c4⟩ := ha
                have := b2.append (Rps.one c1) (H := fun x => G x ∨ F1 x) (fun x hx => ⟨.inl hx, fun q => (hA x (c3 x q).1).1 (b3 x hx)⟩) (fun x hx => .inr hx)
                obtain ⟨Fs', d1, d2, d3, d4, d5⟩ := b4 hp this (fun x hx => hx.imp id fun q => (c3 x q).1) hA (fun _ => List.prefix_append _ _)
                refine ⟨.non, _, Fs', fun _ => False, ?_, d1, d2, rfl, .none, d4⟩
                unfold meth
                simp only [b1]
                rw [if_pos (by rw [← hl0]; exact hlt)]
              · cases hm
            · split at hm
              · rename_i o ys hlt
                cases hm
                obtain ⟨w0, _, F1, F2, rfl, ⟨j, us2, G2, rfl, c1, c2, c5⟩, rfl, c3, c4⟩ := ha
                have := b2.append (c2.af hlt.2 (fun _ => False)) (H := G) (fun x hx => ⟨hx, fun h => h⟩) (fun x hx => hx.elim)
                obtain ⟨Fs', d1, d2, d3, d4, d5⟩ := b4 hp this (fun x hx => .inl hx) hA (fun _ => List.prefix_append _ _)
                refine ⟨.non, _, Fs', fun _ => False, ?_, d1, d2, rfl, .none, d4⟩
                unfold meth
                simp only [b1, c1]
                rw [if_pos (by rw [← hl0, ← c2.len]; exact hlt.1)]
              · cases hm
            · split at hm
              · rename_i y hy
                cases hm
                cases ha
                obtain ⟨w0, F1, F2, c1, c2, c3, c4, c5⟩ := b2.erase hy
                have hd : xs.eraseIdx (xs.length - 1) = xs.dropLast := List.eraseIdx_length_sub_one
                have hd' : us.eraseIdx (xs.length - 1) = us.dropLast := by rw [hl0]; exact List.eraseIdx_length_sub_one
                rw [hd, hd'] at c3
                obtain ⟨Fs', d1, d2, d3, d4, d5⟩ := b4 hp c3 (fun x hx => .inl (c5 x hx)) hA (fun q => by rw [← hdp] at q; cases q)
                refine ⟨w0, _, Fs', F1, ?_, d1, d2, d5 c2 (fun x hx => .inl (c4 x hx).1), fun x hx => ⟨d3 x (c4 x hx).1 (c4 x hx).2, ?_, ?_, b3 x (c4 x hx).1⟩, d4⟩
                · unfold meth
                  simp only [b1]
                  rw [← hl0, c1]
                · obtain ⟨i, q⟩ := b3 x (c4 x hx).1; exact (k.nz i x q).1
                · obtain ⟨i, q⟩ := b3 x (c4 x hx).1; rw [List.length_set]; exact (k.nz i x q).2
              · cases hm
            · split at hm
              · rename_i i hb
                split at hm
                · rename_i y hy
                  cases hm
                  obtain ⟨w1, _, G1, G2, rfl, rfl, rfl, _, _⟩ := ha
                  obtain ⟨w0, F1, F2, c1, c2, c3, c4, c5⟩ := b2.erase hy
                  obtain ⟨Fs', d1, d2, d3, d4, d5⟩ := b4 hp c3 (fun x hx => .inl (c5 x hx)) hA (fun q => by rw [← hdp] at q; cases q)
                  refine ⟨w0, _, Fs', F1, ?_, d1, d2, d5 c2 (fun x hx => .inl (c4 x hx).1), fun x hx => ⟨d3 x (c4 x hx).1 (c4 x hx).2, ?_, ?_, b3 x (c4 x hx).1⟩, d4⟩
                  · unfold meth
                    simp only [b1]
                    rw [if_pos hb, c1]
                  · obtain ⟨i, q⟩ := b3 x (c4 x hx).1; exact (k.nz i x q).1
                  · obtain ⟨i, q⟩ := b3 x (c4 x hx).1; rw [List.length_set]; exact (k.nz i x q).2
                · cases hm
              · cases hm
            · split at hm
              · rename_i i y hlt
                cases hm
                obtain ⟨w1, _, G1, G2, rfl, rfl, ⟨w0, _, F1, F2, rfl, c1, rfl, c3, c4⟩, g1, g2⟩ := ha
                obtain ⟨H1, H2, e1, e2, e3, e4⟩ := b2.split i.toNat
                have aF : ∀ x, F1 x → A x := fun x hx => g2 x (c3 x hx).1
                have q1 := e1.append (Rps.one c1) (H := fun x => H1 x ∨ F1 x) (fun x hx => ⟨.inl hx, fun q => (hA x (aF x q)).1 (b3 x (e3 x hx).1)⟩) (fun x hx => .inr hx)
                have q2 := q1.append e2 (H := fun x => G x ∨ A x) (fun x hx => ⟨hx.elim (fun q => .inl (e3 x q).1) (fun q => .inr (aF x q)), fun q => hx.elim (fun q' => (e3 x q').2 q) (fun q' => (hA x (aF x q')).1 (b3 x (e4 x q)))⟩) (fun x hx => .inl (e4 x hx))
                obtain ⟨Fs', d1, d2, d3, d4, d5⟩ := b4 hp q2 (fun x hx => hx) hA (fun q => by rw [← hdp] at q; cases q)
                refine ⟨.non, _, Fs', fun _ => False, ?_, d1, d2, rfl, .none, d4⟩
                unfold meth
                simp only [b1]
                rw [if_pos (by rw [← hl0]; exact hlt)]
              · cases hm
            · cases hm
              cases ha
              obtain ⟨Fs', d1, d2, d3, d4, d5⟩ := b4 hp b2.reverse (fun x hx => .inl hx) hA (fun q => by rw [← hdp] at q; cases q)
              refine ⟨.non, _, Fs', fun _ => False, ?_, d1, d2, rfl, .none, d4⟩
              unfold meth
              simp only [b1]
            · cases hm
          · cases hm
  · cases e
end
end Tv
namespace Tv
open Mi
open PySem hiding Env Ctx
section
variable {S S' S'' : Store} {Z Z' Z'' : Ad} {s s' : St} {ρ : Env} {pv : List Val} {Fs Fs' Fs'' : Nat → Ad} {A B B' F G G1 G2 : Ad}
theorem kpos_none {κ : Type} [DecidableEq κ] : ∀ {ks : List κ} {k : κ}, kpos ks k = none → k ∉ ks
  | [], _, _ => by simp
  | a :: ks, k, e => by
    unfold kpos at e
    split at e
    · cases e
    · rename_i h
      have : kpos ks k = none := by
        cases h2 : kpos ks k with
        | none => rfl
        | some j => rw [h2] at e; cases e
      have ih := kpos_none this
      intro hm
      rcases List.mem_cons.mp hm with q | q -- (here)
      · exact h q.symm
      · exact ih q
theorem put_new {κ : Type} [DecidableEq κ] {ks : List κ} {us : List Val} {k : κ} {v : Val} (h : KL ks us) (e : kpos ks k = none) : Mi.put (ks.zip us) k v = (ks ++ [k]).zip (us ++ [v]) ∧ KL (ks ++ [k]) (us ++ [v]) := by
  have hn := kpos_none e
  refine ⟨?_, by rw [List.length_append, List.length_append, h.1]; rfl, ?_⟩
  · unfold Mi.put
    have : ((ks.zip us).any fun kv => decide (kv.1 = k)) = false := by
      rw [List.any_eq_false]
      intro x hx
      have : x.1 ∈ ks := (List.of_mem_zip (a := x.1) (b := x.2) hx).1
      intro q
      simp at q
      rw [q] at this
      exact hn this
    rw [this, if_neg (by decide), List.zip_append h.1]
    rfl
  · rw [List.nodup_append]
    exact ⟨h.2, by simp, fun x hx y hy q => by simp at hy; subst hy; subst q; exact hn hx⟩
theorem put_old {κ : Type} [DecidableEq κ] {k : κ} {v : Val} : ∀ {ks : List κ} {us : List Val} {j : Nat}, KL ks us → kpos ks k = some j → Mi.put (ks.zip us) k v = ks.zip (us.set j v)
  | [], _, _, _, e => by cases e
  | a :: ks, [], _, h, _ => by cases h.1
  | a :: ks, u :: us, j, h, e => by
    have hk : KL ks us := ⟨Nat.succ.inj h.1, (List.nodup_cons.mp h.2).2⟩
    unfold kpos at e
    by_cases ha : a = k
    · rw [if_pos ha] at e
      cases e
      subst ha
      have hn := (List.nodup_cons.mp h.2).1
      unfold Mi.put
      rw [List.zip_cons_cons, List.any_cons, if_pos (by simp), List.map_cons, List.set_cons_zero, List.zip_cons_cons, if_pos rfl]
      congr 1
      have : ∀ x ∈ ks.zip us, (if x.1 = a then (x.1, v) else x) = x := by
        intro x hx
        have : x.1 ∈ ks := (List.of_mem_zip (a := x.1) (b := x.2) hx).1
        rw [if_neg (fun q => hn (by rw [← q]; exact this))]
      rw [List.map_congr_left this, List.map_id']
    · rw [if_neg ha] at e
      obtain ⟨j', h1, rfl⟩ := Option.map_eq_some_iff.mp e
      have ih := put_old (v := v) hk h1
      unfold Mi.put at ih ⊢
      have hany : ((ks.zip us).any fun kv => decide (kv.1 = k)) = true := by
        have := kpos_lt h1
        rw [List.any_eq_true]
        have hl : j' < (ks.zip us).length := by rw [List.length_zip, ← hk.1, Nat.min_self]; exact this.1
        refine ⟨(ks.zip us)[j'], List.getElem_mem hl, ?_⟩
        rw [List.getElem_zip]
        have h2 := this.2
        rw [List.getElem?_eq_getElem this.1] at h2
        simp only [decide_eq_true_eq]
        exact Option.some.inj h2
      rw [if_pos hany] at ih
      rw [List.zip_cons_cons, List.any_cons, hany, Bool.or_true, if_pos rfl, List.map_cons, List.set_cons_succ, List.zip_cons_cons, ih, if_neg ha]
theorem tset_ok {u : V2} {v kv yv : Val} {kt y : T} (k : OK S Z s ρ pv Fs) (h : V1 S Z ρ u v F) (hk : Rp S Z kt kv G) (hy : Rp S Z y yv A) (hA : Ow S Z Fs B A) (e : tset u kt y s = some s') :
    ∃ S' Fs', setop S v kv yv = some S' ∧ OK S' Z s' ρ pv Fs' ∧ TrB S Z Fs A S' Z Fs' ∧ s'.β.length = s.β.length := by
  unfold tset at e
  split at e
  · rename_i r p
    cases hl : look s (.vw r p) with
    | none => rw [hl] at e; cases e
    | some c =>
      rw [hl] at e
      simp only at e
      cases hm : tsetop c kt y with
      | none => rw [hm] at e; cases e
      | some t' =>
        rw [hm] at e
        simp only at e
        unfold tsetop at hm
        have dict : ∀ {a : Nat} {ob' : Ob} {F' F1 : Ad}, v = .ref a → F1 a → (∀ {c' : T} {s' : St} {deep : Bool} {S' : Store} {F' : Ad}, s.put r p c' deep = some s' → S'.length = S.length → (∀ x, x < S.length → ¬ F1 x → S'[x]? = S[x]?) → Rp S' Z c' v F' → (∀ x, F' x → F1 x ∨ A x) → Ow S Z Fs B A →
            (deep = false → ∀ i, vkids S (.ref i) <+: vkids S' (.ref i)) → ∃ Fs', OK S' Z s' ρ pv Fs' ∧ TrB S Z Fs A S' Z Fs' ∧ (∀ x, U Fs' x → (U Fs x ∧ ¬ F1 x) ∨ F' x) ∧ s'.β.length = s.β.length) →
            Rp (S.set a ob') Z t' (.ref a) F' → (∀ x, F' x → F1 x ∨ A x) → ∃ Fs', OK (S.set a ob') Z s' ρ pv Fs' ∧ TrB S Z Fs A (S.set a ob') Z Fs' ∧ s'.β.length = s.β.length := by
          intro a ob' F' F1 hv ha hput hr hF
          subst hv
          obtain ⟨Fs', c1, c2, _, c4⟩ := hput (S' := S.set a ob') e (by simp) (fun x _ hx => List.getElem?_set_ne fun q => hx (by rw [← q]; exact ha)) hr hF hA (fun q => by cases q)
          exact ⟨Fs', c1, c2, c4⟩
        split at hm
        · rename_i xs
          split at hm
          · obtain ⟨j, e1, rfl⟩ := Option.map_eq_some_iff.mp hm
            cases hk
            obtain ⟨a, us, G', rfl, b1, b2, b3, b4⟩ := list_put (A := A) (B := B) k h hl
            have hj := ixN_lt e1
            obtain ⟨u0, F1, c1, c2, c3, c4⟩ := b2.item (List.getElem?_eq_getElem hj)
            have := c4 (S' := S) (Z' := Z) (c' := y) (u' := yv) (F' := A) (fun _ _ => rfl) (fun _ h => h) hy (fun x hx q => (hA x hx).1 (b3 x q.1))
            obtain ⟨Fs', d1, d2, d3, d4, d5⟩ := b4 e this (fun x hx => hx.imp (fun q => q.1) id) hA (fun q => by cases q)
            refine ⟨_, Fs', ?_, d1, d2, d4⟩
            unfold setop
            simp only [b1]
            rw [← b2.len, e1]
            rfl
          · cases hm
        · rename_i ks xs
          split at hm
          · rename_i hlt
            obtain ⟨kk, e1, e2⟩ := Option.map_eq_some_iff.mp hm
            obtain ⟨F1, a1, a2, a3⟩ := put_ok (A := A) (B := B) k h hl
            obtain ⟨a, us, G', rfl, b1, b2, b3, b4⟩ := a1
            have b5 := own_nd b4
            have haZ : ¬ Z a := (k.nz r a (a2 a b5.1)).1
            have haA : ¬ A a := fun q => (hA a q).1 ⟨r, a2 a b5.1⟩
            have g3 : ∀ x, G' x → U Fs x := fun x hx => ⟨r, a2 x (b5.2 x hx).1⟩
            have pres : ∀ {ob' : Ob} {ts : List T} {vs : List Val} {H : Ad}, Rps S Z ts vs H → (∀ x, H x → G' x ∨ A x) → Rps (S.set a ob') Z ts vs H := fun {ob' ts vs H} hh hH =>
              hh.st (fun x hx => List.getElem?_set_ne (fun e => by
                subst e
                rcases hx with hx | hx
                · exact (hH a hx).elim (fun q => (b5.2 a q).2 rfl) haA
                · exact haZ hx)) fun _ h => h
            have hlen : (ks.zip us).length = ks.length := by rw [List.length_zip, ← b2.1, Nat.min_self]
            cases hp : kpos ks kk with
            | some j =>
              rw [hp] at e2
              have e2' : T.dK true ks (xs.set j y) = t' := e2
              subst e2'
              have hj : j < xs.length := by rw [b3.len, ← b2.1]; exact (kpos_lt hp).1
              obtain ⟨u0, F2, c1, c2, c3, c4⟩ := b3.item (List.getElem?_eq_getElem hj)
              have key := c4 (S' := S) (Z' := Z) (c' := y) (u' := yv) (F' := A) (fun _ _ => rfl) (fun _ h => h) hy (fun x hx q => (hA x hx).1 (g3 x q.1))
              have key2 := pres (ob' := .dK (ks.zip (us.set j yv))) key (fun x hx => hx.imp (fun q => q.1) id)
              obtain ⟨Fs', d1, d2, d3⟩ := dict (ob' := .dK (ks.zip (us.set j yv))) (F' := fun x => x = a ∨ ((G' x ∧ ¬ F2 x) ∨ A x)) rfl b5.1 a3 ⟨a, us.set j yv, _, rfl, List.getElem?_set_self (get_lt b1), ⟨by rw [List.length_set]; exact b2.1, b2.2⟩, key2, nd_own (.inl rfl) fun x hx => ⟨.inr hx, fun q => by
                  subst q
                  exact hx.elim (fun q => (b5.2 x q.1).2 rfl) haA⟩⟩ (fun x hx => hx.elim (fun q => .inl (by rw [q]; exact b5.1)) (fun q => q.imp (fun q => (b5.2 x q.1).1) id))
              refine ⟨_, Fs', ?_, d1, d2, d3⟩
              unfold setop
              simp only [b1]
              rw [if_pos (by rw [hlen]; exact hlt), tkey_ok hk e1]
              simp only [Option.map_some, put_old b2 hp]
            | none =>
              rw [hp] at e2
              have e2' : T.dK true (ks ++ [kk]) (xs ++ [y]) = t' := e2
              subst e2'
              obtain ⟨p1, p2⟩ := put_new (v := yv) b2 hp
              have key := b3.append (Rps.one hy) (H := fun x => G' x ∨ A x) (fun x hx => ⟨.inl hx, fun q => (hA x q).1 (g3 x hx)⟩) (fun x hx => .inr hx)
              have key2 := pres (ob' := .dK ((ks ++ [kk]).zip (us ++ [yv]))) key (fun x hx => hx)
              obtain ⟨Fs', d1, d2, d3⟩ := dict (ob' := .dK ((ks ++ [kk]).zip (us ++ [yv]))) (F' := fun x => x = a ∨ (G' x ∨ A x)) rfl b5.1 a3 ⟨a, us ++ [yv], _, rfl, List.getElem?_set_self (get_lt b1), p2, key2, nd_own (.inl rfl) fun x hx => ⟨.inr hx, fun q => by
                  subst q
                  exact hx.elim (fun q => (b5.2 x q).2 rfl) haA⟩⟩ (fun x hx => hx.elim (fun q => .inl (by rw [q]; exact b5.1)) (fun q => q.imp (fun q => (b5.2 x q).1) id))
              refine ⟨_, Fs', ?_, d1, d2, d3⟩
              unfold setop
              simp only [b1]
              rw [if_pos (by rw [hlen]; exact hlt), tkey_ok hk e1]
              simp only [Option.map_some, p1]
          · cases hm
        · rename_i ks xs
          split at hm
          · rename_i hlt
            obtain ⟨kk, e1, e2⟩ := Option.map_eq_some_iff.mp hm
            obtain ⟨F1, a1, a2, a3⟩ := put_ok (A := A) (B := B) k h hl
            obtain ⟨a, us, G', rfl, b1, b2, b3, b4⟩ := a1
            have b5 := own_nd b4
            have haZ : ¬ Z a := (k.nz r a (a2 a b5.1)).1
            have haA : ¬ A a := fun q => (hA a q).1 ⟨r, a2 a b5.1⟩
            have g3 : ∀ x, G' x → U Fs x := fun x hx => ⟨r, a2 x (b5.2 x hx).1⟩
            have pres : ∀ {ob' : Ob} {ts : List T} {vs : List Val} {H : Ad}, Rps S Z ts vs H → (∀ x, H x → G' x ∨ A x) → Rps (S.set a ob') Z ts vs H := fun {ob' ts vs H} hh hH =>
              hh.st (fun x hx => List.getElem?_set_ne (fun e => by
                subst e
                rcases hx with hx | hx
                · exact (hH a hx).elim (fun q => (b5.2 a q).2 rfl) haA
                · exact haZ hx)) fun _ h => h
            have hlen : (ks.zip us).length = ks.length := by rw [List.length_zip, ← b2.1, Nat.min_self]
            cases hp : kpos ks kk with
            | some j =>
              rw [hp] at e2
              have e2' : T.dT true ks (xs.set j y) = t' := e2
              subst e2'
              have hj : j < xs.length := by rw [b3.len, ← b2.1]; exact (kpos_lt hp).1
              obtain ⟨u0, F2, c1, c2, c3, c4⟩ := b3.item (List.getElem?_eq_getElem hj)
              have key := c4 (S' := S) (Z' := Z) (c' := y) (u' := yv) (F' := A) (fun _ _ => rfl) (fun _ h => h) hy (fun x hx q => (hA x hx).1 (g3 x q.1))
              have key2 := pres (ob' := .dT (ks.zip (us.set j yv))) key (fun x hx => hx.imp (fun q => q.1) id)
              obtain ⟨Fs', d1, d2, d3⟩ := dict (ob' := .dT (ks.zip (us.set j yv))) (F' := fun x => x = a ∨ ((G' x ∧ ¬ F2 x) ∨ A x)) rfl b5.1 a3 ⟨a, us.set j yv, _, rfl, List.getElem?_set_self (get_lt b1), ⟨by rw [List.length_set]; exact b2.1, b2.2⟩, key2, nd_own (.inl rfl) fun x hx => ⟨.inr hx, fun q => by
                  subst q
                  exact hx.elim (fun q => (b5.2 x q.1).2 rfl) haA⟩⟩ (fun x hx => hx.elim (fun q => .inl (by rw [q]; exact b5.1)) (fun q => q.imp (fun q => (b5.2 x q.1).1) id))
              refine ⟨_, Fs', ?_, d1, d2, d3⟩
              unfold setop
              simp only [b1]
              rw [if_pos (by rw [hlen]; exact hlt), tkeys_ok hk e1]
              simp only [Option.map_some, put_old b2 hp]
            | none =>
              rw [hp] at e2
              have e2' : T.dT true (ks ++ [kk]) (xs ++ [y]) = t' := e2
              subst e2'
              obtain ⟨p1, p2⟩ := put_new (v := yv) b2 hp
              have key := b3.append (Rps.one hy) (H := fun x => G' x ∨ A x) (fun x hx => ⟨.inl hx, fun q => (hA x q).1 (g3 x hx)⟩) (fun x hx => .inr hx)
              have key2 := pres (ob' := .dT ((ks ++ [kk]).zip (us ++ [yv]))) key (fun x hx => hx)
              obtain ⟨Fs', d1, d2, d3⟩ := dict (ob' := .dT ((ks ++ [kk]).zip (us ++ [yv]))) (F' := fun x => x = a ∨ (G' x ∨ A x)) rfl b5.1 a3 ⟨a, us ++ [yv], _, rfl, List.getElem?_set_self (get_lt b1), p2, key2, nd_own (.inl rfl) fun x hx => ⟨.inr hx, fun q => by
                  subst q
                  exact hx.elim (fun q => (b5.2 x q).2 rfl) haA⟩⟩ (fun x hx => hx.elim (fun q => .inl (by rw [q]; exact b5.1)) (fun q => q.imp (fun q => (b5.2 x q).1) id))
              refine ⟨_, Fs', ?_, d1, d2, d3⟩
              unfold setop
              simp only [b1]
              rw [if_pos (by rw [hlen]; exact hlt), tkeys_ok hk e1]
              simp only [Option.map_some, p1]
          · cases hm
        · cases hm
  · cases e
end
end Tv
namespace Tv
open Mi
open PySem hiding Env Ctx
section
variable {S S' S'' : Store} {Z Z' Z'' : Ad} {s s' : St} {ρ ρ' : Env} {pv : List Val} {Fs Fs' Fs'' : Nat → Ad} {A B B' F G G1 G2 : Ad}
/-! ### u[i] -/
theorem vAt_snoc : ∀ {p : List Nat} {w v : Val} {k : Nat}, vAt S w p = some v → vAt S w (p ++ [k]) = (vkids S v)[k]?
  | [], w, v, k, e => by
    cases e
    show (match (vkids S w)[k]? with | some u => vAt S u [] | none => none) = _
    cases (vkids S w)[k]? <;> rfl
  | j :: p, w, v, k, e => by
    rw [List.cons_append]
    unfold vAt at e ⊢
    cases h : (vkids S w)[j]? with
    | none => rw [h] at e; cases e
    | some u => rw [h] at e; exact vAt_snoc e
theorem tAt_snoc : ∀ {p : List Nat} {t c : T} {k : Nat}, tAt t p = some c → tAt t (p ++ [k]) = (tkids c)[k]?
  | [], t, c, k, e => by
    cases e
    show (match (tkids t)[k]? with | some u => tAt u [] | none => none) = _
    cases (tkids t)[k]? <;> rfl
  | j :: p, w, v, k, e => by
    rw [List.cons_append]
    unfold tAt at e ⊢
    cases h : (tkids w)[j]? with
    | none => rw [h] at e; cases e
    | some u => rw [h] at e; exact tAt_snoc e
theorem look_vw {r : Nat} {p : List Nat} : look s (.vw r p) = match s.at r with | some t => tAt t p | none => none := rfl
theorem look_snoc {r k : Nat} {p : List Nat} {c : T} (h : look s (.vw r p) = some c) : look s (.vw r (p ++ [k])) = (tkids c)[k]? := by
  rw [look_vw] at h ⊢
  cases e : s.at r with
  | none => (rw [e] at h; cases h)
  | some t => rw [e] at h; exact tAt_snoc h
/-- a kid of what is seen -/
theorem kid_ok {u : V2} {v : Val} {t d : T} {k : Nat} (ok : OK S Z s ρ pv Fs) (h : V1 S Z ρ u v F) (hl : look s u = some t) (hk : (tkids t)[k]? = some d) :
    ∃ w F', (vkids S v)[k]? = some w ∧ V1 S Z ρ (match u with | .own _ => .own d | .vw r p => seen d r (p ++ [k])) w F' ∧ ∀ x, F' x → F x := by
  cases u with
  | own t' =>
    cases hl
    obtain ⟨G, g1, g2, _⟩ := Rp.kids h
    obtain ⟨w, F1, a1, a2, a3, _⟩ := g1.item hk
    exact ⟨w, F1, a1, a2, fun x hx => g2 x (a3 x hx)⟩
  | vw r p =>
    obtain ⟨F0, a1, _⟩ := h.look ok hl
    obtain ⟨w, h1, h2⟩ := h
    obtain ⟨G, g1, g2, _⟩ := a1.kids
    obtain ⟨y, F1, b1, b2, b3, _⟩ := g1.item hk
    exact ⟨y, fun _ => False, b1, seen_ok ok h1 (by rw [vAt_snoc h2]; exact b1) (by rw [look_snoc hl]; exact hk), fun _ h => h.elim⟩
theorem tsub_ok {u u' : V2} {v kv : Val} {kt : T} (ok : OK S Z s ρ pv Fs) (h : V1 S Z ρ u v F) (hk : Rp S Z kt kv G) (e : tsub s u kt = some u') : ∃ w F', item S v kv = some w ∧ V1 S Z ρ u' w F' ∧ ∀ x, F' x → F x := by
  unfold tsub at e
  cases hl : look s u with
  | none => rw [hl] at e; cases e
  | some t =>
    rw [hl] at e
    simp only at e
    obtain ⟨F0, a1, _⟩ := h.look ok hl
    cases hs : tsign t kt with
    | some d =>
      rw [hs] at e
      cases e
      obtain ⟨w, b1, b2⟩ := tsign_ok a1 hk hs
      exact ⟨w, fun _ => False, b1, b2, fun _ h => h.elim⟩
    | none =>
      rw [hs] at e
      simp only at e
      cases hx : tixp t kt with
      | none => rw [hx] at e; cases e
      | some k =>
        rw [hx] at e
        simp only at e
        cases hc : (tkids t)[k]? with
        | none => rw [hc] at e; cases e
        | some d =>
          rw [hc] at e
          simp only at e
          obtain ⟨w, F', b1, b2, b3⟩ := kid_ok ok h hl hc
          have hi := tixp_ok a1 hk (fun x q => by subst q; cases hx) hx
          refine ⟨w, F', by rw [hi]; exact b1, ?_, b3⟩
          cases u with
          | own _ => cases e; exact b2
          | vw r p => cases e; exact b2
/-! ### targets -/
theorem V1.env {u : V2} {v : Val} (h : V1 S Z ρ u v F) (hr : ∀ r p, u = .vw r p → ρ'[r]? = ρ[r]?) : V1 S Z ρ' u v F := by
  cases u with
  | own t => exact h
  | vw r p =>
    obtain ⟨w, h1, h2⟩ := h
    exact ⟨w, by rw [hr r p rfl]; exact h1, h2⟩
theorem Vs.env : ∀ {us : List V2} {vs : List Val} {F : Ad}, Vs S Z ρ us vs F → (∀ r p, V2.vw r p ∈ us → ρ'[r]? = ρ[r]?) → Vs S Z ρ' us vs F
  | [], _, _, h, _ => h
  | u :: us, _, _, ⟨v, r, F1, F2, h1, h2, h3, h4, h5⟩, hr => ⟨v, r, F1, F2, h1, h2.env fun r p e => hr r p (by rw [e]; exact List.mem_cons_self), h3.env fun r p hm => hr r p (List.mem_cons_of_mem _ hm), h4, h5⟩
/-- what laying does: no object is touched -/
structure Ly (S : Store) (Z : Ad) (Fs : Nat → Ad) (F : Ad) (P : List Nat) (sl : List Nat) (ρ ρ' : Env) (pv : List Val) (s' : St) (Fs' : Nat → Ad) : Prop where
  ok : OK S Z s' ρ' pv Fs'
  fs : ∀ x, U Fs' x → U Fs x ∨ F x
  pr : ∀ p ∈ P, ρ'[p]? = ρ[p]?
  sl : ∀ i, i ∉ sl → ρ'[i]? = ρ[i]?
  ln : ρ'.length = ρ.length
theorem zip_kids {xs : List T} {r : Nat} {p : List Nat} {c : T} {v : Val} (ok : OK S Z s ρ pv Fs) (h : V1 S Z ρ (.vw r p) v F) (hl : look s (.vw r p) = some c) (hx : tkids c = xs) : Vs S Z ρ (xs.zipIdx.map fun d => seen d.1 r (p ++ [d.2])) (vkids S v) (fun _ => False) := by
  have key : ∀ (ys : List T) (j : Nat) (us : List Val), (∀ (i : Nat), (tkids c)[j + i]? = ys[i]?) → (∀ (i : Nat), (vkids S v)[j + i]? = us[i]?) → Vs S Z ρ ((ys.zipIdx j).map fun d => seen d.1 r (p ++ [d.2])) us (fun _ => False) := by
    intro ys
    induction ys with
    | nil =>
      intro j us h1 h2
      obtain ⟨F0, a1, _⟩ := h.look ok hl
      obtain ⟨G, g1, _⟩ := a1.kids
      cases us with
      | nil => rfl
      | cons u us =>
        have e1 := h1 0
        have e2 := h2 0
        rw [g1.none (by rw [e1]; rfl)] at e2
        cases e2
    | cons y ys ih =>
      intro j us h1 h2
      obtain ⟨w, F', b1, b2, b3⟩ := kid_ok (F := fun _ => False) (k := j) (d := y) ok (show V1 S Z ρ (.vw r p) v (fun _ => False) from h) hl (by have := h1 0; simpa using this)
      cases us with
      | nil => have e2 := h2 0; rw [Nat.add_zero, b1] at e2; cases e2
      | cons u us =>
        have e2 := h2 0
        rw [Nat.add_zero, b1] at e2
        cases e2
        rw [List.zipIdx_cons, List.map_cons]; refine ⟨_, _, fun _ => False, fun _ => False, rfl, ?_, ih (j + 1) us (fun i => ?_) (fun i => ?_), fun _ h => h.elim, fun _ h => h⟩
        · cases hs : seen y r (p ++ [j]) with
          | own t' => simp only [hs] at b2; exact Rp.mono b2 (fun x hx => b3 x hx)
          | vw r' p' => simp only [hs] at b2; exact b2
        · have := h1 (i + 1)
          rw [show j + (i + 1) = j + 1 + i by omega] at this
          rw [this]; rfl
        · have := h2 (i + 1)
          rw [show j + (i + 1) = j + 1 + i by omega] at this
          rw [this]; rfl
  exact key xs 0 _ (fun i => by rw [Nat.zero_add, hx]) (fun i => by rw [Nat.zero_add])
theorem own_kids : ∀ {xs : List T} {us : List Val} {F : Ad}, Rps S Z xs us F → Vs S Z ρ (xs.map V2.own) us F
  | [], _, _, h => h
  | _ :: _, _, _, ⟨u, r, F1, F2, h1, h2, h3, h4, h5⟩ => ⟨u, r, F1, F2, h1, h2, own_kids h3, h4, h5⟩
mutual
theorem tlay_ok {P : List Nat} : ∀ (t : Tg) {u : V2} {v : Val} {s s' : St} {ρ : Env} {Fs : Nat → Ad} {F : Ad}, OK S Z s ρ pv Fs → V1 S Z ρ u v F → Ow S Z Fs B F → tlay P t u s = some s' → ∃ ρ' Fs', lay S t v ρ = some ρ' ∧ Ly S Z Fs F P (slots t) ρ ρ' pv s' Fs'
  | .name i, u, v, s, s', ρ, Fs, F, ok, h, o, e => by
    unfold tlay at e
    split at e
    · cases e
    · rename_i hP
      have hs : slots (.name i) = [i] := by unfold slots; rfl
      have pr : ∀ p ∈ P, (ρ.set i (some v))[p]? = ρ[p]? := fun p hp => List.getElem?_set_ne (fun q => hP (by rw [q]; exact hp))
      have ot : ∀ j, j ∉ slots (.name i) → (ρ.set i (some v))[j]? = ρ[j]? := fun j hj => List.getElem?_set_ne (fun q => hj (by rw [hs, q]; exact List.mem_cons_self))
      have ne : ∀ j, j ≠ i → (ρ.set i (some v))[j]? = ρ[j]? := fun j hj => List.getElem?_set_ne (fun q => hj q.symm)
      split at e
      · rename_i t
        cases e
        by_cases hi : i < ρ.length
        · exact ⟨_, upF Fs i F, lay_name .., ok.setS (by simp) ne (fun t' q => by cases q; exact ⟨v, List.getElem?_set_self hi, h⟩) (fun x hx => ⟨(o x hx).2.1, (o x hx).2.2.1, fun j _ q => (o x hx).1 ⟨j, q⟩⟩), fun x hx => U_upF hx, pr, ot, by simp⟩
        · have e2 : s.setS i (some t) = s.setS i none := by unfold St.setS; rw [List.set_eq_of_length_le (by rw [ok.len]; omega), List.set_eq_of_length_le (by rw [ok.len]; omega)]
          rw [e2]
          exact ⟨_, upF Fs i (fun _ => False), lay_name .., ok.setS (by simp) ne (fun t' q => by cases q) (fun x hx => hx.elim), fun x hx => (U_upF hx).imp id False.elim, pr, ot, by simp⟩
      · rename_i r p
        split at e
        · cases e
        · rename_i hc
          cases e
          have hri : r ≠ i := fun q => hc (.inl q)
          have hil : i < ρ.length := by
            by_cases hi : i < s.τ.length
            · rw [ok.len] at hi; exact hi
            · exact absurd (.inr (.inl hi)) hc
          have hat : ∃ t, s.at r = some t := by
            cases hr : s.at r with
            | none => exact absurd (.inr (.inr (by rw [hr]; rfl))) hc
            | some t => exact ⟨t, rfl⟩
          have k := ok.setS (o := none) (G := fun _ => False) (r := i) (ρ' := ρ.set i (some v)) (by simp) ne (fun t' q => by cases q) (fun x hx => hx.elim)
          obtain ⟨w, h1, h2⟩ := h
          refine ⟨_, upF Fs i (fun _ => False), lay_name .., ⟨k.len, k.rep, k.dj, k.nz, k.zl, fun x r' p' hm => ?_, k.bn, k.bl⟩, fun x hx => (U_upF hx).imp id False.elim, pr, ot, by simp⟩
          rcases List.mem_cons.mp hm with hm | hm
          · cases hm
            refine ⟨w, v, by rw [ne _ hri]; exact h1, h2, List.getElem?_set_self hil, ?_⟩
            obtain ⟨t, ht⟩ := hat
            exact ⟨t, by show (s.setS i none).at r = _; unfold St.setS; rw [at_set, if_neg fun q => hri q.symm]; exact ht⟩
          · exact k.al x r' p' hm
  | .tup ts, u, v, s, s', ρ, Fs, F, ok, h, o, e => by
    unfold tlay at e
    cases hl : look s u with
    | none => rw [hl] at e; cases e
    | some t =>
      rw [hl] at e
      simp only at e
      cases hq : tseq t with
      | none => rw [hq] at e; cases e
      | some xs =>
        rw [hq] at e
        simp only at e
        obtain ⟨F0, a1, _⟩ := h.look ok hl
        obtain ⟨b1, rfl⟩ := tseq_ok a1 hq
        have hs : slots (.tup ts) = slotss ts := by rw [slots]
        have hv : Vs S Z ρ (match (generalizing := false) u with | .own _ => (tkids t).map V2.own | .vw r p => (tkids t).zipIdx.map fun d => seen d.1 r (p ++ [d.2])) (vkids S v) F := by
          cases u with
          | own t' =>
            cases hl
            obtain ⟨G, g1, g2, _⟩ := Rp.kids h
            exact own_kids (g1.mono g2)
          | vw r p =>
            have := zip_kids ok h hl rfl
            have mono : ∀ {us : List V2} {vs : List Val}, Vs S Z ρ us vs (fun _ => False) → Vs S Z ρ us vs F := by
              intro us
              induction us with
              | nil => intro vs h; exact h
              | cons u us ih =>
                intro vs ⟨v, r, F1, F2, h1, h2, h3, h4, h5⟩
                exact ⟨v, r, F1, F2, h1, h2, h3, fun x hx => (h4 x hx).1.elim, fun x hx => (h5 x hx).elim⟩
            exact mono this
        obtain ⟨ρ', Fs', c1, c2⟩ := tlays_ok ts ok hv o e
        refine ⟨ρ', Fs', by rw [lay_tup, b1]; exact c1, by rw [hs]; exact c2⟩
theorem tlays_ok {P : List Nat} : ∀ (ts : List Tg) {us : List V2} {vs : List Val} {s s' : St} {ρ : Env} {Fs : Nat → Ad} {F : Ad}, OK S Z s ρ pv Fs → Vs S Z ρ us vs F → Ow S Z Fs B F → tlays P ts us s = some s' → ∃ ρ' Fs', lays S ts vs ρ = some ρ' ∧ Ly S Z Fs F P (slotss ts) ρ ρ' pv s' Fs'
  | [], us, vs, s, s', ρ, Fs, F, ok, h, o, e => by
    cases us with
    | nil =>
      unfold tlays at e
      cases e
      cases h
      exact ⟨ρ, Fs, lays_nil .., ok, fun _ h => .inl h, fun _ _ => rfl, fun _ _ => rfl, rfl⟩
    | cons u us => unfold tlays at e; cases e
  | t :: ts, us, vs, s, s', ρ, Fs, F, ok, h, o, e => by
    cases us with
    | nil => unfold tlays at e; cases e
    | cons u us =>
      unfold tlays at e
      split at e
      · rename_i hv
        obtain ⟨v, r, F1, F2, rfl, h2, h3, h4, h5⟩ := h
        cases e1 : tlay P t u s with
        | none => rw [e1] at e; cases e
        | some s1 =>
          rw [e1] at e
          obtain ⟨ρ1, Fs1, a1, a2⟩ := tlay_ok t ok h2 (o.mono fun x hx => (h4 x hx).1) e1
          have o2 : Ow S Z Fs1 B F2 := fun x hx => ⟨fun q => (a2.fs x q).elim (o x (h5 x hx)).1 (fun q => (h4 x q).2 hx), (o x (h5 x hx)).2⟩
          have h3' : Vs S Z ρ1 us r F2 := h3.env fun r' p hm => a2.sl r' fun q => by
            have := List.all_eq_true.mp hv _ hm
            simp at this
            exact this q
          obtain ⟨ρ2, Fs2, b1, b2⟩ := tlays_ok ts a2.ok h3' o2 e
          have hs : slotss (t :: ts) = slots t ++ slotss ts := by rw [slotss]
          refine ⟨ρ2, Fs2, by rw [lays_cons, a1]; exact b1, b2.ok, fun x hx => ?_, fun p hp => (b2.pr p hp).trans (a2.pr p hp), fun i hi => ?_, b2.ln.trans a2.ln⟩
          · rcases b2.fs x hx with q | q
            · exact (a2.fs x q).imp id fun q => (h4 x q).1
            · exact .inr (h5 x q)
          · rw [hs, List.mem_append] at hi
            exact (b2.sl i fun q => hi (.inr q)).trans (a2.sl i fun q => hi (.inl q))
      · cases e
end
end
end Tv
namespace Tv
open Mi
open PySem hiding Env Ctx
section
variable {S S' S'' : Store} {Z Z' Z'' : Ad} {s s' : St} {ρ ρ' : Env} {pv pv' : List Val} {Fs Fs' Fs'' : Nat → Ad} {A B B' F G G1 G2 : Ad}
/-- what a source gives, and gives from now on -/
def SrOK (S : Store) (Z : Ad) (pv : List Val) (a : Sr) (E : Store → Option (List Val)) : Prop := match a with
  | .snap xs => ∃ us, (∀ S' : Store, (∀ x, Z x → S'[x]? = S[x]?) → E S' = some us) ∧ Rps S Z xs us (fun _ => False)
  | .live j => ∃ v, pv[j]? = some v ∧ ((∃ us, v = .tup us ∧ ∀ S', E S' = some us) ∨ (∀ us, v ≠ .tup us) ∧ ∀ S', E S' = lstOf S' v)
theorem SrOK.tr {a : Sr} {E : Store → Option (List Val)} (h : SrOK S Z pv a E) (ok : OK S Z s ρ pv' Fs) (t : Tr S Z Fs S' Z' Fs') : SrOK S' Z' pv a E := by
  have hz : ∀ x, Z x → S'[x]? = S[x]? := fun x hx => t.fr x (ok.zl x hx) fun ⟨i, q⟩ => (ok.nz i x q).1 hx
  cases a with
  | snap xs =>
    obtain ⟨us, h1, h2⟩ := h
    exact ⟨us, fun S2 h => h1 S2 fun x hx => by rw [h x (t.zz x hx), hz x hx], h2.st (fun x hx => hx.elim False.elim (hz x)) t.zz⟩
  | live j => exact h
theorem SrOK.pins {a : Sr} {E : Store → Option (List Val)} (h : SrOK S Z pv a E) (l : List Val) : SrOK S Z (pv ++ l) a E := by
  cases a with
  | snap xs => exact h
  | live j =>
    obtain ⟨v, h1, h2⟩ := h
    exact ⟨v, by rw [List.getElem?_append_left (List.getElem?_eq_some_iff.mp h1).1]; exact h1, h2⟩
theorem seq_lst {v : Val} (h : ∀ us, v ≠ .tup us) : seqOf S v = lstOf S v := by
  unfold seqOf
  split
  · rename_i us; exact absurd rfl (h us)
  · rfl
theorem elemAt_live {j k : Nat} : elemAt s (.live j) k = match s.β[j]? with
    | some (some (r, p)) => match look s (.vw r p) with
      | some t => match tseq t with
        | some xs => some (xs[k]?.map fun d => seen d r (p ++ [k]))
        | none => none
      | none => none
    | _ => none := rfl
theorem elemAt_ok {a : Sr} {E : Store → Option (List Val)} {k : Nat} {o : Option V2} (ok : OK S Z s ρ pv Fs) (h : SrOK S Z pv a E) (e : elemAt s a k = some o) :
    ∃ us, E S = some us ∧ ((o = none ∧ us[k]? = none) ∨ ∃ u v, o = some u ∧ us[k]? = some v ∧ V1 S Z ρ u v (fun _ => False)) := by
  cases a with
  | snap xs =>
    obtain ⟨us, h1, h2⟩ := h
    change some (xs[k]?.map V2.own) = some o at e
    cases e
    refine ⟨us, h1 S fun _ _ => rfl, ?_⟩
    cases hk : xs[k]? with
    | none => exact .inl ⟨rfl, h2.none hk⟩
    | some t =>
      obtain ⟨u, F1, a1, a2, a3, _⟩ := h2.item hk
      exact .inr ⟨.own t, u, rfl, a1, Rp.mono a2 a3⟩
  | live j =>
    obtain ⟨v, h1, h2⟩ := h
    rw [elemAt_live] at e
    split at e
    · rename_i r p hb
      obtain ⟨w, w', g1, g2, g3, _⟩ := ok.bl j r p hb
      rw [h1] at g3
      cases g3
      cases hl : look s (.vw r p) with
      | none => rw [hl] at e; cases e
      | some t =>
        rw [hl] at e
        simp only at e
        cases hq : tseq t with
        | none => rw [hq] at e; cases e
        | some xs =>
          rw [hq] at e
          simp only [Option.some.injEq] at e
          have hV : V1 S Z ρ (.vw r p) v (fun _ => False) := ⟨w, g1, g2⟩
          obtain ⟨F0, a1, _⟩ := hV.look ok hl
          obtain ⟨b1, rfl⟩ := tseq_ok a1 hq
          have hE : E S = some (vkids S v) := by
            rcases h2 with ⟨us, rfl, h2⟩ | h2
            · rw [h2]; rfl
            · rw [h2.2, ← seq_lst h2.1, b1]
          refine ⟨vkids S v, hE, ?_⟩
          cases hk : (tkids t)[k]? with
          | none =>
            rw [hk] at e
            obtain ⟨G, g, _⟩ := a1.kids
            exact .inl ⟨e.symm, g.none hk⟩
          | some d =>
            rw [hk] at e
            obtain ⟨w2, F', c1, c2, c3⟩ := kid_ok ok hV hl hk
            simp only at c2
            have : V1 S Z ρ (seen d r (p ++ [k])) w2 (fun _ => False) := by
              cases hs : seen d r (p ++ [k]) with
              | own t' => rw [hs] at c2; exact Rp.mono c2 c3
              | vw r' p' => rw [hs] at c2; exact c2
            exact .inr ⟨_, w2, e.symm, c1, this⟩
    · cases e
/-- the source of a loop -/
theorem OK.pin {r : Nat} {p : List Nat} {v w : Val} (ok : OK S Z s ρ pv Fs) (g1 : ρ[r]? = some (some w)) (g2 : vAt S w p = some v) (hr : ∃ t, s.at r = some t) : OK S Z ⟨s.τ, s.α, s.β ++ [some (r, p)]⟩ ρ (pv ++ [v]) Fs := by
  refine ⟨ok.len, ok.rep, ok.dj, ok.nz, ok.zl, ok.al, by rw [List.length_append, List.length_append, ok.bn]; rfl, fun j r' p' hj => ?_⟩
  by_cases hlt : j < s.β.length
  · rw [List.getElem?_append_left hlt] at hj
    obtain ⟨v', w', c1, c2, c3, c4⟩ := ok.bl j r' p' hj
    exact ⟨v', w', c1, c2, by rw [List.getElem?_append_left (by rw [ok.bn]; exact hlt)]; exact c3, c4⟩
  · have : j = s.β.length := by
      have := (List.getElem?_eq_some_iff.mp hj).1
      simp at this
      omega
    subst this
    rw [List.getElem?_append_right (Nat.le_refl _), Nat.sub_self] at hj
    cases hj
    exact ⟨w, v, g1, g2, by rw [List.getElem?_append_right (by rw [ok.bn]; exact Nat.le_refl _), ok.bn, Nat.sub_self]; rfl, hr⟩
theorem tsrc_ok {u : V2} {v : Val} {a : Sr} {n : Nat} (ok : OK S Z s ρ pv Fs) (h : V1 S Z ρ u v F) (o : Ow S Z Fs B F) (e : tsrc u s = some (a, n, s')) :
    ∃ Z' l E, OK S Z' s' ρ (pv ++ l) Fs ∧ TrB S Z Fs F S Z' Fs ∧ SrOK S Z' (pv ++ l) a E ∧
      (∃ us, E S = some us ∧ us.length = n) ∧
      ((∃ us, (v = .tup us ∨ ∃ x, v = .str x ∧ us = signs x) ∧ ∀ S', E S' = some us) ∨ (∀ us, v ≠ .tup us) ∧ (∀ x, v ≠ .str x) ∧ ∀ S', E S' = lstOf S' v) := by
  unfold tsrc at e
  split at e
  · rename_i t
    split at e
    · rename_i x
      cases e
      cases h
      refine ⟨Z, [], fun _ => some (signs x), by rw [List.append_nil]; exact ok, ⟨Nat.le_refl _, fun _ _ _ _ => rfl, fun _ h => h, fun _ h => .inl h, fun _ h => .inl h⟩, ⟨signs x, fun _ _ => rfl, ?_⟩, ⟨_, rfl, by unfold signs; rw [List.length_map]⟩, .inl ⟨_, .inr ⟨x, rfl, rfl⟩, fun _ => rfl⟩⟩
      unfold signs
      have : ∀ l : List Nat, Rps S Z (l.map fun c => T.str ⟨#[c]⟩) (l.map fun c => Val.str ⟨#[c]⟩) (fun _ => False) := by
        intro l
        induction l with
        | nil => rfl
        | cons c l ih => exact ⟨_, _, fun _ => False, fun _ => False, rfl, rfl, ih, fun _ h => h.elim, fun _ h => h⟩
      exact this _
    · rename_i hns
      cases hq : tseq t with
      | none => rw [hq] at e; cases e
      | some xs =>
        rw [hq] at e
        cases e
        obtain ⟨b1, rfl⟩ := tseq_ok h hq
        have hz : Rp S (fun x => Z x ∨ F x) (fz t) v (fun _ => False) := Rp.fz h (fun x hx => hx.symm) _
        have k' : OK S (fun x => Z x ∨ F x) s ρ pv Fs := by
          refine ⟨ok.len, fun i t ht => ?_, ok.dj, fun i x hx => ⟨fun q => q.elim (ok.nz i x hx).1 (fun q => (o x q).1 ⟨i, hx⟩), (ok.nz i x hx).2⟩, fun x hx => hx.elim (ok.zl x) (fun q => (o x q).2.2.1), ok.al, ok.bn, ok.bl⟩
          obtain ⟨w, g1, g2⟩ := ok.rep i t ht
          exact ⟨w, g1, g2.st (fun _ _ => rfl) fun _ h => .inl h⟩
        have hT : TrB S Z Fs F S (fun x => Z x ∨ F x) Fs := ⟨Nat.le_refl _, fun _ _ _ _ => rfl, fun _ h => .inl h, fun x h => h.imp id fun q => .inr (.inr q), fun _ h => .inl h⟩
        obtain ⟨G, g1, g2, g3⟩ := hz.kids
        obtain ⟨G0, h1, _⟩ := Rp.kids h
        have fk : tkids (fz t) = fzs (tkids t) := by cases t <;> rfl
        rw [fk] at g1
        have g1' := g1.mono (F' := fun _ => False) (fun x hx => (g2 x hx).elim)
        by_cases ht : ∃ us, v = .tup us
        · obtain ⟨us, rfl⟩ := ht
          exact ⟨_, [], fun _ => some us, by rw [List.append_nil]; exact k', hT, ⟨us, fun _ _ => rfl, g1'⟩, ⟨us, rfl, h1.len.symm⟩, .inl ⟨us, .inl rfl, fun _ => rfl⟩⟩
        · have hn : ∀ us, v ≠ .tup us := fun us q => ht ⟨us, q⟩
          have hns' : ∀ x, v ≠ .str x := fun x q => by
            subst q
            have : seqOf S (.str x) = none := rfl
            rw [this] at b1
            cases b1
          have hE : lstOf S v = some (vkids S v) := by rw [← seq_lst hn]; exact b1
          refine ⟨_, [], fun S' => lstOf S' v, by rw [List.append_nil]; exact k', hT, ⟨vkids S v, fun S' hS => ?_, g1'⟩, ⟨_, hE, h1.len.symm⟩, .inr ⟨hn, hns', fun _ => rfl⟩⟩
          rw [← hE]
          cases v with
          | ref i =>
            have : Z i ∨ F i := by
              rcases g3 i rfl with q | q
              · exact q.1.elim
              · exact q.1
            unfold lstOf
            simp only [hS i this]
          | _ => rfl
  · rename_i r p
    cases hl : look s (.vw r p) with
    | none => rw [hl] at e; cases e
    | some t =>
      rw [hl] at e
      simp only at e
      cases hq : tseq t with
      | none => rw [hq] at e; cases e
      | some xs =>
        rw [hq] at e
        cases e
        obtain ⟨F0, a1, _⟩ := h.look ok hl
        obtain ⟨b1, rfl⟩ := tseq_ok a1 hq
        obtain ⟨G0, h1, _⟩ := a1.kids
        obtain ⟨w, g1, g2⟩ := h
        have hr : ∃ t, s.at r = some t := by
          rw [look_vw] at hl
          cases hr : s.at r with
          | none => rw [hr] at hl; cases hl
          | some t => exact ⟨t, rfl⟩
        have k' : OK S Z ⟨s.τ, s.α, s.β ++ [some (r, p)]⟩ ρ (pv ++ [v]) Fs := ok.pin g1 g2 hr
        have hpv : (pv ++ [v])[s.β.length]? = some v := by rw [List.getElem?_append_right (by rw [ok.bn]; exact Nat.le_refl _), ok.bn, Nat.sub_self]; rfl
        have hT : TrB S Z Fs F S Z Fs := ⟨Nat.le_refl _, fun _ _ _ _ => rfl, fun _ h => h, fun x h => .inl h, fun _ h => .inl h⟩
        by_cases ht : ∃ us, v = .tup us
        · obtain ⟨us, rfl⟩ := ht
          exact ⟨Z, [.tup us], fun _ => some us, k', hT, ⟨_, hpv, .inl ⟨us, rfl, fun _ => rfl⟩⟩, ⟨us, rfl, h1.len.symm⟩, .inl ⟨us, .inl rfl, fun _ => rfl⟩⟩
        · have hn : ∀ us, v ≠ .tup us := fun us q => ht ⟨us, q⟩
          have hns' : ∀ x, v ≠ .str x := fun x q => by
            subst q
            have : seqOf S (.str x) = none := rfl
            rw [this] at b1
            cases b1
          exact ⟨Z, [v], fun S' => lstOf S' v, k', hT, ⟨_, hpv, .inr ⟨hn, fun _ => rfl⟩⟩, ⟨_, (seq_lst hn).symm.trans b1, h1.len.symm⟩, .inr ⟨hn, hns', fun _ => rfl⟩⟩
/-- what a loop walks, on both sides -/
def TIOK (S : Store) (Z : Ad) (pv : List Val) (ti : TI) (iv : IV) : Prop := match ti with
  | .sq a => ∃ E, SrOK S Z pv a E ∧ ∀ k S', iv.next k S' = (E S').map fun xs => xs[k]?
  | .en a => ∃ E, SrOK S Z pv a E ∧ ∀ k S', iv.next k S' = (E S').map fun xs => xs[k]?.map fun x => .tup [.int (k : Nat), x]
  | .zp a b => ∃ E E2, SrOK S Z pv a E ∧ SrOK S Z pv b E2 ∧ ∀ k S', iv.next k S' = match E S', E2 S' with
    | some xs, some ys => some (match xs[k]?, ys[k]? with
      | some x, some y => some (.tup [x, y])
      | _, _ => none)
    | _, _ => none
  | .rv a n => ∃ E, SrOK S Z pv a E ∧ ∀ k S', iv.next k S' = if k < n then match E S' with
      | some xs => match xs[n - 1 - k]? with
        | some x => some (some x)
        | none => none
      | none => none else some none
theorem TIOK.tr {ti : TI} {iv : IV} (h : TIOK S Z pv ti iv) (ok : OK S Z s ρ pv' Fs) (t : Tr S Z Fs S' Z' Fs') : TIOK S' Z' pv ti iv := by
  cases ti with
  | sq a => obtain ⟨E, h1, h2⟩ := h; exact ⟨E, h1.tr ok t, h2⟩
  | en a => obtain ⟨E, h1, h2⟩ := h; exact ⟨E, h1.tr ok t, h2⟩
  | zp a b => obtain ⟨E, E2, h1, h3, h2⟩ := h; exact ⟨E, E2, h1.tr ok t, h3.tr ok t, h2⟩
  | rv a n => obtain ⟨E, h1, h2⟩ := h; exact ⟨E, h1.tr ok t, h2⟩
def ItOK (S : Store) (Z : Ad) (ρ : Env) (it : It) (v : Val) : Prop := match it with
  | .one u => V1 S Z ρ u v (fun _ => False)
  | .two u w => ∃ a b, v = .tup [a, b] ∧ V1 S Z ρ u a (fun _ => False) ∧ V1 S Z ρ w b (fun _ => False)
theorem tnext_ok {ti : TI} {iv : IV} {k : Nat} {o : Option It} (ok : OK S Z s ρ pv Fs) (h : TIOK S Z pv ti iv) (e : tnext ti k s = some o) :
    (o = none ∧ iv.next k S = some none) ∨ ∃ it v, o = some it ∧ iv.next k S = some (some v) ∧ ItOK S Z ρ it v := by
  unfold tnext at e
  split at e
  · rename_i a
    obtain ⟨E, h1, h2⟩ := h
    obtain ⟨q, e1, rfl⟩ := Option.map_eq_some_iff.mp e
    obtain ⟨us, g1, g2⟩ := elemAt_ok ok h1 e1
    rw [h2, g1]
    rcases g2 with ⟨rfl, g2⟩ | ⟨u, v, rfl, g2, g3⟩
    · exact .inl ⟨rfl, by rw [Option.map_some, g2]⟩
    · exact .inr ⟨.one u, v, rfl, by rw [Option.map_some, g2], g3⟩
  · rename_i a
    obtain ⟨E, h1, h2⟩ := h
    obtain ⟨q, e1, rfl⟩ := Option.map_eq_some_iff.mp e
    obtain ⟨us, g1, g2⟩ := elemAt_ok ok h1 e1
    rw [h2, g1]
    rcases g2 with ⟨rfl, g2⟩ | ⟨u, v, rfl, g2, g3⟩
    · exact .inl ⟨rfl, by rw [Option.map_some, g2]; rfl⟩
    · exact .inr ⟨.two (.own (.int (k : Nat))) u, .tup [.int (k : Nat), v], rfl, by rw [Option.map_some, g2]; rfl, _, _, rfl, rfl, g3⟩
  · rename_i a b
    obtain ⟨E, E2, h1, h3, h2⟩ := h
    split at e
    · rename_i x y e1 e2
      cases e
      obtain ⟨us, g1, g2⟩ := elemAt_ok ok h1 e1
      obtain ⟨ws, k1, k2⟩ := elemAt_ok ok h3 e2
      rw [h2, g1, k1]
      rcases g2 with ⟨rfl, g2⟩ | ⟨u, v, rfl, g2, g3⟩
      · exact .inl ⟨rfl, by simp only [g2]⟩
      · rcases k2 with ⟨rfl, k2⟩ | ⟨u', v', rfl, k2, k3⟩
        · exact .inl ⟨rfl, by simp only [g2, k2]⟩
        · exact .inr ⟨.two u u', .tup [v, v'], rfl, by simp only [g2, k2], _, _, rfl, g3, k3⟩
    · cases e
  · rename_i a n
    obtain ⟨E, h1, h2⟩ := h
    rw [h2]
    split at e
    · rename_i hk
      rw [if_pos hk]
      split at e
      · rename_i u e1
        cases e
        obtain ⟨us, g1, g2⟩ := elemAt_ok ok h1 e1
        rw [g1]
        rcases g2 with ⟨q, g2⟩ | ⟨u', v, q, g2, g3⟩
        · cases q
        · cases q
          exact .inr ⟨.one u, v, rfl, by simp only [g2], g3⟩
      · cases e
    · rename_i hk
      cases e
      exact .inl ⟨rfl, if_neg hk⟩
theorem tlayIt_ok {P : List Nat} {t : Tg} {it : It} {v : Val} (ok : OK S Z s ρ pv Fs) (h : ItOK S Z ρ it v) (e : tlayIt P t it s = some s') : ∃ ρ' Fs', lay S t v ρ = some ρ' ∧ Ly S Z Fs (fun _ => False) P (slots t) ρ ρ' pv s' Fs' := by
  cases it with
  | one u => exact tlay_ok (B := fun _ => True) t ok h .none e
  | two u w =>
    obtain ⟨a, b, rfl, h1, h2⟩ := h
    unfold tlayIt at e
    simp only at e
    split at e
    · rename_i t1 t2
      have hv : Vs S Z ρ [u, w] [a, b] (fun _ => False) := ⟨a, [b], fun _ => False, fun _ => False, rfl, h1, ⟨b, [], fun _ => False, fun _ => False, rfl, h2, rfl, fun _ h => h.elim, fun _ h => h⟩, fun _ h => h.elim, fun _ h => h⟩
      obtain ⟨ρ', Fs', c1, c2⟩ := tlays_ok (B := fun _ => True) [t1, t2] ok hv .none e
      exact ⟨ρ', Fs', by rw [lay_tup]; exact c1, by rw [show slots (.tup [t1, t2]) = slotss [t1, t2] by rw [slots]]; exact c2⟩
    · rename_i i
      split at e
      · rename_i ta tb
        have hr : Rp S Z (.tup [ta, tb]) (.tup [a, b]) (fun _ => False) := ⟨[a, b], rfl, a, [b], fun _ => False, fun _ => False, rfl, h1, ⟨b, [], fun _ => False, fun _ => False, rfl, h2, rfl, fun _ h => h.elim, fun _ h => h⟩, fun _ h => h.elim, fun _ h => h⟩
        exact tlay_ok (B := fun _ => True) (u := .own (.tup [ta, tb])) (.name i) ok hr .none e
      · cases e
    · cases e
theorem trng_ok (lo : Int) (n : Nat) : Rps S Z (trng lo n) (rng lo n) (fun _ => False) := by
  unfold trng rng
  have : ∀ l : List Nat, Rps S Z (l.map fun (i : Nat) => T.int (lo + i)) (l.map fun (i : Nat) => Val.int (lo + i)) (fun _ => False) := by
    intro l
    induction l with
    | nil => rfl
    | cons c l ih => exact ⟨_, _, fun _ => False, fun _ => False, rfl, rfl, ih, fun _ h => h.elim, fun _ h => h⟩
  exact this _
theorem trngc_ok (lo : Int) (n : Nat) : Rps S Z (trngc lo n) (rngc lo n) (fun _ => False) := by
  unfold trngc rngc
  have : ∀ l : List Nat, Rps S Z (l.map fun (i : Nat) => T.int (lo + i * 2)) (l.map fun (i : Nat) => Val.int (lo + i * 2)) (fun _ => False) := by
    intro l
    induction l with
    | nil => rfl
    | cons c l ih => exact ⟨_, _, fun _ => False, fun _ => False, rfl, rfl, ih, fun _ h => h.elim, fun _ h => h⟩
  exact this _
theorem TrB.refl : TrB S Z Fs A S Z Fs := ⟨Nat.le_refl _, fun _ _ _ _ => rfl, fun _ h => h, fun _ h => .inl h, fun _ h => .inl h⟩
theorem TrB.amono (h : TrB S Z Fs A S' Z' Fs') (f : ∀ x, A x → B x) : TrB S Z Fs B S' Z' Fs' :=
  ⟨h.len, fun x a b c => h.fr x a b fun q => c (f x q), h.zz, fun x q => (h.zn x q).imp id fun q => q.imp id fun q => q.imp id (f x), fun x q => (h.fs x q).imp id fun q => q.imp id (f x)⟩
theorem Tr.toB (h : Tr S Z Fs S' Z' Fs') : TrB S Z Fs A S' Z' Fs' := ⟨h.len, fun x a b _ => h.fr x a b, h.zz, fun x q => (h.zn x q).imp id fun q => q.imp id .inl, fun x q => (h.fs x q).imp id .inl⟩
theorem TrB.transB (a : TrB S Z Fs A S' Z' Fs') (b : TrB S' Z' Fs' A S'' Z'' Fs'') : TrB S Z Fs A S'' Z'' Fs'' := by
  refine ⟨Nat.le_trans a.len b.len, fun x h1 h2 h3 => ?_, fun x h => b.zz x (a.zz x h), fun x hx => ?_, fun x hx => ?_⟩
  · have h4 : ¬ U Fs' x := fun h => by
      rcases a.fs x h with q | q | q
      · exact h2 q
      · omega
      · exact h3 q
    rw [b.fr x (Nat.lt_of_lt_of_le h1 a.len) h4 h3, a.fr x h1 h2 h3]
  · rcases b.zn x hx with q | q | q | q
    · exact a.zn x q
    · rcases a.fs x q with q | q | q
      · exact .inr (.inl q)
      · exact .inr (.inr (.inl q))
      · exact .inr (.inr (.inr q))
    · exact .inr (.inr (.inl (Nat.le_trans a.len q)))
    · exact .inr (.inr (.inr q))
  · rcases b.fs x hx with q | q | q
    · exact a.fs x q
    · exact .inr (.inl (Nat.le_trans a.len q))
    · exact .inr (.inr q)
theorem SrOK.zz {a : Sr} {E : Store → Option (List Val)} (h : SrOK S Z pv a E) (f : ∀ x, Z x → Z' x) : SrOK S Z' pv a E := by
  cases a with
  | snap xs =>
    obtain ⟨us, h1, h2⟩ := h
    exact ⟨us, fun S2 h => h1 S2 fun x hx => h x (f x hx), h2.st (fun _ _ => rfl) f⟩
  | live j => exact h
theorem lonly_ok {u : V2} {v : Val} (ok : OK S Z s ρ pv Fs) (h : V1 S Z ρ u v F) (e : lonly s u = true) : (∀ us, v ≠ .tup us) ∧ ∀ x, v ≠ .str x := by
  unfold lonly at e
  cases hl : look s u with
  | none => rw [hl] at e; cases e
  | some t =>
    rw [hl] at e
    obtain ⟨F0, a1, _⟩ := h.look ok hl
    cases t with
    | tup _ => cases e
    | str _ => cases e
    | lst _ _ => obtain ⟨i, us, G, rfl, _⟩ := a1; exact ⟨fun _ q => (nomatch q), fun _ q => nomatch q⟩
    | dK _ _ _ => obtain ⟨i, us, G, rfl, _⟩ := a1; exact ⟨fun _ q => (nomatch q), fun _ q => nomatch q⟩
    | dT _ _ _ => obtain ⟨i, us, G, rfl, _⟩ := a1; exact ⟨fun _ q => (nomatch q), fun _ q => nomatch q⟩
    | fro _ => obtain ⟨us, rfl, _⟩ := a1; exact ⟨fun _ q => (nomatch q), fun _ q => nomatch q⟩
    | _ => cases a1; exact ⟨fun _ q => (nomatch q), fun _ q => nomatch q⟩
/-- the start of a loop, on both sides -/
theorem tstart_ok {k : IK} {us : List V2} {vs : List Val} {ti : TI} {n : Nat} (ok : OK S Z s ρ pv Fs) (h : Vs S Z ρ us vs F) (o : Ow S Z Fs B F) (e : tstart k us s = some (ti, n, s')) :
    ∃ Z' l iv, Mi.start k vs S = some iv ∧ iv.cnt S = n ∧ OK S Z' s' ρ (pv ++ l) Fs ∧ TrB S Z Fs F S Z' Fs ∧ TIOK S Z' (pv ++ l) ti iv ∧ s'.τ = s.τ := by
  have tau : ∀ {u : V2} {a : Sr} {n : Nat} {s s' : St}, tsrc u s = some (a, n, s') → s'.τ = s.τ := by
    intro u a n s s' e
    unfold tsrc at e
    split at e
    · split at e
      · cases e; rfl
      · split at e
        · cases e; rfl
        · cases e
    · split at e
      · split at e
        · cases e; rfl
        · cases e
      · cases e
  unfold tstart at e
  split at e
  · rename_i u
    obtain ⟨⟨a, n', s1⟩, e1, e2⟩ := Option.map_eq_some_iff.mp e
    cases e2
    obtain ⟨v, _, F1, F2, rfl, h1, rfl, h4, h5⟩ := h
    obtain ⟨Z', l, E, a1, a2, a3, ⟨ws, a4, a5⟩, a6⟩ := tsrc_ok ok h1 (o.mono fun x hx => (h4 x hx).1) e1
    have a2' := a2.amono fun x hx => (h4 x hx).1
    rcases a6 with ⟨us, hv, hE⟩ | ⟨hn1, hn2, hE⟩
    · have : us = ws := by have := hE S; rw [a4] at this; exact (Option.some.inj this).symm
      subst this
      rcases hv with rfl | ⟨x, rfl, rfl⟩
      · exact ⟨Z', l, .items us, rfl, a5, a1, a2', ⟨E, a3, fun k S' => by rw [hE]; rfl⟩, tau e1⟩
      · exact ⟨Z', l, .items (signs x), rfl, a5, a1, a2', ⟨E, a3, fun k S' => by rw [hE]; rfl⟩, tau e1⟩
    · have st0 : Mi.start .seq [v] S = (lstOf S v).map fun _ => .seq v := by
        cases v with
        | tup us => exact absurd rfl (hn1 us)
        | str x => exact absurd rfl (hn2 x)
        | _ => rfl
      have hS : lstOf S v = some ws := (hE S).symm.trans a4
      refine ⟨Z', l, .seq v, by rw [st0, hS]; rfl, ?_, a1, a2', ⟨E, a3, fun k S' => by rw [hE]; rfl⟩, tau e1⟩
      show ((lstOf S v).getD []).length = n
      rw [hS]
      exact a5
  · rename_i m
    split at e
    · rename_i hm
      cases e
      obtain ⟨v, _, F1, F2, rfl, h1, rfl, h4, h5⟩ := h
      cases h1
      refine ⟨Z, [], .items (rng 0 m.toNat), ?_, by show (rng 0 m.toNat).length = _; unfold rng; rw [List.length_map, List.length_range], by rw [List.append_nil]; exact ok, .refl, ⟨fun _ => some (rng 0 m.toNat), ⟨_, fun _ _ => rfl, trng_ok 0 _⟩, fun k S' => rfl⟩, rfl⟩
      show (if small62 m then some (IV.items (rng 0 m.toNat)) else none) = _
      rw [hm]
      rfl
    · cases e
  · rename_i i j
    split at e
    · rename_i hm
      cases e
      obtain ⟨v, _, F1, F2, rfl, h1, ⟨v2, _, F3, F4, rfl, h2, rfl, _, _⟩, h4, h5⟩ := h
      cases h1
      cases h2
      refine ⟨Z, [], .items (rng i (j - i).toNat), ?_, by show (rng i (j - i).toNat).length = _; unfold rng; rw [List.length_map, List.length_range], by rw [List.append_nil]; exact ok, .refl, ⟨fun _ => some (rng i (j - i).toNat), ⟨_, fun _ _ => rfl, trng_ok i _⟩, fun k S' => rfl⟩, rfl⟩
      show (if small62 i && small62 j then some (IV.items (rng i (j - i).toNat)) else none) = _
      rw [hm]
      rfl
    · cases e
  · rename_i i j
    split at e
    · rename_i hm
      cases e
      obtain ⟨v, _, F1, F2, rfl, h1, ⟨v2, _, F3, F4, rfl, h2, rfl, _, _⟩, h4, h5⟩ := h
      cases h1
      cases h2
      refine ⟨Z, [], .items (rngc i ((j - i + 1) / 2).toNat), ?_, by show (rngc i ((j - i + 1) / 2).toNat).length = _; unfold rngc; rw [List.length_map, List.length_range], by rw [List.append_nil]; exact ok, .refl, ⟨fun _ => some (rngc i ((j - i + 1) / 2).toNat), ⟨_, fun _ _ => rfl, trngc_ok i _⟩, fun k S' => rfl⟩, rfl⟩
      show (if small62 i && small62 j then some (IV.items (rngc i ((j - i + 1) / 2).toNat)) else none) = _
      rw [hm]
      rfl
    · cases e
  · rename_i u
    split at e
    · rename_i hlo
      obtain ⟨⟨a, n', s1⟩, e1, e2⟩ := Option.map_eq_some_iff.mp e
      cases e2
      obtain ⟨v, _, F1, F2, rfl, h1, rfl, h4, h5⟩ := h
      obtain ⟨l1, l2⟩ := lonly_ok ok h1 hlo
      obtain ⟨Z', l, E, a1, a2, a3, ⟨ws, a4, a5⟩, a6⟩ := tsrc_ok ok h1 (o.mono fun x hx => (h4 x hx).1) e1
      rcases a6 with ⟨us, hv, hE⟩ | ⟨hn1, hn2, hE⟩
      · rcases hv with rfl | ⟨x, rfl, rfl⟩
        · exact absurd rfl (l1 us)
        · exact absurd rfl (l2 x)
      · have hS : lstOf S v = some ws := (hE S).symm.trans a4
        refine ⟨Z', l, .en v, ?_, ?_, a1, a2.amono fun x hx => (h4 x hx).1, ⟨E, a3, fun k S' => by rw [hE]; rfl⟩, tau e1⟩
        · show (lstOf S v).map _ = _
          rw [hS]
          rfl
        · show ((lstOf S v).getD []).length = n
          rw [hS]
          exact a5
    · cases e
  · rename_i u u2
    split at e
    · rename_i hlo
      rw [Bool.and_eq_true] at hlo
      obtain ⟨⟨a, n', s1⟩, e1, e2⟩ := Option.bind_eq_some_iff.mp e
      obtain ⟨⟨b, m, s2⟩, e3, e4⟩ := Option.map_eq_some_iff.mp e2
      cases e4
      obtain ⟨v, _, F1, F2, rfl, h1, ⟨v2, _, F3, F4, rfl, h2, rfl, h6, h7⟩, h4, h5⟩ := h
      obtain ⟨l1, l2⟩ := lonly_ok ok h1 hlo.1
      obtain ⟨l3, l4⟩ := lonly_ok ok h2 hlo.2
      obtain ⟨Z', l, E, a1, a2, a3, ⟨ws, a4, a5⟩, a6⟩ := tsrc_ok ok h1 (o.mono fun x hx => (h4 x hx).1) e1
      have t2 := tau e1
      have h2' : V1 S Z' ρ u2 v2 F3 := by
        cases u2 with
        | own t => exact Rp.st h2 (fun _ _ => rfl) a2.zz
        | vw r p => exact h2
      have o2 : Ow S Z' Fs B F3 := fun x hx => by
        obtain ⟨q1, q2, q3, q4⟩ := o x (h5 x (h6 x hx).1)
        refine ⟨q1, fun q => ?_, q3, q4⟩
        rcases a2.zn x q with q | q | q | q
        · exact q2 q
        · exact q1 q
        · omega
        · exact (h4 x q).2 (h6 x hx).1
      obtain ⟨Z2, l', E2, b1, b2, b3, ⟨ws2, b4, b5⟩, b6⟩ := tsrc_ok a1 h2' o2 e3
      rcases a6 with ⟨us, hv, hE⟩ | ⟨hn1, hn2, hE⟩
      · rcases hv with rfl | ⟨x, rfl, rfl⟩
        · exact absurd rfl (l1 us)
        · exact absurd rfl (l2 x)
      · rcases b6 with ⟨us, hv, hE2⟩ | ⟨hn3, hn4, hE2⟩
        · rcases hv with rfl | ⟨x, rfl, rfl⟩
          · exact absurd rfl (l3 us)
          · exact absurd rfl (l4 x)
        · have hS : lstOf S v = some ws := (hE S).symm.trans a4
          have hS2 : lstOf S v2 = some ws2 := (hE2 S).symm.trans b4
          refine ⟨Z2, l ++ l', .zp v v2, ?_, ?_, by rw [← List.append_assoc]; exact b1, (a2.amono fun x hx => (h4 x hx).1).transB (b2.amono fun x hx => h5 x (h6 x hx).1), ⟨E, E2, by rw [← List.append_assoc]; exact (a3.pins l').zz b2.zz, by rw [← List.append_assoc]; exact b3, fun k S' => by rw [hE, hE2]; rfl⟩, (tau e3).trans t2⟩
          · show (match lstOf S v, lstOf S v2 with | some _, some _ => some (IV.zp v v2) | _, _ => none) = _
            rw [hS, hS2]
          · show min ((lstOf S v).getD []).length ((lstOf S v2).getD []).length = min n' m
            rw [hS, hS2, Option.getD_some, Option.getD_some, a5, b5]
    · cases e
  · rename_i u
    split at e
    · rename_i hlo
      obtain ⟨⟨a, n', s1⟩, e1, e2⟩ := Option.map_eq_some_iff.mp e
      cases e2
      obtain ⟨v, _, F1, F2, rfl, h1, rfl, h4, h5⟩ := h
      obtain ⟨l1, l2⟩ := lonly_ok ok h1 hlo
      obtain ⟨Z', l, E, a1, a2, a3, ⟨ws, a4, a5⟩, a6⟩ := tsrc_ok ok h1 (o.mono fun x hx => (h4 x hx).1) e1
      rcases a6 with ⟨us, hv, hE⟩ | ⟨hn1, hn2, hE⟩
      · rcases hv with rfl | ⟨x, rfl, rfl⟩
        · exact absurd rfl (l1 us)
        · exact absurd rfl (l2 x)
      · have hS : lstOf S v = some ws := (hE S).symm.trans a4
        refine ⟨Z', l, .rv v n, ?_, rfl, a1, a2.amono fun x hx => (h4 x hx).1, ⟨E, a3, fun k S' => by rw [hE]; rfl⟩, tau e1⟩
        show (lstOf S v).map _ = _
        rw [hS, ← a5]
        rfl
    · cases e
  · cases e
end
end Tv
namespace Tv
open Mi
open PySem hiding Env Ctx
abbrev Pl := List (Option (Nat × List Nat))
/-- a state while some places wait for their trees -/
structure OKx (S : Store) (Z : Ad) (s : St) (ρ : Env) (pv : List Val) (Fs : Nat → Ad) (l : Pl) : Prop where
  len : s.τ.length = ρ.length
  rep : ∀ (i : Nat) (t : T), s.at i = some t → (∀ p, some (i, p) ∉ l) → ∃ v, ρ[i]? = some (some v) ∧ Rp S Z t v (Fs i)
  dj : ∀ i j x, Fs i x → Fs j x → i = j
  nz : ∀ i x, Fs i x → ¬ Z x ∧ x < S.length
  zl : ∀ x, Z x → x < S.length
  al : ∀ (x r : Nat) (p : List Nat), (x, r, p) ∈ s.α → (∀ q, some (r, q) ∈ l → p.length ≤ q.length) → ∃ v w, ρ[r]? = some (some v) ∧ vAt S v p = some w ∧ ρ[x]? = some (some w) ∧ ∃ t, s.at r = some t
  bn : pv.length = s.β.length
  bl : ∀ (j r : Nat) (p : List Nat), s.β[j]? = some (some (r, p)) → (∀ q, some (r, q) ∈ l → p.length ≤ q.length) → ∃ v w, ρ[r]? = some (some v) ∧ vAt S v p = some w ∧ pv[j]? = some w ∧ ∃ t, s.at r = some t
section
variable {S S' S'' : Store} {Z Z' Z'' : Ad} {s s' : St} {ρ ρ' : Env} {pv pv' : List Val} {Fs Fs' Fs'' : Nat → Ad} {A B B' F G G1 G2 : Ad}
/-- roots that are unlike -/
def Dist : Pl → Prop
  | [] => True
  | some (r, _) :: l => (∀ p, some (r, p) ∉ l) ∧ Dist l
  | none :: l => Dist l
theorem putAll_ok : ∀ {l : Pl} {outs : List T} {s s' : St}, OKx S Z s ρ pv Fs l → Dist l → (∀ (j r : Nat) (p : List Nat) (c : T), l[j]? = some (some (r, p)) → outs[j]? = some c → ∃ t0, s.at r = some t0 ∧ ∀ t', tPut t0 p c = some t' → ∃ w, ρ[r]? = some (some w) ∧ Rp S Z t' w (Fs r)) →
    putAll l outs s = some s' → OK S Z s' ρ pv Fs ∧ s'.β.length = s.β.length ∧ outs.length = l.length
  | [], outs, s, s', h, _, _, e => by
    cases outs with
    | cons _ _ => unfold putAll at e; cases e
    | nil =>
      unfold putAll at e
      cases e
      exact ⟨⟨h.len, fun i t ht => h.rep i t ht (fun p => List.not_mem_nil), h.dj, h.nz, h.zl, fun x r p hm => h.al x r p hm (fun q hq => absurd hq List.not_mem_nil), h.bn, fun j r p hj => h.bl j r p hj (fun q hq => absurd hq List.not_mem_nil)⟩, rfl, rfl⟩
  | none :: l, outs, s, s', h, d, f, e => by
    cases outs with
    | nil => unfold putAll at e; cases e
    | cons c outs =>
      unfold putAll at e
      have hn : ∀ {r : Nat} {p : List Nat}, some (r, p) ∈ (none :: l : Pl) ↔ some (r, p) ∈ l := by intro r p; simp
      obtain ⟨a1, a2, a3⟩ := putAll_ok (l := l) (outs := outs) (s := s) ⟨h.len, fun i t ht hp => h.rep i t ht fun p q => hp p (hn.mp q), h.dj, h.nz, h.zl, fun x r p hm hq => h.al x r p hm fun q hq' => hq q (hn.mp hq'), h.bn, fun j r p hj hq => h.bl j r p hj fun q hq' => hq q (hn.mp hq')⟩ d (fun j r p c' hj hc => f (j + 1) r p c' hj hc) e
      exact ⟨a1, a2, by rw [List.length_cons, List.length_cons, a3]⟩
  | some (r, p) :: l, outs, s, s', h, d, f, e => by
    cases outs with
    | nil => unfold putAll at e; cases e
    | cons c outs =>
      unfold putAll at e
      cases hp : s.put r p c true with
      | none => rw [hp] at e; cases e
      | some s1 =>
        rw [hp] at e
        obtain ⟨t0, h0, h1⟩ := f 0 r p c rfl rfl
        unfold St.put at hp
        rw [h0] at hp
        simp only at hp
        cases et : tPut t0 p c with
        | none => rw [et] at hp; cases hp
        | some t' =>
          rw [et] at hp
          simp only [if_true, Option.some.injEq] at hp
          subst hp
          obtain ⟨w, g1, g2⟩ := h1 t' et
          have hrl : r < s.τ.length := by rw [h.len]; exact (List.getElem?_eq_some_iff.mp g1).1
          have at_ne : ∀ {i : Nat} {α β}, i ≠ r → (⟨s.τ.set r (some t'), α, β⟩ : St).at i = s.at i := fun {i α β} hi => by rw [at_set, if_neg fun q => hi q.symm]; rfl
          have some_at : ∀ {i : Nat} {α β}, (∃ t, s.at i = some t) → ∃ t, (⟨s.τ.set r (some t'), α, β⟩ : St).at i = some t := fun {i α β} ⟨t, ht⟩ => by
            by_cases hi : i = r
            · subst hi
              exact ⟨t', by rw [at_set, if_pos rfl, if_pos hrl]⟩
            · exact ⟨t, by rw [at_ne hi]; exact ht⟩
          have mem : ∀ {r' : Nat} {q : List Nat}, some (r', q) ∈ (some (r, p) :: l : Pl) → (r' = r ∧ q = p) ∨ some (r', q) ∈ l := fun {r' q} hm => by
            rcases List.mem_cons.mp hm with q' | q'
            · cases q'; exact .inl ⟨rfl, rfl⟩
            · exact .inr q'
          have hx : OKx S Z ⟨s.τ.set r (some t'), killA r p.length s.α, killB r p.length s.β⟩ ρ pv Fs l := by
            refine ⟨by simp [h.len], fun i t ht hpp => ?_, h.dj, h.nz, h.zl, fun x r' p' hm hq => ?_, by rw [h.bn]; unfold killB; rw [List.length_map], fun j r' p' hj hq => ?_⟩
            · rw [at_set] at ht
              split at ht
              · rename_i e'
                subst e'
                first | (rw [if_pos hrl] at ht; cases ht) | cases ht
                exact ⟨w, g1, g2⟩
              · rename_i e'
                refine h.rep i t ht fun p' hm => ?_
                rcases mem hm with q | q
                · exact e' q.1.symm
                · exact hpp p' q
            · obtain ⟨k1, k2⟩ := killA_mem hm
              obtain ⟨v, w', b1, b2, b3, b4⟩ := h.al x r' p' k1 fun q hq' => by
                rcases mem hq' with q' | q'
                · rw [q'.2]; exact k2 q'.1
                · exact hq q q'
              exact ⟨v, w', b1, b2, b3, some_at b4⟩
            · obtain ⟨k1, k2⟩ := killB_get hj
              obtain ⟨v, w', b1, b2, b3, b4⟩ := h.bl j r' p' k1 fun q hq' => by
                rcases mem hq' with q' | q'
                · rw [q'.2]; exact k2 q'.1
                · exact hq q q'
              exact ⟨v, w', b1, b2, b3, some_at b4⟩
          have hf : ∀ (j r' : Nat) (p' : List Nat) (c' : T), l[j]? = some (some (r', p')) → outs[j]? = some c' → ∃ t0, (⟨s.τ.set r (some t'), killA r p.length s.α, killB r p.length s.β⟩ : St).at r' = some t0 ∧ ∀ t', tPut t0 p' c' = some t' → ∃ w, ρ[r']? = some (some w) ∧ Rp S Z t' w (Fs r') := by
            intro j r' p' c' hj hc
            obtain ⟨t1, c1, c2⟩ := f (j + 1) r' p' c' hj hc
            have hne : r' ≠ r := fun q => by
              subst q
              exact d.1 p' (List.mem_of_getElem? hj)
            exact ⟨t1, by rw [at_ne hne]; exact c1, c2⟩
          obtain ⟨a1, a2, a3⟩ := putAll_ok hx d.2 hf e
          exact ⟨a1, by rw [a2]; show (killB r p.length s.β).length = _; unfold killB; rw [List.length_map], by rw [List.length_cons, List.length_cons, a3]⟩
/-- a def, by trees -/
def FnOK (g : Sem) (F : Fn) : Prop := ∀ (S : Store) (Z : Ad) (vs : List Val) (ts : List T) (Fa : Nat → Ad), vs.length = F.n → ts.length = F.n →
  (∀ (j : Nat) (t : T), ts[j]? = some t → ∃ v, vs[j]? = some v ∧ Rp S Z t v (Fa j)) → (∀ i j x, Fa i x → Fa j x → i = j) → (∀ i x, Fa i x → ¬ Z x ∧ x < S.length) → (∀ x, Z x → x < S.length) →
  match F.g ts with
  | .ok t outs => ∃ v S' Z' Fr Fo, g vs S = .ok v S' ∧ Rp S' Z' t v Fr ∧ (∀ (i j : Nat) (t' : T), F.io[i]? = some j → outs[i]? = some t' → ∃ u, vs[j]? = some u ∧ Rp S' Z' t' u (Fo j)) ∧
      (∀ i j x, Fo i x → Fo j x → i = j) ∧ (∀ i x, Fo i x → ¬ Z' x ∧ x < S'.length) ∧ (∀ x, Fr x → ¬ U Fo x ∧ ¬ Z' x ∧ x < S'.length ∧ Bd S Fa x) ∧ (∀ x, Z' x → x < S'.length) ∧ Tr S Z Fa S' Z' Fo
  | .ex c d outs => ∃ S' Z' Fo, d = none ∧ g vs S = .ex c none S' ∧ (∀ (i j : Nat) (t' : T), F.io[i]? = some j → outs[i]? = some t' → ∃ u, vs[j]? = some u ∧ Rp S' Z' t' u (Fo j)) ∧
      (∀ i j x, Fo i x → Fo j x → i = j) ∧ (∀ i x, Fo i x → ¬ Z' x ∧ x < S'.length) ∧ (∀ x, Z' x → x < S'.length) ∧ Tr S Z Fa S' Z' Fo
  | .bad => True
theorem tkArgs_ok {c : Cf} {tk : List Nat} : ∀ {j : Nat} {us us' : List V2} {vs : List Val} {s s' : St} {Z : Ad} {Fs : Nat → Ad} {F : Ad}, OK S Z s ρ pv Fs → Vs S Z ρ us vs F → Ow S Z Fs B F → tkArgs c tk j us s = some (us', s') →
    ∃ Z' Fs' F', OK S Z' s' ρ pv Fs' ∧ Tr S Z Fs S Z' Fs' ∧ Vs S Z' ρ us' vs F' ∧ Ow S Z' Fs' (fun x => B x ∨ U Fs x) F' ∧ (∀ x, F' x → F x ∨ U Fs x) ∧ s'.β.length = s.β.length ∧
      (∀ i u, us'[i]? = some u → (j + i) ∈ tk → ∃ t, u = .own t)
  | j, [], us', vs, s, s', Z, Fs, F, k, h, o, e => by
    unfold tkArgs at e
    cases e
    exact ⟨Z, Fs, F, k, .refl, h, o.bmono fun x q => .inl q, fun x q => .inl q, rfl, fun i u q => by cases q⟩
  | j, u :: us, us', vs, s, s', Z, Fs, F, k, ⟨v, r, F1, F2, h1, h2, h3, h4, h5⟩, o, e => by
    subst h1
    unfold tkArgs at e
    split at e
    · rename_i hj
      cases e1 : claim c u s with
      | none => rw [e1] at e; cases e
      | some q =>
        obtain ⟨t, s1⟩ := q
        rw [e1] at e
        simp only at e
        cases e2 : tkArgs c tk (j + 1) us s1 with
        | none => rw [e2] at e; cases e
        | some q =>
          obtain ⟨us2, s2⟩ := q
          rw [e2] at e
          cases e
          obtain ⟨Z1, Fs1, F1', a1, a2, a3, a4, a5, a6⟩ := claim_ok k h2 (o.mono fun x hx => (h4 x hx).1) e1
          have o2 := (o.mono h5).tr a2
          obtain ⟨Z2, Fs2, F2', b1, b2, b3, b4, b5, b6, b7⟩ := tkArgs_ok a1 (h3.tr (o.mono h5) k a2) o2 e2
          refine ⟨Z2, Fs2, fun x => F1' x ∨ F2' x, b1, a2.trans b2, ⟨v, r, F1', F2', rfl, a3.tr a4 a1 b2, b3, fun x hx => ⟨.inl hx, fun h => ?_⟩, fun x hx => .inr hx⟩, fun x hx => ?_, fun x hx => ?_, b6.trans a6, fun i u' hu hi => ?_⟩
          · rcases b5 x h with h' | h'
            · rcases a5 x hx with h'' | h''
              · exact (h4 x h'').2 h'
              · exact (o x (h5 x h')).1 h''
            · exact (a4 x hx).1 h'
          · rcases hx with hx | hx
            · exact (a4.tr b2) x hx
            · exact (b4.bmono (fun y q => q.imp id (a2.fs0 a1 y))) x hx
          · rcases hx with hx | hx
            · exact (a5 x hx).imp (fun q => (h4 x q).1) id
            · exact (b5 x hx).imp (h5 x) (a2.fs0 a1 x)
          · cases i with
            | zero => cases hu; exact ⟨t, rfl⟩
            | succ i => exact b7 i u' hu (by rw [show j + 1 + i = j + (i + 1) by omega]; exact hi)
    · rename_i hj
      cases e2 : tkArgs c tk (j + 1) us s with
      | none => rw [e2] at e; cases e
      | some q =>
        obtain ⟨us2, s2⟩ := q
        rw [e2] at e
        cases e
        obtain ⟨Z2, Fs2, F2', b1, b2, b3, b4, b5, b6, b7⟩ := tkArgs_ok k h3 (o.mono h5) e2
        have hu' : V1 S Z2 ρ u v F1 := by
          cases u with
          | own t => exact Rp.tr h2 (o.mono fun x hx => (h4 x hx).1) k b2
          | vw r p => exact h2
        refine ⟨Z2, Fs2, fun x => F1 x ∨ F2' x, b1, b2, ⟨v, r, F1, F2', rfl, hu', b3, fun x hx => ⟨.inl hx, fun h => ?_⟩, fun x hx => .inr hx⟩, fun x hx => ?_, fun x hx => ?_, b6, fun i u' hu hi => ?_⟩
        · rcases b5 x h with h' | h'
          · exact (h4 x hx).2 h'
          · exact (o x (h4 x hx).1).1 h'
        · rcases hx with hx | hx
          · obtain ⟨q1, q2, q3, q4⟩ := ((o.mono fun x hx => (h4 x hx).1).tr b2) x hx
            exact ⟨q1, q2, q3, .inl q4⟩
          · exact b4 x hx
        · rcases hx with hx | hx
          · exact .inl (h4 x hx).1
          · exact (b5 x hx).imp (h5 x) id
        · cases i with
          | zero => exact absurd hi hj
          | succ i => exact b7 i u' hu (by rw [show j + 1 + i = j + (i + 1) by omega]; exact hi)
/-- each argument by itself -/
theorem Vs.get : ∀ {us : List V2} {vs : List Val} {F : Ad}, Vs S Z ρ us vs F → ∃ Fv : Nat → Ad, (∀ (j : Nat) (u : V2), us[j]? = some u → ∃ v, vs[j]? = some v ∧ V1 S Z ρ u v (Fv j)) ∧ (∀ i j x, Fv i x → Fv j x → i = j) ∧ ∀ j x, Fv j x → F x
  | [], _, F, _ => ⟨fun _ _ => False, ⟨fun j u e => (by cases e), fun _ _ _ (h : False) => h.elim, fun _ _ (h : False) => h.elim⟩⟩
  | u :: us, _, F, ⟨v, r, F1, F2, h1, h2, h3, h4, h5⟩ => by
    subst h1
    obtain ⟨Fv, a1, a2, a3⟩ := Vs.get h3
    refine ⟨fun j => match j with | 0 => F1 | j + 1 => Fv j, fun j u' e => ?_, fun i j x hi hj => ?_, fun j x hj => ?_⟩
    · cases j with
      | zero => cases e; exact ⟨v, rfl, h2⟩
      | succ j => exact a1 j u' e
    · cases i with
      | zero => cases j with
        | zero => rfl
        | succ j => exact absurd (a3 j x hj) (h4 x hi).2
      | succ i => cases j with
        | zero => exact absurd (a3 i x hi) (h4 x hj).2
        | succ j => rw [a2 i j x hi hj]
    · cases j with
      | zero => exact (h4 x hj).1
      | succ j => exact h5 x (a3 j x hj)
end
end Tv
namespace Tv
open Mi
open PySem hiding Env Ctx
section
variable {S S' S'' : Store} {Z Z' Z'' : Ad} {s s' : St} {ρ ρ' : Env} {pv pv' : List Val} {Fs Fs' Fs'' : Nat → Ad} {A B B' F G G1 G2 : Ad}
theorem inL_ok {r : Nat} : ∀ {l : Pl}, inL r l = false → ∀ p, some (r, p) ∉ l := by
  intro l h p hm
  unfold inL at h
  rw [List.any_eq_false] at h
  exact absurd (h _ hm) (by simp)
theorem ioArgs_ok {us : List V2} : ∀ {io : List Nat} {l : Pl}, ioArgs us s io = some l → Dist l ∧ l.length = io.length ∧
    (∀ (a : Nat) (r : Nat) (p : List Nat), l[a]? = some (some (r, p)) → ∃ j, io[a]? = some j ∧ us[j]? = some (.vw r p)) ∧ (∀ (a j : Nat), io[a]? = some j → (∃ (r : Nat) (p : List Nat), us[j]? = some (.vw r p) ∧ l[a]? = some (some (r, p))) ∨ ∃ t, us[j]? = some (.own t) ∧ l[a]? = some none)
  | [], l, e => by unfold ioArgs at e; cases e; exact ⟨trivial, rfl, fun a r p h => (by cases h), fun a j h => (by cases h)⟩
  | j :: io, l, e => by
    unfold ioArgs at e
    split at e
    · rename_i r p l' h1 h2
      obtain ⟨d, e1, e2, e3⟩ := ioArgs_ok h2
      split at e
      · cases e
      · rename_i hin
        cases e
        refine ⟨⟨inL_ok (by simpa using hin), d⟩, by rw [List.length_cons, List.length_cons, e1], fun a r' p' h => ?_, fun a j' h => ?_⟩
        · cases a with
          | zero => cases h; exact ⟨j, rfl, h1⟩
          | succ a => exact e2 a r' p' h
        · cases a with
          | zero => cases h; exact .inl ⟨r, p, h1, rfl⟩
          | succ a => exact e3 a j' h
    · rename_i t l' h1 h2
      obtain ⟨d, e1, e2, e3⟩ := ioArgs_ok h2
      cases e
      refine ⟨d, by rw [List.length_cons, List.length_cons, e1], fun a r' p' h => ?_, fun a j' h => ?_⟩
      · cases a with
        | zero => cases h
        | succ a => exact e2 a r' p' h
      · cases a with
        | zero => cases h; exact .inr ⟨t, h1, rfl⟩
        | succ a => exact e3 a j' h
    · cases e
theorem Dist.inj : ∀ {l : Pl} {a b r : Nat} {p q : List Nat}, Dist l → l[a]? = some (some (r, p)) → l[b]? = some (some (r, q)) → a = b
  | [], _, _, _, _, _, _, h, _ => by cases h
  | none :: l, a, b, r, p, q, d, h1, h2 => by
    cases a with
    | zero => cases h1
    | succ a => cases b with
      | zero => cases h2
      | succ b => rw [Dist.inj (l := l) d h1 h2]
  | some (r', p') :: l, a, b, r, p, q, d, h1, h2 => by
    cases a with
    | zero =>
      cases h1
      cases b with
      | zero => rfl
      | succ b => exact absurd (List.mem_of_getElem? (show l[b]? = _ from h2)) (d.1 q)
    | succ a => cases b with
      | zero => cases h2; exact absurd (List.mem_of_getElem? (show l[a]? = _ from h1)) (d.1 p)
      | succ b => rw [Dist.inj (l := l) d.2 h1 h2]
theorem callArgs_ok {io tk : List Nat} {l : Pl} : ∀ {n : Nat} {us : List V2} {ts : List T}, callArgs io tk l s n us = some ts → ts.length = us.length ∧
    ∀ (j : Nat) (t : T), ts[j]? = some t → ∃ u t0, us[j]? = some u ∧ look s u = some t0 ∧ (((n + j ∈ io ∨ n + j ∈ tk) ∧ t = t0) ∨ (n + j ∉ io ∧ n + j ∉ tk ∧ t = fz t0 ∧ ∀ r p, u = .vw r p → inL r l = false))
  | n, [], ts, e => by unfold callArgs at e; cases e; exact ⟨rfl, fun j t h => (by cases h)⟩
  | n, u :: us, ts, e => by
    unfold callArgs at e
    split at e
    · rename_i t ts' h1 h2
      obtain ⟨e1, e2⟩ := callArgs_ok h2
      have tail : ∀ (t' : T) (j : Nat) (t1 : T), (t' :: ts')[j + 1]? = some t1 → ∃ u' t0, (u :: us)[j + 1]? = some u' ∧ look s u' = some t0 ∧ (((n + (j + 1) ∈ io ∨ n + (j + 1) ∈ tk) ∧ t1 = t0) ∨ (n + (j + 1) ∉ io ∧ n + (j + 1) ∉ tk ∧ t1 = fz t0 ∧ ∀ r p, u' = .vw r p → inL r l = false)) := fun t' j t1 h => by
        have := e2 j t1 h
        rw [show n + 1 + j = n + (j + 1) by omega] at this
        exact this
      split at e
      · rename_i hi
        cases e
        refine ⟨by rw [List.length_cons, List.length_cons, e1], fun j t1 h => ?_⟩
        cases j with
        | zero => cases h; exact ⟨u, t, rfl, h1, .inl ⟨hi, rfl⟩⟩
        | succ j => exact tail _ j t1 h
      · rename_i hi
        have hi1 : n + 0 ∉ io := fun q => hi (.inl q)
        have hi2 : n + 0 ∉ tk := fun q => hi (.inr q)
        split at e
        · cases e
          refine ⟨by rw [List.length_cons, List.length_cons, e1], fun j t1 h => ?_⟩
          cases j with
          | zero => cases h; exact ⟨_, t, rfl, h1, .inr ⟨hi1, hi2, rfl, fun r p q => (by cases q)⟩⟩
          | succ j => exact tail _ j t1 h
        · split at e
          · cases e
          · rename_i r p hin
            cases e
            refine ⟨by rw [List.length_cons, List.length_cons, e1], fun j t1 h => ?_⟩
            cases j with
            | zero => cases h; exact ⟨_, t, rfl, h1, .inr ⟨hi1, hi2, rfl, fun r' p' q => by cases q; simpa using hin⟩⟩
            | succ j => exact tail _ j t1 h
    · cases e
/-- the views that are read alone are frozen -/
theorem frzRead_ok {io : List Nat} : ∀ {n : Nat} {us : List V2} {s : St} {Z : Ad} {Fs : Nat → Ad}, OK S Z s ρ pv Fs → ∃ Z' Fs', OK S Z' (frzRead io n us s) ρ pv Fs' ∧ Tr S Z Fs S Z' Fs' ∧ (∀ i x, Fs' i x → Fs i x) ∧
    (∀ x, Z' x → Z x ∨ ∃ j r p, us[j]? = some (.vw r p) ∧ n + j ∉ io ∧ Fs r x) ∧ (∀ j r p, us[j]? = some (.vw r p) → n + j ∉ io → (∃ t, s.at r = some t) → ∀ x, Fs r x → Z' x) ∧
    ∀ r, (∀ j p, us[j]? = some (.vw r p) → n + j ∈ io) → (frzRead io n us s).at r = s.at r ∧ ∀ x, Fs r x → Fs' r x
  | n, [], s, Z, Fs, k => ⟨Z, Fs, k, .refl, fun _ _ h => h, fun _ h => .inl h, fun j r p h => (by cases h), fun r _ => ⟨rfl, fun _ h => h⟩⟩
  | n, u :: us, s, Z, Fs, k => by
    have up : ∀ {j : Nat}, n + 1 + j = n + (j + 1) := by intro j; omega
    by_cases hn : n ∈ io
    · obtain ⟨Z', Fs', a1, a2, a3, a4, a5, a6⟩ := frzRead_ok (io := io) (n := n + 1) (us := us) k
      have e : frzRead io n (u :: us) s = frzRead io (n + 1) us s := by
        conv => lhs; unfold frzRead
        rw [if_pos hn]
      rw [e]
      refine ⟨Z', Fs', a1, a2, a3, fun x hx => (a4 x hx).imp id fun ⟨j, r, p, h1, h2, h3⟩ => ⟨j + 1, r, p, h1, by rw [← up]; exact h2, h3⟩, fun j r p h1 h2 h3 x hx => ?_, fun r h => a6 r fun j p hj => by rw [up]; exact h (j + 1) p hj⟩
      cases j with
      | zero => exact absurd hn h2
      | succ j => exact a5 j r p h1 (by rw [up]; exact h2) h3 x hx
    · cases u with
      | own t =>
        obtain ⟨Z', Fs', a1, a2, a3, a4, a5, a6⟩ := frzRead_ok (io := io) (n := n + 1) (us := us) k
        have e : frzRead io n (.own t :: us) s = frzRead io (n + 1) us s := by
          conv => lhs; unfold frzRead
          rw [if_neg hn]
        rw [e]
        refine ⟨Z', Fs', a1, a2, a3, fun x hx => (a4 x hx).imp id fun ⟨j, r, p, h1, h2, h3⟩ => ⟨j + 1, r, p, h1, by rw [← up]; exact h2, h3⟩, fun j r p h1 h2 h3 x hx => ?_, fun r h => a6 r fun j p hj => by rw [up]; exact h (j + 1) p hj⟩
        cases j with
        | zero => cases h1
        | succ j => exact a5 j r p h1 (by rw [up]; exact h2) h3 x hx
      | vw r0 p0 =>
        obtain ⟨Z1, Fs1, b1, b2, b3, b4, b5, b6, b7⟩ := k.frz (r := r0)
        obtain ⟨Z', Fs', a1, a2, a3, a4, a5, a6⟩ := frzRead_ok (io := io) (n := n + 1) (us := us) b1
        have e : frzRead io n (.vw r0 p0 :: us) s = frzRead io (n + 1) us (s.frz r0) := by
          conv => lhs; unfold frzRead
          rw [if_neg hn]
        rw [e]
        refine ⟨Z', Fs', a1, b2.trans a2, fun i x hx => b3 i x (a3 i x hx), fun x hx => ?_, fun j r p h1 h2 h3 x hx => ?_, fun r h => ?_⟩
        · rcases a4 x hx with q | ⟨j, r, p, h1, h2, h3⟩
          · exact (b4 x q).imp id fun q => ⟨0, r0, p0, rfl, hn, q⟩
          · exact .inr ⟨j + 1, r, p, h1, by rw [← up]; exact h2, b3 r x h3⟩
        · by_cases hr : r = r0
          · subst hr
            exact a2.zz x (b5 h3 x hx)
          · cases j with
            | zero => cases h1; exact absurd rfl hr
            | succ j => exact a5 j r p h1 (by rw [up]; exact h2) (by rw [frz_at hr]; exact h3) x (b6 r hr x hx)
        · have hr : r ≠ r0 := fun q => by subst q; exact hn (h 0 p0 rfl)
          obtain ⟨c1, c2⟩ := a6 r fun j p hj => by rw [up]; exact h (j + 1) p hj
          exact ⟨c1.trans (frz_at hr), fun x hx => c2 x (b6 r hr x hx)⟩
end
end Tv
namespace Tv
open Mi
open PySem hiding Env Ctx
section
variable {S S' S'' : Store} {Z Z' Z'' : Ad} {s s' : St} {ρ ρ' : Env} {pv pv' : List Val} {Fs Fs' Fs'' : Nat → Ad} {A B B' F G G1 G2 : Ad}
/-- what is known of a place -/
structure PlOK (S : Store) (Z : Ad) (s : St) (ρ : Env) (Fs : Nat → Ad) (r : Nat) (p : List Nat) (F1 : Ad) : Prop where
  has : ∃ t0 w u c, s.at r = some t0 ∧ ρ[r]? = some (some w) ∧ tAt t0 p = some c ∧ vAt S w p = some u ∧ Rp S Z c u F1 ∧ (∀ x, F1 x → Fs r x) ∧
    (∀ {p' : List Nat} {w' : Val} {S' : Store}, p'.length ≤ p.length → (∀ x, x < S.length → (Fs r x ∧ ¬ F1 x) ∨ Z x → S'[x]? = S[x]?) → vAt S w p' = some w' → vAt S' w p' = some w') ∧
    ∀ {c' t' : T}, tPut t0 p c' = some t' → PutOk S Z (Fs r) F1 u w c' t'
theorem place_ok {r : Nat} {p : List Nat} {c : T} (k : OK S Z s ρ pv Fs) (h : look s (.vw r p) = some c) : ∃ F1, PlOK S Z s ρ Fs r p F1 := by
  rw [look_vw] at h
  cases hr : s.at r with
  | none => rw [hr] at h; cases h
  | some t0 =>
    rw [hr] at h
    obtain ⟨w, h1, h2⟩ := k.rep r t0 hr
    obtain ⟨u, F1, a1, a2, a3, a4, a5⟩ := h2.walk (fun x hx => (k.nz r x hx).1) h
    exact ⟨F1, t0, w, u, c, hr, h1, h, a1, a2, a3, a4, a5⟩
/-- behind a call: the state told anew -/
theorem after_ok {l : Pl} {outs : List T} {s1 : St} {S2 : Store} {Z2 : Ad} {W : Nat → Ad} {Fa Fo : Nat → Ad} {Fst : Nat → Ad} {Zst : Ad} {io : List Nat} {vs : List Val} (k1 : OK S Z s1 ρ pv Fs) (k : OK S Zst s ρ pv Fst) (hS : S.length ≤ S2.length)
    (f1 : ∀ i x, Fst i x → Fs i x) (f2 : ∀ r p, some (r, p) ∈ l → s.at r = s1.at r ∧ ∀ x, Fs r x → Fst r x) (hd : Dist l)
    (hW : ∀ r p, some (r, p) ∈ l → PlOK S Z s1 ρ Fs r p (W r)) (hW0 : ∀ r x, W r x → (∃ p, some (r, p) ∈ l) ∧ Fs r x)
    (hFa : ∀ x, U Fa x → U W x ∨ ¬ U Fs x) (same : ∀ x, x < S.length → ¬ U Fa x → S2[x]? = S[x]?) (hZa : ∀ x, Zst x → ¬ U Fa x)
    (z1 : ∀ x, Z x → Zst x) (z2 : ∀ x, Zst x → Z2 x) (z3 : ∀ x, Z2 x → x < S.length → Zst x ∨ ¬ U Fs x ∨ U W x) (z4 : ∀ x, Z2 x → x < S2.length)
    (ho : ∀ (a r : Nat) (p : List Nat) (c : T), l[a]? = some (some (r, p)) → outs[a]? = some c → ∃ j u, io[a]? = some j ∧ vs[j]? = some u ∧ Rp S2 Z2 c u (Fo j)) (hv : ∀ (a j r : Nat) (p : List Nat), l[a]? = some (some (r, p)) → io[a]? = some j → ∃ w u, ρ[r]? = some (some w) ∧ vAt S w p = some u ∧ vs[j]? = some u)
    (hio : ∀ (a b j r r' : Nat) (p p' : List Nat), l[a]? = some (some (r, p)) → l[b]? = some (some (r', p')) → io[a]? = some j → io[b]? = some j → r = r')
    (o1 : ∀ i j x, Fo i x → Fo j x → i = j) (o2 : ∀ i x, Fo i x → ¬ Z2 x ∧ x < S2.length) (o3 : ∀ x, U Fo x → U Fa x ∨ S.length ≤ x)
    (e : putAll l outs s = some s') : OK S2 Z2 s' ρ pv (fun i x => (Fst i x ∧ ¬ W i x) ∨ ∃ (a j : Nat) (p : List Nat), io[a]? = some j ∧ l[a]? = some (some (i, p)) ∧ Fo j x) ∧ s'.β.length = s.β.length := by
  -- W belongs to its root
  have wr : ∀ i x, Fs i x → U W x → W i x := fun i x h1 ⟨r, h2⟩ => by
    have := k1.dj i r x h1 (hW0 r x h2).2
    subst this
    exact h2
  have notW : ∀ i x, Fs i x → ¬ W i x → ¬ U Fa x := fun i x h1 h2 h3 => (hFa x h3).elim (fun q => h2 (wr i x h1 q)) (fun q => q ⟨i, h1⟩)
  have oldF : ∀ i x, Fst i x → ¬ W i x → ¬ Z2 x ∧ x < S2.length := fun i x h1 h2 => by
    have hx := (k.nz i x h1).2
    refine ⟨fun q => ?_, Nat.lt_of_lt_of_le hx hS⟩
    rcases z3 x q hx with q | q | q
    · exact (k.nz i x h1).1 q
    · exact q ⟨i, f1 i x h1⟩
    · exact h2 (wr i x (f1 i x h1) q)
  have foW : ∀ i x, Fs i x → ¬ W i x → ¬ U Fo x := fun i x h1 h2 h3 => (o3 x h3).elim (notW i x h1 h2) (fun q => by have := (k1.nz i x h1).2; omega)
  have stay : ∀ x, Zst x → S2[x]? = S[x]? := fun x hx => same x (k.zl x hx) (hZa x hx)
  have base : OKx S2 Z2 s ρ pv (fun i x => (Fst i x ∧ ¬ W i x) ∨ ∃ (a j : Nat) (p : List Nat), io[a]? = some j ∧ l[a]? = some (some (i, p)) ∧ Fo j x) l := by
    refine ⟨k.len, fun i t ht hn => ?_, fun i j x h1 h2 => ?_, fun i x hx => ?_, z4, fun x r p hm hq => ?_, k.bn, fun j r p hj hq => ?_⟩
    · obtain ⟨v, g1, g2⟩ := k.rep i t ht
      have nW : ∀ x, ¬ W i x := fun x q => by obtain ⟨⟨p, hp⟩, _⟩ := hW0 i x q; exact hn p hp
      exact ⟨v, g1, (g2.st (fun x hx => hx.elim (fun q => same x (k.nz i x q).2 (notW i x (f1 i x q) (nW x))) (stay x)) z2).mono fun x hx => .inl ⟨hx, nW x⟩⟩
    · rcases h1 with h1 | ⟨a, j1, p1, c1, c2, c3⟩
      · rcases h2 with h2 | ⟨b, j2, p2, d1, d2, d3⟩
        · exact k.dj i j x h1.1 h2.1
        · exact absurd ⟨j2, d3⟩ (foW i x (f1 i x h1.1) h1.2)
      · rcases h2 with h2 | ⟨b, j2, p2, d1, d2, d3⟩
        · exact absurd ⟨j1, c3⟩ (foW j x (f1 j x h2.1) h2.2)
        · have := o1 j1 j2 x c3 d3
          subst this
          exact hio a b j1 i j p1 p2 c2 d2 c1 d1
    · rcases hx with hx | ⟨a, j, p, c1, c2, c3⟩
      · exact oldF i x hx.1 hx.2
      · exact o2 j x c3
    · obtain ⟨v, w', g1, g2, g3, t, g4⟩ := k.al x r p hm
      refine ⟨v, w', g1, ?_, g3, t, g4⟩
      by_cases hr : ∃ q, some (r, q) ∈ l
      · obtain ⟨q, hq'⟩ := hr
        obtain ⟨t0, w, u, c, a1, a2, a3, a4, a5, a6, a7, a8⟩ := (hW r q hq').has
        rw [g1] at a2
        cases a2
        exact a7 (hq q hq') (fun y hy h => same y hy (h.elim (fun h => notW r y h.1 h.2) (fun h => hZa y (z1 y h)))) g2
      · obtain ⟨v', b1, b2⟩ := k.rep r t g4
        rw [g1] at b1
        cases b1
        exact b2.same (fun y hy h => h.elim (fun h => same y hy (notW r y (f1 r y h) fun q => hr (hW0 r y q).1)) (stay y)) g2
    · obtain ⟨v, w', g1, g2, g3, t, g4⟩ := k.bl j r p hj
      refine ⟨v, w', g1, ?_, g3, t, g4⟩
      by_cases hr : ∃ q, some (r, q) ∈ l
      · obtain ⟨q, hq'⟩ := hr
        obtain ⟨t0, w, u, c, a1, a2, a3, a4, a5, a6, a7, a8⟩ := (hW r q hq').has
        rw [g1] at a2
        cases a2
        exact a7 (hq q hq') (fun y hy h => same y hy (h.elim (fun h => notW r y h.1 h.2) (fun h => hZa y (z1 y h)))) g2
      · obtain ⟨v', b1, b2⟩ := k.rep r t g4
        rw [g1] at b1
        cases b1
        exact b2.same (fun y hy h => h.elim (fun h => same y hy (notW r y (f1 r y h) fun q => hr (hW0 r y q).1)) (stay y)) g2
  have hf : ∀ (a r : Nat) (p : List Nat) (c : T), l[a]? = some (some (r, p)) → outs[a]? = some c → ∃ t0, s.at r = some t0 ∧ ∀ t', tPut t0 p c = some t' → ∃ w, ρ[r]? = some (some w) ∧ Rp S2 Z2 t' w (fun x => (Fst r x ∧ ¬ W r x) ∨ ∃ (a j : Nat) (p : List Nat), io[a]? = some j ∧ l[a]? = some (some (r, p)) ∧ Fo j x) := by
    intro a r p c h1 h2
    have hm := List.mem_of_getElem? h1
    obtain ⟨t0, w, u, c0, a1, a2, a3, a4, a5, a6, a7, a8⟩ := (hW r p hm).has
    refine ⟨t0, by rw [(f2 r p hm).1]; exact a1, fun t' ht' => ⟨w, a2, ?_⟩⟩
    obtain ⟨j, u', b1, b2, b3⟩ := ho a r p c h1 h2
    obtain ⟨w', u2, c1, c2, c3⟩ := hv a j r p h1 b1
    rw [a2] at c1
    cases c1
    rw [a4] at c2
    cases c2
    rw [b2] at c3
    cases c3
    have := a8 ht' (S' := S2) (Z' := Z2) (F' := Fo j) (fun x hx => hx.elim (fun q => same x (k1.nz r x q.1).2 (notW r x q.1 q.2)) (fun q => stay x (z1 x q))) (fun x q => z2 x (z1 x q)) b3 (fun x hx q => foW r x q.1 q.2 ⟨j, hx⟩)
    refine this.mono fun x hx => ?_
    rcases hx with hx | hx
    · exact .inl ⟨(f2 r p hm).2 x hx.1, hx.2⟩
    · exact .inr ⟨a, j, p, b1, h1, hx⟩
  obtain ⟨a1, a2, a3⟩ := putAll_ok base hd hf e
  exact ⟨a1, a2⟩
theorem nfs_get : ∀ {ts : List T} {j : Nat} {t : T}, nfs ts = true → ts[j]? = some t → nf t = true
  | [], _, _, _, e => by cases e
  | t :: ts, 0, _, h, e => by cases e; unfold nfs at h; rw [Bool.and_eq_true] at h; exact h.1
  | t :: ts, j + 1, c, h, e => by unfold nfs at h; rw [Bool.and_eq_true] at h; exact nfs_get (ts := ts) (j := j) h.2 e
/-- how an evaluation ends, on both sides -/
def EvG {α β : Type} (rel : Store → Ad → β → α → Ad → Prop) (S : Store) (Z : Ad) (Fs : Nat → Ad) (ρ : Env) (pv : List Val) (pure : Bool) (r : R α) (q : TR β) : Prop := match q with
  | .ok b s' => ∃ a S' Z' Fs' F', r = .ok a S' ∧ OK S' Z' s' ρ pv Fs' ∧ Tr S Z Fs S' Z' Fs' ∧ rel S' Z' b a F' ∧ Ow S' Z' Fs' (Bd S Fs) F' ∧ (pure = true → Same S S')
  | .ex c d s' => ∃ S' Z' Fs', d = none ∧ r = .ex c none S' ∧ OK S' Z' s' ρ pv Fs' ∧ Tr S Z Fs S' Z' Fs'
  | .bad => True
abbrev EvV (S : Store) (Z : Ad) (Fs : Nat → Ad) (ρ : Env) (pv : List Val) (pure : Bool) (r : R Val) (q : TR V2) : Prop := EvG (fun S Z u v F => V1 S Z ρ u v F) S Z Fs ρ pv pure r q
theorem tcall_ok {c : Cf} {Fn' : Fn} {g : Sem} {us : List V2} {vs : List Val} {pure : Bool} (hg : FnOK g Fn') (k : OK S Z s ρ pv Fs) (h : Vs S Z ρ us vs F) (o : Ow S Z Fs B F) (hB : ∀ x, F x → Bd S' Fs' x) (t0 : Tr S' Z' Fs' S Z Fs) (hp : pure = true → Same S' S ∧ Fn'.io = [] ∧ Fn'.tk = []) :
    EvV S' Z' Fs' ρ pv pure (if vs.length = Fn'.n then g vs S else .bad) (tcall c Fn' us s) := by
  unfold tcall
  by_cases hl' : ¬ us.length = Fn'.n
  · rw [if_neg hl']; exact trivial
  have hl : us.length = Fn'.n := Decidable.not_not.mp hl'
  rw [if_pos hl, if_pos (by rw [← h.len]; exact hl)]
  cases e1 : tkArgs c Fn'.tk 0 us s with
  | none => exact trivial
  | some q =>
    obtain ⟨us1, s1⟩ := q
    simp only
    obtain ⟨Z1, Fs1, F1, k1, t1, v1, o1, b1, _, tkown⟩ := tkArgs_ok k h o e1
    cases e2 : ioArgs us1 s1 Fn'.io with
    | none => exact trivial
    | some l =>
      simp only
      cases e3 : callArgs Fn'.io Fn'.tk l s1 0 us1 with
      | none => exact trivial
      | some ts =>
        simp only
        obtain ⟨hd, hll, io1, io2⟩ := ioArgs_ok e2
        obtain ⟨tl, ca⟩ := callArgs_ok e3
        obtain ⟨Fv, vg, vd, vF⟩ := v1.get
        have hB1 : ∀ x, F1 x → Bd S' Fs' x := fun x hx => (b1 x hx).elim (hB x) (t0.fs x)
        have ownF : ∀ j x, Fv j x → ¬ U Fs1 x ∧ ¬ Z1 x ∧ x < S.length := fun j x hx => ⟨(o1 x (vF j x hx)).1, (o1 x (vF j x hx)).2.1, (o1 x (vF j x hx)).2.2.1⟩
        -- places
        have lookAt : ∀ r p, some (r, p) ∈ l → ∃ cc, look s1 (.vw r p) = some cc := by
          intro r p hm
          obtain ⟨a, ha⟩ := List.mem_iff_getElem?.mp hm
          obtain ⟨j, hj, hu⟩ := io1 a r p ha
          have hjl : j < ts.length := by rw [tl]; exact (List.getElem?_eq_some_iff.mp hu).1
          obtain ⟨u, t0', h1, h2, _⟩ := ca j ts[j] (List.getElem?_eq_getElem hjl)
          rw [hu] at h1
          cases h1
          exact ⟨t0', h2⟩
        have pd : ∀ r p, some (r, p) ∈ l → ∃ Fp, PlOK S Z1 s1 ρ Fs1 r p Fp := fun r p hm => by obtain ⟨cc, hc⟩ := lookAt r p hm; exact place_ok k1 hc
        have uniq : ∀ r p q, some (r, p) ∈ l → some (r, q) ∈ l → p = q := by
          intro r p q h1 h2
          obtain ⟨a, ha⟩ := List.mem_iff_getElem?.mp h1
          obtain ⟨b, hb⟩ := List.mem_iff_getElem?.mp h2
          have := hd.inj ha hb
          subst this
          rw [ha] at hb
          cases hb
          rfl
        let W : Nat → Ad := fun r x => ∃ (p : List Nat) (hm : some (r, p) ∈ l), (pd r p hm).choose x
        have Weq : ∀ r p (hm : some (r, p) ∈ l), W r = (pd r p hm).choose := by
          intro r p hm
          funext x
          apply propext
          constructor
          · rintro ⟨q, hq, hx⟩
            have := uniq r p q hm hq
            subst this
            exact hx
          · exact fun hx => ⟨p, hm, hx⟩
        have hW : ∀ r p, some (r, p) ∈ l → PlOK S Z1 s1 ρ Fs1 r p (W r) := fun r p hm => by rw [Weq r p hm]; exact (pd r p hm).choose_spec
        have hW0 : ∀ r x, W r x → (∃ p, some (r, p) ∈ l) ∧ Fs1 r x := fun r x ⟨p, hm, hx⟩ => by
          obtain ⟨_, _, _, _, _, _, _, _, _, q, _, _⟩ := (pd r p hm).choose_spec.has
          exact ⟨⟨p, hm⟩, q x hx⟩
        -- the callee's view
        let Fa : Nat → Ad := fun j x => (∃ (a r : Nat) (p : List Nat), Fn'.io[a]? = some j ∧ l[a]? = some (some (r, p)) ∧ W r x) ∨ ((j ∈ Fn'.io ∨ j ∈ Fn'.tk) ∧ (∃ t, us1[j]? = some (.own t)) ∧ Fv j x)
        let Zc : Ad := fun x => Z1 x ∨ (∃ (j : Nat), j ∉ Fn'.io ∧ j ∉ Fn'.tk ∧ (∃ t, us1[j]? = some (.own t)) ∧ Fv j x) ∨ (∃ (j r : Nat) (p : List Nat), us1[j]? = some (.vw r p) ∧ j ∉ Fn'.io ∧ Fs1 r x)
        have rootFree : ∀ j r p, us1[j]? = some (.vw r p) → j ∉ Fn'.io → ∀ q, some (r, q) ∉ l := by
          intro j r p hu hj q
          have hjl : j < ts.length := by rw [tl]; exact (List.getElem?_eq_some_iff.mp hu).1
          obtain ⟨u, t0', h1, h2, h3⟩ := ca j ts[j] (List.getElem?_eq_getElem hjl)
          rw [hu] at h1
          cases h1
          rcases h3 with h3 | h3
          · rcases h3.1 with h4 | h4
            · exact absurd (by simpa using h4) hj
            · obtain ⟨t, ht⟩ := tkown j _ hu h4
              cases ht
          · exact inL_ok (h3.2.2.2 r p rfl) q
        have FaW : ∀ x, U Fa x → U W x ∨ ¬ U Fs1 x := by
          rintro x ⟨j, h | h⟩
          · obtain ⟨a, r, p, _, _, hx⟩ := h
            exact .inl ⟨r, hx⟩
          · exact .inr (ownF j x h.2.2).1
        have FaB : ∀ x, U Fa x → U Fs1 x ∨ F1 x := by
          rintro x ⟨j, h | h⟩
          · obtain ⟨a, r, p, _, _, hx⟩ := h
            exact .inl ⟨r, (hW0 r x hx).2⟩
          · exact .inr (vF j x h.2.2)
        have FaDj : ∀ i j x, Fa i x → Fa j x → i = j := by
          intro i j x hi hj
          rcases hi with ⟨a, r, p, a1, a2, a3⟩ | hi
          · rcases hj with ⟨b, r', p', c1, c2, c3⟩ | hj
            · have := k1.dj r r' x (hW0 r x a3).2 (hW0 r' x c3).2
              subst this
              have := hd.inj a2 c2
              subst this
              rw [a1] at c1
              exact Option.some.inj c1
            · exact absurd ⟨r, (hW0 r x a3).2⟩ (ownF j x hj.2.2).1
          · rcases hj with ⟨b, r', p', c1, c2, c3⟩ | hj
            · exact absurd ⟨r', (hW0 r' x c3).2⟩ (ownF i x hi.2.2).1
            · exact vd i j x hi.2.2 hj.2.2
        have FaLt : ∀ i x, Fa i x → x < S.length := by
          rintro i x (⟨a, r, p, _, _, h⟩ | h)
          · exact (k1.nz r x (hW0 r x h).2).2
          · exact (ownF i x h.2.2).2.2
        have FaZ : ∀ i x, Fa i x → ¬ Zc x := by
          rintro i x hi (hz | ⟨j, j1, j2, _, hz⟩ | ⟨j, r, p, h1, h2, hz⟩)
          · rcases hi with ⟨a, r, p, _, _, h⟩ | h
            · exact (k1.nz r x (hW0 r x h).2).1 hz
            · exact (ownF i x h.2.2).2.1 hz
          · rcases hi with ⟨a, r, p, _, _, h⟩ | h
            · exact (ownF j x hz).1 ⟨r, (hW0 r x h).2⟩
            · have := vd i j x h.2.2 hz
              subst this
              exact h.1.elim j1 j2
          · rcases hi with ⟨a, r', p', _, a2, h⟩ | h
            · have := k1.dj r' r x (hW0 r' x h).2 hz
              subst this
              exact rootFree j r' p h1 h2 p' (List.mem_of_getElem? a2)
            · exact (ownF i x h.2.2).1 ⟨r, hz⟩
        have ZcLt : ∀ x, Zc x → x < S.length := by
          rintro x (hz | ⟨j, _, _, _, hz⟩ | ⟨j, r, p, _, _, hz⟩)
          · exact k1.zl x hz
          · exact (ownF j x hz).2.2
          · exact (k1.nz r x hz).2
        have lenV : vs.length = Fn'.n := by rw [← h.len]; exact hl
        have lenT : ts.length = Fn'.n := by rw [tl, v1.len]; exact lenV
        have args : ∀ (j : Nat) (t : T), ts[j]? = some t → ∃ v, vs[j]? = some v ∧ Rp S Zc t v (Fa j) := by
          intro j t ht
          obtain ⟨u, t0', h1, h2, h3⟩ := ca j t ht
          obtain ⟨v, g1, g2⟩ := vg j u h1
          refine ⟨v, g1, ?_⟩
          rw [Nat.zero_add] at h3
          rcases h3 with ⟨h3, rfl⟩ | ⟨h3, h4, rfl, h5⟩
          · cases u with
            | own t' =>
              cases h2
              exact (Rp.st g2 (fun _ _ => rfl) (fun _ h => .inl h)).mono fun x hx => .inr ⟨h3, ⟨_, h1⟩, hx⟩
            | vw r p =>
              have hio : j ∈ Fn'.io := by
                rcases h3 with h3 | h3
                · exact h3
                · obtain ⟨t', ht'⟩ := tkown j _ h1 (by rw [Nat.zero_add]; exact h3)
                  cases ht'
              obtain ⟨a, ha⟩ := List.mem_iff_getElem?.mp hio
              rcases io2 a j ha with ⟨r', p', q1, q2⟩ | ⟨t', q1, q2⟩
              · rw [h1] at q1
                cases q1
                obtain ⟨t0'', w, u', cc, a1, a2, a3, a4, a5, a6, _, _⟩ := (hW r p (List.mem_of_getElem? q2)).has
                obtain ⟨w', c1, c2⟩ := g2
                rw [a2] at c1
                cases c1
                rw [a4] at c2
                cases c2
                rw [look_vw, a1] at h2
                change tAt t0'' p = some _ at h2
                rw [a3] at h2
                cases h2
                exact (a5.st (fun _ _ => rfl) (fun _ h => .inl h)).mono fun x hx => .inl ⟨a, r, p, ha, q2, hx⟩
              · rw [h1] at q1; cases q1
          · cases u with
            | own t' =>
              cases h2
              exact Rp.fz g2 (fun x hx => hx.elim (fun q => .inr (.inl ⟨j, h3, h4, ⟨_, h1⟩, q⟩)) .inl) _
            | vw r p =>
              obtain ⟨Fp, hP⟩ := place_ok k1 h2
              obtain ⟨t0'', w, u', cc, a1, a2, a3, a4, a5, a6, _, _⟩ := hP.has
              obtain ⟨w', c1, c2⟩ := g2
              rw [a2] at c1
              cases c1
              rw [a4] at c2
              cases c2
              rw [look_vw, a1] at h2
              change tAt t0'' p = some _ at h2
              rw [a3] at h2
              cases h2
              exact a5.fz (fun x hx => hx.elim (fun q => .inr (.inr ⟨j, r, p, h1, h3, a6 x q⟩)) .inl) _
        have key := hg S Zc vs ts Fa lenV lenT args FaDj (fun i x hi => ⟨FaZ i x hi, FaLt i x hi⟩) ZcLt
        -- what both endings share
        have fin : ∀ (nfz : Bool) (outs : List T) (S2 : Store) (Zc' : Ad) (Fo : Nat → Ad) (s' : St), (∀ (i j : Nat) (t' : T), Fn'.io[i]? = some j → outs[i]? = some t' → ∃ u, vs[j]? = some u ∧ Rp S2 Zc' t' u (Fo j)) →
            (∀ i j x, Fo i x → Fo j x → i = j) → (∀ i x, Fo i x → ¬ Zc' x ∧ x < S2.length) → (∀ x, Zc' x → x < S2.length) → Tr S Zc Fa S2 Zc' Fo → (nfz = true → nfs outs = true) →
            putAll l outs (if nfz = true then s1 else frzRead Fn'.io 0 us1 s1) = some s' →
            ∃ Z2 Fs2, OK S2 Z2 s' ρ pv Fs2 ∧ Tr S' Z' Fs' S2 Z2 Fs2 ∧ (∀ x, Z2 x → Zc' x) ∧ (nfz = false → ∀ x, Zc' x → Z2 x) ∧ (∀ x, U Fs2 x → (U Fs1 x ∧ ¬ U W x) ∨ U Fo x) := by
          intro nfz outs S2 Zc' Fo s' ho q1 q2 q3 tr hnf e
          have same : ∀ x, x < S.length → ¬ U Fa x → S2[x]? = S[x]? := tr.fr
          have zcnew : ∀ x, Zc' x → x < S.length → Zc x ∨ U Fa x := fun x hx hlt => by
            rcases tr.zn x hx with q | q | q
            · exact .inl q
            · exact .inr q
            · omega
          have zcB : ∀ x, Zc x → Z1 x ∨ U Fs1 x ∨ F1 x := fun x hx => by
            rcases hx with q | ⟨j, _, _, _, q⟩ | ⟨j, r, p, _, _, q⟩
            · exact .inl q
            · exact .inr (.inr (vF j x q))
            · exact .inr (.inl ⟨r, q⟩)
          have hv : ∀ (a j r : Nat) (p : List Nat), l[a]? = some (some (r, p)) → Fn'.io[a]? = some j → ∃ w u, ρ[r]? = some (some w) ∧ vAt S w p = some u ∧ vs[j]? = some u := by
            intro a j r p h1 h2
            obtain ⟨j', h3, h4⟩ := io1 a r p h1
            rw [h2] at h3
            cases h3
            obtain ⟨v, g1, g2⟩ := vg j _ h4
            obtain ⟨w, c1, c2⟩ := g2
            exact ⟨w, v, c1, c2, g1⟩
          have hio : ∀ (a b j r r' : Nat) (p p' : List Nat), l[a]? = some (some (r, p)) → l[b]? = some (some (r', p')) → Fn'.io[a]? = some j → Fn'.io[b]? = some j → r = r' := by
            intro a b j r r' p p' h1 h2 h3 h4
            obtain ⟨j1, g1, g2⟩ := io1 a r p h1
            obtain ⟨j2, g3, g4⟩ := io1 b r' p' h2
            rw [h3] at g1
            cases g1
            rw [h4] at g3
            cases g3
            rw [g2] at g4
            cases g4
            rfl
          have wrap : ∀ (sx : St) (Zx : Ad) (Fx : Nat → Ad) (Z2 : Ad), OK S Zx sx ρ pv Fx → Tr S Z1 Fs1 S Zx Fx → (∀ i x, Fx i x → Fs1 i x) → (∀ r p, some (r, p) ∈ l → sx.at r = s1.at r ∧ ∀ x, Fs1 r x → Fx r x) → (∀ x, Zx x → ¬ U Fa x) → (∀ x, Zx x → Z2 x) → (∀ x, Z2 x → Zc' x) → (∀ x, Z2 x → x < S.length → Zx x ∨ ¬ U Fs1 x ∨ U W x) →
              (∀ (a r : Nat) (p : List Nat) (cc : T), l[a]? = some (some (r, p)) → outs[a]? = some cc → ∃ j u, Fn'.io[a]? = some j ∧ vs[j]? = some u ∧ Rp S2 Z2 cc u (Fo j)) → putAll l outs sx = some s' →
              ∃ Fs2, OK S2 Z2 s' ρ pv Fs2 ∧ Tr S' Z' Fs' S2 Z2 Fs2 ∧ (∀ x, U Fs2 x → (U Fs1 x ∧ ¬ U W x) ∨ U Fo x) := by
            intro sx Zx Fx Z2 kx tx fx1 fx2 zx1 zx2 zx3 zx4 hox ex
            obtain ⟨r1, r2⟩ := after_ok (io := Fn'.io) (vs := vs) k1 kx tr.len fx1 fx2 hd hW hW0 FaW same zx1 tx.zz zx2 zx4 (fun x hx => q3 x (zx3 x hx)) hox hv hio q1 (fun i x hx => ⟨fun q => (q2 i x hx).1 (zx3 x q), (q2 i x hx).2⟩) tr.fs ex
            refine ⟨_, r1, (t0.trans t1).transB (A := F1) ⟨tr.len, fun x h1 h2 h3 => same x h1 fun q => (FaB x q).elim h2 h3, fun x hx => zx2 x (tx.zz x hx), fun x hx => ?_, fun x hx => ?_⟩ (fun x hx => hB1 x hx), ?_⟩
            · by_cases hlt : x < S.length
              · rcases zcnew x (zx3 x hx) hlt with q | q
                · rcases zcB x q with q | q | q
                  · exact .inl q
                  · exact .inr (.inl q)
                  · exact .inr (.inr (.inr q))
                · exact (FaB x q).elim (fun q => .inr (.inl q)) (fun q => .inr (.inr (.inr q)))
              · exact .inr (.inr (.inl (by omega)))
            · obtain ⟨i, hx⟩ := hx
              rcases hx with hx | ⟨a, j, p, _, _, hx⟩
              · exact .inl ⟨i, fx1 i x hx.1⟩
              · rcases tr.fs x ⟨j, hx⟩ with q | q
                · exact (FaB x q).elim .inl (fun q => .inr (.inr q))
                · exact .inr (.inl q)
            · rintro x ⟨i, hx | ⟨a, j, p, _, _, hx⟩⟩
              · refine .inl ⟨⟨i, fx1 i x hx.1⟩, fun ⟨r, q⟩ => hx.2 ?_⟩
                have := k1.dj i r x (fx1 i x hx.1) (hW0 r x q).2
                subst this
                exact q
              · exact .inr ⟨j, hx⟩
          cases nfz with
          | true =>
            rw [if_pos rfl] at e
            obtain ⟨Fs2, r1, r2, r3⟩ := wrap s1 Z1 Fs1 (fun x => Z1 x ∨ (Zc' x ∧ S.length ≤ x)) k1 .refl (fun _ _ h => h) (fun _ _ _ => ⟨rfl, fun _ h => h⟩) (fun x hx ⟨i, q⟩ => FaZ i x q (.inl hx)) (fun _ h => .inl h) (fun x hx => hx.elim (fun q => tr.zz x (.inl q)) (fun q => q.1)) (fun x hx hlt => hx.elim .inl (fun q => by omega))
              (fun a r p cc h1 h2 => by
                obtain ⟨j, h3, _⟩ := io1 a r p h1
                obtain ⟨u, g1, g2⟩ := ho a j cc h3 h2
                exact ⟨j, u, h3, g1, g2.nf (nfs_get (hnf rfl) h2)⟩) e
            exact ⟨_, Fs2, r1, r2, fun x hx => hx.elim (fun q => tr.zz x (.inl q)) (fun q => q.1), fun q => (by cases q), r3⟩
          | false =>
            rw [if_neg (by decide)] at e
            obtain ⟨Zx, Fx, x1, x2, x3, x4, x5, x6⟩ := frzRead_ok (io := Fn'.io) (n := 0) (us := us1) k1
            have zxc : ∀ x, Zx x → Zc x := fun x hx => (x4 x hx).elim .inl fun ⟨j, r, p, h1, h2, h3⟩ => .inr (.inr ⟨j, r, p, h1, by rw [Nat.zero_add] at h2; exact h2, h3⟩)
            obtain ⟨Fs2, r1, r2, r3⟩ := wrap _ Zx Fx Zc' x1 x2 x3 (fun r p hm => x6 r fun j q hj => by
                rw [Nat.zero_add]
                apply Classical.byContradiction
                intro hn
                exact rootFree j r q hj hn p hm) (fun x hx ⟨i, q⟩ => FaZ i x q (zxc x hx)) (fun x hx => tr.zz x (zxc x hx)) (fun _ h => h) (fun x hx hlt => by
                rcases zcnew x hx hlt with q | q
                · rcases q with q | ⟨j, _, _, _, q⟩ | ⟨j, r, p, h1, h2, q⟩
                  · exact .inl (x2.zz x q)
                  · exact .inr (.inl (ownF j x q).1)
                  · have hjl : j < ts.length := by rw [tl]; exact (List.getElem?_eq_some_iff.mp h1).1
                    obtain ⟨u, t0', c1, c2, _⟩ := ca j ts[j] (List.getElem?_eq_getElem hjl)
                    rw [h1] at c1
                    cases c1
                    rw [look_vw] at c2
                    refine .inl (x5 j r p h1 (by rw [Nat.zero_add]; exact h2) ?_ x q)
                    cases hr : s1.at r with
                    | none => rw [hr] at c2; cases c2
                    | some t => exact ⟨t, rfl⟩
                · exact (FaW x q).elim (fun q => .inr (.inr q)) (fun q => .inr (.inl q)))
              (fun a r p cc h1 h2 => by
                obtain ⟨j, h3, _⟩ := io1 a r p h1
                obtain ⟨u, g1, g2⟩ := ho a j cc h3 h2
                exact ⟨j, u, h3, g1, g2⟩) e
            exact ⟨Zc', Fs2, r1, r2, fun _ h => h, fun _ _ h => h, r3⟩
        cases e4 : Fn'.g ts with
        | bad => exact trivial
        | ok t outs =>
          rw [e4] at key
          simp only at key
          obtain ⟨v, S2, Zc', Fr, Fo, g1, g2, g3, g4, g5, g6, g7, g8⟩ := key
          simp only
          generalize hnf : (nf t && nfs outs) = nfz
          cases e5 : putAll l outs (if nfz = true then s1 else frzRead Fn'.io 0 us1 s1) with
          | none => exact trivial
          | some s' =>
            simp only
            obtain ⟨Z2, Fs2, r1, r2, r3, r4, r5⟩ := fin nfz outs S2 Zc' Fo s' g3 g4 g5 g7 g8 (fun q => by rw [q, Bool.and_eq_true] at hnf; exact hnf.2) e5
            refine ⟨v, S2, Z2, Fs2, Fr, g1, r1, r2, ?_, fun x hx => ⟨fun q => ?_, fun q => (g6 x hx).2.1 (r3 x q), (g6 x hx).2.2.1, ?_⟩, fun hpp => ?_⟩
            · cases nfz with
              | true =>
                rw [Bool.and_eq_true] at hnf
                exact Rp.nf g2 hnf.1
              | false => exact Rp.st g2 (fun _ _ => rfl) (r4 rfl)
            · rcases r5 x q with q | q
              · rcases (g6 x hx).2.2.2 with q' | q'
                · rcases FaW x q' with q'' | q''
                  · exact q.2 q''
                  · exact q'' q.1
                · obtain ⟨i, qi⟩ := q.1
                  have := (k1.nz i x qi).2
                  omega
              · exact (g6 x hx).1 q
            · rcases (g6 x hx).2.2.2 with q | q
              · rcases FaB x q with q | q
                · exact (t0.trans t1).fs x q
                · exact hB1 x q
              · exact .inr (Nat.le_trans t0.len q)
            · obtain ⟨c1, c2, c3⟩ := hp hpp
              refine c1.trans ⟨g8.len, fun x hx => g8.fr x hx ?_⟩
              rintro ⟨j, ⟨a, r, p, q, _⟩ | ⟨q, _⟩⟩
              · rw [c2] at q; cases q
              · rw [c2, c3] at q
                rcases q with q | q <;> cases q
        | ex cl d outs =>
          rw [e4] at key
          simp only at key
          obtain ⟨S2, Zc', Fo, hd0, g1, g3, g4, g5, g7, g8⟩ := key
          simp only
          generalize hnf : (nfo d && nfs outs) = nfz
          cases e5 : putAll l outs (if nfz = true then s1 else frzRead Fn'.io 0 us1 s1) with
          | none => exact trivial
          | some s' =>
            simp only
            obtain ⟨Z2, Fs2, r1, r2, r3, r4, r5⟩ := fin nfz outs S2 Zc' Fo s' g3 g4 g5 g7 g8 (fun q => by rw [q, Bool.and_eq_true] at hnf; exact hnf.2) e5
            exact ⟨S2, Z2, Fs2, hd0, g1, r1, r2⟩
end
end Tv
namespace Tv
open Mi
open PySem hiding Env Ctx
/-! ### what each form does, for simp -/
section
variable (c : Cf) (s : St)
@[simp] theorem tv_var (i : Nat) : tv c (.var i) s = TR.of (tvar i s) s := by first | (rw [tv]; done) | (rw [tv]; rfl)
@[simp] theorem tv_cst (v : Val) : tv c (.cst v) s = TR.ow (tOf v) s := by first | (rw [tv]; done) | (rw [tv]; rfl)
@[simp] theorem tv_lst (es : List E) : tv c (.lst es) s = (tvs c es s).bind fun us s => match claims c us s with
    | some (ts, s) => if ts.length ≤ sizeLine then .ok (.own (.lst true ts)) s else .bad
    | none => .bad := by first | (rw [tv]; done) | (rw [tv]; rfl)
@[simp] theorem tv_tup (es : List E) : tv c (.tup es) s = (tvs c es s).bind fun us s => match claims c us s with
    | some (ts, s) => if ts.length ≤ sizeLine then .ok (.own (.tup ts)) s else .bad
    | none => .bad := by first | (rw [tv]; done) | (rw [tv]; rfl)
@[simp] theorem tv_bin (o : O2) (a b : E) : tv c (.bin o a b) s = (tv c a s).bind fun u s => (tv c b s).bind fun v s => match keep c.C a u [b] s with
    | some u => match absorb c u s with
      | some (x, s) => match absorb c v s with
        | some (y, s) => TR.ow (tbin o x y) s
        | none => .bad
      | none => .bad
    | none => .bad := by first | (rw [tv]; done) | (rw [tv]; rfl)
@[simp] theorem tv_neg (a : E) : tv c (.neg a) s = (r1 (tv c a s)).bind fun u s => TR.ow ((tintOf u).map fun i => .int (-i)) s := by first | (rw [tv]; done) | (rw [tv]; rfl)
@[simp] theorem tv_cmpT (o : Cp) (a : E) (es : List E) : tv c (.cmp o a (.tup es)) s = (tv c a s).bind fun u s => (tvs c es s).bind fun vs s => match keep c.C a u es s with
    | some u => match look s u, allSome (vs.map (look s)) with
      | some x, some ys => if ys.length ≤ sizeLine then TR.ow ((tcmp o x (.tup ys)).map .bl) s else .bad
      | _, _ => .bad
    | none => .bad := by first | (rw [tv]; done) | (rw [tv]; rfl)
@[simp] theorem tv_cmp (o : Cp) (a b : E) (h : ∀ es, b = .tup es → False) : tv c (.cmp o a b) s = (r2 c.C a b (tv c a s) fun s => tv c b s).bind fun p s => TR.ow ((tcmp o p.1 p.2).map .bl) s := by
  rw [tv]
  exact h
@[simp] theorem tv_chain (o p : Cp) (a b d : E) : tv c (.chain o p a b d) s = (tv c a s).bind fun u s => (tv c b s).bind fun v s => match keep c.C a u [b] s with
    | some u => match look s u, look s v with
      | some x, some y => match tcmp o x y with
        | some k => if k then (tv c d s).bind fun w s => match keep c.C b v [d] s with
            | some v => match look s v, look s w with
              | some y, some z => TR.ow ((tcmp p y z).map .bl) s
              | _, _ => .bad
            | none => .bad
          else .ok (.own (.bl false)) s
        | none => .bad
      | _, _ => .bad
    | none => .bad := by first | (rw [tv]; done) | (rw [tv]; rfl)
@[simp] theorem tv_and (a b : E) : tv c (.and a b) s = (tv c a s).bind fun u s => match (look s u).bind ttru with
    | some k => if k then tv c b s else .ok u s
    | none => .bad := by first | (rw [tv]; done) | (rw [tv]; rfl)
@[simp] theorem tv_or (a b : E) : tv c (.or a b) s = (tv c a s).bind fun u s => match (look s u).bind ttru with
    | some k => if k then .ok u s else tv c b s
    | none => .bad := by first | (rw [tv]; done) | (rw [tv]; rfl)
@[simp] theorem tv_not (a : E) : tv c (.not a) s = (r1 (tv c a s)).bind fun u s => TR.ow ((ttru u).map fun k => .bl (!k)) s := by first | (rw [tv]; done) | (rw [tv]; rfl)
@[simp] theorem tv_ite (d a b : E) : tv c (.ite d a b) s = (tv c d s).bind fun u s => match (look s u).bind ttru with
    | some k => if k then tv c a s else tv c b s
    | none => .bad := by first | (rw [tv]; done) | (rw [tv]; rfl)
@[simp] theorem tv_sub (a i : E) : tv c (.sub a i) s = (tv c a s).bind fun u s => (tv c i s).bind fun v s => match keep c.C a u [i] s, look s v with
    | some u, some k => TR.of (tsub s u k) s
    | _, _ => .bad := by first | (rw [tv]; done) | (rw [tv]; rfl)
@[simp] theorem tv_slB (a lo hi : E) : tv c (.slB a lo hi) s = (tv c a s).bind fun u s => (r1 (tv c lo s)).bind fun i s => match i with
    | .int i => (r1 (tv c hi s)).bind fun j s => match j with
      | .int j => match keep c.C a u [lo, hi] s with
        | some u => match absorb c u s with
          | some (t, s) => TR.ow (tslice t (some i) (some j)) s
          | none => .bad
        | none => .bad
      | _ => .bad
    | _ => .bad := by first | (rw [tv]; done) | (rw [tv]; rfl)
@[simp] theorem tv_slS (a lo st : E) : tv c (.slS a lo st) s = (tv c a s).bind fun u s => (r1 (tv c lo s)).bind fun i s => match i with
    | .int i => (r1 (tv c st s)).bind fun j s => match j with
      | .int j => if 0 ≤ i ∧ 0 < j then match keep c.C a u [lo, st] s with
        | some u => match absorb c u s with
          | some (t, s) => TR.ow (tstp t i.toNat j.toNat) s
          | none => .bad
        | none => .bad else .bad
      | _ => .bad
    | _ => .bad := by first | (rw [tv]; done) | (rw [tv]; rfl)
@[simp] theorem tv_slL (a lo : E) : tv c (.slL a lo) s = (tv c a s).bind fun u s => (r1 (tv c lo s)).bind fun i s => match i with
    | .int i => match keep c.C a u [lo] s with
      | some u => match absorb c u s with
        | some (t, s) => TR.ow (tslice t (some i) none) s
        | none => .bad
      | none => .bad
    | _ => .bad := by first | (rw [tv]; done) | (rw [tv]; rfl)
@[simp] theorem tv_slH (a hi : E) : tv c (.slH a hi) s = (tv c a s).bind fun u s => (r1 (tv c hi s)).bind fun j s => match j with
    | .int j => match keep c.C a u [hi] s with
      | some u => match absorb c u s with
        | some (t, s) => TR.ow (tslice t none (some j)) s
        | none => .bad
      | none => .bad
    | _ => .bad := by first | (rw [tv]; done) | (rw [tv]; rfl)
@[simp] theorem tv_slA (a : E) : tv c (.slA a) s = (tv c a s).bind fun u s => match absorb c u s with
    | some (t, s) => TR.ow (tslice t none none) s
    | none => .bad := by first | (rw [tv]; done) | (rw [tv]; rfl)
@[simp] theorem tv_slR (a : E) : tv c (.slR a) s = (tv c a s).bind fun u s => match absorb c u s with
    | some (t, s) => match tlst t with
      | some xs => TR.ow (tnew xs.reverse) s
      | none => .bad
    | none => .bad := by first | (rw [tv]; done) | (rw [tv]; rfl)
@[simp] theorem tv_call (f : Nat) (es : List E) : tv c (.call f es) s = match c.C f with
    | some F => (tvs c es s).bind fun us s => tcall c F us s
    | none => .bad := by first | (rw [tv]; done) | (rw [tv]; rfl)
@[simp] theorem tv_isi (a : E) (Tn : String) : tv c (.isi a Tn) s = (r1 (tv c a s)).bind fun t s => TR.ow (((ttyIn t).bind fun x => L2.kitB x Tn).map .bl) s := by first | (rw [tv]; done) | (rw [tv]; rfl)
/-- an operation by its name, over what was read -/
def tpr (c : Cf) (p : Pr) (us : List V2) (s : St) : TR V2 := match allSome (us.map (look s)) with
    | some ts => match p, us with
      | .list, [u] => (match absorb c u s with
        | some (t, s) => TR.ow (tprim .list [t]) s
        | none => .bad)
      | .tuple, [u] => (match absorb c u s with
        | some (t, s) => TR.ow (tprim .tuple [t]) s
        | none => .bad)
      | p, _ => TR.ow (tprim p ts) s
    | none => .bad
@[simp] theorem tv_pr (p : Pr) (es : List E) : tv c (.pr p es) s = (tvs c es s).bind fun us s => tpr c p us s := by first | (rw [tv]; done) | (rw [tv]; rfl)
@[simp] theorem tv_me (m : Me) (o : E) (es : List E) : tv c (.me m o es) s = (tv c o s).bind fun u s => if isLst (look s u) && lstMe m then if isMut m && pinQ c.C o es then (match u with
      | .vw r p => (match tvs c es ⟨s.τ, s.α, s.β ++ [some (r, p)]⟩ with
        | .ok us s1 => tmutP m s.β.length (claims c us s1)
        | _ => .bad)
      | .own _ => .bad)
    else (tvs c es s).bind fun us s => if isMut m then match claims c us s with
      | some (ts, s) => match keep c.C o u es s with
        | some u => tmut m u ts s
        | none => .bad
      | none => .bad
    else match keep c.C o u es s with
      | some u => match look s u, allSome (us.map (look s)) with
        | some t, some ts => TR.ow (trmeth m t ts) s
        | _, _ => .bad
      | none => .bad
    else .bad := by first | (rw [tv]; done) | (rw [tv]; rfl)
@[simp] theorem tv_dK : tv c .dK s = .ok (.own (.dK true [] [])) s := by first | (rw [tv]; done) | (rw [tv]; rfl)
@[simp] theorem tv_isx (k : Nat) : tv c (.isx k) s = match c.C excNo with | some F => .ok (.own (.bl (exSub F.n k))) s | none => .bad := by first | (rw [tv]; done) | (rw [tv]; rfl)
@[simp] theorem tv_dT : tv c .dT s = .ok (.own (.dT true [] [])) s := by first | (rw [tv]; done) | (rw [tv]; rfl)
@[simp] theorem tv_lrg1 (a : E) : tv c (.lrg1 a) s = (r1 (tv c a s)).bind fun u s => match u with
    | .int n => if n ≤ 1000000 ∧ -(2 ^ 62) ≤ n then .ok (.own (.lst true (trng 0 n.toNat))) s else .bad
    | _ => .bad := by first | (rw [tv]; done) | (rw [tv]; rfl)
@[simp] theorem tv_lrg2 (a b : E) : tv c (.lrg2 a b) s = (r2 c.C a b (tv c a s) fun s => tv c b s).bind fun p s => match p.1, p.2 with
    | .int i, .int j => if small62 i && small62 j && decide (j - i ≤ 1000000) then .ok (.own (.lst true (trng i (j - i).toNat))) s else .bad
    | _, _ => .bad := by first | (rw [tv]; done) | (rw [tv]; rfl)
def lcStep (c : Cf) (own : List Nat) (t : Tg) (ifs : List E) (e : E) : It → St → TR (Option T) := fun v s => match (if itFree own v then tlayIt [] t v (wipeS s own) else none) with
        | none => .bad
        | some s => (tvT c ifs s).bind fun b s => if b then (tv c e s).bind fun y s => match claim c y s with
            | some (d, s) => .ok (some d) s
            | none => .bad
          else .ok none s
def tlcL (c : Cf) (own : List Nat) (t : Tg) (ifs : List E) (e : E) (s : St) : Option (TI × Nat × St) → TR V2
    | none => .bad
    | some (ti, n, s1) => if ¬ (Mi.slots t).all (fun i => decide (i ∈ own)) = true then .bad else (tcl (tnext ti) (lcStep c own t ifs e) n 0 [] (wipeS s1 own)).bind fun ts s2 => .ok (.own (.lst true ts)) ⟨(backS s1.τ s2 own).τ, (backS s1.τ s2 own).α, (backS s1.τ s2 own).β.take s.β.length⟩
@[simp] theorem tv_lc (own : List Nat) (t : Tg) (k : IK) (its ifs : List E) (e : E) : tv c (.lc own t k its ifs e) s = (tvs c its s).bind fun us s => tlcL c own t ifs e s (tstart k us s) := by
  first | (rw [tv]; done) | (rw [tv]; rfl)
@[simp] theorem tvs_nil : tvs c [] s = .ok [] s := by first | (rw [tvs]; done) | (rw [tvs]; rfl)
@[simp] theorem tvs_cons (e : E) (es : List E) : tvs c (e :: es) s = (tv c e s).bind fun u s => (tvs c es s).bind fun us s => match keep c.C e u es s with
    | some u => .ok (u :: us) s
    | none => .bad := by first | (rw [tvs]; done) | (rw [tvs]; rfl)
@[simp] theorem tvT_nil : tvT c [] s = .ok true s := by first | (rw [tvT]; done) | (rw [tvT]; rfl)
@[simp] theorem tvT_one (e : E) : tvT c [e] s = (tv c e s).bind fun u s => TR.of ((look s u).bind ttru) s := by first | (rw [tvT]; done) | (rw [tvT]; rfl)
end
section
variable {S S' S'' S0 : Store} {Z Z' Z'' Z0 : Ad} {s s' : St} {ρ ρ' : Env} {pv pv' : List Val} {Fs Fs' Fs'' Fs0 : Nat → Ad} {A B B' F G G1 G2 : Ad}
theorem EvG.bind {α β γ δ : Type} {rel : Store → Ad → β → α → Ad → Prop} {rel' : Store → Ad → δ → γ → Ad → Prop} {p p' : Bool} {r : R α} {q : TR β} {k : α → Store → R γ} {kq : β → St → TR δ} (a : Tr S0 Z0 Fs0 S Z Fs) (h : EvG rel S Z Fs ρ pv p r q)
    (hk : ∀ {b a S1 Z1 s1 Fs1 F1}, r = .ok a S1 → OK S1 Z1 s1 ρ pv Fs1 → Tr S Z Fs S1 Z1 Fs1 → rel S1 Z1 b a F1 → Ow S1 Z1 Fs1 (Bd S Fs) F1 → (p = true → Same S S1) → EvG rel' S0 Z0 Fs0 ρ pv p' (k a S1) (kq b s1)) :
    EvG rel' S0 Z0 Fs0 ρ pv p' (r.bind k) (q.bind kq) := by
  cases q with
  | ok b s' =>
    obtain ⟨a', S1, Z1, Fs1, F1, rfl, h1, h2, h3, h4, h5⟩ := h
    exact hk rfl h1 h2 h3 h4 h5
  | ex c d s' =>
    obtain ⟨S1, Z1, Fs1, rfl, rfl, h1, h2⟩ := h
    exact ⟨S1, Z1, Fs1, rfl, rfl, h1, a.trans h2⟩
  | bad => exact trivial
/-- an end with a new value -/
theorem EvV.op {p : Bool} {t : T} {o : Mi.P} (a : Tr S0 Z0 Fs0 S Z Fs) (k : OK S Z s ρ pv Fs) (h : Op S Z t G o) (hG : Ow S Z Fs (Bd S0 Fs0) G) (hp : p = true → Same S0 S) : EvV S0 Z0 Fs0 ρ pv p (R.op o) (.ok (.own t) s) := by
  obtain ⟨v, X, F', rfl, h1, h2⟩ := h
  have sm : Same S (S ++ X) := .app X
  refine ⟨v, S ++ X, Z, Fs, F', rfl, k.grow sm, a.trans sm.tr, h1, fun x hx => ?_, fun q => (hp q).trans sm⟩
  rcases h2 x hx with q | q
  · obtain ⟨q1, q2, q3, q4⟩ := hG x q
    exact ⟨q1, q2, Nat.lt_of_lt_of_le q3 sm.1, q4⟩
  · exact ⟨fun ⟨i, q'⟩ => by have := (k.nz i x q').2; omega, fun q' => by have := k.zl x q'; omega, q.2, .inr (Nat.le_trans a.len q.1)⟩
theorem EvV.pure {p : Bool} {t : T} {v : Val} (a : Tr S0 Z0 Fs0 S Z Fs) (k : OK S Z s ρ pv Fs) (h : Rp S Z t v (fun _ => False)) (hp : p = true → Same S0 S) : EvV S0 Z0 Fs0 ρ pv p (.ok v S) (.ok (.own t) s) :=
  ⟨v, S, Z, Fs, fun _ => False, rfl, k, a, h, .none, hp⟩
theorem EvV.bl {p : Bool} {o : Option Bool} {o' : Option Bool} (a : Tr S0 Z0 Fs0 S Z Fs) (k : OK S Z s ρ pv Fs) (h : ∀ b, o' = some b → o = some b) (hp : p = true → Same S0 S) : EvV S0 Z0 Fs0 ρ pv p (R.bl o S) (TR.ow (o'.map .bl) s) := by
  cases o' with
  | none => exact trivial
  | some b => rw [h b rfl]; exact EvV.pure a k rfl hp
/-! ### comprehensions -/
theorem wipe_ok : ∀ {own : List Nat} {ρ1 ρ' : Env} {Fs : Nat → Ad}, OK S Z s ρ1 pv Fs → ρ'.length = ρ1.length → (∀ i, i ∉ own → ρ'[i]? = ρ1[i]?) → ∃ Fs', OK S Z (wipeS s own) ρ' pv Fs' ∧ (∀ i x, Fs' i x → Fs i x ∧ i ∉ own)
  | [], ρ1, ρ', Fs, k, hl, h => ⟨Fs, by
      have : ρ' = ρ1 := List.ext_getElem? fun i => h i List.not_mem_nil
      rw [this]; exact k, fun i x hx => ⟨hx, List.not_mem_nil⟩⟩
  | v :: own, ρ1, ρ', Fs, k, hl, h => by
    obtain ⟨Fs1, a1, a2⟩ := wipe_ok (own := own) (ρ' := ρ'.set v (ρ1[v]?.join)) k (by simp [hl]) (fun i hi => by
      by_cases hv : i = v
      · subst hv
        by_cases hlt : i < ρ1.length
        · rw [List.getElem?_set_self (by omega), List.getElem?_eq_getElem hlt]; rfl
        · rw [List.getElem?_eq_none (by simp; omega), List.getElem?_eq_none (by omega)]
      · rw [List.getElem?_set_ne fun q => hv q.symm]
        exact h i fun q => (List.mem_cons.mp q).elim hv hi)
    have := a1.setS (r := v) (o := none) (G := fun _ => False) (ρ' := ρ') (by simp) (fun i hi => (List.getElem?_set_ne fun q => hi q.symm).symm) (fun _ q => by cases q) (fun _ q => q.elim)
    refine ⟨_, this, fun i x hx => ?_⟩
    unfold upF at hx
    split at hx
    · exact hx.elim
    · rename_i hi
      obtain ⟨b1, b2⟩ := a2 i x hx
      exact ⟨b1, fun q => (List.mem_cons.mp q).elim hi b2⟩
theorem back_ok {τ0 : List (Option T)} {H : Nat → Ad} {ρ1 : Env} : ∀ {own : List Nat} {ρ' : Env}, OK S Z s ρ1 pv Fs → (∀ v ∈ own, ∀ t, (τ0[v]?).join = some t → ∃ w, ρ'[v]? = some (some w) ∧ Rp S Z t w (H v)) → (∀ v x, H v x → ¬ U Fs x ∧ ¬ Z x ∧ x < S.length) → (∀ i j x, H i x → H j x → i = j) →
    ρ'.length = ρ1.length → (∀ i, i ∉ own → ρ'[i]? = ρ1[i]?) → ∃ Fs', OK S Z (backS τ0 s own) ρ' pv Fs' ∧ (∀ i x, Fs' i x → (Fs i x ∧ i ∉ own) ∨ (H i x ∧ i ∈ own))
  | [], ρ', k, h1, h2, h3, hl, h => ⟨Fs, by
      have : ρ' = ρ1 := List.ext_getElem? fun i => h i List.not_mem_nil
      rw [this]; exact k, fun i x hx => .inl ⟨hx, List.not_mem_nil⟩⟩
  | v :: own, ρ', k, h1, h2, h3, hl, h => by
    have nv : ∀ i, i ≠ v → (ρ'.set v (ρ1[v]?.join))[i]? = ρ'[i]? := fun i hi => List.getElem?_set_ne fun q => hi q.symm
    by_cases hv : v ∈ own
    · obtain ⟨Fs1, a1, a2⟩ := back_ok (own := own) (ρ' := ρ') k (fun u hu => h1 u (List.mem_cons_of_mem _ hu)) h2 h3 hl (fun i hi => h i fun q => (List.mem_cons.mp q).elim (fun q => hi (by rw [q]; exact hv)) hi)
      have := a1.setS (r := v) (o := (τ0[v]?).join) (G := H v) (ρ' := ρ') rfl (fun _ _ => rfl) (fun t ht => h1 v List.mem_cons_self t ht) (fun x hx => ⟨(h2 v x hx).2.1, (h2 v x hx).2.2, fun i hi q => by
        rcases a2 i x q with q | q
        · exact (h2 v x hx).1 ⟨i, q.1⟩
        · exact hi (h3 i v x q.1 hx)⟩)
      refine ⟨_, this, fun i x hx => ?_⟩
      unfold upF at hx
      split at hx
      · rename_i e; rw [e]; exact .inr ⟨hx, List.mem_cons_self⟩
      · rename_i hi
        rcases a2 i x hx with q | q
        · exact .inl ⟨q.1, fun q' => (List.mem_cons.mp q').elim hi q.2⟩
        · exact .inr ⟨q.1, List.mem_cons_of_mem _ q.2⟩
    · obtain ⟨Fs1, a1, a2⟩ := back_ok (own := own) (ρ' := ρ'.set v (ρ1[v]?.join)) k (fun u hu t ht => by
        obtain ⟨w, b1, b2⟩ := h1 u (List.mem_cons_of_mem _ hu) t ht
        exact ⟨w, by rw [nv u fun q => hv (by rw [← q]; exact hu)]; exact b1, b2⟩) h2 h3 (by simp [hl]) (fun i hi => by
        by_cases e : i = v
        · subst e
          by_cases hlt : i < ρ1.length
          · rw [List.getElem?_set_self (by omega), List.getElem?_eq_getElem hlt]; rfl
          · rw [List.getElem?_eq_none (by simp; omega), List.getElem?_eq_none (by omega)]
        · rw [nv i e]
          exact h i fun q => (List.mem_cons.mp q).elim e hi)
      have := a1.setS (r := v) (o := (τ0[v]?).join) (G := H v) (ρ' := ρ') (by simp) (fun i hi => (nv i hi).symm) (fun t ht => h1 v List.mem_cons_self t ht) (fun x hx => ⟨(h2 v x hx).2.1, (h2 v x hx).2.2, fun i hi q => by
        rcases a2 i x q with q | q
        · exact (h2 v x hx).1 ⟨i, q.1⟩
        · exact hi (h3 i v x q.1 hx)⟩)
      refine ⟨_, this, fun i x hx => ?_⟩
      unfold upF at hx
      split at hx
      · rename_i e; rw [e]; exact .inr ⟨hx, List.mem_cons_self⟩
      · rename_i hi
        rcases a2 i x hx with q | q
        · exact .inl ⟨q.1, fun q' => (List.mem_cons.mp q').elim hi q.2⟩
        · exact .inr ⟨q.1, List.mem_cons_of_mem _ q.2⟩
theorem OK.unpin {l : List Val} (k : OK S Z s ρ (pv ++ l) Fs) (n : Nat) (hn : pv.length = n) : OK S Z ⟨s.τ, s.α, s.β.take n⟩ ρ pv Fs := by
  refine ⟨k.len, k.rep, k.dj, k.nz, k.zl, k.al, ?_, fun j r p hj => ?_⟩
  · have := k.bn
    rw [List.length_append] at this
    rw [List.length_take]; omega
  · rw [List.getElem?_take] at hj
    split at hj
    · rename_i hlt
      obtain ⟨v, w, h1, h2, h3, h4⟩ := k.bl j r p hj
      exact ⟨v, w, h1, h2, by rw [List.getElem?_append_left (by omega)] at h3; exact h3, h4⟩
    · cases hj
end
end Tv
namespace Tv
open Mi
open PySem hiding Env Ctx
def CtxOK (C : Mi.Ctx) (Ct : Nat → Option Fn) : Prop := ∀ f F, Ct f = some F → ∃ g, C f = some (F.n, g) ∧ FnOK g F
section
variable {S S' S'' S0 : Store} {Z Z' Z'' Z0 : Ad} {s s' : St} {ρ ρ' : Env} {pv pv' : List Val} {Fs Fs' Fs'' Fs0 : Nat → Ad} {A B B' F G G1 G2 : Ad}
/-- an object that is in no tree of the state -/
theorem OK.setD {D : Nat} (o : Ob) (k : OK S Z s ρ pv Fs) (h1 : ¬ U Fs D) (h2 : ¬ Z D) : OK (S.set D o) Z s ρ pv Fs := by
  have ne : ∀ x, (U Fs x ∨ Z x) → (S.set D o)[x]? = S[x]? := fun x hx => List.getElem?_set_ne fun e => by subst e; exact hx.elim h1 h2
  refine ⟨k.len, fun i t ht => ?_, k.dj, fun i x hx => ⟨(k.nz i x hx).1, by rw [List.length_set]; exact (k.nz i x hx).2⟩, fun x hx => by rw [List.length_set]; exact k.zl x hx, fun x r p hm => ?_, k.bn, fun j r p hj => ?_⟩
  · obtain ⟨v, a1, a2⟩ := k.rep i t ht
    exact ⟨v, a1, a2.st (fun x hx => ne x (hx.imp (fun q => ⟨i, q⟩) id)) fun _ h => h⟩
  · obtain ⟨v, w, a1, a2, a3, t, a4⟩ := k.al x r p hm
    obtain ⟨v', b1, b2⟩ := k.rep r t a4
    rw [a1] at b1
    cases b1
    exact ⟨v, w, a1, b2.same (fun x _ hx => ne x (hx.imp (fun q => ⟨r, q⟩) id)) a2, a3, t, a4⟩
  · obtain ⟨v, w, a1, a2, a3, t, a4⟩ := k.bl j r p hj
    obtain ⟨v', b1, b2⟩ := k.rep r t a4
    rw [a1] at b1
    cases b1
    exact ⟨v, w, a1, b2.same (fun x _ hx => ne x (hx.imp (fun q => ⟨r, q⟩) id)) a2, a3, t, a4⟩
theorem free_env {own : List Nat} {it : It} {v : Val} (h : ItOK S Z ρ it v) (hf : itFree own it = true) (he : ∀ i, i ∉ own → ρ'[i]? = ρ[i]?) : ItOK S Z ρ' it v := by
  have one : ∀ {u : V2} {v : Val}, V1 S Z ρ u v (fun _ => False) → v2Free own u = true → V1 S Z ρ' u v (fun _ => False) := fun {u v} h hf => h.env fun r p e => he r (by
    subst e
    unfold v2Free at hf
    simpa using hf)
  cases it with
  | one u => exact one h hf
  | two u w =>
    obtain ⟨a, b, e, h1, h2⟩ := h
    unfold itFree at hf
    rw [Bool.and_eq_true] at hf
    exact ⟨a, b, e, one h1 hf.1, one h2 hf.2⟩
theorem Tr.weak (h : Tr S Z Fs S' Z' Fs') (f : ∀ x, U Fs x → U Fs'' x) : Tr S Z Fs'' S' Z' Fs' :=
  ⟨h.len, fun x a b => h.fr x a fun q => b (f x q), h.zz, fun x q => (h.zn x q).imp id fun q => q.imp (f x) id, fun x q => (h.fs x q).imp (f x) id⟩
theorem SrOK.st {a : Sr} {E : Store → Option (List Val)} (h : SrOK S Z pv a E) (hz : ∀ x, Z x → S'[x]? = S[x]?) (zz : ∀ x, Z x → Z' x) : SrOK S' Z' pv a E := by
  cases a with
  | snap xs =>
    obtain ⟨us, h1, h2⟩ := h
    exact ⟨us, fun S2 h => h1 S2 fun x hx => by rw [h x (zz x hx), hz x hx], h2.st (fun x hx => hx.elim False.elim (hz x)) zz⟩
  | live j => exact h
theorem TIOK.st {ti : TI} {iv : IV} (h : TIOK S Z pv ti iv) (hz : ∀ x, Z x → S'[x]? = S[x]?) (zz : ∀ x, Z x → Z' x) : TIOK S' Z' pv ti iv := by
  cases ti with
  | sq a => obtain ⟨E, h1, h2⟩ := h; exact ⟨E, h1.st hz zz, h2⟩
  | en a => obtain ⟨E, h1, h2⟩ := h; exact ⟨E, h1.st hz zz, h2⟩
  | zp a b => obtain ⟨E, E2, h1, h3, h2⟩ := h; exact ⟨E, E2, h1.st hz zz, h3.st hz zz, h2⟩
  | rv a n => obtain ⟨E, h1, h2⟩ := h; exact ⟨E, h1.st hz zz, h2⟩
/-- a comprehension in its turns -/
structure LI (S : Store) (Z : Ad) (s : St) (ρ : Env) (own : List Nat) (pv : List Val) (Fs : Nat → Ad) (D : Nat) (B : Ad) (acc : List T) : Prop where
  ok : ∃ ρ1, OK S Z s ρ1 pv Fs ∧ ρ1.length = ρ.length ∧ ∀ i, i ∉ own → ρ1[i]? = ρ[i]?
  has : ∃ us Fa, S[D]? = some (.lst us) ∧ Rps S Z acc us Fa ∧ Ow S Z Fs B (fun x => x = D ∨ Fa x) ∧ ¬ Fa D
def addO (acc : List T) : Option T → List T
  | some y => acc ++ [y]
  | none => acc
theorem push_eq {D : Nat} {us : List Val} {y : Val} (h : S[D]? = some (.lst us)) (hl : us.length < sizeLine) : push D y S = .ok () (S.set D (.lst (us ++ [y]))) := by
  unfold push
  simp only [h, hl, if_true]
theorem tcl_ok {C : Mi.Ctx} {c : Cf} {own : List Nat} {t : Tg} {ifs : List E} {e : E} {ti : TI} {iv : IV} {D : Nat} {pI pE : Bool} (hs : (Mi.slots t).all (fun i => decide (i ∈ own)) = true)
    (hT : ∀ {S Z s ρ pv Fs}, OK S Z s ρ pv Fs → EvG (fun _ _ b a _ => a = b) S Z Fs ρ pv pI (evT C ifs ρ S) (tvT c ifs s))
    (hE : ∀ {S Z s ρ pv Fs}, OK S Z s ρ pv Fs → EvV S Z Fs ρ pv pE (ev C e ρ S) (tv c e s)) : ∀ (n k : Nat) (acc : List T) {S : Store} {Z : Ad} {s : St} {Fs : Nat → Ad}, LI S Z s ρ own pv Fs D B acc → TIOK S Z pv ti iv → (∀ x, Bd S Fs x → B x) →
    match tcl (tnext ti) (lcStep c own t ifs e) n k acc s with
    | .ok ts s2 => ∃ S2 Z2 Fs2, cloop iv.next (cstep C own t ifs e ρ D) n k S = .ok () S2 ∧ LI S2 Z2 s2 ρ own pv Fs2 D B ts ∧ TrB S Z Fs (fun x => x = D) S2 Z2 Fs2 ∧ (pI = true → pE = true → S.length ≤ S2.length ∧ ∀ x, x < S.length → x ≠ D → S2[x]? = S[x]?)
    | .ex _ _ _ => False
    | .bad => True := by
  intro n
  induction n with
  | zero =>
    intro k acc S Z s Fs li hti hB
    unfold tcl
    cases hn : tnext ti k s with
    | none => exact trivial
    | some o =>
      obtain ⟨ρ1, k1, l1, e1⟩ := li.ok
      rcases tnext_ok k1 hti hn with ⟨rfl, h2⟩ | ⟨it, v, rfl, h2, h3⟩
      · simp only
        refine ⟨S, Z, Fs, ?_, li, .refl, fun _ _ => ⟨Nat.le_refl _, fun _ _ _ => rfl⟩⟩
        unfold cloop
        rw [h2]
      · exact trivial
  | succ n ih =>
    intro k acc S Z s Fs li hti hB
    unfold tcl
    cases hn : tnext ti k s with
    | none => exact trivial
    | some o =>
      obtain ⟨ρ1, k1, l1, e1⟩ := li.ok
      obtain ⟨us, Fa, d1, d2, d3, d4⟩ := li.has
      rcases tnext_ok k1 hti hn with ⟨rfl, h2⟩ | ⟨it, v, rfl, h2, h3⟩
      · simp only
        refine ⟨S, Z, Fs, ?_, li, .refl, fun _ _ => ⟨Nat.le_refl _, fun _ _ _ => rfl⟩⟩
        unfold cloop
        rw [h2]
      · simp only
        cases hst : lcStep c own t ifs e it s with
        | bad => exact trivial
        | ex _ _ _ => exact trivial
        | ok o s' =>
          -- one step
          have step : (o.isSome = true → acc.length < sizeLine) → ∃ S2 Z2 Fs2, cstep C own t ifs e ρ D v S = .ok () S2 ∧ TrB S Z Fs (fun x => x = D) S2 Z2 Fs2 ∧ (pI = true → pE = true → S.length ≤ S2.length ∧ ∀ x, x < S.length → x ≠ D → S2[x]? = S[x]?) ∧
              LI S2 Z2 s' ρ own pv Fs2 D B (addO acc o) := by
            intro hsz
            obtain ⟨Fsw, w1, w2⟩ := wipe_ok (own := own) (ρ' := wipeE ρ own) k1 (by rw [wipeE_length, l1]) (fun i hi => by rw [wipeE_at, if_neg hi, e1 i hi])
            unfold lcStep at hst
            by_cases hf : itFree own it = true
            · rw [if_pos hf] at hst
              have hit := free_env (ρ' := wipeE ρ own) h3 hf (fun i hi => by rw [wipeE_at, if_neg hi, e1 i hi])
              cases e2 : tlayIt [] t it (wipeS s own) with
              | none => rw [e2] at hst; cases hst
              | some s1 =>
                rw [e2] at hst
                simp only at hst
                obtain ⟨ρ2, Fs1, a1, a2⟩ := tlayIt_ok w1 hit e2
                have f1 : ∀ x, U Fs1 x → U Fs x := fun x q => by
                  obtain ⟨i, q⟩ := (a2.fs x q).elim id False.elim
                  exact ⟨i, (w2 i x q).1⟩
                have o1 : Ow S Z Fs1 B (fun x => x = D ∨ Fa x) := fun x hx => ⟨fun q => (d3 x hx).1 (f1 x q), (d3 x hx).2⟩
                have en : ρ2.length = ρ.length ∧ ∀ i, i ∉ own → ρ2[i]? = ρ[i]? := by
                  refine ⟨a2.ln.trans (wipeE_length ..), fun i hi => ?_⟩
                  rw [a2.sl i fun q => hi (by simpa using List.all_eq_true.mp hs i q), wipeE_at, if_neg hi]
                have lay1 : cstep C own t ifs e ρ D v S = (evT C ifs ρ2 S).bind fun b S2 => if b then (ev C e ρ2 S2).bind fun y S3 => push D y S3 else .ok () S2 := by unfold cstep; rw [a1]
                rw [lay1]
                have hT1 := hT a2.ok
                cases e3 : tvT c ifs s1 with
                | bad => rw [e3] at hst; cases hst
                | ex _ _ _ => rw [e3] at hst; cases hst
                | ok b s2 =>
                  rw [e3] at hst hT1
                  obtain ⟨b', S2, Z2, Fs2, F2, r1, k2, t2, rb, ow2, sm2⟩ := hT1
                  subst rb
                  rw [r1]
                  simp only [R.bind_ok, TR.bind_ok] at hst ⊢
                  have t2' := t2.weak f1
                  have D2 : Ow S2 Z2 Fs2 B (fun x => x = D ∨ Fa x) := o1.tr t2
                  have acc2 := d2.tr (o1.mono fun x hx => .inr hx) a2.ok t2
                  have dD : S2[D]? = S[D]? := t2.fr D (d3 D (.inl rfl)).2.2.1 (o1 D (.inl rfl)).1
                  cases b' with
                  | false =>
                    simp only [Bool.false_eq_true, if_false] at hst ⊢
                    cases hst
                    exact ⟨S2, Z2, Fs2, rfl, t2'.toB, fun p1 _ => ⟨t2.len, fun x hx _ => (sm2 p1).2 x hx⟩, ⟨ρ2, k2, en.1, en.2⟩, us, Fa, by rw [dD]; exact d1, acc2, D2, d4⟩
                  | true =>
                    simp only [if_true] at hst ⊢
                    have hE1 := hE k2
                    cases e4 : tv c e s2 with
                    | bad => rw [e4] at hst; cases hst
                    | ex _ _ _ => rw [e4] at hst; cases hst
                    | ok y s3 =>
                      rw [e4] at hst hE1
                      obtain ⟨yv, S3, Z3, Fs3, F3, r3, k3, t3, rv, ow3, sm3⟩ := hE1
                      rw [r3]
                      simp only [R.bind_ok, TR.bind_ok] at hst ⊢
                      cases e5 : claim c y s3 with
                      | none => rw [e5] at hst; cases hst
                      | some q =>
                        obtain ⟨d, s4⟩ := q
                        rw [e5] at hst
                        cases hst
                        obtain ⟨Z4, Fs4, F4, k4, t4, rd, ow4, sub4, _⟩ := claim_ok k3 rv ow3 e5
                        have t34 := t3.trans t4
                        have D4 : Ow S3 Z4 Fs4 B (fun x => x = D ∨ Fa x) := D2.tr t34
                        have acc4 := acc2.tr (D2.mono fun x hx => .inr hx) k2 t34
                        have dD3 : S3[D]? = some (.lst us) := by rw [t3.fr D (D2 D (.inl rfl)).2.2.1 (D2 D (.inl rfl)).1, dD]; exact d1
                        have hl0 : us.length < sizeLine := by rw [← d2.len]; exact hsz rfl
                        rw [push_eq dD3 hl0]
                        have nD : ¬ U Fs4 D ∧ ¬ Z4 D := ⟨(D4 D (.inl rfl)).1, (D4 D (.inl rfl)).2.1⟩
                        have B2 : ∀ x, Bd S2 Fs2 x → B x := fun x hx => hB x (t2'.bd x hx)
                        have f4B : ∀ x, F4 x → B x := fun x hx => (ow4 x hx).2.2.2.elim (B2 x) fun q => B2 x (t3.bd x (.inl q))
                        have apart : ∀ x, F4 x → x ≠ D ∧ ¬ Fa x := fun x hx => by
                          have key : ∀ y, (y = D ∨ Fa y) → ¬ F4 y := fun y hy q => by
                            have hd2 := D2 y hy
                            rcases sub4 y q with q | q
                            · rcases (ow3 y q).2.2.2 with q' | q'
                              · exact hd2.1 q'
                              · have := hd2.2.2.1; omega
                            · rcases t3.fs y q with q' | q'
                              · exact hd2.1 q'
                              · have := hd2.2.2.1; omega
                          exact ⟨fun q => key x (.inl q) hx, fun q => key x (.inr q) hx⟩
                        have keep : ∀ x, (x ≠ D) → (S3.set D (Ob.lst (us ++ [yv])))[x]? = S3[x]? := fun x hx => List.getElem?_set_ne fun q => hx q.symm
                        have zD : ∀ x, Z4 x → x ≠ D := fun x hx q => nD.2 (by rw [← q]; exact hx)
                        have accF := acc4.st (S' := S3.set D (Ob.lst (us ++ [yv]))) (Z' := Z4) (fun x hx => keep x (hx.elim (fun q q' => d4 (by rw [← q']; exact q)) (zD x))) (fun _ h => h)
                        have rdF := rd.st (S' := S3.set D (Ob.lst (us ++ [yv]))) (Z' := Z4) (fun x hx => keep x (hx.elim (fun q => (apart x q).1) (zD x))) (fun _ h => h)
                        refine ⟨S3.set D (.lst (us ++ [yv])), Z4, Fs4, rfl, ?_, fun p1 p2 => ?_, ⟨ρ2, k4.setD _ nD.1 nD.2, en.1, en.2⟩, us ++ [yv], fun x => Fa x ∨ F4 x, ?_, accF.append (Rps.one rdF) (fun x hx => ⟨.inl hx, fun q => (apart x q).2 hx⟩) (fun x hx => .inr hx), fun x hx => ?_, fun hx => ?_⟩
                        · have tt := t2'.trans t34
                          refine ⟨by rw [List.length_set]; exact tt.len, fun x h1 h2 h3 => ?_, tt.zz, fun x q => (tt.zn x q).imp id fun q => q.imp id .inl, fun x q => (tt.fs x q).imp id .inl⟩
                          rw [keep x h3]
                          exact tt.fr x h1 h2
                        · refine ⟨by rw [List.length_set]; exact (t2'.trans t34).len, fun x h1 h2 => ?_⟩
                          rw [keep x h2]
                          exact ((sm2 p1).trans (sm3 p2)).2 x h1
                        · exact List.getElem?_set_self (get_lt dD3)
                        · rw [List.length_set]
                          rcases hx with hx | hx | hx
                          · exact D4 x (.inl hx)
                          · exact D4 x (.inr hx)
                          · exact ⟨(ow4 x hx).1, (ow4 x hx).2.1, (ow4 x hx).2.2.1, f4B x hx⟩
                        · exact hx.elim d4 fun q => (apart D q).1 rfl
            · rw [if_neg hf] at hst
              cases hst
          have dn : ¬ Z D := (d3 D (.inl rfl)).2.1
          have go : ∀ (acc' : List T) {S2 : Store} {Z2 : Ad} {Fs2 : Nat → Ad}, cstep C own t ifs e ρ D v S = .ok () S2 → TrB S Z Fs (fun x => x = D) S2 Z2 Fs2 → (pI = true → pE = true → S.length ≤ S2.length ∧ ∀ x, x < S.length → x ≠ D → S2[x]? = S[x]?) → LI S2 Z2 s' ρ own pv Fs2 D B acc' →
              match tcl (tnext ti) (lcStep c own t ifs e) n (k + 1) acc' s' with
              | .ok ts s2 => ∃ S2 Z2 Fs2, cloop iv.next (cstep C own t ifs e ρ D) (n + 1) k S = .ok () S2 ∧ LI S2 Z2 s2 ρ own pv Fs2 D B ts ∧ TrB S Z Fs (fun x => x = D) S2 Z2 Fs2 ∧ (pI = true → pE = true → S.length ≤ S2.length ∧ ∀ x, x < S.length → x ≠ D → S2[x]? = S[x]?)
              | .ex _ _ _ => False
              | .bad => True := by
            intro acc' S2 Z2 Fs2 q1 q2 q3 q4
            have hz : ∀ x, Z x → S2[x]? = S[x]? := fun x hx => q2.fr x (k1.zl x hx) (fun ⟨i, q⟩ => (k1.nz i x q).1 hx) (fun q => dn (by rw [← q]; exact hx))
            have BD : B D := (d3 D (.inl rfl)).2.2.2
            have := ih (k + 1) acc' q4 (hti.st hz q2.zz) (fun x hx => hx.elim (fun q => (q2.fs x q).elim (fun q => hB x (.inl q)) (fun q => q.elim (fun q => hB x (.inr q)) (fun q => by rw [q]; exact BD))) (fun q => hB x (.inr (Nat.le_trans q2.len q))))
            cases e6 : tcl (tnext ti) (lcStep c own t ifs e) n (k + 1) acc' s' with
            | bad => exact trivial
            | ex _ _ _ => rw [e6] at this; exact this
            | ok ts s2 =>
              rw [e6] at this
              obtain ⟨S3, Z3, Fs3, r1, r2, r3, r4⟩ := this
              refine ⟨S3, Z3, Fs3, ?_, r2, q2.transB r3, fun p1 p2 => ⟨Nat.le_trans (q3 p1 p2).1 (r4 p1 p2).1, fun x h1 h2 => by rw [(r4 p1 p2).2 x (Nat.lt_of_lt_of_le h1 (q3 p1 p2).1) h2, (q3 p1 p2).2 x h1 h2]⟩⟩
              unfold cloop
              rw [h2]
              simp only [q1]
              exact r1
          simp only
          cases o with
          | none =>
            obtain ⟨S2, Z2, Fs2, q1, q2, q3, q4⟩ := step (fun q => by cases q)
            exact go acc q1 q2 q3 q4
          | some y =>
            simp only
            by_cases hsz : acc.length < sizeLine
            · rw [if_pos hsz]
              obtain ⟨S2, Z2, Fs2, q1, q2, q3, q4⟩ := step (fun _ => hsz)
              exact go (acc ++ [y]) q1 q2 q3 q4
            · rw [if_neg hsz]; exact trivial
end
end Tv
namespace Tv
open Mi
open PySem hiding Env Ctx
section
variable {S S' S'' S0 : Store} {Z Z' Z'' Z0 : Ad} {s s' : St} {ρ ρ' : Env} {pv pv' : List Val} {Fs Fs' Fs'' Fs0 : Nat → Ad} {A B B' F G G1 G2 : Ad}
theorem lc_ok {C : Mi.Ctx} {c : Cf} {own : List Nat} {t : Tg} {kk : IK} {ifs : List E} {e : E} {pI pE p : Bool} {us : List V2} {vs : List Val}
    (hT : ∀ {S Z s ρ pv Fs}, OK S Z s ρ pv Fs → EvG (fun _ _ b a _ => a = b) S Z Fs ρ pv pI (evT C ifs ρ S) (tvT c ifs s))
    (hE : ∀ {S Z s ρ pv Fs}, OK S Z s ρ pv Fs → EvV S Z Fs ρ pv pE (ev C e ρ S) (tv c e s)) (a : Tr S0 Z0 Fs0 S Z Fs) (k : OK S Z s ρ pv Fs) (h : Vs S Z ρ us vs F) (o : Ow S Z Fs (Bd S0 Fs0) F) (hp : p = true → Same S0 S ∧ pI = true ∧ pE = true) :
    EvV S0 Z0 Fs0 ρ pv p (lcL C own t ifs e ρ S (Mi.start kk vs S)) (tlcL c own t ifs e s (tstart kk us s)) := by
  cases e1 : tstart kk us s with
  | none => exact trivial
  | some q =>
    obtain ⟨ti, n, s1⟩ := q
    obtain ⟨Z', l, iv, h1, h2, k1, t1, hti, htau⟩ := tstart_ok k h o e1
    rw [h1]
    unfold tlcL lcL
    simp only
    by_cases hs : (Mi.slots t).all (fun i => decide (i ∈ own)) = true
    · rw [if_neg (not_not_intro hs), h2]
      have sm : Same S (S ++ [Ob.lst []]) := .app _
      have k2 := k1.grow sm
      have hlen : (S ++ [Ob.lst []]).length = S.length + 1 := by simp
      obtain ⟨Fsw, w1, w2⟩ := wipe_ok (own := own) (ρ' := wipeE ρ own) k2 (by rw [wipeE_length]) (fun i hi => by rw [wipeE_at, if_neg hi])
      have hB : ∀ x, Bd (S ++ [Ob.lst []]) Fsw x → Bd S0 Fs0 x ∧ ∀ v ∈ own, ¬ Fs v x := by
        intro x hx
        rcases hx with ⟨i, q⟩ | q
        · obtain ⟨q1, q2⟩ := w2 i x q
          exact ⟨(a.fs x ⟨i, q1⟩), fun v hv q' => q2 (by rw [k.dj i v x q1 q']; exact hv)⟩
        · rw [hlen] at q
          exact ⟨.inr (by have := a.len; omega), fun v hv q' => by have := (k.nz v x q').2; omega⟩
      have li : LI (S ++ [Ob.lst []]) Z' (wipeS s1 own) ρ own (pv ++ l) Fsw S.length (fun x => Bd S0 Fs0 x ∧ ∀ v ∈ own, ¬ Fs v x) [] := by
        refine ⟨⟨wipeE ρ own, w1, wipeE_length .., fun i hi => by rw [wipeE_at, if_neg hi]⟩, [], fun _ => False, List.getElem?_concat_length .., rfl, fun x hx => ?_, fun h => h⟩
        have hx' : x = S.length := hx.elim id False.elim
        subst hx'
        refine ⟨fun ⟨i, q⟩ => ?_, fun q => ?_, by omega, .inr a.len, fun v _ q => ?_⟩
        · have := (k.nz i _ (w2 i _ q).1).2; omega
        · have := k1.zl _ q; omega
        · have := (k.nz v _ q).2; omega
      have hti' : TIOK (S ++ [Ob.lst []]) Z' (pv ++ l) ti iv := hti.st (fun x hx => sm.2 x (k1.zl x hx)) (fun _ h => h)
      have key := tcl_ok (C := C) (c := c) (e := e) (ifs := ifs) (pI := pI) (pE := pE) hs hT hE n 0 [] li hti' hB
      cases e2 : tcl (tnext ti) (lcStep c own t ifs e) n 0 [] (wipeS s1 own) with
      | bad => exact trivial
      | ex _ _ _ => rw [e2] at key; exact key.elim
      | ok ts s2 =>
        rw [e2] at key
        obtain ⟨S2, Z2, Fs2, r1, r2, r3, r4⟩ := key
        rw [r1]
        simp only [R.bind_ok, TR.bind_ok]
        obtain ⟨ρ1, k3, l3, e3⟩ := r2.ok
        obtain ⟨us', Fa, d1, d2, d3, d4⟩ := r2.has
        have hid : ∀ v ∈ own, ∀ x, Fs v x → x < S.length ∧ ¬ U Fsw x ∧ x ≠ S.length := fun v hv x hx => by
          have := (k.nz v x hx).2
          refine ⟨this, fun ⟨i, q⟩ => ?_, by omega⟩
          obtain ⟨q1, q2⟩ := w2 i x q
          exact q2 (by rw [k.dj i v x q1 hx]; exact hv)
        have old : ∀ x, x < S.length → ¬ U Fsw x → S2[x]? = S[x]? := fun x h1 h2 => by
          rw [r3.fr x (by omega) h2 (by omega), sm.2 x h1]
        have zold : ∀ x, Z' x → S2[x]? = S[x]? := fun x hx => old x (k1.zl x hx) fun ⟨i, q⟩ => (k1.nz i x (w2 i x q).1).1 hx
        obtain ⟨Fs3, b1, b2⟩ := back_ok (τ0 := s1.τ) (H := fun v x => v ∈ own ∧ Fs v x) (own := own) (ρ' := ρ) k3 (fun v hv tt ht => by
            have hat : s1.at v = some tt := by
              unfold St.at
              cases hq : s1.τ[v]? with
              | none => rw [hq] at ht; cases ht
              | some q => rw [hq] at ht; cases q with
                | none => cases ht
                | some t' => cases ht; rfl
            obtain ⟨w, c1, c2⟩ := k1.rep v tt hat
            exact ⟨w, c1, (c2.st (fun x hx => hx.elim (fun q => old x (hid v hv x q).1 (hid v hv x q).2.1) (zold x)) r3.zz).mono fun x hx => ⟨hv, hx⟩⟩)
          (fun v x ⟨hv, hx⟩ => by
            obtain ⟨q1, q2, q3⟩ := hid v hv x hx
            refine ⟨fun q => ?_, fun q => ?_, Nat.lt_of_lt_of_le (by omega) r3.len⟩
            · rcases r3.fs x q with q | q | q
              · exact q2 q
              · omega
              · exact q3 q
            · rcases r3.zn x q with q | q | q | q
              · exact (k1.nz v x hx).1 q
              · exact q2 q
              · omega
              · exact q3 q)
          (fun i j x hi hj => k.dj i j x hi.2 hj.2) l3.symm (fun i hi => (e3 i hi).symm)
        have b3 := b1.unpin (l := l) s.β.length k.bn
        have fs3 : ∀ x, U Fs3 x → U Fs2 x ∨ U Fs x := fun x ⟨i, q⟩ => (b2 i x q).elim (fun q => .inl ⟨i, q.1⟩) (fun q => .inr ⟨i, q.1.2⟩)
        have wsub : ∀ x, U Fsw x → U Fs x := fun x ⟨i, q⟩ => ⟨i, (w2 i x q).1⟩
        refine ⟨.ref S.length, S2, Z2, Fs3, fun x => x = S.length ∨ Fa x, rfl, b3, a.transB (A := F) ⟨by have := r3.len; omega, fun x q1 q2 _ => old x q1 fun q => q2 (wsub x q), fun x q => r3.zz x (t1.zz x q), fun x q => ?_, fun x q => ?_⟩ (fun x hx => (o x hx).2.2.2), ?_, fun x hx => ?_, fun hpp => ?_⟩
        · rcases r3.zn x q with q | q | q | q
          · exact t1.zn x q
          · exact .inr (.inl (wsub x q))
          · exact .inr (.inr (.inl (by omega)))
          · exact .inr (.inr (.inl (by omega)))
        · rcases fs3 x q with q | q
          · rcases r3.fs x q with q | q | q
            · exact .inl (wsub x q)
            · exact .inr (.inl (by omega))
            · exact .inr (.inl (by omega))
          · exact .inl q
        · exact ⟨S.length, us', Fa, rfl, d1, d2, nd_own (.inl rfl) fun x hx => ⟨.inr hx, fun q => d4 (by rw [← q]; exact hx)⟩⟩
        · obtain ⟨q1, q2, q3, q4, q5⟩ := d3 x hx
          refine ⟨fun ⟨i, q⟩ => ?_, q2, q3, q4⟩
          rcases b2 i x q with q | q
          · exact q1 ⟨i, q.1⟩
          · exact q5 i q.2 q.1.2
        · obtain ⟨c1, c2, c3⟩ := hp hpp
          obtain ⟨g1, g2⟩ := r4 c2 c3
          refine c1.trans ⟨by omega, fun x hx => ?_⟩
          rw [g2 x (by omega) (by omega), sm.2 x hx]
    · rw [if_pos hs]; exact trivial
/-- the trees of what was read, one for each -/
theorem looks_pts {us : List V2} {vs : List Val} {ts : List T} (h : Vs S Z ρ us vs F) (k : OK S Z s ρ pv Fs) (e : allSome (us.map (look s)) = some ts) : Pts S Z ts vs :=
  ⟨by rw [allSome_len e, List.length_map, h.len], h.look k e⟩
theorem rps_of_pts : ∀ {ts : List T} {vs : List Val}, Pts S Z ts vs → Pts S Z ts vs := fun h => h
theorem tOf_ok {v : Val} {t : T} (e : tOf v = some t) : Rp S Z t v (fun _ => False) := by
  unfold tOf at e
  split at e <;> first | (cases e; rfl) | (cases e; exact ⟨[], rfl, rfl⟩) | cases e
end
end Tv
namespace Tv
open Mi
open PySem hiding Env Ctx
section
variable {S S' S'' S0 : Store} {Z Z' Z'' Z0 : Ad} {s s' : St} {ρ ρ' : Env} {pv pv' : List Val} {Fs Fs' Fs'' Fs0 : Nat → Ad} {A B B' F G G1 G2 : Ad}
theorem EvG.weak {α β : Type} {rel : Store → Ad → β → α → Ad → Prop} {p p' : Bool} {r : R α} {q : TR β} (a : Tr S0 Z0 Fs0 S Z Fs) (h : EvG rel S Z Fs ρ pv p r q) (hp : p' = true → Same S0 S ∧ p = true) : EvG rel S0 Z0 Fs0 ρ pv p' r q := by
  cases q with
  | ok b s' =>
    obtain ⟨a', S1, Z1, Fs1, F1, rfl, h1, h2, h3, h4, h5⟩ := h
    exact ⟨a', S1, Z1, Fs1, F1, rfl, h1, a.trans h2, h3, h4.bmono a.bd, fun q => (hp q).1.trans (h5 (hp q).2)⟩
  | ex c d s' =>
    obtain ⟨S1, Z1, Fs1, rfl, rfl, h1, h2⟩ := h
    exact ⟨S1, Z1, Fs1, rfl, rfl, h1, a.trans h2⟩
  | bad => exact trivial
/-! ### reading sees no difference -/
theorem fzs_map : ∀ xs : List T, fzs xs = xs.map fz
  | [] => rfl
  | x :: r => by rw [List.map_cons, ← fzs_map r]; rfl
theorem tflat_fz (t : T) : tflat (fz t) = tflat t := by cases t <;> rfl
theorem tfeq_fz (t u : T) : tfeq (fz t) u = tfeq t u := by cases t <;> cases u <;> rfl
theorem tdat_fz : ∀ (n : Nat) (t : T), tdat n (fz t) = tdat n t
  | 0, _ => rfl
  | n + 1, t => by
    have ih : ∀ xs : List T, allSome ((fzs xs).map (tdat n)) = allSome (xs.map (tdat n)) := fun xs => by
      rw [fzs_map, List.map_map]
      congr 1
      exact List.map_congr_left fun x _ => tdat_fz n x
    cases t with
    | lst o xs => show (allSome ((fzs xs).map (tdat n))).map _ = (allSome (xs.map (tdat n))).map _; rw [ih]
    | tup xs => show (allSome ((fzs xs).map (tdat n))).map _ = (allSome (xs.map (tdat n))).map _; rw [ih]
    | fro xs => show (allSome ((fzs xs).map (tdat n))).map _ = (allSome (xs.map (tdat n))).map _; rw [ih]
    | _ => rfl
theorem teq_fz (x u : T) : teq x (fz u) = teq x u := by
  unfold teq
  have : teqF x (fz u) = teqF x u := by cases x <;> cases u <;> rfl
  rw [this, tdat_fz]
theorem tseq_fz (u : T) : tseq (fz u) = (tseq u).map fzs := by cases u <;> rfl
theorem tlst_fz (u : T) : tlst (fz u) = (tlst u).map fzs := by cases u <;> rfl
theorem all_fz (xs : List T) : (fzs xs).all tflat = xs.all tflat := by
  rw [fzs_map, List.all_map]
  congr 1
  funext x
  exact tflat_fz x
theorem any_fz (xs : List T) (x : T) : ((fzs xs).any fun y => tfeq y x) = xs.any fun y => tfeq y x := by
  rw [fzs_map, List.any_map]
  congr 1
  funext y
  exact tfeq_fz y x
theorem tinS_fz (x u : T) : tinS x (fz u) = tinS x u := by
  by_cases h : ∃ a b, x = .str a ∧ u = .str b
  · obtain ⟨a, b, rfl, rfl⟩ := h; rfl
  · have red : ∀ w : T, (∀ a b, ¬ (x = .str a ∧ w = .str b)) → tinS x w = (match tseq w with
      | some xs => if tflat x && xs.all tflat then some (xs.any fun y => tfeq y x) else match tlst w with
        | some _ => match tdat deep x, tdat deep w with
          | some d, some (.list ds) => some (ds.any fun z => PyData.eqv z d)
          | _, _ => none
        | none => none
      | none => none) := by
      intro w hw
      unfold tinS
      split
      · rename_i a b; exact absurd ⟨rfl, rfl⟩ (hw a b)
      · rfl
    rw [red u fun a b q => h ⟨a, b, q⟩, red (fz u) fun a b q => h ⟨a, b, q.1, by cases u <;> first | (exact q.2) | (exact absurd q.2 (by intro z; cases z))⟩, tseq_fz, tlst_fz, tdat_fz]
    cases tseq u with
    | none => rfl
    | some xs =>
      simp only [Option.map_some, all_fz, any_fz]
      cases tlst u <;> rfl
theorem tdpos_fz (u x : T) : tdpos (fz u) x = tdpos u x := by cases u <;> rfl
theorem tcmp_fz (o : Cp) (x u : T) : tcmp o x (fz u) = tcmp o x u := by
  have hin : tin x (fz u) = tin x u := by unfold tin; rw [tinS_fz, tdpos_fz]
  cases o with
  | eq => exact teq_fz x u
  | ne => show (teq x (fz u)).map _ = (teq x u).map _; rw [teq_fz]
  | isin => exact hin
  | notin => show (tin x (fz u)).map _ = (tin x u).map _; rw [hin]
  | isn => cases u <;> first | rfl | (cases x <;> rfl)
  | notn => cases u <;> first | rfl | (cases x <;> rfl)
  | _ => cases x <;> cases u <;> rfl
/-- one value, its tree read -/
theorem one_ok {rel' : Store → Ad → V2 → Val → Ad → Prop} {p p' : Bool} {r : R Val} {q : TR V2} {k : Val → Store → R Val} {kq : T → St → TR V2} (a : Tr S0 Z0 Fs0 S Z Fs) (h : EvV S Z Fs ρ pv p r q)
    (hk : ∀ {t v S1 Z1 s1 Fs1 F0}, OK S1 Z1 s1 ρ pv Fs1 → Tr S Z Fs S1 Z1 Fs1 → Rp S1 Z1 t v F0 → (p = true → Same S S1) → EvG rel' S0 Z0 Fs0 ρ pv p' (k v S1) (kq t s1)) : EvG rel' S0 Z0 Fs0 ρ pv p' (r.bind k) ((r1 q).bind kq) := by
  cases q with
  | ok u s' =>
    obtain ⟨v, S1, Z1, Fs1, F1, rfl, h1, h2, h3, h4, h5⟩ := h
    show EvG rel' S0 Z0 Fs0 ρ pv p' (k v S1) ((TR.of (look s' u) s').bind kq)
    cases hl : look s' u with
    | none => exact trivial
    | some t =>
      obtain ⟨F0, a1, _⟩ := h3.look h1 hl
      exact hk h1 h2 a1 h5
  | ex c d s' =>
    obtain ⟨S1, Z1, Fs1, rfl, rfl, h1, h2⟩ := h
    exact ⟨S1, Z1, Fs1, rfl, rfl, h1, a.trans h2⟩
  | bad => exact trivial
/-- two values, their trees read -/
theorem two_ok {C : Mi.Ctx} {Ct : Nat → Option Fn} {a b : E} {rel' : Store → Ad → V2 → Val → Ad → Prop} {pa pb p' : Bool} {x : TR V2} {y : St → TR V2} {k : Val → Val → Store → R Val} {kq : T × T → St → TR V2} (hpb : purs Ct [b] = true → pb = true) (ha : EvV S Z Fs ρ pv pa (ev C a ρ S) x)
    (hb : ∀ {S Z s Fs}, OK S Z s ρ pv Fs → EvV S Z Fs ρ pv pb (ev C b ρ S) (y s))
    (hk : ∀ {t u v w S1 Z1 s1 Fs1 F0 F1}, OK S1 Z1 s1 ρ pv Fs1 → Tr S Z Fs S1 Z1 Fs1 → Rp S1 Z1 t v F0 → Rp S1 Z1 u w F1 → (pa = true → pb = true → Same S S1) → EvG rel' S Z Fs ρ pv p' (k v w S1) (kq (t, u) s1)) :
    EvG rel' S Z Fs ρ pv p' ((ev C a ρ S).bind fun u S => (ev C b ρ S).bind fun v S => k u v S) ((r2 Ct a b x y).bind kq) := by
  cases x with
  | bad => exact trivial
  | ex c d s' =>
    obtain ⟨S1, Z1, Fs1, rfl, e, h1, h2⟩ := ha
    rw [e]
    exact ⟨S1, Z1, Fs1, rfl, rfl, h1, h2⟩
  | ok u s1 =>
    obtain ⟨v, S1, Z1, Fs1, F1, e1, h1, h2, h3, h4, h5⟩ := ha
    have hb1 := hb h1
    show EvG rel' S Z Fs ρ pv p' _ (((y s1).bind fun v s => match keep Ct a u [b] s with
      | some u => match look s u, look s v with
        | some x, some y => .ok (x, y) s
        | _, _ => .bad
      | none => .bad).bind kq)
    rw [e1]
    simp only [R.bind_ok]
    cases hy : y s1 with
    | bad => exact trivial
    | ex c d s' =>
      rw [hy] at hb1
      obtain ⟨S2, Z2, Fs2, rfl, e, g1, g2⟩ := hb1
      rw [e]
      exact ⟨S2, Z2, Fs2, rfl, rfl, g1, h2.trans g2⟩
    | ok w s2 =>
      rw [hy] at hb1
      obtain ⟨wv, S2, Z2, Fs2, F2, e2, g1, g2, g3, g4, g5⟩ := hb1
      rw [e2]
      simp only [R.bind_ok, TR.bind_ok]
      cases hkp : keep Ct a u [b] s2 with
      | none => exact trivial
      | some u' =>
        obtain ⟨F', q1, _⟩ := keep_ok h3 h4 h1 g1 g2 (fun i hi => by
          subst hi
          rw [ev_var] at e1
          cases hr : ρ[i]? with
          | none => rw [hr] at e1; cases e1
          | some o => rw [hr] at e1; cases o with
            | none => cases e1
            | some v' => cases e1; rfl) (fun q => g5 (hpb q)) hkp
        simp only
        cases l1 : look s2 u' with
        | none => exact trivial
        | some t1 =>
          cases l2 : look s2 w with
          | none => exact trivial
          | some t2 =>
            obtain ⟨G1, r1, _⟩ := q1.look g1 l1
            obtain ⟨G2, r2, _⟩ := g3.look g1 l2
            exact hk g1 (h2.trans g2) r1 r2 fun p1 p2 => (h5 p1).trans (g5 p2)
theorem var_val {C : Mi.Ctx} {e : E} {v : Val} {S1 : Store} (e1 : ev C e ρ S = .ok v S1) : ∀ i, e = .var i → ρ[i]? = some (some v) := fun i hi => by
  subst hi
  rw [ev_var] at e1
  cases hr : ρ[i]? with
  | none => rw [hr] at e1; cases e1
  | some o => rw [hr] at e1; cases o with
    | none => cases e1
    | some v' => cases e1; rfl
/-- the end of an operation -/
theorem op_end {p : Bool} {o : Option T} {r : Mi.P} (a : Tr S0 Z0 Fs0 S Z Fs) (k : OK S Z s ρ pv Fs) (h : ∀ t, o = some t → Op S Z t G r) (hG : Ow S Z Fs (Bd S0 Fs0) G) (hp : p = true → Same S0 S) : EvV S0 Z0 Fs0 ρ pv p (R.op r) (TR.ow o s) := by
  cases o with
  | none => exact trivial
  | some t => exact EvV.op a k (h t rfl) hG hp
/-- a list taken up by an operation -/
theorem absorb_end {c : Cf} {p : Bool} {u : V2} {v : Val} {f : T → Option T} {r : Mi.P} (a : Tr S0 Z0 Fs0 S Z Fs) (k : OK S Z s ρ pv Fs) (h : V1 S Z ρ u v F) (o : Ow S Z Fs (Bd S0 Fs0) F)
    (hf : ∀ {Z' : Ad} {t d : T} {F0 G : Ad}, Rp S Z' t v F0 → Rps S Z' (tkids t) (vkids S v) G → (∀ x, G x → x < S.length) → (∀ x, Z' x → x < S.length) → f t = some d → Op S Z' d G r) (hp : p = true → Same S0 S) :
    EvV S0 Z0 Fs0 ρ pv p (R.op r) (match absorb c u s with | some (t, s) => TR.ow (f t) s | none => .bad) := by
  cases e : absorb c u s with
  | none => exact trivial
  | some q =>
    obtain ⟨t, s1⟩ := q
    obtain ⟨Z', Fs', G, a1, a2, ⟨F0, a3⟩, a4, a5, a6, _⟩ := absorb_ok k h o e
    simp only
    exact op_end (a.trans a2) a1 (fun d hd => hf a3 a4 (fun x hx => (a5 x hx).2.2.1) a1.zl hd) (a5.bmono fun x hx => hx.elim id (a.fs x)) hp
end
section
variable {C : Mi.Ctx} {c : Cf} {pv : List Val} {B : Ad}
theorem tpr_other {p : Pr} {us : List V2} {s : St} (hl : p ≠ .list) (ht : p ≠ .tuple) : tpr c p us s = match allSome (us.map (look s)) with | some ts => TR.ow (tprim p ts) s | none => .bad := by
  unfold tpr
  cases allSome (us.map (look s)) with
  | none => rfl
  | some ts => cases p <;> first | rfl | exact absurd rfl hl | exact absurd rfl ht
theorem bnd2 {a b : Bool} {p : Bool} (h : (a && b) = true) : a = true ∧ b = true := by rw [Bool.and_eq_true] at h; exact h
mutual
theorem tv_ok (hc : CtxOK C c.C) : ∀ (e : E) {S : Store} {Z : Ad} {s : St} {ρ : Env} {pv : List Val} {Fs : Nat → Ad}, OK S Z s ρ pv Fs → EvV S Z Fs ρ pv (pur c.C e) (ev C e ρ S) (tv c e s)
  | .var i, S, Z, s, ρ, pv, Fs, k => by
    rw [tv_var, ev_var]
    cases e : tvar i s with
    | none => exact trivial
    | some u =>
      obtain ⟨v, h1, h2⟩ := tvar_ok k e
      rw [h1]
      exact ⟨v, S, Z, Fs, fun _ => False, rfl, k, .refl, h2, .none, fun _ => .refl⟩
  | .cst v, S, Z, s, ρ, pv, Fs, k => by
    rw [tv_cst, ev_cst]
    cases e : tOf v with
    | none => exact trivial
    | some t => exact EvV.pure .refl k (tOf_ok e) fun _ => .refl
  | .lst es, S, Z, s, ρ, pv, Fs, k => by
    rw [tv_lst, ev_lst]
    refine EvG.bind .refl (tvs_ok hc es k) fun {us vs S1 Z1 s1 Fs1 F1} _ k1 t1 h1 o1 p1 => ?_
    cases e : claims c us s1 with
    | none => exact trivial
    | some q =>
      obtain ⟨ts, s2⟩ := q
      obtain ⟨Z2, Fs2, F2, a1, a2, a3, a4, a5, _⟩ := claims_ok k1 h1 o1 e
      simp only
      split
      · rename_i hl
        refine EvV.op (t1.trans a2) a1 (new_op a3 (fun x hx => (a4 x hx).2.2.1) a1.zl hl) (a4.bmono fun x hx => hx.elim id (t1.fs x)) fun q => p1 ?_
        unfold pur at q; exact q
      · exact trivial
  | .tup es, S, Z, s, ρ, pv, Fs, k => by
    rw [tv_tup, ev_tup]
    refine EvG.bind .refl (tvs_ok hc es k) fun {us vs S1 Z1 s1 Fs1 F1} _ k1 t1 h1 o1 p1 => ?_
    cases e : claims c us s1 with
    | none => exact trivial
    | some q =>
      obtain ⟨ts, s2⟩ := q
      obtain ⟨Z2, Fs2, F2, a1, a2, a3, a4, a5, _⟩ := claims_ok k1 h1 o1 e
      simp only
      by_cases hl : ts.length ≤ sizeLine
      · rw [if_pos hl, if_pos (by rw [← a3.len]; exact hl)]
        refine ⟨.tup vs, S1, Z2, Fs2, F2, rfl, a1, t1.trans a2, ⟨vs, rfl, a3⟩, a4.bmono fun x hx => hx.elim id (t1.fs x), fun q => p1 ?_⟩
        unfold pur at q; exact q
      · rw [if_neg hl]; exact trivial
  | .bin o a b, S, Z, s, ρ, pv, Fs, k => by
    rw [tv_bin, ev_bin]
    refine EvG.bind .refl (tv_ok hc a k) fun {u v S1 Z1 s1 Fs1 F1} r1 k1 t1 h1 o1 p1 => ?_
    refine EvG.bind t1 (tv_ok hc b k1) fun {w wv S2 Z2 s2 Fs2 F2} r2 k2 t2 h2 o2 p2 => ?_
    cases e1 : keep c.C a u [b] s2 with
    | none => exact trivial
    | some u' =>
      obtain ⟨F', h1', hF'⟩ := keep_ok h1 o1 k1 k2 t2 (var_val r1) (fun q => p2 (by unfold purs at q; exact (bnd2 (p := true) q).1)) e1
      have o1' := (o1.mono hF').tr t2
      simp only
      cases e2 : absorb c u' s2 with
      | none => exact trivial
      | some q =>
        obtain ⟨x, s3⟩ := q
        simp only
        obtain ⟨Z3, Fs3, G1, a1, a2, ⟨F0, a3⟩, a4, a5, a6, _⟩ := absorb_ok k2 h1' o1' e2
        cases e3 : absorb c w s3 with
        | none => exact trivial
        | some q =>
          obtain ⟨y, s4⟩ := q
          simp only
          have h2' : V1 S2 Z3 ρ w wv F2 := by
            cases w with
            | own t => exact Rp.tr h2 o2 k2 a2
            | vw r p => exact h2
          obtain ⟨Z4, Fs4, G2, b1, b2, ⟨F0', b3⟩, b4, b5, b6, _⟩ := absorb_ok a1 h2' (o2.tr a2) e3
          have t24 := t1.trans (t2.trans (a2.trans b2))
          refine op_end t24 b1 (G := fun x => G1 x ∨ G2 x) (fun d hd => tbin_ok (a3.st (fun _ _ => rfl) b2.zz) b3 (a4.st (fun _ _ => rfl) b2.zz) b4 (fun x hx q => ?_) (fun x hx => (a5 x hx).2.2.1) (fun x hx => (b5 x hx).2.2.1) b1.zl hd) (fun x hx => ?_) (fun q => ?_)
          · rcases b6 x q with q | q
            · rcases a6 x hx with q' | q'
              · rcases (o2 x q).2.2.2 with q'' | q''
                · exact (o1 x (hF' x q')).1 q''
                · have := (o1 x (hF' x q')).2.2.1; omega
              · exact (o2 x q).1 q'
            · exact (a5 x hx).1 q
          · rcases hx with hx | hx
            · obtain ⟨q1, q2, q3, q4⟩ := (a5.tr b2) x hx
              refine ⟨q1, q2, q3, ?_⟩
              rcases q4 with q4 | q4
              · exact q4
              · exact (t1.trans t2).fs x q4
            · obtain ⟨q1, q2, q3, q4⟩ := b5 x hx
              refine ⟨q1, q2, q3, ?_⟩
              rcases q4 with q4 | q4
              · exact t1.bd x q4
              · exact (t1.trans (t2.trans a2)).fs x q4
          · unfold pur at q
            obtain ⟨q1, q2⟩ := bnd2 (p := true) q
            exact (p1 q1).trans (p2 q2)
  | .neg a, S, Z, s, ρ, pv, Fs, k => by
    rw [tv_neg, ev_neg]
    refine one_ok .refl (tv_ok hc a k) fun {t v S1 Z1 s1 Fs1 F0} k1 t1 h1 p1 => ?_
    cases t with
    | int i =>
      cases h1
      exact EvV.pure t1 k1 rfl fun q => p1 (by unfold pur at q; exact q)
    | _ => exact trivial
  | .cmp o a b, S, Z, s, ρ, pv, Fs, k => by
    by_cases hb : ∃ es, b = .tup es
    · obtain ⟨es, rfl⟩ := hb
      rw [tv_cmpT, ev_cmp]
      refine EvG.bind .refl (tv_ok hc a k) fun {u v S1 Z1 s1 Fs1 F1} r1 k1 t1 h1 o1 p1 => ?_
      rw [ev_tup]
      have assoc : ∀ {α β γ : Type} (r : R α) (f : α → Store → R β) (g : β → Store → R γ), (r.bind f).bind g = r.bind fun x S => (f x S).bind g := fun r f g => by cases r <;> rfl
      rw [assoc]
      refine EvG.bind t1 (tvs_ok hc es k1) fun {ws wvs S2 Z2 s2 Fs2 F2} r2 k2 t2 h2 o2 p2 => ?_
      cases e1 : keep c.C a u es s2 with
      | none => exact trivial
      | some u' =>
        obtain ⟨F', h1', hF'⟩ := keep_ok h1 o1 k1 k2 t2 (var_val r1) p2 e1
        simp only
        cases l1 : look s2 u' with
        | none => exact trivial
        | some x =>
          cases l2 : allSome (ws.map (look s2)) with
          | none => exact trivial
          | some ys =>
            simp only
            by_cases hl : ys.length ≤ sizeLine
            · have pts := looks_pts h2 k2 l2
              rw [if_pos hl, if_pos (by rw [← pts.1]; exact hl)]
              simp only [R.bind_ok]
              obtain ⟨F0, g1, _⟩ := h1'.look k2 l1
              -- the tuple's tree, for reading alone: everything frozen
              refine EvV.bl (t1.trans t2) k2 (fun b hb => ?_) (fun q => ?_)
              · have all : ∃ Zx : Ad, (∀ x, Z2 x → Zx x) ∧ Rps S2 Zx (fzs ys) wvs (fun _ => False) := by
                  obtain ⟨pl, pp⟩ := pts
                  clear l2 hl hb h2 o2 r2 p2 e1
                  induction ys generalizing wvs with
                  | nil =>
                    cases wvs with
                    | nil => exact ⟨Z2, fun _ h => h, rfl⟩
                    | cons _ _ => cases pl
                  | cons y ys ih =>
                    cases wvs with
                    | nil => cases pl
                    | cons w wvs =>
                      obtain ⟨Zx, z1, z2⟩ := ih (by simpa using pl) fun j t hj => pp (j + 1) t hj
                      obtain ⟨w', Fw, q1, q2⟩ := pp 0 y rfl
                      cases q1
                      refine ⟨fun x => Zx x ∨ Fw x, fun x hx => .inl (z1 x hx), w, wvs, fun _ => False, fun _ => False, rfl, q2.fz (fun x hx => hx.elim .inr fun q => .inl (z1 x q)) _, z2.st (fun _ _ => rfl) (fun _ h => .inl h), fun _ h => h.elim, fun _ h => h⟩
                obtain ⟨Zx, z1, z2⟩ := all
                have hfz : tcmp o x (.tup ys) = tcmp o x (fz (.tup ys)) := (tcmp_fz o x _).symm
                rw [hfz] at hb
                exact tcmp_ok (g1.st (fun _ _ => rfl) z1) (show Rp S2 Zx (fz (.tup ys)) (.tup wvs) (fun _ => False) from ⟨wvs, rfl, z2⟩) hb
              · unfold pur at q
                obtain ⟨q1, q2⟩ := bnd2 (p := true) q
                unfold pur at q2
                exact (p1 q1).trans (p2 q2)
            · rw [if_neg hl]; exact trivial
    · rw [tv_cmp _ _ _ _ _ (fun es h => hb ⟨es, h⟩), ev_cmp]
      refine two_ok (pb := pur c.C b) (fun q => by unfold purs at q; exact (bnd2 (p := true) q).1) (tv_ok hc a k) (fun k' => tv_ok hc b k') fun {t u v w S1 Z1 s1 Fs1 F0 F1} k1 t1 h1 h2 p1 => ?_
      refine EvV.bl t1 k1 (fun b hb => tcmp_ok h1 h2 hb) (fun q => ?_)
      unfold pur at q
      obtain ⟨q1, q2⟩ := bnd2 (p := true) q
      exact p1 q1 q2
  | .chain o p a b d, S, Z, s, ρ, pv, Fs, k => by
    rw [tv_chain, ev_chain]
    refine EvG.bind .refl (tv_ok hc a k) fun {u v S1 Z1 s1 Fs1 F1} r1 k1 t1 h1 o1 p1 => ?_
    refine EvG.bind t1 (tv_ok hc b k1) fun {w wv S2 Z2 s2 Fs2 F2} r2 k2 t2 h2 o2 p2 => ?_
    cases e1 : keep c.C a u [b] s2 with
    | none => exact trivial
    | some u' =>
      obtain ⟨F', h1', hF'⟩ := keep_ok h1 o1 k1 k2 t2 (var_val r1) (fun q => p2 (by unfold purs at q; exact (bnd2 (p := true) q).1)) e1
      simp only
      cases l1 : look s2 u' with
      | none => exact trivial
      | some x =>
        cases l2 : look s2 w with
        | none => exact trivial
        | some y =>
          simp only
          cases e2 : tcmp o x y with
          | none => exact trivial
          | some kk =>
            obtain ⟨G1, g1, _⟩ := h1'.look k2 l1
            obtain ⟨G2, g2, _⟩ := h2.look k2 l2
            rw [tcmp_ok g1 g2 e2]
            simp only [R.of_some, R.bind_ok]
            have pp : pur c.C (.chain o p a b d) = true → pur c.C a = true ∧ pur c.C b = true ∧ pur c.C d = true := fun q => by
              unfold pur at q
              obtain ⟨q1, q2⟩ := bnd2 (p := true) q
              obtain ⟨q1, q3⟩ := bnd2 (p := true) q1
              exact ⟨q1, q3, q2⟩
            cases kk with
            | false =>
              simp only [Bool.false_eq_true, if_false]; exact EvV.pure (t1.trans t2) k2 rfl fun q => (p1 (pp q).1).trans (p2 (pp q).2.1)
            | true =>
              simp only [if_true]
              refine EvG.bind (t1.trans t2) (tv_ok hc d k2) fun {w3 wv3 S3 Z3 s3 Fs3 F3} r3 k3 t3 h3 o3 p3 => ?_
              cases e3 : keep c.C b w [d] s3 with
              | none => exact trivial
              | some w' =>
                obtain ⟨F'', h2', _⟩ := keep_ok h2 o2 k2 k3 t3 (var_val r2) (fun q => p3 (by unfold purs at q; exact (bnd2 (p := true) q).1)) e3
                simp only
                cases l3 : look s3 w' with
                | none => exact trivial
                | some y' =>
                  cases l4 : look s3 w3 with
                  | none => exact trivial
                  | some z =>
                    obtain ⟨G3, g3, _⟩ := h2'.look k3 l3
                    obtain ⟨G4, g4, _⟩ := h3.look k3 l4
                    exact EvV.bl (t1.trans (t2.trans t3)) k3 (fun b hb => tcmp_ok g3 g4 hb) fun q => ((p1 (pp q).1).trans (p2 (pp q).2.1)).trans (p3 (pp q).2.2)
  | .and a b, S, Z, s, ρ, pv, Fs, k => by
    rw [tv_and, ev_and]
    refine EvG.bind .refl (tv_ok hc a k) fun {u v S1 Z1 s1 Fs1 F1} r1 k1 t1 h1 o1 p1 => ?_
    cases e : (look s1 u).bind ttru with
    | none => exact trivial
    | some kk =>
      obtain ⟨t, e1, e2⟩ := Option.bind_eq_some_iff.mp e
      obtain ⟨F0, g1, _⟩ := h1.look k1 e1
      rw [ttru_ok g1 e2]
      simp only [R.of_some, R.bind_ok]
      cases kk with
      | true =>
        simp only [if_true]
        exact (tv_ok hc b k1).weak t1 fun q => by unfold pur at q; obtain ⟨q1, q2⟩ := bnd2 (p := true) q; exact ⟨p1 q1, q2⟩
      | false =>
        simp only [Bool.false_eq_true, if_false]; exact ⟨v, S1, Z1, Fs1, F1, rfl, k1, t1, h1, o1, fun q => p1 (by unfold pur at q; exact (bnd2 (p := true) q).1)⟩
  | .or a b, S, Z, s, ρ, pv, Fs, k => by
    rw [tv_or, ev_or]
    refine EvG.bind .refl (tv_ok hc a k) fun {u v S1 Z1 s1 Fs1 F1} r1 k1 t1 h1 o1 p1 => ?_
    cases e : (look s1 u).bind ttru with
    | none => exact trivial
    | some kk =>
      obtain ⟨t, e1, e2⟩ := Option.bind_eq_some_iff.mp e
      obtain ⟨F0, g1, _⟩ := h1.look k1 e1
      rw [ttru_ok g1 e2]
      simp only [R.of_some, R.bind_ok]
      cases kk with
      | false =>
        simp only [Bool.false_eq_true, if_false]; exact (tv_ok hc b k1).weak t1 fun q => by unfold pur at q; obtain ⟨q1, q2⟩ := bnd2 (p := true) q; exact ⟨p1 q1, q2⟩
      | true =>
        simp only [if_true]
        exact ⟨v, S1, Z1, Fs1, F1, rfl, k1, t1, h1, o1, fun q => p1 (by unfold pur at q; exact (bnd2 (p := true) q).1)⟩
  | .not a, S, Z, s, ρ, pv, Fs, k => by
    rw [tv_not, ev_not]
    refine one_ok .refl (tv_ok hc a k) fun {t v S1 Z1 s1 Fs1 F0} k1 t1 h1 p1 => ?_
    cases e : ttru t with
    | none => exact trivial
    | some kk =>
      rw [ttru_ok h1 e]
      exact EvV.pure t1 k1 rfl fun q => p1 (by unfold pur at q; exact q)
  | .ite d a b, S, Z, s, ρ, pv, Fs, k => by
    rw [tv_ite, ev_ite]
    refine EvG.bind .refl (tv_ok hc d k) fun {u v S1 Z1 s1 Fs1 F1} r1 k1 t1 h1 o1 p1 => ?_
    cases e : (look s1 u).bind ttru with
    | none => exact trivial
    | some kk =>
      obtain ⟨t, e1, e2⟩ := Option.bind_eq_some_iff.mp e
      obtain ⟨F0, g1, _⟩ := h1.look k1 e1
      rw [ttru_ok g1 e2]
      simp only [R.of_some, R.bind_ok]
      cases kk with
      | true =>
        simp only [if_true]
        exact (tv_ok hc a k1).weak t1 fun q => by unfold pur at q; obtain ⟨q1, q2⟩ := bnd2 (p := true) q; obtain ⟨q1, q3⟩ := bnd2 (p := true) q1; exact ⟨p1 q1, q3⟩
      | false =>
        simp only [Bool.false_eq_true, if_false]; exact (tv_ok hc b k1).weak t1 fun q => by unfold pur at q; obtain ⟨q1, q2⟩ := bnd2 (p := true) q; obtain ⟨q1, q3⟩ := bnd2 (p := true) q1; exact ⟨p1 q1, q2⟩
  | .sub a i, S, Z, s, ρ, pv, Fs, k => by
    rw [tv_sub, ev_sub]
    refine EvG.bind .refl (tv_ok hc a k) fun {u v S1 Z1 s1 Fs1 F1} r1 k1 t1 h1 o1 p1 => ?_
    refine EvG.bind t1 (tv_ok hc i k1) fun {w wv S2 Z2 s2 Fs2 F2} r2 k2 t2 h2 o2 p2 => ?_
    cases e1 : keep c.C a u [i] s2 with
    | none => exact trivial
    | some u' =>
      obtain ⟨F', h1', hF'⟩ := keep_ok h1 o1 k1 k2 t2 (var_val r1) (fun q => p2 (by unfold purs at q; exact (bnd2 (p := true) q).1)) e1
      have o1' := (o1.mono hF').tr t2
      cases l2 : look s2 w with
      | none => exact trivial
      | some kt =>
        simp only
        obtain ⟨F0, g1, _⟩ := h2.look k2 l2
        cases e2 : tsub s2 u' kt with
        | none => exact trivial
        | some d =>
          obtain ⟨x, Fx, b1, b2, b3⟩ := tsub_ok k2 h1' g1 e2
          rw [b1]
          refine ⟨x, S2, Z2, Fs2, Fx, rfl, k2, t1.trans t2, b2, o1'.mono b3, fun q => ?_⟩
          unfold pur at q
          obtain ⟨q1, q2⟩ := bnd2 (p := true) q
          exact (p1 q1).trans (p2 q2)
  | .slB a lo hi, S, Z, s, ρ, pv, Fs, k => by
    rw [tv_slB, ev_slB]
    refine EvG.bind .refl (tv_ok hc a k) fun {u v S1 Z1 s1 Fs1 F1} r1 k1 t1 h1 o1 p1 => ?_
    refine one_ok t1 (tv_ok hc lo k1) fun {t w S2 Z2 s2 Fs2 F0} k2 t2 h2 p2 => ?_
    cases t with
    | int i =>
      cases h2
      simp only
      refine one_ok (t1.trans t2) (tv_ok hc hi k2) fun {t w S3 Z3 s3 Fs3 F0} k3 t3 h3 p3 => ?_
      cases t with
      | int j =>
        cases h3
        simp only
        cases e1 : keep c.C a u [lo, hi] s3 with
        | none => exact trivial
        | some u' =>
          obtain ⟨F', h1', hF'⟩ := keep_ok h1 o1 k1 k3 (t2.trans t3) (var_val r1) (fun q => by
            unfold purs at q
            obtain ⟨q1, q2⟩ := bnd2 (p := true) q
            unfold purs at q2
            exact (p2 q1).trans (p3 (bnd2 (p := true) q2).1)) e1
          refine absorb_end (f := fun t => tslice t (some i) (some j)) (t1.trans (t2.trans t3)) k3 h1' ((o1.mono hF').tr (t2.trans t3)) (fun a b d e f => tslice_ok a b d e f) fun q => ?_
          unfold pur at q
          obtain ⟨q1, q2⟩ := bnd2 (p := true) q
          obtain ⟨q1, q3⟩ := bnd2 (p := true) q1
          exact ((p1 q1).trans (p2 q3)).trans (p3 q2)
      | _ => exact trivial
    | _ => exact trivial
  | .slS a lo hi, S, Z, s, ρ, pv, Fs, k => by
    rw [tv_slS, ev_slS]
    refine EvG.bind .refl (tv_ok hc a k) fun {u v S1 Z1 s1 Fs1 F1} r1 k1 t1 h1 o1 p1 => ?_
    refine one_ok t1 (tv_ok hc lo k1) fun {t w S2 Z2 s2 Fs2 F0} k2 t2 h2 p2 => ?_
    cases t with
    | int i =>
      cases h2
      simp only
      refine one_ok (t1.trans t2) (tv_ok hc hi k2) fun {t w S3 Z3 s3 Fs3 F0} k3 t3 h3 p3 => ?_
      cases t with
      | int j =>
        cases h3
        simp only
        by_cases hij : 0 ≤ i ∧ 0 < j
        · rw [if_pos hij, if_pos hij]
          cases e1 : keep c.C a u [lo, hi] s3 with
          | none => exact trivial
          | some u' =>
            obtain ⟨F', h1', hF'⟩ := keep_ok h1 o1 k1 k3 (t2.trans t3) (var_val r1) (fun q => by
              unfold purs at q
              obtain ⟨q1, q2⟩ := bnd2 (p := true) q
              unfold purs at q2
              exact (p2 q1).trans (p3 (bnd2 (p := true) q2).1)) e1
            refine absorb_end (f := fun t => tstp t i.toNat j.toNat) (t1.trans (t2.trans t3)) k3 h1' ((o1.mono hF').tr (t2.trans t3)) (fun a b d e f => tstp_ok (by omega) a b d e f) fun q => ?_
            unfold pur at q
            obtain ⟨q1, q2⟩ := bnd2 (p := true) q
            obtain ⟨q1, q3⟩ := bnd2 (p := true) q1
            exact ((p1 q1).trans (p2 q3)).trans (p3 q2)
        · rw [if_neg hij, if_neg hij]
          exact trivial
      | _ => exact trivial
    | _ => exact trivial
  | .slL a lo, S, Z, s, ρ, pv, Fs, k => by
    rw [tv_slL, ev_slL]
    refine EvG.bind .refl (tv_ok hc a k) fun {u v S1 Z1 s1 Fs1 F1} r1 k1 t1 h1 o1 p1 => ?_
    refine one_ok t1 (tv_ok hc lo k1) fun {t w S2 Z2 s2 Fs2 F0} k2 t2 h2 p2 => ?_
    cases t with
    | int i =>
      cases h2
      simp only
      cases e1 : keep c.C a u [lo] s2 with
      | none => exact trivial
      | some u' =>
        obtain ⟨F', h1', hF'⟩ := keep_ok h1 o1 k1 k2 t2 (var_val r1) (fun q => p2 (by unfold purs at q; exact (bnd2 (p := true) q).1)) e1
        refine absorb_end (f := fun t => tslice t (some i) none) (t1.trans t2) k2 h1' ((o1.mono hF').tr t2) (fun a b d e f => tslice_ok a b d e f) fun q => ?_
        unfold pur at q
        obtain ⟨q1, q2⟩ := bnd2 (p := true) q
        exact (p1 q1).trans (p2 q2)
    | _ => exact trivial
  | .slH a hi, S, Z, s, ρ, pv, Fs, k => by
    rw [tv_slH, ev_slH]
    refine EvG.bind .refl (tv_ok hc a k) fun {u v S1 Z1 s1 Fs1 F1} r1 k1 t1 h1 o1 p1 => ?_
    refine one_ok t1 (tv_ok hc hi k1) fun {t w S2 Z2 s2 Fs2 F0} k2 t2 h2 p2 => ?_
    cases t with
    | int i =>
      cases h2
      simp only
      cases e1 : keep c.C a u [hi] s2 with
      | none => exact trivial
      | some u' =>
        obtain ⟨F', h1', hF'⟩ := keep_ok h1 o1 k1 k2 t2 (var_val r1) (fun q => p2 (by unfold purs at q; exact (bnd2 (p := true) q).1)) e1
        refine absorb_end (f := fun t => tslice t none (some i)) (t1.trans t2) k2 h1' ((o1.mono hF').tr t2) (fun a b d e f => tslice_ok a b d e f) fun q => ?_
        unfold pur at q
        obtain ⟨q1, q2⟩ := bnd2 (p := true) q
        exact (p1 q1).trans (p2 q2)
    | _ => exact trivial
  | .slA a, S, Z, s, ρ, pv, Fs, k => by
    rw [tv_slA, ev_slA]
    refine EvG.bind .refl (tv_ok hc a k) fun {u v S1 Z1 s1 Fs1 F1} r1 k1 t1 h1 o1 p1 => ?_
    exact absorb_end (f := fun t => tslice t none none) t1 k1 h1 o1 (fun a b d e f => tslice_ok a b d e f) fun q => p1 (by unfold pur at q; exact q)
  | .slR a, S, Z, s, ρ, pv, Fs, k => by
    rw [tv_slR, ev_slR]
    refine EvG.bind .refl (tv_ok hc a k) fun {u v S1 Z1 s1 Fs1 F1} r1 k1 t1 h1 o1 p1 => ?_
    cases e : absorb c u s1 with
    | none => exact trivial
    | some q =>
      obtain ⟨t, s2⟩ := q
      obtain ⟨Z', Fs', G, a1, a2, ⟨F0, a3⟩, a4, a5, a6, _⟩ := absorb_ok k1 h1 o1 e
      simp only
      cases e2 : tlst t with
      | none => exact trivial
      | some xs =>
        obtain ⟨b1, rfl⟩ := tlst_ok a3 e2
        rw [b1]
        exact op_end (t1.trans a2) a1 (fun d hd => tnew_op a4.reverse (fun x hx => (a5 x hx).2.2.1) a1.zl hd) (a5.bmono fun x hx => hx.elim id (t1.fs x)) fun q => p1 (by unfold pur at q; exact q)
  | .call f es, S, Z, s, ρ, pv, Fs, k => by
    rw [tv_call, ev_call]
    cases e : c.C f with
    | none => exact trivial
    | some F =>
      obtain ⟨g, g1, g2⟩ := hc f F e
      rw [g1]
      simp only
      refine EvG.bind .refl (tvs_ok hc es k) fun {us vs S1 Z1 s1 Fs1 F1} _ k1 t1 h1 o1 p1 => ?_
      refine tcall_ok g2 k1 h1 o1 (fun x hx => (o1 x hx).2.2.2) t1 fun q => ?_
      unfold pur at q
      rw [e] at q
      obtain ⟨q1, q2⟩ := bnd2 (p := true) q
      obtain ⟨q1, q3⟩ := bnd2 (p := true) q1
      exact ⟨p1 q2, by simpa using q1, by simpa using q3⟩
  | .isi a Tn, S, Z, s, ρ, pv, Fs, k => by
    rw [tv_isi, ev_isi]
    refine one_ok .refl (tv_ok hc a k) fun {t v S1 Z1 s1 Fs1 F0} k1 t1 h1 p1 => ?_
    refine EvV.bl t1 k1 (fun b hb => ?_) fun q => p1 (by unfold pur at q; exact q)
    obtain ⟨n, e1, e2⟩ := Option.bind_eq_some_iff.mp hb
    rw [ttyIn_ok h1 e1]
    exact e2
  | .pr p es, S, Z, s, ρ, pv, Fs, k => by
    rw [tv_pr, ev_pr]
    refine EvG.bind .refl (tvs_ok hc es k) fun {us vs S1 Z1 s1 Fs1 F1} _ k1 t1 h1 o1 p1 => ?_
    have pp : pur c.C (.pr p es) = true → Same S S1 := fun q => p1 (by unfold pur at q; exact q)
    by_cases hl : p = .list
    · subst hl
      unfold tpr
      cases e : allSome (us.map (look s1)) with
      | none => exact trivial
      | some ts =>
        cases us with
        | nil => cases e; exact trivial
        | cons u r =>
          cases r with
          | nil =>
            obtain ⟨v, _, F2, F3, rfl, h2, rfl, h4, h5⟩ := h1
            exact absorb_end (f := fun t => tprim .list [t]) t1 k1 h2 (o1.mono fun x hx => (h4 x hx).1) (fun a b d e f => tlist_ok a b d e f) pp
          | cons u' r =>
            have hlen := allSome_len e
            cases ts with
            | nil => simp at hlen
            | cons x ts => cases ts with
              | nil => simp at hlen
              | cons y ts => exact trivial
    · by_cases ht : p = .tuple
      · subst ht
        unfold tpr
        cases e : allSome (us.map (look s1)) with
        | none => exact trivial
        | some ts =>
          cases us with
          | nil => cases e; exact trivial
          | cons u r =>
            cases r with
            | nil =>
              obtain ⟨v, _, F2, F3, rfl, h2, rfl, h4, h5⟩ := h1
              exact absorb_end (f := fun t => tprim .tuple [t]) t1 k1 h2 (o1.mono fun x hx => (h4 x hx).1) (fun a b d e f => ttuple_ok a b f) pp
            | cons u' r =>
              have hlen := allSome_len e
              cases ts with
              | nil => simp at hlen
              | cons x ts => cases ts with
                | nil => simp at hlen
                | cons y ts => exact trivial
      · rw [tpr_other hl ht]
        cases e : allSome (us.map (look s1)) with
        | none => exact trivial
        | some ts => exact op_end t1 k1 (fun d hd => tprim_ok (looks_pts h1 k1 e) k1.zl ⟨hl, ht⟩ hd) .none pp
  | .me m o es, S, Z, s, ρ, pv, Fs, k => by
    rw [tv_me, ev_me]
    refine EvG.bind .refl (tv_ok hc o k) fun {u v S1 Z1 s1 Fs1 F1} r1 k1 t1 h1 o1 p1 => ?_
    by_cases hr : (isLst (look s1 u) && lstMe m) = true
    · rw [if_pos hr]
      rw [Bool.and_eq_true] at hr
      have hrec : recv m S1 v = true := by
        cases hl : look s1 u with
        | none => rw [hl] at hr; cases hr.1
        | some t =>
          rw [hl] at hr
          obtain ⟨F0, g1, _⟩ := h1.look k1 hl
          have : ∃ xs, tlst t = some xs := by
            have := hr.1
            unfold isLst at this
            exact Option.isSome_iff_exists.mp this
          obtain ⟨xs, hx⟩ := this
          have hL := (tlst_ok g1 hx).1
          have h2 := hr.2
          cases m <;> first | (cases h2; done) | (show (lstOf S1 v).isSome = true; rw [hL]; rfl)
      rw [if_pos hrec]
      by_cases hpq : (isMut m && pinQ c.C o es) = true
      · rw [if_pos hpq]
        rw [Bool.and_eq_true] at hpq
        cases u with
        | own _ => exact trivial
        | vw r p =>
          simp only
          obtain ⟨w0, y1, y2⟩ := h1
          have hr : ∃ t, s1.at r = some t := by
            cases hl : look s1 (.vw r p) with
            | none => rw [hl] at hr; cases hr.1
            | some t =>
              rw [look_vw] at hl
              cases hr : s1.at r with
              | none => rw [hr] at hl; cases hl
              | some t => exact ⟨t, rfl⟩
          have kp := k1.pin y1 y2 hr
          have hts := tvs_ok hc es kp
          have hpv : (pv ++ [v])[s1.β.length]? = some v := by rw [List.getElem?_append_right (by rw [k1.bn]; exact Nat.le_refl _), k1.bn, Nat.sub_self]; rfl
          generalize hn : s1.β.length = n at *
          cases e0 : tvs c es ⟨s1.τ, s1.α, s1.β ++ [some (r, p)]⟩ with
          | bad => exact trivial
          | ex _ _ _ => exact trivial
          | ok us s2 =>
            rw [e0] at hts
            obtain ⟨vs, S2, Z2, Fs2, F2, r2, k2, t2, h2, o2, p2⟩ := hts
            rw [r2]
            simp only [Mi.R.bind_ok]
            unfold tmutP
            cases e1 : claims c us s2 with
            | none => exact trivial
            | some q =>
              obtain ⟨ts, s3⟩ := q
              simp only
              obtain ⟨Z3, Fs3, F3, a1, a2, a3, a4, a5, _⟩ := claims_ok k2 h2 o2 e1
              cases e2 : s3.β[n]? with
              | none => exact trivial
              | some o' =>
                cases o' with
                | none => exact trivial
                | some rp =>
                  obtain ⟨r', p'⟩ := rp
                  simp only
                  obtain ⟨v', w', c1, c2, c3, _⟩ := a1.bl n r' p' e2
                  rw [hpv] at c3
                  cases c3
                  have a1 := a1.unpin n (k1.bn.trans hn)
                  have h1' : V1 S2 Z3 ρ (.vw r' p') v (fun _ => False) := ⟨v', c1, c2⟩
                  cases e3 : tmut m (.vw r' p') ts ⟨s3.τ, s3.α, s3.β.take n⟩ with
                  | bad => exact trivial
                  | ex _ _ _ => exact absurd e3 (by
                      unfold tmut
                      simp only
                      split
                      · split
                        · split
                          · exact fun q => by cases q
                          · exact fun q => by cases q
                        · exact fun q => by cases q
                      · exact fun q => by cases q)
                  | ok x s4 =>
                    obtain ⟨w, S4, Fs4, F4, b1, b2, b3, b4, b5, _⟩ := tmut_ok a1 h1' a3 a4 e3
                    rw [b1]
                    have T3 := t1.trans (t2.trans a2)
                    have hA : ∀ x, F3 x → Bd S Fs x := fun x hx => (a4 x hx).2.2.2.elim (t1.bd x) (fun q => (t1.trans t2).fs x q)
                    refine ⟨w, S4, Z3, Fs4, F4, rfl, b2, T3.transB b3 hA, b4, b5.bmono fun x hx => T3.fs x hx, fun q => ?_⟩
                    unfold pur at q
                    rw [hpq.1] at q
                    cases q
      rw [if_neg hpq]
      refine EvG.bind t1 (tvs_ok hc es k1) fun {us vs S2 Z2 s2 Fs2 F2} r2 k2 t2 h2 o2 p2 => ?_
      by_cases hm : isMut m = true
      · rw [if_pos hm]
        cases e1 : claims c us s2 with
        | none => exact trivial
        | some q =>
          obtain ⟨ts, s3⟩ := q
          simp only
          obtain ⟨Z3, Fs3, F3, a1, a2, a3, a4, a5, _⟩ := claims_ok k2 h2 o2 e1
          cases e2 : keep c.C o u es s3 with
          | none => exact trivial
          | some u' =>
            obtain ⟨F', h1', hF'⟩ := keep_ok h1 o1 k1 a1 (t2.trans a2) (var_val r1) p2 e2
            simp only
            cases e3 : tmut m u' ts s3 with
            | bad => exact trivial
            | ex _ _ _ => exact absurd e3 (by
                unfold tmut
                cases u' with
                | own _ => exact fun q => by cases q
                | vw r p =>
                  simp only
                  split
                  · split
                    · split
                      · exact fun q => by cases q
                      · exact fun q => by cases q
                    · exact fun q => by cases q
                  · exact fun q => by cases q)
            | ok x s4 =>
              obtain ⟨w, S4, Fs4, F4, b1, b2, b3, b4, b5, _⟩ := tmut_ok a1 h1' a3 a4 e3
              rw [b1]
              have T3 := t1.trans (t2.trans a2)
              have hA : ∀ x, F3 x → Bd S Fs x := fun x hx => (a4 x hx).2.2.2.elim (t1.bd x) (fun q => (t1.trans t2).fs x q)
              refine ⟨w, S4, Z3, Fs4, F4, rfl, b2, T3.transB b3 hA, b4, b5.bmono fun x hx => T3.fs x hx, fun q => ?_⟩
              unfold pur at q
              rw [hm] at q
              cases q
      · rw [if_neg hm]
        cases e2 : keep c.C o u es s2 with
        | none => exact trivial
        | some u' =>
          obtain ⟨F', h1', hF'⟩ := keep_ok h1 o1 k1 k2 t2 (var_val r1) p2 e2
          simp only
          cases l1 : look s2 u' with
          | none => exact trivial
          | some t =>
            cases l2 : allSome (us.map (look s2)) with
            | none => exact trivial
            | some ts =>
              obtain ⟨F0, g1, _⟩ := h1'.look k2 l1
              refine op_end (t1.trans t2) k2 (fun d hd => trmeth_ok g1 (looks_pts h2 k2 l2) hd) .none fun q => ?_
              unfold pur at q
              obtain ⟨q1, q2⟩ := bnd2 (p := true) q
              obtain ⟨_, q3⟩ := bnd2 (p := true) q1
              exact (p1 q3).trans (p2 q2)
    · rw [if_neg hr]; exact trivial
  | .lc own t kk its ifs e, S, Z, s, ρ, pv, Fs, k => by
    rw [tv_lc, ev_lc']
    refine EvG.bind .refl (tvs_ok hc its k) fun {us vs S1 Z1 s1 Fs1 F1} _ k1 t1 h1 o1 p1 => ?_
    refine lc_ok (pI := purs c.C ifs) (pE := pur c.C e) (fun k' => tvT_ok hc ifs k') (fun k' => tv_ok hc e k') t1 k1 h1 o1 fun q => ?_
    unfold pur at q
    obtain ⟨q1, q2⟩ := bnd2 (p := true) q
    obtain ⟨q1, q3⟩ := bnd2 (p := true) q1
    exact ⟨p1 q1, q3, q2⟩
  | .dK, S, Z, s, ρ, pv, Fs, k => by
    rw [tv_dK, ev_dK]
    refine EvV.op (G := fun _ => False) (t := .dK true [] []) (o := some (.ref S.length, S ++ [.dK []])) .refl k ⟨_, [.dK []], fun x => x = S.length, rfl, ⟨S.length, [], fun _ => False, rfl, List.getElem?_concat_length .., ⟨rfl, List.nodup_nil⟩, rfl, nd_own rfl fun _ h => h.elim⟩, fun x hx => .inr (by subst hx; simp)⟩ .none fun _ => .refl
  | .dT, S, Z, s, ρ, pv, Fs, k => by
    rw [tv_dT, ev_dT]
    refine EvV.op (G := fun _ => False) (t := .dT true [] []) (o := some (.ref S.length, S ++ [.dT []])) .refl k ⟨_, [.dT []], fun x => x = S.length, rfl, ⟨S.length, [], fun _ => False, rfl, List.getElem?_concat_length .., ⟨rfl, List.nodup_nil⟩, rfl, nd_own rfl fun _ h => h.elim⟩, fun x hx => .inr (by subst hx; simp)⟩ .none fun _ => .refl
  | .dis ks vs, S, Z, s, ρ, pv, Fs, k => by
    have : tv c (.dis ks vs) s = .bad := by first | (rw [tv]; done) | (rw [tv]; rfl)
    rw [this]; exact trivial
  | .isx j, S, Z, s, ρ, pv, Fs, k => by
    rw [tv_isx]
    have e1 : ev C (.isx j) ρ S = match C excNo with | some (c, _) => .ok (.bl (exSub c j)) S | none => .bad := by first | (rw [ev]; done) | (rw [ev]; rfl)
    cases hF : c.C excNo with
    | none => exact trivial
    | some F =>
      obtain ⟨g, hg, _⟩ := hc _ _ hF
      rw [e1, hg]
      exact ⟨.bl (exSub F.n j), S, Z, Fs, fun _ => False, rfl, k, .refl, rfl, .none, fun _ => .refl⟩
  | .lrg1 a, S, Z, s, ρ, pv, Fs, k => by
    rw [tv_lrg1, ev_lrg1]
    refine one_ok .refl (tv_ok hc a k) fun {t v S1 Z1 s1 Fs1 F0} k1 t1 h1 p1 => ?_
    cases t with
    | int n =>
      cases h1
      simp only
      by_cases hn : n ≤ 1000000 ∧ -(2 ^ 62) ≤ n
      · rw [if_pos hn, if_pos hn]
        refine EvV.op t1 k1 (new_op (trng_ok 0 n.toNat) (fun _ h => h.elim) k1.zl ?_) .none fun q => p1 (by unfold pur at q; exact q)
        unfold trng
        rw [List.length_map, List.length_range]; have := line_big
        omega
      · rw [if_neg hn, if_neg hn]; exact trivial
    | _ => exact trivial
  | .lrg2 a b, S, Z, s, ρ, pv, Fs, k => by
    rw [tv_lrg2, ev_lrg2]
    refine two_ok (pb := pur c.C b) (fun q => by unfold purs at q; exact (bnd2 (p := true) q).1) (tv_ok hc a k) (fun k' => tv_ok hc b k') fun {t u v w S1 Z1 s1 Fs1 F0 F1} k1 t1 h1 h2 p1 => ?_
    cases t with
    | int i =>
      cases u with
      | int j =>
        cases h1
        cases h2
        simp only
        by_cases hn : (small62 i && small62 j && decide (j - i ≤ 1000000)) = true
        · rw [if_pos hn, if_pos hn]
          refine EvV.op t1 k1 (new_op (trng_ok i (j - i).toNat) (fun _ h => h.elim) k1.zl ?_) .none fun q => ?_
          · unfold trng
            rw [List.length_map, List.length_range]; have := line_big
            rw [Bool.and_eq_true] at hn
            have := of_decide_eq_true hn.2
            omega
          · unfold pur at q
            obtain ⟨q1, q2⟩ := bnd2 (p := true) q
            exact p1 q1 q2
        · rw [if_neg hn, if_neg hn]; exact trivial
      | _ => exact trivial
    | _ => exact trivial
theorem tvs_ok (hc : CtxOK C c.C) : ∀ (es : List E) {S : Store} {Z : Ad} {s : St} {ρ : Env} {pv : List Val} {Fs : Nat → Ad}, OK S Z s ρ pv Fs → EvG (fun S Z us vs F => Vs S Z ρ us vs F) S Z Fs ρ pv (purs c.C es) (evs C es ρ S) (tvs c es s)
  | [], S, Z, s, ρ, pv, Fs, k => by
    rw [tvs_nil, evs_nil]
    exact ⟨[], S, Z, Fs, fun _ => False, rfl, k, .refl, rfl, .none, fun _ => .refl⟩
  | e :: es, S, Z, s, ρ, pv, Fs, k => by
    rw [tvs_cons, evs_cons]
    refine EvG.bind .refl (tv_ok hc e k) fun {u v S1 Z1 s1 Fs1 F1} r1 k1 t1 h1 o1 p1 => ?_
    refine EvG.bind t1 (tvs_ok hc es k1) fun {us vs S2 Z2 s2 Fs2 F2} r2 k2 t2 h2 o2 p2 => ?_
    cases e1 : keep c.C e u es s2 with
    | none => exact trivial
    | some u' =>
      obtain ⟨F', h1', hF'⟩ := keep_ok h1 o1 k1 k2 t2 (var_val r1) p2 e1
      refine ⟨v :: vs, S2, Z2, Fs2, fun x => F' x ∨ F2 x, rfl, k2, t1.trans t2, ⟨v, vs, F', F2, rfl, h1', h2, fun x hx => ⟨.inl hx, fun q => ?_⟩, fun x hx => .inr hx⟩, fun x hx => ?_, fun q => ?_⟩
      · rcases (o2 x q).2.2.2 with q' | q'
        · exact (o1 x (hF' x hx)).1 q'
        · have := (o1 x (hF' x hx)).2.2.1; omega
      · rcases hx with hx | hx
        · exact ((o1.mono hF').tr t2) x hx
        · exact (o2.bmono t1.bd) x hx
      · unfold purs at q
        obtain ⟨q1, q2⟩ := bnd2 (p := true) q
        exact (p1 q1).trans (p2 q2)
theorem tvT_ok (hc : CtxOK C c.C) : ∀ (es : List E) {S : Store} {Z : Ad} {s : St} {ρ : Env} {pv : List Val} {Fs : Nat → Ad}, OK S Z s ρ pv Fs → EvG (fun _ _ b a _ => a = b) S Z Fs ρ pv (purs c.C es) (evT C es ρ S) (tvT c es s)
  | [], S, Z, s, ρ, pv, Fs, k => by
    rw [tvT_nil, evT_nil]
    exact ⟨true, S, Z, Fs, fun _ => False, rfl, k, .refl, rfl, .none, fun _ => .refl⟩
  | [e], S, Z, s, ρ, pv, Fs, k => by
    rw [tvT_one, evT_one]
    refine EvG.bind .refl (tv_ok hc e k) fun {u v S1 Z1 s1 Fs1 F1} r1 k1 t1 h1 o1 p1 => ?_
    cases e' : (look s1 u).bind ttru with
    | none => exact trivial
    | some kk =>
      obtain ⟨t, e1, e2⟩ := Option.bind_eq_some_iff.mp e'
      obtain ⟨F0, g1, _⟩ := h1.look k1 e1
      rw [ttru_ok g1 e2]
      exact ⟨kk, S1, Z1, Fs1, fun _ => False, rfl, k1, t1, rfl, .none, fun q => p1 (by unfold purs at q; exact (bnd2 (p := true) q).1)⟩
  | _ :: _ :: _, S, Z, s, ρ, pv, Fs, k => by
    have : ∀ a b es, tvT c (a :: b :: es) s = .bad := fun a b es => by rw [tvT] <;> simp
    rw [this]; exact trivial
end
end
end Tv
namespace Tv
open Mi
open PySem hiding Env Ctx
/-! ### what each statement does, for simp -/
section
variable (c : Cf) (s : St)
@[simp] theorem tx_asg (t : Tg) (e : E) : tx c (.asg t e) s = (tv c e s).st fun u s => TO.of (tasg c t u s) := by first | (rw [tx]; done) | (rw [tx]; rfl)
@[simp] theorem tx_set (a i e : E) : tx c (.set a i e) s = (tv c e s).st fun u s => (tv c a s).st fun v s => (tv c i s).st fun k s => match keep c.C e u [a, i] s, keep c.C a v [i] s, look s k with
    | some u, some v, some k => match claim c u s with
      | some (y, s) => TO.of (tset v k y s)
      | none => .bad
    | _, _, _ => .bad := by first | (rw [tx]; done) | (rw [tx]; rfl)
@[simp] theorem tx_aug (i : Nat) (o : O2) (e : E) : tx c (.aug i o e) s = match tvar i s with
    | some (.own (.int a)) => (tv c e s).st fun v s => match o, v with
      | .add, .own (.int b) => if i ∈ c.P then .bad else .nx (s.setS i (some (.int (a + b))))
      | .sub, .own (.int b) => if i ∈ c.P then .bad else .nx (s.setS i (some (.int (a - b))))
      | _, _ => .bad
    | _ => .bad := by first | (rw [tx]; done) | (rw [tx]; rfl)
@[simp] theorem tx_augS (a i : E) (o : O2) (e : E) : tx c (.augS a i o e) s = (tv c a s).st fun u s => (tv c i s).st fun k s => match keep c.C a u [i] s, k with
    | some u, .own k => if ¬ isRef (look s u) = true then .bad else match tsub s u k with
      | some (.own (.int x)) => (tv c e s).st fun v s => match keep c.C a u [e] s with
        | some u => match o, v with
          | .add, .own (.int b) => TO.of (tset u k (.int (x + b)) s)
          | .sub, .own (.int b) => TO.of (tset u k (.int (x - b)) s)
          | _, _ => .bad
        | none => .bad
      | _ => .bad
    | _, _ => .bad := by first | (rw [tx]; done) | (rw [tx]; rfl)
@[simp] theorem tx_exp (e : E) : tx c (.exp e) s = (tv c e s).st fun _ s => .nx s := by first | (rw [tx]; done) | (rw [tx]; rfl)
/-- the same, letting go of all -/
def Cf.mv (c : Cf) : Cf := ⟨c.C, c.P, fun _ => true⟩
@[simp] theorem mv_C : c.mv.C = c.C := Eq.trans rfl rfl
@[simp] theorem tx_ret (e : E) : tx c (.ret e) s = (tv c.mv e s).st fun u s => match claim c.mv u s with
    | some (t, s) => .rt t s
    | none => .bad := by first | (rw [tx]; done) | (rw [tx]; rfl)
@[simp] theorem tx_retn : tx c .retn s = .rt .non s := by first | (rw [tx]; done) | (rw [tx]; rfl)
@[simp] theorem tx_pass : tx c .pass s = .nx s := by first | (rw [tx]; done) | (rw [tx]; rfl)
@[simp] theorem tx_brk : tx c .brk s = .bk s := by first | (rw [tx]; done) | (rw [tx]; rfl)
@[simp] theorem tx_cnt : tx c .cnt s = .ct s := by first | (rw [tx]; done) | (rw [tx]; rfl)
@[simp] theorem tx_if (d : E) (p q : List Stm) : tx c (.ifS d p q) s = (tvT c [d] s).st fun k s => if k then txs c p s else txs c q s := by first | (rw [tx]; done) | (rw [tx]; rfl)
def twT (c : Cf) (d : E) : St → TR Bool := fun s => tvT c [d] s
def twB (c : Cf) (p : List Stm) : St → TO := fun s => txs c p s
def twW (c : Cf) (p : List Stm) : St → TO := fun s => (twB c p s).wp (wsOf c [] p)
@[simp] theorem tx_whl (d : E) (p : List Stm) : tx c (.whl d p) s = twl (twT c d) (twW c p) wmax (wipeS s (wsOf c [] p)) := by first | (rw [tx]; done) | (rw [tx]; rfl)
def tfB (c : Cf) (t : Tg) (p : List Stm) : It → St → TO := fun v s => match tlayIt c.P t v s with
  | some s => txs c p s
  | none => .bad
def tfW (c : Cf) (t : Tg) (p : List Stm) : It → St → TO := fun v s => (tfB c t p v s).wp (wsOf c (Mi.slots t) p)
def tfL (c : Cf) (t : Tg) (p : List Stm) (n : Nat) : Option (TI × Nat × St) → TO
  | none => .bad
  | some (ti, m, s1) => (tfl (tnext ti) (tfW c t p) m 0 (wipeS s1 (wsOf c (Mi.slots t) p))).unpin n
@[simp] theorem tx_for (t : Tg) (k : IK) (its : List E) (p : List Stm) : tx c (.for t k its p) s = (tvs c its s).st fun us s => tfL c t p s.β.length (tstart k us s) := by first | (rw [tx]; done) | (rw [tx]; rfl)
@[simp] theorem tx_tri (p : List Stm) (cl i : Nat) (kn : List Nat) (q : List Stm) : tx c (.tri p cl i kn q) s = triO i (fun c' s' => if c' ∈ kn ∧ (i < s'.τ.length ∨ 1000 ≤ i) ∧ i ∉ c.P then (if exSub c' cl then (txs ⟨curT c.C c', c.P, c.M⟩ q ((s'.setS i none).unp s.β.length)).gone i else .ex c' none s') else .bad) (txs c p s) := by first | (rw [tx]; done) | (rw [tx]; rfl)
@[simp] theorem tx_nvr : tx c .nvr s = .bad := by first | (rw [tx]; done) | (rw [tx]; rfl)
@[simp] theorem tx_raise (k : Nat) : tx c (.raise k) s = .ex k none s := by first | (rw [tx]; done) | (rw [tx]; rfl)
@[simp] theorem txs_nil : txs c [] s = .nx s := by first | (rw [txs]; done) | (rw [txs]; rfl)
@[simp] theorem txs_cons (a : Stm) (r : List Stm) : txs c (a :: r) s = (tx c a s).then fun s => txs c r s := by first | (rw [txs]; done) | (rw [txs]; rfl)
end
section
variable {S S' S'' S0 : Store} {Z Z' Z'' Z0 : Ad} {s s' : St} {ρ ρ' ρ0 : Env} {pv pv' : List Val} {Fs Fs' Fs'' Fs0 : Nat → Ad} {A B B' F G G1 G2 : Ad} {P : List Nat}
def Pr (P : List Nat) (ρ ρ' : Env) : Prop := ρ'.length = ρ.length ∧ ∀ p ∈ P, ρ'[p]? = ρ[p]?
theorem Pr.refl : Pr P ρ ρ := ⟨rfl, fun _ _ => rfl⟩
theorem Pr.trans {ρ1 ρ2 ρ3 : Env} (a : Pr P ρ1 ρ2) (b : Pr P ρ2 ρ3) : Pr P ρ1 ρ3 := ⟨b.1.trans a.1, fun p hp => (b.2 p hp).trans (a.2 p hp)⟩
/-- how a statement ends, on both sides -/
def StG (S : Store) (Z : Ad) (Fs : Nat → Ad) (ρ : Env) (pv : List Val) (P : List Nat) (o : SO) (q : TO) : Prop := match q with
  | .nx s' => ∃ ρ' S' Z' Fs', o = .nx ρ' S' ∧ OK S' Z' s' ρ' pv Fs' ∧ Tr S Z Fs S' Z' Fs' ∧ Pr P ρ ρ'
  | .bk s' => ∃ ρ' S' Z' Fs', o = .bk ρ' S' ∧ OK S' Z' s' ρ' pv Fs' ∧ Tr S Z Fs S' Z' Fs' ∧ Pr P ρ ρ'
  | .ct s' => ∃ ρ' S' Z' Fs', o = .ct ρ' S' ∧ OK S' Z' s' ρ' pv Fs' ∧ Tr S Z Fs S' Z' Fs' ∧ Pr P ρ ρ'
  | .rt t s' => ∃ v ρ' pv' S' Z' Fs' F', o = .rt v S' ∧ OK S' Z' s' ρ' pv' Fs' ∧ Tr S Z Fs S' Z' Fs' ∧ Pr P ρ ρ' ∧ Rp S' Z' t v F' ∧ Ow S' Z' Fs' (Bd S Fs) F'
  | .ex c d s' => ∃ ρ' pv' S' Z' Fs', d = none ∧ o = .ex c none ρ' S' ∧ OK S' Z' s' ρ' pv' Fs' ∧ Tr S Z Fs S' Z' Fs' ∧ Pr P ρ ρ'
  | .bad => True
theorem StG.base {o : SO} {q : TO} (a : Tr S0 Z0 Fs0 S Z Fs) (pr : Pr P ρ0 ρ) (h : StG S Z Fs ρ pv P o q) : StG S0 Z0 Fs0 ρ0 pv P o q := by
  cases q with
  | nx s' => obtain ⟨ρ', S', Z', Fs', h1, h2, h3, h4⟩ := h; exact ⟨ρ', S', Z', Fs', h1, h2, a.trans h3, pr.trans h4⟩
  | bk s' => obtain ⟨ρ', S', Z', Fs', h1, h2, h3, h4⟩ := h; exact ⟨ρ', S', Z', Fs', h1, h2, a.trans h3, pr.trans h4⟩
  | ct s' => obtain ⟨ρ', S', Z', Fs', h1, h2, h3, h4⟩ := h; exact ⟨ρ', S', Z', Fs', h1, h2, a.trans h3, pr.trans h4⟩
  | rt t s' => obtain ⟨v, ρ', pv', S', Z', Fs', F', h1, h2, h3, h4, h5, h6⟩ := h; exact ⟨v, ρ', pv', S', Z', Fs', F', h1, h2, a.trans h3, pr.trans h4, h5, h6.bmono a.bd⟩
  | ex c d s' => obtain ⟨ρ', pv', S', Z', Fs', h0, h1, h2, h3, h4⟩ := h; exact ⟨ρ', pv', S', Z', Fs', h0, h1, h2, a.trans h3, pr.trans h4⟩
  | bad => exact trivial
theorem StG.st {α β : Type} {rel : Store → Ad → β → α → Ad → Prop} {p : Bool} {r : R α} {q : TR β} {k : α → Store → SO} {kq : β → St → TO} (a : Tr S0 Z0 Fs0 S Z Fs) (h : EvG rel S Z Fs ρ pv p r q)
    (hk : ∀ {b a S1 Z1 s1 Fs1 F1}, r = .ok a S1 → OK S1 Z1 s1 ρ pv Fs1 → Tr S Z Fs S1 Z1 Fs1 → rel S1 Z1 b a F1 → Ow S1 Z1 Fs1 (Bd S Fs) F1 → (p = true → Same S S1) → StG S0 Z0 Fs0 ρ pv P (k a S1) (kq b s1)) :
    StG S0 Z0 Fs0 ρ pv P (r.st ρ k) (q.st kq) := by
  cases q with
  | ok b s' =>
    obtain ⟨a', S1, Z1, Fs1, F1, rfl, h1, h2, h3, h4, h5⟩ := h
    exact hk rfl h1 h2 h3 h4 h5
  | ex c d s' =>
    obtain ⟨S1, Z1, Fs1, rfl, rfl, h1, h2⟩ := h
    exact ⟨ρ, pv, S1, Z1, Fs1, rfl, rfl, h1, a.trans h2, .refl⟩
  | bad => exact trivial
theorem StG.then {o : SO} {q : TO} {k : Env → Store → SO} {kq : St → TO} (h : StG S Z Fs ρ pv P o q) (hk : ∀ {ρ1 S1 Z1 s1 Fs1}, OK S1 Z1 s1 ρ1 pv Fs1 → StG S1 Z1 Fs1 ρ1 pv P (k ρ1 S1) (kq s1)) : StG S Z Fs ρ pv P (o.then k) (q.then kq) := by
  cases q with
  | nx s' => obtain ⟨ρ', S', Z', Fs', rfl, h2, h3, h4⟩ := h; exact (hk h2).base h3 h4
  | bk s' => obtain ⟨ρ', S', Z', Fs', rfl, h2, h3, h4⟩ := h; exact ⟨ρ', S', Z', Fs', rfl, h2, h3, h4⟩
  | ct s' => obtain ⟨ρ', S', Z', Fs', rfl, h2, h3, h4⟩ := h; exact ⟨ρ', S', Z', Fs', rfl, h2, h3, h4⟩
  | rt t s' => obtain ⟨v, ρ', pv', S', Z', Fs', F', rfl, h2, h3, h4, h5, h6⟩ := h; exact ⟨v, ρ', pv', S', Z', Fs', F', rfl, h2, h3, h4, h5, h6⟩
  | ex c d s' => obtain ⟨ρ', pv', S', Z', Fs', h0, rfl, h2, h3, h4⟩ := h; exact ⟨ρ', pv', S', Z', Fs', h0, rfl, h2, h3, h4⟩
  | bad => exact trivial
/-- laid: a step -/
theorem Ly.tr {sl : List Nat} (h : Ly S Z Fs F P sl ρ ρ' pv s' Fs') : TrB S Z Fs F S Z Fs' := ⟨Nat.le_refl _, fun _ _ _ _ => rfl, fun _ h => h, fun _ h => .inl h, fun x q => (h.fs x q).imp id .inr⟩
theorem tasg_ok {c : Cf} {t : Tg} {u : V2} {v : Val} (a : Tr S0 Z0 Fs0 S Z Fs) (k : OK S Z s ρ pv Fs) (h : V1 S Z ρ u v F) (o : Ow S Z Fs (Bd S0 Fs0) F) :
    StG S0 Z0 Fs0 ρ pv c.P (match lay S t v ρ with | some ρ => .nx ρ S | none => .bad) (TO.of (tasg c t u s)) := by
  have gen : ∀ {u : V2} {s : St} {Z : Ad} {Fs : Nat → Ad} {F : Ad}, Tr S0 Z0 Fs0 S Z Fs → OK S Z s ρ pv Fs → V1 S Z ρ u v F → Ow S Z Fs (Bd S0 Fs0) F → StG S0 Z0 Fs0 ρ pv c.P (match lay S t v ρ with | some ρ => .nx ρ S | none => .bad) (TO.of (tlay c.P t u s)) := by
    intro u s Z Fs F a k h o
    cases e : tlay c.P t u s with
    | none => exact trivial
    | some s1 =>
      obtain ⟨ρ', Fs', b1, b2⟩ := tlay_ok t k h o e
      rw [b1]
      exact ⟨ρ', S, Z, Fs', rfl, b2.ok, a.transB b2.tr (fun x hx => (o x hx).2.2.2), b2.ln, b2.pr⟩
  by_cases h0 : ∃ i r, t = .name i ∧ u = .vw r []
  · obtain ⟨i, r, rfl, rfl⟩ := h0
    have e0 : tasg c (.name i) (.vw r []) s = match claim c (.vw r []) s with
      | some (d, s) => tlay c.P (.name i) (.own d) s
      | none => none := rfl
    rw [e0]
    cases e : claim c (.vw r []) s with
    | none => exact trivial
    | some q =>
      obtain ⟨d, s1⟩ := q
      obtain ⟨Z1, Fs1, F1, a1, a2, a3, a4, a5, _⟩ := claim_ok k h o e
      exact gen (u := .own d) (a.trans a2) a1 a3 (a4.bmono fun x hx => hx.elim id (a.fs x))
  · have e0 : tasg c t u s = tlay c.P t u s := by
      unfold tasg
      split
      · rename_i i r; exact absurd ⟨i, r, rfl, rfl⟩ h0
      · rfl
    rw [e0]
    exact gen a k h o
/-- a for's turns -/
theorem tfl_ok {ti : TI} {iv : IV} {body : Val → Env → Store → SO} {tb : It → St → TO} (hb : ∀ {S Z s ρ Fs it v}, OK S Z s ρ pv Fs → ItOK S Z ρ it v → StG S Z Fs ρ pv P (body v ρ S) (tb it s)) : ∀ (n k : Nat) {S : Store} {Z : Ad} {s : St} {ρ : Env} {Fs : Nat → Ad}, OK S Z s ρ pv Fs → TIOK S Z pv ti iv →
    StG S Z Fs ρ pv P (floop iv.next body n k ρ S) (tfl (tnext ti) tb n k s) := by
  intro n
  induction n with
  | zero =>
    intro k S Z s ρ Fs ok hti
    unfold tfl
    cases hn : tnext ti k s with
    | none => exact trivial
    | some o =>
      rcases tnext_ok ok hti hn with ⟨rfl, h2⟩ | ⟨it, v, rfl, h2, h3⟩
      · simp only
        refine ⟨ρ, S, Z, Fs, ?_, ok, .refl, .refl⟩
        unfold floop
        rw [h2]
      · exact trivial
  | succ n ih =>
    intro k S Z s ρ Fs ok hti
    unfold tfl
    cases hn : tnext ti k s with
    | none => exact trivial
    | some o =>
      rcases tnext_ok ok hti hn with ⟨rfl, h2⟩ | ⟨it, v, rfl, h2, h3⟩
      · simp only
        refine ⟨ρ, S, Z, Fs, ?_, ok, .refl, .refl⟩
        unfold floop
        rw [h2]
      · simp only
        have h4 := hb ok h3
        unfold floop
        rw [h2]
        simp only
        cases e : tb it s with
        | bad => exact trivial
        | nx s1 =>
          rw [e] at h4
          obtain ⟨ρ', S', Z', Fs', q1, q2, q3, q4⟩ := h4
          rw [q1]
          exact (ih (k + 1) q2 (hti.tr ok q3)).base q3 q4
        | ct s1 =>
          rw [e] at h4
          obtain ⟨ρ', S', Z', Fs', q1, q2, q3, q4⟩ := h4
          rw [q1]
          exact (ih (k + 1) q2 (hti.tr ok q3)).base q3 q4
        | bk s1 =>
          rw [e] at h4
          obtain ⟨ρ', S', Z', Fs', q1, q2, q3, q4⟩ := h4
          rw [q1]
          exact ⟨ρ', S', Z', Fs', rfl, q2, q3, q4⟩
        | rt t s1 =>
          rw [e] at h4
          obtain ⟨v', ρ', pv', S', Z', Fs', F', q1, q⟩ := h4
          rw [q1]
          exact ⟨v', ρ', pv', S', Z', Fs', F', rfl, q⟩
        | ex c d s1 =>
          rw [e] at h4
          obtain ⟨ρ', pv', S', Z', Fs', q0, q1, q⟩ := h4
          rw [q1]
          exact ⟨ρ', pv', S', Z', Fs', q0, rfl, q⟩
theorem twl_ok {cd : Env → Store → R Bool} {body : Env → Store → SO} {tc : St → TR Bool} {tb : St → TO} {p : Bool} (hc : ∀ {S Z s ρ Fs}, OK S Z s ρ pv Fs → EvG (fun _ _ b a _ => a = b) S Z Fs ρ pv p (cd ρ S) (tc s)) (hb : ∀ {S Z s ρ Fs}, OK S Z s ρ pv Fs → StG S Z Fs ρ pv P (body ρ S) (tb s)) :
    ∀ (n : Nat) {S : Store} {Z : Ad} {s : St} {ρ : Env} {Fs : Nat → Ad}, OK S Z s ρ pv Fs → StG S Z Fs ρ pv P (wloop cd body n ρ S) (twl tc tb n s) := by
  intro n
  induction n with
  | zero =>
    intro S Z s ρ Fs ok
    unfold twl wloop
    refine StG.st .refl (hc ok) fun {b b' S1 Z1 s1 Fs1 F1} _ k1 t1 h1 _ _ => ?_
    subst h1
    cases b' with
    | true => exact trivial
    | false => exact ⟨ρ, S1, Z1, Fs1, rfl, k1, t1, .refl⟩
  | succ n ih =>
    intro S Z s ρ Fs ok
    unfold twl wloop
    refine StG.st .refl (hc ok) fun {b b' S1 Z1 s1 Fs1 F1} _ k1 t1 h1 _ _ => ?_
    subst h1
    cases b' with
    | false => exact ⟨ρ, S1, Z1, Fs1, rfl, k1, t1, .refl⟩
    | true =>
      simp only [if_true]
      have h4 := hb k1
      refine StG.base t1 .refl ?_
      cases e : tb s1 with
      | bad => exact trivial
      | nx s2 =>
        rw [e] at h4
        obtain ⟨ρ', S', Z', Fs', q1, q2, q3, q4⟩ := h4
        rw [q1]
        exact (ih q2).base q3 q4
      | ct s2 =>
        rw [e] at h4
        obtain ⟨ρ', S', Z', Fs', q1, q2, q3, q4⟩ := h4
        rw [q1]
        exact (ih q2).base q3 q4
      | bk s2 =>
        rw [e] at h4
        obtain ⟨ρ', S', Z', Fs', q1, q2, q3, q4⟩ := h4
        rw [q1]
        exact ⟨ρ', S', Z', Fs', rfl, q2, q3, q4⟩
      | rt t s2 =>
        rw [e] at h4
        obtain ⟨v', ρ', pv', S', Z', Fs', F', q1, q⟩ := h4
        rw [q1]
        exact ⟨v', ρ', pv', S', Z', Fs', F', rfl, q⟩
      | ex c d s2 =>
        rw [e] at h4
        obtain ⟨ρ', pv', S', Z', Fs', q0, q1, q⟩ := h4
        rw [q1]
        exact ⟨ρ', pv', S', Z', Fs', q0, rfl, q⟩
/-- pins let go -/
theorem StG.unpin {l : List Val} {o : SO} {q : TO} {n : Nat} (hn : pv.length = n) (h : StG S Z Fs ρ (pv ++ l) P o q) (hq : ∀ s, q ≠ .bk s ∧ q ≠ .ct s) : StG S Z Fs ρ pv P o (q.unpin n) := by
  cases q with
  | nx s' => obtain ⟨ρ', S', Z', Fs', h1, h2, h3, h4⟩ := h; exact ⟨ρ', S', Z', Fs', h1, h2.unpin n hn, h3, h4⟩
  | bk s' => exact absurd rfl (hq s').1
  | ct s' => exact absurd rfl (hq s').2
  | rt t s' => exact h
  | ex c d s' => exact h
  | bad => exact trivial
theorem tfl_ends {nxt : Nat → St → Option (Option It)} {tb : It → St → TO} : ∀ (n k : Nat) (s s' : St), tfl nxt tb n k s ≠ .bk s' ∧ tfl nxt tb n k s ≠ .ct s' := by
  intro n
  induction n with
  | zero =>
    intro k s s'
    unfold tfl
    cases nxt k s with
    | none => exact ⟨fun q => (by cases q), fun q => (by cases q)⟩
    | some o => cases o <;> exact ⟨fun q => (by cases q), fun q => (by cases q)⟩
  | succ n ih =>
    intro k s s'
    unfold tfl
    cases nxt k s with
    | none => exact ⟨fun q => (by cases q), fun q => (by cases q)⟩
    | some o => cases o with
      | none => exact ⟨fun q => (by cases q), fun q => (by cases q)⟩
      | some v =>
        simp only
        cases tb v s with
        | nx s1 => exact ih (k + 1) s1 s'
        | ct s1 => exact ih (k + 1) s1 s'
        | _ => exact ⟨fun q => (by cases q), fun q => (by cases q)⟩
end
end Tv
namespace Tv
open Mi
open PySem hiding Env Ctx
section
variable {S S' S'' S0 : Store} {Z Z' Z'' Z0 : Ad} {s s' : St} {ρ ρ' ρ0 : Env} {pv pv' : List Val} {Fs Fs' Fs'' Fs0 : Nat → Ad} {A B B' F G G1 G2 : Ad} {P : List Nat}
/-- u[i] = y, told -/
theorem set_end' {u : V2} {v kv yv : Val} {kt y : T} (a : Tr S0 Z0 Fs0 S Z Fs) (k : OK S Z s ρ pv Fs) (h : V1 S Z ρ u v F) (hk : Rp S Z kt kv G) (hy : Rp S Z y yv A) (hA : Ow S Z Fs (Bd S0 Fs0) A) :
    StG S0 Z0 Fs0 ρ pv P (match setop S v kv yv with | some S => .nx ρ S | none => .bad) (TO.of (tset u kt y s)) := by
  cases e : tset u kt y s with
  | none => exact trivial
  | some s1 =>
    obtain ⟨S', Fs', b1, b2, b3, _⟩ := tset_ok k h hk hy hA e
    rw [b1]
    exact ⟨ρ, S', Z, Fs', rfl, b2, a.transB b3 fun x hx => (hA x hx).2.2.2, .refl⟩
/-- a slot's new number -/
theorem num_end {i : Nat} {j : Int} (a : Tr S0 Z0 Fs0 S Z Fs) (k : OK S Z s ρ pv Fs) (hi : i ∉ P) : StG S0 Z0 Fs0 ρ pv P (.nx (ρ.set i (some (.int j))) S) (.nx (s.setS i (some (.int j)))) := by
  have ne : ∀ x, x ≠ i → (ρ.set i (some (.int j)))[x]? = ρ[x]? := fun x hx => List.getElem?_set_ne fun q => hx q.symm
  by_cases hl : i < ρ.length
  · refine ⟨_, S, Z, upF Fs i (fun _ => False), rfl, k.setS (by simp) ne (fun t ht => by cases ht; exact ⟨_, List.getElem?_set_self hl, rfl⟩) (fun _ h => h.elim), a.trans (.setS fun _ h => h.elim), by simp, fun p hp => ne p fun q => hi (by rw [← q]; exact hp)⟩
  · have e2 : s.setS i (some (.int j)) = s.setS i none := by unfold St.setS; rw [List.set_eq_of_length_le (by rw [k.len]; omega), List.set_eq_of_length_le (by rw [k.len]; omega)]
    rw [e2]
    exact ⟨_, S, Z, upF Fs i (fun _ => False), rfl, k.setS (by simp) ne (fun t ht => by cases ht) (fun _ h => h.elim), a.trans (.setS fun _ h => h.elim), by simp, fun p hp => ne p fun q => hi (by rw [← q]; exact hp)⟩
end
section
variable {C : Mi.Ctx} {c : Cf}
theorem wipeF_ok {S : Store} {Z : Ad} {s : St} {ρ : Env} {pv : List Val} {Fs : Nat → Ad} : ∀ (ws : List Nat), OK S Z s ρ pv Fs → ∃ Fs', OK S Z (wipeS s ws) ρ pv Fs' ∧ Tr S Z Fs S Z Fs'
  | [], k => ⟨Fs, k, .refl⟩
  | v :: vs, k => by
    obtain ⟨Fs1, a1, a2⟩ := wipeF_ok vs k
    refine ⟨_, a1.setS (r := v) (o := none) (ρ' := ρ) (G := fun _ => False) rfl (fun _ _ => rfl) (fun t ht => by cases ht) (fun x hx => hx.elim), a2.trans ⟨Nat.le_refl _, fun _ _ _ => rfl, fun _ h => h, fun _ h => .inl h, fun x h => (U_upF h).elim .inl False.elim⟩⟩
theorem StG.wp {S : Store} {Z : Ad} {ρ : Env} {pv : List Val} {Fs : Nat → Ad} {P : List Nat} {o : SO} {q : TO} (ws : List Nat) (h : StG S Z Fs ρ pv P o q) : StG S Z Fs ρ pv P o (q.wp ws) := by
  cases q with
  | nx s' => obtain ⟨ρ', S', Z', Fs', h1, h2, h3, h4⟩ := h; obtain ⟨Fs2, w1, w2⟩ := wipeF_ok ws h2; exact ⟨ρ', S', Z', Fs2, h1, w1, h3.trans w2, h4⟩
  | bk s' => obtain ⟨ρ', S', Z', Fs', h1, h2, h3, h4⟩ := h; obtain ⟨Fs2, w1, w2⟩ := wipeF_ok ws h2; exact ⟨ρ', S', Z', Fs2, h1, w1, h3.trans w2, h4⟩
  | ct s' => obtain ⟨ρ', S', Z', Fs', h1, h2, h3, h4⟩ := h; obtain ⟨Fs2, w1, w2⟩ := wipeF_ok ws h2; exact ⟨ρ', S', Z', Fs2, h1, w1, h3.trans w2, h4⟩
  | rt t s' => exact h
  | ex c d s' => exact h
  | bad => exact trivial
theorem ex_tri {C : Mi.Ctx} {p q : List Stm} {cl i : Nat} {kn : List Nat} {ρ : Env} {S : Store} : ex C (.tri p cl i kn q) ρ S = match exs C p ρ S with
    | .ex c' d ρ' S' => if c' ∈ kn ∧ d = none ∧ (i < ρ'.length ∨ 1000 ≤ i) then (if exSub c' cl then (exs (curC C c') q (ρ'.set i none) S').gone i else .ex c' d ρ' S') else .bad
    | o => o := by first | (rw [ex]; done) | (rw [ex]; rfl)
theorem CtxOK.cur {C : Mi.Ctx} {Ct : Nat → Option Fn} (hc : CtxOK C Ct) (c' : Nat) : CtxOK (curC C c') (curT Ct c') := by
  intro f F e
  unfold curT at e
  unfold curC
  by_cases hf : f = excNo
  · rw [if_pos hf] at e
    cases e
    exact ⟨_, if_pos hf, fun _ _ _ _ _ _ _ _ _ _ _ => trivial⟩
  · rw [if_neg hf] at e
    rw [if_neg hf]
    exact hc f F e
theorem OK.unp {S : Store} {Z : Ad} {s : St} {ρ : Env} {pv pv' : List Val} {Fs : Nat → Ad} {n : Nat} (k : OK S Z s ρ pv' Fs) (hn : n = pv.length) : OK S Z (s.unp n) ρ pv Fs := by
  refine ⟨k.len, k.rep, k.dj, k.nz, k.zl, k.al, by unfold St.unp; rw [List.length_replicate, hn], fun j r p hj => ?_⟩
  unfold St.unp at hj
  rw [List.getElem?_replicate] at hj
  split at hj <;> cases hj
theorem StG.gone {S : Store} {Z : Ad} {ρ : Env} {pv : List Val} {Fs : Nat → Ad} {P : List Nat} {o : SO} {q : TO} {i : Nat} (hi : i ∉ P) (h : StG S Z Fs ρ pv P o q) : StG S Z Fs ρ pv P (o.gone i) (q.gone i) := by
  have key : ∀ {s' : St} {ρ' : Env} {S' : Store} {Z' : Ad} {Fs' : Nat → Ad}, OK S' Z' s' ρ' pv Fs' → Tr S Z Fs S' Z' Fs' → Pr P ρ ρ' → ∃ Fs2, OK S' Z' (s'.setS i none) (ρ'.set i none) pv Fs2 ∧ Tr S Z Fs S' Z' Fs2 ∧ Pr P ρ (ρ'.set i none) := fun {s' ρ' S' Z' Fs'} k t pr =>
    ⟨_, k.setS (r := i) (o := none) (ρ' := ρ'.set i none) (G := fun _ => False) (by simp) (fun j hj => List.getElem?_set_ne fun q => hj q.symm) (fun t ht => by cases ht) (fun x hx => hx.elim),
      t.trans ⟨Nat.le_refl _, fun _ _ _ => rfl, fun _ h => h, fun _ h => .inl h, fun x h => (U_upF h).elim .inl False.elim⟩,
      ⟨by rw [List.length_set, pr.1], fun p hp => by rw [List.getElem?_set_ne fun q => hi (by rw [q]; exact hp), pr.2 p hp]⟩⟩
  cases q with
  | nx s' => obtain ⟨ρ', S', Z', Fs', h1, h2, h3, h4⟩ := h; obtain ⟨Fs2, a, b, d⟩ := key h2 h3 h4; rw [h1]; exact ⟨_, S', Z', Fs2, rfl, a, b, d⟩
  | bk s' => obtain ⟨ρ', S', Z', Fs', h1, h2, h3, h4⟩ := h; obtain ⟨Fs2, a, b, d⟩ := key h2 h3 h4; rw [h1]; exact ⟨_, S', Z', Fs2, rfl, a, b, d⟩
  | ct s' => obtain ⟨ρ', S', Z', Fs', h1, h2, h3, h4⟩ := h; obtain ⟨Fs2, a, b, d⟩ := key h2 h3 h4; rw [h1]; exact ⟨_, S', Z', Fs2, rfl, a, b, d⟩
  | rt t s' => obtain ⟨v, ρ', pv', S', Z', Fs', F', h1, h2⟩ := h; rw [h1]; exact ⟨v, ρ', pv', S', Z', Fs', F', rfl, h2⟩
  | ex c d s' => obtain ⟨ρ', pv', S', Z', Fs', h0, h1, h2⟩ := h; rw [h1]; exact ⟨ρ', pv', S', Z', Fs', h0, rfl, h2⟩
  | bad => exact trivial
mutual
theorem tx_ok {C : Mi.Ctx} {c : Cf} (hc : CtxOK C c.C) : ∀ (a : Stm) {S : Store} {Z : Ad} {s : St} {ρ : Env} {pv : List Val} {Fs : Nat → Ad}, OK S Z s ρ pv Fs → StG S Z Fs ρ pv c.P (ex C a ρ S) (tx c a s)
  | .asg t e, S, Z, s, ρ, pv, Fs, k => by
    rw [tx_asg, ex_asg]
    exact StG.st .refl (tv_ok hc e k) fun {u v S1 Z1 s1 Fs1 F1} _ k1 t1 h1 o1 _ => tasg_ok t1 k1 h1 o1
  | .set a i e, S, Z, s, ρ, pv, Fs, k => by
    rw [tx_set, ex_set]
    refine StG.st .refl (tv_ok hc e k) fun {u v S1 Z1 s1 Fs1 F1} r1 k1 t1 h1 o1 p1 => ?_
    refine StG.st t1 (tv_ok hc a k1) fun {w wv S2 Z2 s2 Fs2 F2} r2 k2 t2 h2 o2 p2 => ?_
    refine StG.st (t1.trans t2) (tv_ok hc i k2) fun {x xv S3 Z3 s3 Fs3 F3} r3 k3 t3 h3 o3 p3 => ?_
    cases e1 : keep c.C e u [a, i] s3 with
    | none => exact trivial
    | some u' =>
      cases e2 : keep c.C a w [i] s3 with
      | none => exact trivial
      | some w' =>
        cases l3 : look s3 x with
        | none => exact trivial
        | some kt =>
          simp only
          obtain ⟨F', h1', hF'⟩ := keep_ok h1 o1 k1 k3 (t2.trans t3) (var_val r1) (fun q => by
            unfold purs at q
            obtain ⟨q1, q2⟩ := bnd2 (p := true) q
            unfold purs at q2
            exact (p2 q1).trans (p3 (bnd2 (p := true) q2).1)) e1
          obtain ⟨F'', h2', hF''⟩ := keep_ok h2 o2 k2 k3 t3 (var_val r2) (fun q => p3 (by unfold purs at q; exact (bnd2 (p := true) q).1)) e2
          obtain ⟨G, g3, _⟩ := h3.look k3 l3
          have o1' := (o1.mono hF').tr (t2.trans t3)
          cases e3 : claim c u' s3 with
          | none => exact trivial
          | some q =>
            obtain ⟨y, s4⟩ := q
            simp only
            obtain ⟨Z4, Fs4, F4, a1, a2, a3, a4, a5, _⟩ := claim_ok k3 h1' o1' e3
            have T3 := t1.trans (t2.trans t3)
            have h2'' : V1 S3 Z4 ρ w' wv (fun x => F'' x) := by
              cases w' with
              | own t => exact Rp.tr h2' ((o2.mono hF'').tr t3) k3 a2
              | vw r p => exact h2'
            exact set_end' (T3.trans a2) a1 h2'' (g3.st (fun _ _ => rfl) a2.zz) a3 (a4.bmono fun x hx => hx.elim id (T3.fs x))
  | .aug i o e, S, Z, s, ρ, pv, Fs, k => by
    rw [tx_aug, ex_aug]
    cases e0 : tvar i s with
    | none => exact trivial
    | some u =>
      obtain ⟨v, h1, h2⟩ := tvar_ok k e0
      cases u with
      | vw r p => exact trivial
      | own t =>
        cases t with
        | int a =>
          cases h2
          rw [h1]
          simp only
          refine StG.st .refl (tv_ok hc e k) fun {w wv S1 Z1 s1 Fs1 F1} _ k1 t1 g1 o1 _ => ?_
          cases w with
          | vw r p => cases o <;> exact trivial
          | own t =>
            cases t with
            | int b =>
              cases g1
              cases o with
              | add =>
                simp only
                split
                · exact trivial
                · rename_i hi; exact num_end t1 k1 hi
              | sub =>
                simp only
                split
                · exact trivial
                · rename_i hi; exact num_end t1 k1 hi
              | _ => exact trivial
            | _ => cases o <;> exact trivial
        | _ => exact trivial
  | .augS a i o e, S, Z, s, ρ, pv, Fs, k => by
    rw [tx_augS]
    have exA : ex C (.augS a i o e) ρ S = (ev C a ρ S).st ρ fun u S => (ev C i ρ S).st ρ fun k S => match itemR S u k with
      | some (.int x) => (ev C e ρ S).st ρ fun v S => match o, v with
        | .add, .int b => match setop S u k (.int (x + b)) with
          | some S => .nx ρ S
          | none => .bad
        | .sub, .int b => match setop S u k (.int (x - b)) with
          | some S => .nx ρ S
          | none => .bad
        | _, _ => .bad
      | _ => .bad := by first | (rw [ex]; done) | (rw [ex]; rfl)
    rw [exA]
    refine StG.st .refl (tv_ok hc a k) fun {u v S1 Z1 s1 Fs1 F1} r1 k1 t1 h1 o1 p1 => ?_
    refine StG.st t1 (tv_ok hc i k1) fun {w wv S2 Z2 s2 Fs2 F2} r2 k2 t2 h2 o2 p2 => ?_
    cases e1 : keep c.C a u [i] s2 with
    | none => exact trivial
    | some u' =>
      obtain ⟨F', h1', hF'⟩ := keep_ok h1 o1 k1 k2 t2 (var_val r1) (fun q => p2 (by unfold purs at q; exact (bnd2 (p := true) q).1)) e1
      have o1' := (o1.mono hF').tr t2
      cases w with
      | vw r p => exact trivial
      | own kt =>
        simp only
        by_cases hr : isRef (look s2 u') = true
        · rw [if_neg (not_not_intro hr)]
          cases e2 : tsub s2 u' kt with
          | none => exact trivial
          | some d =>
            obtain ⟨x0, Fx, b1, b2, b3⟩ := tsub_ok k2 h1' h2 e2
            cases d with
            | vw r p => exact trivial
            | own t =>
              cases t with
              | int x =>
                cases b2
                have hR : itemR S2 v wv = some (.int x) := by
                  cases hl : look s2 u' with
                  | none => rw [hl] at hr; cases hr
                  | some t =>
                    rw [hl] at hr
                    obtain ⟨F0, g1, _⟩ := h1'.look k2 hl
                    cases t with
                    | lst _ _ => obtain ⟨i, us, G, rfl, _⟩ := g1; exact b1
                    | dK _ _ _ => obtain ⟨i, us, G, rfl, _⟩ := g1; exact b1
                    | dT _ _ _ => obtain ⟨i, us, G, rfl, _⟩ := g1; exact b1
                    | _ => cases hr
                rw [hR]
                simp only
                refine StG.st (t1.trans t2) (tv_ok hc e k2) fun {y yv S3 Z3 s3 Fs3 F3} r3 k3 t3 h3 o3 p3 => ?_
                cases e3 : keep c.C a u' [e] s3 with
                | none => exact trivial
                | some u3 =>
                  simp only
                  have hv : ∀ i, a = .var i → ρ[i]? = some (some v) := var_val r1
                  obtain ⟨F3', h3', _⟩ := keep_ok h1' o1' k2 k3 t3 hv (fun q => p3 (by unfold purs at q; exact (bnd2 (p := true) q).1)) e3
                  have hk : Rp S3 Z3 kt wv F2 := Rp.tr h2 o2 k2 t3
                  have T3 := t1.trans (t2.trans t3)
                  cases y with
                  | vw r p => cases o <;> exact trivial
                  | own t =>
                    cases t with
                    | int b =>
                      cases h3
                      cases o with
                      | add => exact set_end' T3 k3 h3' hk (A := fun _ => False) rfl .none
                      | sub => exact set_end' T3 k3 h3' hk (A := fun _ => False) rfl .none
                      | _ => exact trivial
                    | _ => cases o <;> exact trivial
              | _ => exact trivial
        · rw [if_pos hr]; exact trivial
  | .exp e, S, Z, s, ρ, pv, Fs, k => by
    rw [tx_exp, ex_exp]
    exact StG.st .refl (tv_ok hc e k) fun {u v S1 Z1 s1 Fs1 F1} _ k1 t1 h1 o1 _ => ⟨ρ, S1, Z1, Fs1, rfl, k1, t1, .refl⟩
  | .ret e, S, Z, s, ρ, pv, Fs, k => by
    rw [tx_ret, ex_ret]
    refine StG.st .refl (tv_ok (c := c.mv) hc e k) fun {u v S1 Z1 s1 Fs1 F1} _ k1 t1 h1 o1 _ => ?_
    cases e1 : claim c.mv u s1 with
    | none => exact trivial
    | some q =>
      obtain ⟨t, s2⟩ := q
      obtain ⟨Z2, Fs2, F2, a1, a2, a3, a4, a5, _⟩ := claim_ok k1 h1 o1 e1
      exact ⟨v, ρ, pv, S1, Z2, Fs2, F2, rfl, a1, t1.trans a2, .refl, a3, a4.bmono fun x hx => hx.elim id (t1.fs x)⟩
  | .retn, S, Z, s, ρ, pv, Fs, k => by
    rw [tx_retn, ex_retn]
    exact ⟨.non, ρ, pv, S, Z, Fs, fun _ => False, rfl, k, .refl, .refl, rfl, .none⟩
  | .pass, S, Z, s, ρ, pv, Fs, k => by
    rw [tx_pass, ex_pass]
    exact ⟨ρ, S, Z, Fs, rfl, k, .refl, .refl⟩
  | .brk, S, Z, s, ρ, pv, Fs, k => by
    rw [tx_brk, ex_brk]
    exact ⟨ρ, S, Z, Fs, rfl, k, .refl, .refl⟩
  | .cnt, S, Z, s, ρ, pv, Fs, k => by
    rw [tx_cnt, ex_cnt]
    exact ⟨ρ, S, Z, Fs, rfl, k, .refl, .refl⟩
  | .ifS d p q, S, Z, s, ρ, pv, Fs, k => by
    rw [tx_if, ex_if]
    refine StG.st .refl (tvT_ok hc [d] k) fun {b b' S1 Z1 s1 Fs1 F1} _ k1 t1 h1 _ _ => ?_
    subst h1
    cases b' with
    | true => exact (txs_ok hc p k1).base t1 .refl
    | false => exact (txs_ok hc q k1).base t1 .refl
  | .whl d p, S, Z, s, ρ, pv, Fs, k => by
    rw [tx_whl, ex_whl]
    obtain ⟨Fs1, w1, w2⟩ := wipeF_ok (wsOf c [] p) k
    exact (twl_ok (fun k' => tvT_ok hc [d] k') (fun k' => (txs_ok hc p k').wp (wsOf c [] p)) wmax w1).base w2 .refl
  | .for t kk its p, S, Z, s, ρ, pv, Fs, k => by
    rw [tx_for, ex_for]
    refine StG.st .refl (tvs_ok hc its k) fun {us vs S1 Z1 s1 Fs1 F1} _ k1 t1 h1 o1 _ => ?_
    cases e1 : tstart kk us s1 with
    | none => exact trivial
    | some q =>
      obtain ⟨ti, n, s2⟩ := q
      obtain ⟨Z2, l, iv, b1, b2, b3, b4, b5, _⟩ := tstart_ok k1 h1 o1 e1
      rw [b1]
      unfold forL tfL
      simp only
      rw [b2]
      obtain ⟨Fs2, w1, w2⟩ := wipeF_ok (wsOf c (Mi.slots t) p) b3
      have main : StG S1 Z2 Fs2 ρ (pv ++ l) c.P (floop iv.next (forB C t p) n 0 ρ S1) (tfl (tnext ti) (tfW c t p) n 0 (wipeS s2 (wsOf c (Mi.slots t) p))) := by
        refine tfl_ok (fun {S Z s ρ Fs it v} k' hi => ?_) n 0 w1 b5
        refine StG.wp (wsOf c (Mi.slots t) p) ?_
        unfold forB tfB
        cases e2 : tlayIt c.P t it s with
        | none => exact trivial
        | some s3 =>
          obtain ⟨ρ', Fs', c1, c2⟩ := tlayIt_ok k' hi e2
          rw [c1]
          exact (txs_ok hc p c2.ok).base ⟨Nat.le_refl _, fun _ _ _ => rfl, fun _ h => h, fun _ h => .inl h, fun x q => .inl ((c2.fs x q).elim id False.elim)⟩ ⟨c2.ln, c2.pr⟩
      refine StG.base (t1.transB b4 fun x hx => (o1 x hx).2.2.2) .refl ?_
      exact (main.unpin k1.bn (fun s' => tfl_ends n 0 _ s')).base w2 .refl
  | .raise cl, S, Z, s, ρ, pv, Fs, k => by
    rw [tx_raise]
    have : ex C (.raise cl) ρ S = .ex cl none ρ S := by first | (rw [ex]; done) | (rw [ex]; rfl)
    rw [this]
    exact ⟨ρ, pv, S, Z, Fs, rfl, rfl, k, .refl, .refl⟩
  | .tri p cl i kn q, S, Z, s, ρ, pv, Fs, k => by
    rw [tx_tri, ex_tri]
    have h := txs_ok hc p k
    cases e : txs c p s with
    | nx s' => rw [e] at h; obtain ⟨ρ', S', Z', Fs', h1, h2⟩ := h; rw [h1]; exact ⟨ρ', S', Z', Fs', rfl, h2⟩
    | bk s' => rw [e] at h; obtain ⟨ρ', S', Z', Fs', h1, h2⟩ := h; rw [h1]; exact ⟨ρ', S', Z', Fs', rfl, h2⟩
    | ct s' => rw [e] at h; obtain ⟨ρ', S', Z', Fs', h1, h2⟩ := h; rw [h1]; exact ⟨ρ', S', Z', Fs', rfl, h2⟩
    | rt t s' => rw [e] at h; obtain ⟨v, ρ', pv', S', Z', Fs', F', h1, h2⟩ := h; rw [h1]; exact ⟨v, ρ', pv', S', Z', Fs', F', rfl, h2⟩
    | bad => exact trivial
    | ex c' d s' =>
      rw [e] at h
      obtain ⟨ρ', pv', S', Z', Fs', h0, h1, h2, h3, h4⟩ := h
      subst h0
      rw [h1]
      unfold triO
      simp only
      by_cases hh : c' ∈ kn ∧ (i < s'.τ.length ∨ 1000 ≤ i) ∧ i ∉ c.P
      · rw [if_pos hh, if_pos ⟨hh.1, (by trivial), by rw [← h2.len]; exact hh.2.1⟩]
        by_cases hs : exSub c' cl = true
        · rw [if_pos hs, if_pos hs]
          have k1 := h2.setS (r := i) (o := none) (ρ' := ρ'.set i none) (G := fun _ => False) (by simp) (fun j hj => List.getElem?_set_ne fun q => hj q.symm) (fun t ht => by cases ht) (fun x hx => hx.elim)
          have k2 := k1.unp k.bn.symm
          have hc' : CtxOK (curC C c') (curT c.C c') := hc.cur c'
          have h5 := txs_ok (c := ⟨curT c.C c', c.P, c.M⟩) hc' q k2
          have T1 : Tr S Z Fs S' Z' (upF Fs' i fun _ => False) := h3.trans ⟨Nat.le_refl _, fun _ _ _ => rfl, fun _ h => h, fun _ h => .inl h, fun x h => (U_upF h).elim .inl False.elim⟩
          have P1 : Pr c.P ρ (ρ'.set i none) := ⟨by rw [List.length_set, h4.1], fun p hp => by rw [List.getElem?_set_ne fun q => hh.2.2 (by rw [q]; exact hp), h4.2 p hp]⟩
          exact (h5.gone hh.2.2).base T1 P1
        · rw [if_neg hs, if_neg hs]
          exact ⟨ρ', pv', S', Z', Fs', rfl, rfl, h2, h3, h4⟩
      · rw [if_neg hh]
        exact trivial
  | .nvr, S, Z, s, ρ, pv, Fs, k => by
    rw [tx_nvr]; exact trivial
theorem txs_ok {C : Mi.Ctx} {c : Cf} (hc : CtxOK C c.C) : ∀ (as : List Stm) {S : Store} {Z : Ad} {s : St} {ρ : Env} {pv : List Val} {Fs : Nat → Ad}, OK S Z s ρ pv Fs → StG S Z Fs ρ pv c.P (exs C as ρ S) (txs c as s)
  | [], S, Z, s, ρ, pv, Fs, k => by
    rw [txs_nil, exs_nil]
    exact ⟨ρ, S, Z, Fs, rfl, k, .refl, .refl⟩
  | a :: as, S, Z, s, ρ, pv, Fs, k => by
    rw [txs_cons, exs_cons]
    exact (tx_ok hc a k).then fun k' => txs_ok hc as k'
end
end
end Tv
namespace Tv
open Mi
open PySem hiding Env Ctx
theorem outs_get : ∀ {io : List Nat} {s : St} {outs : List T}, outsOf io s = some outs → ∀ (i j : Nat) (t : T), io[i]? = some j → outs[i]? = some t → s.at j = some t
  | [], s, outs, e, i, j, t, h1, h2 => by cases h1
  | a :: io, s, outs, e, i, j, t, h1, h2 => by
    unfold outsOf at e
    rw [List.map_cons] at e
    cases e1 : s.at a with
    | none => rw [e1] at e; cases e
    | some x =>
      rw [e1] at e
      unfold allSome at e
      cases e2 : allSome (io.map s.at) with
      | none => rw [e2] at e; cases e
      | some xs =>
        rw [e2] at e
        cases e
        cases i with
        | zero => cases h1; cases h2; exact e1
        | succ i => exact outs_get (io := io) (s := s) e2 i j t h1 h2
theorem run_ok {C : Mi.Ctx} {Ct : Nat → Option Fn} {n m : Nat} {io tk : List Nat} {M : Nat → Bool} {body : List Stm} (hc : CtxOK C Ct) : FnOK (Mi.run C n body) ⟨m, io, tk, trun Ct n io M body⟩ := by
  intro S Z vs ts Fa hv ht ha hd hz zl
  have hv : vs.length = m := hv
  have ht : ts.length = m := ht
  have k : OK S Z ⟨ts.map some ++ List.replicate (n - ts.length) none, [], []⟩ (vs.map some ++ List.replicate (n - vs.length) none) [] Fa := by
    refine ⟨by simp [hv, ht], fun i t hi => ?_, hd, hz, zl, fun x r p h => (by cases h), rfl, fun j r p h => (by cases h)⟩
    unfold St.at at hi
    simp only at hi
    by_cases hl : i < ts.length
    · rw [List.getElem?_append_left (by rw [List.length_map]; exact hl), List.getElem?_map, List.getElem?_eq_getElem hl] at hi
      simp only [Option.map_some] at hi
      cases hi
      obtain ⟨v, h1, h2⟩ := ha i _ (List.getElem?_eq_getElem hl)
      exact ⟨v, by rw [List.getElem?_append_left (by rw [List.length_map]; omega), List.getElem?_map, h1]; rfl, h2⟩
    · rw [List.getElem?_append_right (by rw [List.length_map]; omega), List.getElem?_replicate] at hi
      by_cases q : i - (List.map some ts).length < n - ts.length
      · rw [if_pos q] at hi; cases hi
      · rw [if_neg q] at hi; cases hi
  have rho : ∀ (j : Nat) (u : Val), (vs.map some ++ List.replicate (n - vs.length) none)[j]? = some (some u) → vs[j]? = some u := by
    intro j u h
    by_cases hl : j < vs.length
    · rw [List.getElem?_append_left (by rw [List.length_map]; exact hl), List.getElem?_map, List.getElem?_eq_getElem hl] at h
      rw [List.getElem?_eq_getElem hl]
      simp only [Option.map_some] at h
      cases h
      rfl
    · rw [List.getElem?_append_right (by rw [List.length_map]; omega), List.getElem?_replicate] at h
      split at h <;> cases h
  have key := txs_ok (c := ⟨Ct, io, M⟩) hc body k
  show match (txs ⟨Ct, io, M⟩ body ⟨ts.map some ++ List.replicate (n - ts.length) none, [], []⟩).fin io with
    | .ok t outs => _
    | .ex c d outs => _
    | .bad => True
  have outs_ok : ∀ {S' : Store} {Z' : Ad} {s' : St} {ρ' : Env} {pv' : List Val} {Fs' : Nat → Ad} {outs : List T}, OK S' Z' s' ρ' pv' Fs' → Pr io (vs.map some ++ List.replicate (n - vs.length) none) ρ' → outsOf io s' = some outs → ∀ (i j : Nat) (t' : T), io[i]? = some j → outs[i]? = some t' → ∃ u, vs[j]? = some u ∧ Rp S' Z' t' u (Fs' j) := by
    intro S' Z' s' ρ' pv' Fs' outs k' pr ho i j t' h1 h2
    obtain ⟨v, g1, g2⟩ := k'.rep j t' (outs_get ho i j t' h1 h2)
    exact ⟨v, rho j v (by rw [← pr.2 j (List.mem_of_getElem? h1)]; exact g1), g2⟩
  cases e : txs ⟨Ct, io, M⟩ body ⟨ts.map some ++ List.replicate (n - ts.length) none, [], []⟩ with
  | bad => exact trivial
  | bk s' => exact trivial
  | ct s' => exact trivial
  | nx s' =>
    rw [e] at key
    obtain ⟨ρ', S', Z', Fs', h1, h2, h3, h4⟩ := key
    unfold TO.fin
    simp only
    cases ho : outsOf io s' with
    | none => exact trivial
    | some outs =>
      refine ⟨.non, S', Z', fun _ => False, Fs', ?_, rfl, outs_ok h2 h4 ho, h2.dj, h2.nz, fun _ h => h.elim, h2.zl, h3⟩
      unfold Mi.run
      rw [h1]
  | rt t s' =>
    rw [e] at key
    obtain ⟨v, ρ', pv', S', Z', Fs', F', h1, h2, h3, h4, h5, h6⟩ := key
    unfold TO.fin
    simp only
    cases ho : outsOf io s' with
    | none => exact trivial
    | some outs =>
      refine ⟨v, S', Z', F', Fs', ?_, h5, outs_ok h2 h4 ho, h2.dj, h2.nz, fun x hx => h6 x hx, h2.zl, h3⟩
      unfold Mi.run
      rw [h1]
  | ex c d s' =>
    rw [e] at key
    obtain ⟨ρ', pv', S', Z', Fs', h0, h1, h2, h3, h4⟩ := key
    unfold TO.fin
    simp only
    cases ho : outsOf io s' with
    | none => exact trivial
    | some outs =>
      refine ⟨S', Z', Fs', h0, ?_, outs_ok h2 h4 ho, h2.dj, h2.nz, h2.zl, h3⟩
      unfold Mi.run
      rw [h1]
/-! ### a law's defs -/
/-- what a def calls, by trees: number and def -/
abbrev TCal := List (Nat × Fn)
def tctx (L : TCal) : Nat → Option Fn := fun f => (L.find? fun e => e.1 == f).map (·.2)
theorem ctx_nil {C : Mi.Ctx} : CtxOK C (tctx []) := fun f F e => by cases e
theorem ctx_cons {C : Mi.Ctx} {L : TCal} {f : Nat} {F : Fn} {g : Sem} (hC : C f = some (F.n, g)) (hF : FnOK g F) (h : CtxOK C (tctx L)) : CtxOK C (tctx ((f, F) :: L)) := by
  intro f' F' e
  unfold tctx at e
  rw [List.find?_cons] at e
  by_cases hf : (f == f') = true
  · simp only [hf] at e
    cases e
    have : f = f' := by simpa using hf
    subst this
    exact ⟨g, hC, hF⟩
  · simp only [hf] at e
    exact h f' F' e
theorem rps_ints {S : Store} {Z : Ad} : ∀ ns : List Int, Rps S Z (ns.map T.int) (ns.map Val.int) (fun _ => False)
  | [] => rfl
  | n :: r => ⟨_, _, fun _ => False, fun _ => False, rfl, rfl, rps_ints r, fun _ h => h.elim, fun _ h => h⟩
/-- the law told by trees -/
theorem law_by {g : Sem} {io tk : List Nat} {G : TSem} {ns : List Int} (h : FnOK g ⟨1, io, tk, G⟩) (e : ∃ outs, G [.fro (ns.map .int)] = .ok (.bl true) outs) : ∃ S, g [scr ns] [] = .ok (.bl true) S := by
  obtain ⟨outs, e⟩ := e
  have key := h [] (fun _ => False) [scr ns] [.fro (ns.map .int)] (fun _ _ => False) rfl rfl (fun j t hj => by
    cases j with
    | zero => cases hj; exact ⟨_, rfl, ns.map .int, rfl, rps_ints ns⟩
    | succ j => cases hj) (fun _ _ _ h => h.elim) (fun _ _ h => h.elim) (fun _ h => h.elim)
  simp only [e] at key
  obtain ⟨v, S', Z', Fr, Fo, h1, h2, _⟩ := key
  cases h2
  exact ⟨S', h1⟩
end Tv
namespace Tv
open Mi
open PySem hiding Env Ctx
/-! ### what simp knows of trees -/
section
variable (o : Bool) (xs : List T) (i : Int) (n : Nat) (x : Str) (b : Bool) (t u : T) (s : St)
@[simp] theorem fz_lst : fz (.lst o xs) = .lst false (fzs xs) := Eq.trans rfl rfl
@[simp] theorem fz_tup : fz (.tup xs) = .tup (fzs xs) := Eq.trans rfl rfl
@[simp] theorem fz_fro : fz (.fro xs) = .fro (fzs xs) := Eq.trans rfl rfl
@[simp] theorem fz_int : fz (.int i) = .int i := Eq.trans rfl rfl
@[simp] theorem fz_str : fz (.str x) = .str x := Eq.trans rfl rfl
@[simp] theorem fz_bl : fz (.bl b) = .bl b := Eq.trans rfl rfl
@[simp] theorem fz_non : fz .non = .non := Eq.trans rfl rfl
@[simp] theorem fz_dK (ks : List DKey) : fz (.dK o ks xs) = .dK false ks (fzs xs) := Eq.trans rfl rfl
@[simp] theorem fz_dT (ks : List (List DKey)) : fz (.dT o ks xs) = .dT false ks (fzs xs) := Eq.trans rfl rfl
@[simp] theorem fzs_nil : fzs [] = [] := Eq.trans rfl rfl
@[simp] theorem fzs_cons : fzs (t :: xs) = fz t :: fzs xs := Eq.trans rfl rfl
@[simp] theorem af_lst : af (.lst o xs) = (!o && afs xs) := Eq.trans rfl rfl
@[simp] theorem af_tup : af (.tup xs) = afs xs := Eq.trans rfl rfl
@[simp] theorem af_fro : af (.fro xs) = afs xs := Eq.trans rfl rfl
@[simp] theorem af_int : af (.int i) = true := Eq.trans rfl rfl
@[simp] theorem af_str : af (.str x) = true := Eq.trans rfl rfl
@[simp] theorem af_bl : af (.bl b) = true := Eq.trans rfl rfl
@[simp] theorem af_non : af .non = true := Eq.trans rfl rfl
@[simp] theorem af_dK (ks : List DKey) : af (.dK o ks xs) = (!o && afs xs) := Eq.trans rfl rfl
@[simp] theorem af_dT (ks : List (List DKey)) : af (.dT o ks xs) = (!o && afs xs) := Eq.trans rfl rfl
@[simp] theorem afs_nil : afs [] = true := Eq.trans rfl rfl
@[simp] theorem afs_cons : afs (t :: xs) = (af t && afs xs) := Eq.trans rfl rfl
@[simp] theorem nf_lst : nf (.lst o xs) = (o && nfs xs) := Eq.trans rfl rfl
@[simp] theorem nf_tup : nf (.tup xs) = nfs xs := Eq.trans rfl rfl
@[simp] theorem nf_fro : nf (.fro xs) = false := Eq.trans rfl rfl
@[simp] theorem nf_int : nf (.int i) = true := Eq.trans rfl rfl
@[simp] theorem nf_str : nf (.str x) = true := Eq.trans rfl rfl
@[simp] theorem nf_bl : nf (.bl b) = true := Eq.trans rfl rfl
@[simp] theorem nf_non : nf .non = true := Eq.trans rfl rfl
@[simp] theorem nf_dK (ks : List DKey) : nf (.dK o ks xs) = (o && nfs xs) := Eq.trans rfl rfl
@[simp] theorem nf_dT (ks : List (List DKey)) : nf (.dT o ks xs) = (o && nfs xs) := Eq.trans rfl rfl
@[simp] theorem nfs_nil : nfs [] = true := Eq.trans rfl rfl
@[simp] theorem nfs_cons : nfs (t :: xs) = (nf t && nfs xs) := Eq.trans rfl rfl
end
/-- things that are their own frozen selves: numbers, tuples of numbers .. -/
class Lf {α : Type} (f : α → T) : Prop where
  fz : ∀ a, fz (f a) = f a
  af : ∀ a, af (f a) = true
  nf : ∀ a, nf (f a) = true
theorem Lf.fzs {α : Type} (f : α → T) [Lf f] : ∀ xs : List α, Tv.fzs (xs.map f) = xs.map f
  | [] => rfl
  | a :: r => by rw [List.map_cons, fzs_cons, Lf.fz, Lf.fzs f r]
theorem Lf.afs {α : Type} (f : α → T) [Lf f] : ∀ xs : List α, Tv.afs (xs.map f) = true
  | [] => rfl
  | a :: r => by rw [List.map_cons, afs_cons, Lf.af, Lf.afs f r]; rfl
theorem Lf.nfs {α : Type} (f : α → T) [Lf f] : ∀ xs : List α, Tv.nfs (xs.map f) = true
  | [] => rfl
  | a :: r => by rw [List.map_cons, nfs_cons, Lf.nf, Lf.nfs f r]; rfl
instance : Lf T.int := ⟨fun _ => rfl, fun _ => rfl, fun _ => rfl⟩
instance : Lf T.bl := ⟨fun _ => rfl, fun _ => rfl, fun _ => rfl⟩
instance : Lf T.str := ⟨fun _ => rfl, fun _ => rfl, fun _ => rfl⟩
/-- a list of whole numbers; rows of them -/
def ti (o : Bool) (xs : List Int) : T := .lst o (xs.map .int)
def tl (o : Bool) (L : List (List Int)) : T := .lst o (L.map (ti o))
/-- a pair of whole numbers; a list of such -/
def tp (p : Int × Int) : T := .tup [.int p.1, .int p.2]
instance : Lf tp := ⟨fun _ => rfl, fun _ => rfl, fun _ => rfl⟩
def tps (o : Bool) (xs : List (Int × Int)) : T := .lst o (xs.map tp)
section
variable (o : Bool) (xs : List Int) (L : List (List Int)) (ps : List (Int × Int)) (k : Nat) (i : Int)
@[simp] theorem fzs_int : fzs (xs.map T.int) = xs.map T.int := Lf.fzs ..
@[simp] theorem afs_int : afs (xs.map T.int) = true := Lf.afs ..
@[simp] theorem nfs_int : nfs (xs.map T.int) = true := Lf.nfs ..
@[simp] theorem fzs_tp : fzs (ps.map tp) = ps.map tp := Lf.fzs ..
@[simp] theorem afs_tp : afs (ps.map tp) = true := Lf.afs ..
@[simp] theorem nfs_tp : nfs (ps.map tp) = true := Lf.nfs ..
@[simp] theorem fz_ti : fz (ti o xs) = ti false xs := by unfold ti; rw [fz_lst, fzs_int]
@[simp] theorem af_ti : af (ti o xs) = !o := by unfold ti; rw [af_lst, afs_int, Bool.and_true]
@[simp] theorem nf_ti : nf (ti o xs) = o := by unfold ti; rw [nf_lst, nfs_int, Bool.and_true]
@[simp] theorem fzs_ti : fzs (L.map (ti o)) = L.map (ti false) := by rw [fzs_map, List.map_map]; congr 1; funext x; exact fz_ti o x
@[simp] theorem afs_ti : afs (L.map (ti false)) = true := by
  induction L with
  | nil => rfl
  | cons a r ih => rw [List.map_cons, afs_cons, af_ti, ih]; rfl
@[simp] theorem nfs_ti : nfs (L.map (ti true)) = true := by
  induction L with
  | nil => rfl
  | cons a r ih => rw [List.map_cons, nfs_cons, nf_ti, ih]; rfl
@[simp] theorem fz_tl : fz (tl o L) = tl false L := by unfold tl; rw [fz_lst, fzs_ti]
@[simp] theorem af_tl : af (tl false L) = true := by unfold tl; rw [af_lst, afs_ti]; rfl
@[simp] theorem nf_tl : nf (tl true L) = true := by unfold tl; rw [nf_lst, nfs_ti]; rfl
@[simp] theorem fz_tps : fz (tps o ps) = tps false ps := by unfold tps; rw [fz_lst, fzs_tp]
@[simp] theorem af_tps : af (tps o ps) = !o := by unfold tps; rw [af_lst, afs_tp, Bool.and_true]
@[simp] theorem nf_tps : nf (tps o ps) = o := by unfold tps; rw [nf_lst, nfs_tp, Bool.and_true]
end
/-! ### states -/
section
variable (τ : List (Option T)) (α : List (Nat × Nat × List Nat)) (β : List (Option (Nat × List Nat))) (r i n : Nat) (o : Option T) (t u : T) (s : St) (p : List Nat)
@[simp] theorem at_mk : (⟨τ, α, β⟩ : St).at i = (τ[i]?).join := by
  unfold St.at
  simp only
  cases τ[i]? with
  | none => rfl
  | some q => cases q <;> rfl
@[simp] theorem setS_mk : (⟨τ, α, β⟩ : St).setS r o = ⟨τ.set r o, killA0 r α, killB0 r β⟩ := Eq.trans rfl rfl
@[simp] theorem reS_mk : (⟨τ, α, β⟩ : St).reS r t = ⟨τ.set r (some t), α, β⟩ := Eq.trans rfl rfl
@[simp] theorem killA0_nil : killA0 r [] = [] := Eq.trans rfl rfl
@[simp] theorem killB0_nil : killB0 r [] = [] := Eq.trans rfl rfl
@[simp] theorem killA_nil : killA r n [] = [] := Eq.trans rfl rfl
@[simp] theorem killB_nil : killB r n [] = [] := Eq.trans rfl rfl
@[simp] theorem killB0_none : killB0 r (none :: β) = none :: killB0 r β := Eq.trans rfl rfl
@[simp] theorem killB0_some (r' : Nat) : killB0 r (some (r', p) :: β) = (if r' = r then none else some (r', p)) :: killB0 r β := Eq.trans rfl rfl
@[simp] theorem killB_none : killB r n (none :: β) = none :: killB r n β := Eq.trans rfl rfl
@[simp] theorem killB_some (r' : Nat) : killB r n (some (r', p) :: β) = (if r' = r ∧ n < p.length then none else some (r', p)) :: killB r n β := Eq.trans rfl rfl
@[simp] theorem killA0_cons (e : Nat × Nat × List Nat) : killA0 r (e :: α) = if !(decide (e.2.1 = r) || decide (e.1 = r)) then e :: killA0 r α else killA0 r α := by
  unfold killA0
  rw [List.filter_cons]
@[simp] theorem killA_cons (e : Nat × Nat × List Nat) : killA r n (e :: α) = if !(decide (e.2.1 = r) && decide (n < e.2.2.length)) then e :: killA r n α else killA r n α := by
  unfold killA
  rw [List.filter_cons]
@[simp] theorem look_own : look s (.own t) = some t := Eq.trans rfl rfl
@[simp] theorem look_vw' : look s (.vw r p) = (s.at r).bind fun t => tAt t p := by
  rw [look_vw]
  cases s.at r <;> rfl
@[simp] theorem tAt_nil : tAt t [] = some t := by unfold tAt; rfl
@[simp] theorem tAt_cons (k : Nat) : tAt t (k :: p) = ((tkids t)[k]?).bind fun c => tAt c p := by
  conv => lhs; unfold tAt
  cases (tkids t)[k]? <;> rfl
@[simp] theorem tPut_nil : tPut t [] u = some u := by unfold tPut; rfl
@[simp] theorem tPut_cons (k : Nat) : tPut t (k :: p) u = ((tkids t)[k]?).bind fun d => (tPut d p u).bind fun d' => tkidsSet t k d' := by
  conv => lhs; unfold tPut
  cases (tkids t)[k]? with
  | none => rfl
  | some d => simp only [Option.bind_some]; cases tPut d p u <;> rfl
@[simp] theorem frz_eq : s.frz r = match s.at r with | some t => s.reS r (fz t) | none => s := Eq.trans rfl rfl
@[simp] theorem put_eq (c : T) (deep : Bool) : s.put r p c deep = (s.at r).bind fun t => (tPut t p c).map fun t' => if deep then ⟨s.τ.set r (some t'), killA r p.length s.α, killB r p.length s.β⟩ else s.reS r t' := by
  unfold St.put
  cases s.at r with
  | none => rfl
  | some t => simp only [Option.bind_some]; cases tPut t p c <;> rfl
@[simp] theorem tvar_nil : tvar i ⟨τ, [], β⟩ = ((⟨τ, [], β⟩ : St).at i).map fun t => seen t i [] := by
  unfold tvar
  simp only [List.lookup_nil]
  cases (⟨τ, [], β⟩ : St).at i <;> rfl
@[simp] theorem tvar_cons (x r' : Nat) : tvar i ⟨τ, (x, r', p) :: α, β⟩ = if i = x then (look ⟨τ, (x, r', p) :: α, β⟩ (.vw r' p)).map fun t => seen t r' p else match α.lookup i with
    | some (r1, p1) => (look ⟨τ, (x, r', p) :: α, β⟩ (.vw r1 p1)).map fun t => seen t r1 p1
    | none => ((⟨τ, (x, r', p) :: α, β⟩ : St).at i).map fun t => seen t i [] := by
  conv => lhs; unfold tvar
  simp only [List.lookup_cons]
  by_cases h : i = x
  · subst h
    simp only [beq_self_eq_true, if_true]; cases look ⟨τ, (i, r', p) :: α, β⟩ (.vw r' p) <;> rfl
  · have : (i == x) = false := by simpa using h
    simp only [this, if_neg h]
    cases α.lookup i with
    | none => cases (⟨τ, (x, r', p) :: α, β⟩ : St).at i <;> rfl
    | some q =>
      simp only
      generalize look ⟨τ, (x, r', p) :: α, β⟩ (.vw q.1 q.2) = g
      cases g <;> rfl
@[simp] theorem seen_eq : seen t r p = if af t then .own t else .vw r p := Eq.trans rfl rfl
@[simp] theorem keep_own (C : Nat → Option Fn) (e : E) (es : List E) : keep C e (.own t) es s = some (.own t) := Eq.trans rfl rfl
@[simp] theorem keep_var (C : Nat → Option Fn) (es : List E) : keep C (.var i) (.vw r p) es s = tvar i s := Eq.trans rfl rfl
theorem keep_pur (C : Nat → Option Fn) {e : E} {es : List E} (he : ∀ i, e ≠ .var i) (h : purs C es = true) : keep C e (.vw r p) es s = (look s (.vw r p)).map fun t => seen t r p := by
  unfold keep
  cases e <;> first | (exact absurd rfl (he _)) | (simp only [h, if_true]; cases look s (.vw r p) <;> rfl)
@[simp] theorem claim_own (c : Cf) : claim c (.own t) s = some (t, s) := Eq.trans rfl rfl
@[simp] theorem claim_vw (c : Cf) : claim c (.vw r p) s = (s.at r).bind fun t => if p = [] ∧ c.M r = true ∧ r ∉ c.P then some (t, s.setS r none) else (tAt (fz t) p).map fun d => (d, s.reS r (fz t)) := by
  show (match s.at r with
    | some t => if p = [] ∧ c.M r = true ∧ r ∉ c.P then some (t, s.setS r none) else match tAt (fz t) p with
      | some d => some (d, s.reS r (fz t))
      | none => none
    | none => none) = _
  cases s.at r with
  | none => rfl
  | some t =>
    simp only [Option.bind_some]
    by_cases h : p = [] ∧ c.M r = true ∧ r ∉ c.P
    · rw [if_pos h, if_pos h]
    · rw [if_neg h, if_neg h]; cases tAt (fz t) p <;> rfl
@[simp] theorem claims_nil (c : Cf) : claims c [] s = some ([], s) := Eq.trans rfl rfl
@[simp] theorem claims_cons (c : Cf) (v : V2) (vs : List V2) : claims c (v :: vs) s = (claim c v s).bind fun q => (claims c vs q.2).map fun w => (q.1 :: w.1, w.2) := by
  conv => lhs; unfold claims
  cases claim c v s with
  | none => rfl
  | some q => obtain ⟨t, s⟩ := q; simp only [Option.bind_some]; cases claims c vs s <;> rfl
@[simp] theorem absorb_eq (c : Cf) (v : V2) : absorb c v s = (look s v).bind fun t => if afs (tkids t) then some (t, s) else claim c v s := by
  unfold absorb
  cases look s v <;> rfl
@[simp] theorem tctx_nil (f : Nat) : tctx [] f = none := Eq.trans rfl rfl
@[simp] theorem tctx_cons (L : TCal) (f g : Nat) (F : Fn) : tctx ((g, F) :: L) f = if g = f then some F else tctx L f := by
  unfold tctx
  rw [List.find?_cons]
  by_cases h : g = f
  · subst h; simp
  · have : (g == f) = false := by simpa using h
    simp only [this, if_neg h]
end
/-! ### ends -/
section
variable (io : List Nat) (s : St) (t d : T) (cl : Nat)
@[simp] theorem fin_nx : (TO.nx s).fin io = match outsOf io s with | some ts => .ok .non ts | none => .bad := Eq.trans rfl rfl
@[simp] theorem fin_rt : (TO.rt t s).fin io = match outsOf io s with | some ts => .ok t ts | none => .bad := Eq.trans rfl rfl
@[simp] theorem fin_ex (o : Option T) : (TO.ex cl o s).fin io = match outsOf io s with | some ts => .ex cl o ts | none => .bad := Eq.trans rfl rfl
@[simp] theorem outsOf_nil : outsOf [] s = some [] := Eq.trans rfl rfl
@[simp] theorem outsOf_cons (j : Nat) (js : List Nat) : outsOf (j :: js) s = (s.at j).bind fun t => (outsOf js s).map (t :: ·) := by
  unfold outsOf
  rw [List.map_cons]
  cases s.at j <;> rfl
@[simp] theorem allSome_nil {α : Type} : allSome ([] : List (Option α)) = some [] := Eq.trans rfl rfl
@[simp] theorem allSome_some {α : Type} (a : α) (l : List (Option α)) : allSome (some a :: l) = (allSome l).map (a :: ·) := Eq.trans rfl rfl
@[simp] theorem allSome_none {α : Type} (l : List (Option α)) : allSome (none :: l) = none := Eq.trans rfl rfl
@[simp] theorem st_ite {α : Type} (c : Prop) [Decidable c] (a b : TR α) (k : α → St → TO) : (if c then a else b).st k = if c then a.st k else b.st k := by
  by_cases h : c
  · rw [if_pos h, if_pos h]
  · rw [if_neg h, if_neg h]
@[simp] theorem bind_ite {α β : Type} (c : Prop) [Decidable c] (a b : TR α) (k : α → St → TR β) : (if c then a else b).bind k = if c then a.bind k else b.bind k := by
  by_cases h : c
  · rw [if_pos h, if_pos h]
  · rw [if_neg h, if_neg h]
@[simp] theorem then_ite (c : Prop) [Decidable c] (a b : TO) (k : St → TO) : (if c then a else b).then k = if c then a.then k else b.then k := by
  by_cases h : c
  · rw [if_pos h, if_pos h]
  · rw [if_neg h, if_neg h]
@[simp] theorem fin_ite (c : Prop) [Decidable c] (a b : TO) : (if c then a else b).fin io = if c then a.fin io else b.fin io := by
  by_cases h : c
  · rw [if_pos h, if_pos h]
  · rw [if_neg h, if_neg h]
end
/-! ### values -/
section
variable (o : Bool) (xs ys : List T) (i j : Int) (n : Nat) (x y : Str) (b e : Bool) (t u : T) (s : St) (ks : List DKey) (kts : List (List DKey)) (ns ms : List Int)
@[simp] theorem tOf_non : tOf .non = some .non := Eq.trans rfl rfl
@[simp] theorem tOf_bl : tOf (.bl b) = some (.bl b) := Eq.trans rfl rfl
@[simp] theorem tOf_int : tOf (.int i) = some (.int i) := Eq.trans rfl rfl
@[simp] theorem tOf_str : tOf (.str x) = some (.str x) := Eq.trans rfl rfl
@[simp] theorem tkids_lst : tkids (.lst o xs) = xs := Eq.trans rfl rfl
@[simp] theorem tkids_tup : tkids (.tup xs) = xs := Eq.trans rfl rfl
@[simp] theorem tkids_fro : tkids (.fro xs) = xs := Eq.trans rfl rfl
@[simp] theorem tkids_dK : tkids (.dK o ks xs) = xs := Eq.trans rfl rfl
@[simp] theorem tkids_dT : tkids (.dT o kts xs) = xs := Eq.trans rfl rfl
@[simp] theorem tkids_int : tkids (.int i) = [] := Eq.trans rfl rfl
@[simp] theorem tkids_bl : tkids (.bl b) = [] := Eq.trans rfl rfl
@[simp] theorem tkids_str : tkids (.str x) = [] := Eq.trans rfl rfl
@[simp] theorem tkids_non : tkids .non = [] := Eq.trans rfl rfl
@[simp] theorem tkids_ti : tkids (ti o ns) = ns.map T.int := Eq.trans rfl rfl
@[simp] theorem tlst_lst : tlst (.lst o xs) = some xs := Eq.trans rfl rfl
@[simp] theorem tlst_fro : tlst (.fro xs) = some xs := Eq.trans rfl rfl
@[simp] theorem tlst_tup : tlst (.tup xs) = none := Eq.trans rfl rfl
@[simp] theorem tlst_int : tlst (.int i) = none := Eq.trans rfl rfl
@[simp] theorem tlst_str : tlst (.str x) = none := Eq.trans rfl rfl
@[simp] theorem tlst_ti : tlst (ti o ns) = some (ns.map T.int) := Eq.trans rfl rfl
@[simp] theorem tseq_lst : tseq (.lst o xs) = some xs := Eq.trans rfl rfl
@[simp] theorem tseq_fro : tseq (.fro xs) = some xs := Eq.trans rfl rfl
@[simp] theorem tseq_tup : tseq (.tup xs) = some xs := Eq.trans rfl rfl
@[simp] theorem tseq_ti : tseq (ti o ns) = some (ns.map T.int) := Eq.trans rfl rfl
@[simp] theorem tseq_dK : tseq (.dK o ks xs) = none := Eq.trans rfl rfl
@[simp] theorem tseq_dT : tseq (.dT o kts xs) = none := Eq.trans rfl rfl
@[simp] theorem tb_add : tbin .add (.int i) (.int j) = some (.int (i + j)) := Eq.trans rfl rfl
@[simp] theorem tb_sub : tbin .sub (.int i) (.int j) = some (.int (i - j)) := Eq.trans rfl rfl
@[simp] theorem tb_mul : tbin .mul (.int i) (.int j) = if mulOk i j then some (.int (i * j)) else none := Eq.trans rfl rfl
@[simp] theorem tb_fdiv : tbin .fdiv (.int i) (.int j) = if 0 < j ∧ j.natAbs.log2 < 9000 then some (.int (i / j)) else none := Eq.trans rfl rfl
@[simp] theorem tb_mod : tbin .mod (.int i) (.int j) = if 0 < j then some (.int (i % j)) else none := Eq.trans rfl rfl
@[simp] theorem tb_pow : tbin .pow (.int i) (.int j) = if 0 ≤ j ∧ j ≤ 1000000 ∧ i.natAbs < 2 ^ 64 then some (.int (i ^ j.toNat)) else none := Eq.trans rfl rfl
@[simp] theorem tb_cat (o' : Bool) : tbin .add (.lst o xs) (.lst o' ys) = tnew (xs ++ ys) := Eq.trans rfl rfl
@[simp] theorem tb_rep : tbin .mul (.lst o xs) (.int i) = if sg63 i = true ∧ xs.length * i.toNat ≤ sizeLine ∧ afs xs = true then tnew (List.replicate i.toNat xs).flatten else none := Eq.trans rfl rfl
@[simp] theorem tb_cat_ti (o' : Bool) : tbin .add (ti o ns) (ti o' ms) = tnew ((ns ++ ms).map T.int) := by rw [List.map_append]; exact Eq.trans rfl rfl
theorem tnew_ok (h : xs.length ≤ sizeLine) : tnew xs = some (.lst true xs) := if_pos h
@[simp] theorem tc_lt : tcmp .lt (.int i) (.int j) = some (decide (i < j)) := Eq.trans rfl rfl
@[simp] theorem tc_le : tcmp .le (.int i) (.int j) = some (decide (i ≤ j)) := Eq.trans rfl rfl
@[simp] theorem tc_gt : tcmp .gt (.int i) (.int j) = some (decide (j < i)) := Eq.trans rfl rfl
@[simp] theorem tc_ge : tcmp .ge (.int i) (.int j) = some (decide (j ≤ i)) := Eq.trans rfl rfl
@[simp] theorem tc_eq : tcmp .eq t u = teq t u := Eq.trans rfl rfl
@[simp] theorem tc_ne : tcmp .ne t u = (teq t u).map (!·) := Eq.trans rfl rfl
@[simp] theorem tc_isn : tcmp .isn t .non = some (tisNon t) := by cases t <;> rfl
@[simp] theorem tc_notn : tcmp .notn t .non = some (!tisNon t) := by cases t <;> rfl
@[simp] theorem tc_in : tcmp .isin t u = tin t u := Eq.trans rfl rfl
@[simp] theorem tc_notin : tcmp .notin t u = (tin t u).map (!·) := Eq.trans rfl rfl
@[simp] theorem tisNon_non : tisNon .non = true := Eq.trans rfl rfl
@[simp] theorem tisNon_int : tisNon (.int i) = false := Eq.trans rfl rfl
@[simp] theorem tisNon_lst : tisNon (.lst o xs) = false := Eq.trans rfl rfl
@[simp] theorem tisNon_ti : tisNon (ti o ns) = false := Eq.trans rfl rfl
@[simp] theorem teq_int : teq (.int i) (.int j) = some (decide (i = j)) := Eq.trans rfl rfl
@[simp] theorem teq_bl : teq (.bl b) (.bl e) = some (decide (b = e)) := Eq.trans rfl rfl
@[simp] theorem teq_str : teq (.str x) (.str y) = some (decide (x = y)) := Eq.trans rfl rfl
@[simp] theorem ttru_bl : ttru (.bl b) = some b := Eq.trans rfl rfl
@[simp] theorem ttru_int : ttru (.int i) = some (i != 0) := Eq.trans rfl rfl
@[simp] theorem ttru_non : ttru .non = some false := Eq.trans rfl rfl
@[simp] theorem ttru_lst : ttru (.lst o xs) = some (!xs.isEmpty) := Eq.trans rfl rfl
@[simp] theorem ty_int : ttyIn (.int i) = some "int" := Eq.trans rfl rfl
@[simp] theorem ty_bl : ttyIn (.bl b) = some "bool" := Eq.trans rfl rfl
@[simp] theorem ty_lst : ttyIn (.lst o xs) = some "list" := Eq.trans rfl rfl
@[simp] theorem ty_ti : ttyIn (ti o ns) = some "list" := Eq.trans rfl rfl
@[simp] theorem ty_tup : ttyIn (.tup xs) = some "tuple" := Eq.trans rfl rfl
@[simp] theorem ty_str : ttyIn (.str x) = some "str" := Eq.trans rfl rfl
@[simp] theorem ty_non : ttyIn .non = some "NoneType" := Eq.trans rfl rfl
@[simp] theorem tintOf_int : tintOf (.int i) = some i := Eq.trans rfl rfl
@[simp] theorem isLst_lst : isLst (some (.lst o xs)) = true := Eq.trans rfl rfl
@[simp] theorem isLst_ti : isLst (some (ti o ns)) = true := Eq.trans rfl rfl
@[simp] theorem isRef_lst : isRef (some (.lst o xs)) = true := Eq.trans rfl rfl
@[simp] theorem isRef_dK : isRef (some (.dK o ks xs)) = true := Eq.trans rfl rfl
@[simp] theorem len_lst : tprim .len [.lst o xs] = some (.int xs.length) := Eq.trans rfl rfl
@[simp] theorem len_fro : tprim .len [.fro xs] = some (.int xs.length) := Eq.trans rfl rfl
@[simp] theorem len_tup : tprim .len [.tup xs] = some (.int xs.length) := Eq.trans rfl rfl
@[simp] theorem len_dK : tprim .len [.dK o ks xs] = some (.int ks.length) := Eq.trans rfl rfl
@[simp] theorem len_ti : tprim .len [ti o ns] = some (.int ns.length) := by unfold ti; rw [len_lst, List.length_map]
@[simp] theorem max2_int : tprim .max2 [.int i, .int j] = some (.int (if j > i then j else i)) := Eq.trans rfl rfl
@[simp] theorem min2_int : tprim .min2 [.int i, .int j] = some (.int (if j < i then j else i)) := Eq.trans rfl rfl
@[simp] theorem int_int : tprim .int [.int i] = some (.int i) := Eq.trans rfl rfl
@[simp] theorem int_bl : tprim .int [.bl b] = some (.int (if b then 1 else 0)) := Eq.trans rfl rfl
@[simp] theorem abs_int : tprim .abs [.int i] = some (.int (if i < 0 then -i else i)) := Eq.trans rfl rfl
@[simp] theorem tints_map : tints (ns.map T.int) = some ns := by
  induction ns with
  | nil => rfl
  | cons a r ih => rw [List.map_cons, tints, ih]; rfl
@[simp] theorem tbls_map (bs : List Bool) : tbls (bs.map T.bl) = some bs := by
  induction bs with
  | nil => rfl
  | cons a r ih => rw [List.map_cons, tbls, ih]; rfl
@[simp] theorem tints_fun {β : Type} (h : β → Int) (l : List β) : tints (l.map fun a => T.int (h a)) = some (l.map h) := by
  rw [← tints_map (l.map h), List.map_map]; rfl
@[simp] theorem tbls_fun {β : Type} (h : β → Bool) (l : List β) : tbls (l.map fun a => T.bl (h a)) = some (l.map h) := by
  rw [← tbls_map (l.map h), List.map_map]; rfl
@[simp] theorem filter_all {β : Type} (l : List β) : (l.filter fun _ => true) = l := List.filter_eq_self.mpr fun _ _ => rfl
@[simp] theorem sum_lst : tprim .sum [.lst o xs] = (tints xs).map fun ns => .int ns.sum := Eq.trans rfl rfl
@[simp] theorem all_lst : tprim .all [.lst o xs] = (tbls xs).map fun bs => .bl (bs.all id) := Eq.trans rfl rfl
@[simp] theorem any_lst : tprim .any [.lst o xs] = (tbls xs).map fun bs => .bl (bs.any id) := Eq.trans rfl rfl
@[simp] theorem list_lst : tprim .list [.lst o xs] = tnew xs := Eq.trans rfl rfl
@[simp] theorem list_fro : tprim .list [.fro xs] = tnew xs := Eq.trans rfl rfl
@[simp] theorem list_tup : tprim .list [.tup xs] = tnew xs := Eq.trans rfl rfl
theorem tpr_plain {c : Cf} {p : Mi.Pr} {us : List V2} (hl : p ≠ .list) (ht : p ≠ .tuple) : tpr c p us s = match allSome (us.map (look s)) with | some ts => TR.ow (tprim p ts) s | none => .bad := tpr_other hl ht
@[simp] theorem tpr_list (c : Cf) (v : V2) : tpr c .list [v] s = match absorb c v s with | some (t, s) => TR.ow (tprim .list [t]) s | none => .bad := by
  unfold tpr
  simp only [List.map_cons, List.map_nil]
  cases h : look s v with
  | none => simp only [allSome_none, absorb, h]
  | some t =>
    simp only [allSome_some, allSome_nil, Option.map_some]
    all_goals (cases absorb c v s <;> rfl)
/-! ### u[i] -/
theorem tixp_lst : tixp (.lst o xs) (.int i) = L2.ixN xs.length i := Eq.trans rfl rfl
@[simp] theorem ixN_nat : L2.ixN n (n' : Nat) = if n' < n then some n' else none := by
  unfold L2.ixN
  by_cases h : n' < n
  · rw [if_pos (by omega), if_pos (by omega), if_pos h]; rfl
  · rw [if_pos (by omega), if_neg (by omega), if_neg h]
theorem ixN_pos (h0 : 0 ≤ i) (h : i < n) : L2.ixN n i = some i.toNat := by
  unfold L2.ixN
  rw [if_pos h0, if_pos h]
theorem ixN_neg (h0 : i < 0) (h : -(n : Int) ≤ i) : L2.ixN n i = some (i + n).toNat := by
  unfold L2.ixN
  rw [if_neg (by omega), if_pos h]
/-- a list's item -/
theorem tsub_own_lst {k : Nat} (h : L2.ixN xs.length i = some k) (hx : xs[k]? = some t) : tsub s (.own (.lst o xs)) (.int i) = some (.own t) := by
  unfold tsub
  simp only [look_own]
  have h1 : tsign (.lst o xs) (.int i) = none := rfl
  have h2 : tixp (.lst o xs) (.int i) = some k := h
  simp only [h1, h2, tkids_lst, hx]
theorem tsub_own_tup {k : Nat} (h : L2.ixN xs.length i = some k) (hx : xs[k]? = some t) : tsub s (.own (.tup xs)) (.int i) = some (.own t) := by
  unfold tsub
  simp only [look_own]
  have h1 : tsign (.tup xs) (.int i) = none := rfl
  have h2 : tixp (.tup xs) (.int i) = some k := h
  simp only [h1, h2, tkids_tup, hx]
theorem tsub_own_fro {k : Nat} (h : L2.ixN xs.length i = some k) (hx : xs[k]? = some t) : tsub s (.own (.fro xs)) (.int i) = some (.own t) := by
  unfold tsub
  simp only [look_own]
  have h1 : tsign (.fro xs) (.int i) = none := rfl
  have h2 : tixp (.fro xs) (.int i) = some k := h
  simp only [h1, h2, tkids_fro, hx]
theorem tsub_vw_lst {r k : Nat} {p : List Nat} (hl : look s (.vw r p) = some (.lst o xs)) (h : L2.ixN xs.length i = some k) (hx : xs[k]? = some t) : tsub s (.vw r p) (.int i) = some (seen t r (p ++ [k])) := by
  unfold tsub
  simp only [hl]
  have h1 : tsign (.lst o xs) (.int i) = none := rfl
  have h2 : tixp (.lst o xs) (.int i) = some k := h
  simp only [h1, h2, tkids_lst, hx]
end
/-! ### targets, loops, calls -/
section
variable (c : Cf) (P : List Nat) (i r k : Nat) (p : List Nat) (d t : T) (u v : V2) (us : List V2) (ts : List Tg) (tg : Tg) (s : St)
@[simp] theorem tasg_own : tasg c tg (.own d) s = tlay c.P tg (.own d) s := by cases tg <;> exact Eq.trans rfl rfl
@[simp] theorem tasg_nil : tasg c (.name i) (.vw r []) s = (claim c (.vw r []) s).bind fun q => tlay c.P (.name i) (.own q.1) q.2 := by
  show (match claim c (.vw r []) s with | some (d, s) => tlay c.P (.name i) (.own d) s | none => none) = _
  cases claim c (.vw r []) s <;> rfl
@[simp] theorem tasg_cons : tasg c (.name i) (.vw r (k :: p)) s = tlay c.P (.name i) (.vw r (k :: p)) s := Eq.trans rfl rfl
@[simp] theorem tasg_tup : tasg c (.tup ts) u s = tlay c.P (.tup ts) u s := Eq.trans rfl rfl
@[simp] theorem tlay_own : tlay P (.name i) (.own d) s = if i ∈ P then none else some (s.setS i (some d)) := by rw [tlay]
@[simp] theorem tlay_vw : tlay P (.name i) (.vw r p) s = if i ∈ P then none else if r = i ∨ ¬ i < s.τ.length ∨ (s.at r).isNone = true then none else some ⟨(s.setS i none).τ, (i, r, p) :: (s.setS i none).α, (s.setS i none).β⟩ := by rw [tlay]
@[simp] theorem tlay_tup' : tlay P (.tup ts) u s = (look s u).bind fun t => (tseq t).bind fun xs => tlays P ts (match u with
        | .own _ => xs.map .own
        | .vw r p => (xs.zipIdx).map fun d => seen d.1 r (p ++ [d.2])) s := by
  rw [tlay]
  cases h : look s u with
  | none => rfl
  | some t => simp only [Option.bind_some]; cases tseq t <;> rfl
@[simp] theorem tlays_nil' : tlays P [] [] s = some s := by rw [tlays]
@[simp] theorem tlays_cons' : tlays P (tg :: ts) (u :: us) s = if okV tg us then (tlay P tg u s).bind fun s => tlays P ts us s else none := by
  rw [tlays]
  cases tlay P tg u s <;> rfl
@[simp] theorem okV_nil : okV tg [] = true := Eq.trans rfl rfl
@[simp] theorem okV_own : okV tg (.own t :: us) = okV tg us := by unfold okV; rw [List.all_cons]; rfl
@[simp] theorem tlayIt_one : tlayIt P tg (.one u) s = tlay P tg u s := Eq.trans rfl rfl
@[simp] theorem tlayIt_two (t1 t2 : Tg) : tlayIt P (.tup [t1, t2]) (.two u v) s = tlays P [t1, t2] [u, v] s := Eq.trans rfl rfl
@[simp] theorem mv_P : c.mv.P = c.P := Eq.trans rfl rfl
@[simp] theorem mv_M : c.mv.M i = true := Eq.trans rfl rfl
/-! a snapshot's turns -/
def foldIt (body : It → St → TO) : List It → St → TO
  | [], s => .nx s
  | x :: xs, s => match body x s with
    | .nx s' => foldIt body xs s'
    | .ct s' => foldIt body xs s'
    | .bk s' => .nx s'
    | o => o
theorem tfl_list {nxt : Nat → St → Option (Option It)} {body : It → St → TO} {its : List It} (hn : ∀ k s, nxt k s = some its[k]?) : ∀ (n k : Nat) (s : St), its.length = k + n → tfl nxt body n k s = foldIt body (its.drop k) s := by
  intro n
  induction n with
  | zero =>
    intro k s h
    unfold tfl
    rw [hn, List.getElem?_eq_none (by omega), List.drop_eq_nil_of_le (by omega)]
    rfl
  | succ n ih =>
    intro k s h
    have hk : k < its.length := by omega
    unfold tfl
    rw [hn, List.getElem?_eq_getElem hk, List.drop_eq_getElem_cons hk]
    simp only [foldIt]
    cases body its[k] s with
    | nx s' => exact ih (k + 1) s' (by omega)
    | ct s' => exact ih (k + 1) s' (by omega)
    | _ => rfl
theorem tfl_snap {body : It → St → TO} (xs : List T) (s : St) : tfl (tnext (.sq (.snap xs))) body xs.length 0 s = foldIt body (xs.map fun t => .one (.own t)) s := by
  rw [tfl_list (its := xs.map fun t => .one (.own t)) (fun k s => ?_) xs.length 0 s (by simp), List.drop_zero]
  show (some (xs[k]?.map V2.own)).map _ = _
  rw [List.getElem?_map]
  cases xs[k]? <;> rfl
/-- turns by an invariant: what holds ahead of the k-th -/
theorem fold_inv {α : Type} {body : It → St → TO} (g : α → It) (xs : List α) (I : Nat → St → Prop) {s : St} (h0 : I 0 s) (hs : ∀ (k : Nat) (x : α) (s : St), xs[k]? = some x → I k s → (∃ s', body (g x) s = .nx s' ∧ I (k + 1) s') ∨ ∃ s', body (g x) s = .ct s' ∧ I (k + 1) s') :
    ∃ s', foldIt body (xs.map g) s = .nx s' ∧ I xs.length s' := by
  have key : ∀ (ys : List α) (k : Nat) (s : St), (∀ j, xs[k + j]? = ys[j]?) → I k s → ∃ s', foldIt body (ys.map g) s = .nx s' ∧ I (k + ys.length) s' := by
    intro ys
    induction ys with
    | nil => intro k s _ h; exact ⟨s, rfl, h⟩
    | cons y ys ih =>
      intro k s hx h
      have h1 : ∃ s', (body (g y) s = .nx s' ∨ body (g y) s = .ct s') ∧ I (k + 1) s' := by
        rcases hs k y s (by have := hx 0; simpa using this) h with ⟨s', a, b⟩ | ⟨s', a, b⟩
        · exact ⟨s', .inl a, b⟩
        · exact ⟨s', .inr a, b⟩
      obtain ⟨s', h1, h2⟩ := h1
      obtain ⟨s2, h3, h4⟩ := ih (k + 1) s' (fun j => by have := hx (j + 1); rw [show k + (j + 1) = k + 1 + j by omega] at this; rw [this]; rfl) h2
      refine ⟨s2, ?_, by rw [List.length_cons, show k + (ys.length + 1) = k + 1 + ys.length by omega]; exact h4⟩
      rw [List.map_cons]
      simp only [foldIt]
      rcases h1 with h1 | h1 <;> (rw [h1]; exact h3)
  obtain ⟨s', a, b⟩ := key xs 0 s (fun j => by rw [Nat.zero_add]) h0
  exact ⟨s', a, by rw [Nat.zero_add] at b; exact b⟩
/-! a comprehension's turns over a snapshot -/
def foldC (step : It → St → TR (Option T)) : List It → List T → St → TR (List T)
  | [], acc, s => .ok acc s
  | x :: xs, acc, s => match step x s with
    | .ok o s' => match o with
      | some y => if acc.length < sizeLine then foldC step xs (acc ++ [y]) s' else .bad
      | none => foldC step xs acc s'
    | _ => .bad
theorem tcl_list {nxt : Nat → St → Option (Option It)} {step : It → St → TR (Option T)} {its : List It} (hn : ∀ k s, nxt k s = some its[k]?) : ∀ (n k : Nat) (acc : List T) (s : St), its.length = k + n → tcl nxt step n k acc s = foldC step (its.drop k) acc s := by
  intro n
  induction n with
  | zero =>
    intro k acc s h
    unfold tcl
    rw [hn, List.getElem?_eq_none (by omega), List.drop_eq_nil_of_le (by omega)]
    rfl
  | succ n ih =>
    intro k acc s h
    have hk : k < its.length := by omega
    unfold tcl
    rw [hn, List.getElem?_eq_getElem hk, List.drop_eq_getElem_cons hk]
    simp only [foldC]
    cases step its[k] s with
    | ok o s' => cases o with
      | none => exact ih (k + 1) acc s' (by omega)
      | some y =>
        simp only
        by_cases hl : acc.length < sizeLine
        · rw [if_pos hl, if_pos hl]; exact ih (k + 1) _ s' (by omega)
        · rw [if_neg hl, if_neg hl]
    | _ => rfl
theorem tcl_snap {step : It → St → TR (Option T)} (xs : List T) (acc : List T) (s : St) : tcl (tnext (.sq (.snap xs))) step xs.length 0 acc s = foldC step (xs.map fun t => .one (.own t)) acc s := by
  rw [tcl_list (its := xs.map fun t => .one (.own t)) (fun k s => ?_) xs.length 0 acc s (by simp), List.drop_zero]
  show (some (xs[k]?.map V2.own)).map _ = _
  rw [List.getElem?_map]
  cases xs[k]? <;> rfl
/-- a comprehension whose steps leave the state as it is -/
theorem foldC_pick {α : Type} {step : It → St → TR (Option T)} (g : α → It) (pk : α → Bool) (f : α → T) {s : St} : ∀ (xs : List α) (acc : List T), acc.length + xs.length ≤ sizeLine → (∀ x ∈ xs, step (g x) s = .ok (if pk x = true then some (f x) else none) s) → foldC step (xs.map g) acc s = .ok (acc ++ (xs.filter pk).map f) s
  | [], acc, _, _ => by simp [foldC]
  | x :: xs, acc, hl, h => by
    rw [List.map_cons]
    simp only [foldC]
    rw [h x List.mem_cons_self]
    rw [List.length_cons] at hl
    by_cases hp : pk x = true
    · rw [if_pos hp, List.filter_cons_of_pos hp]
      simp only
      rw [if_pos (by omega), foldC_pick g pk f xs _ (by rw [List.length_append]; simp; omega) fun y hy => h y (List.mem_cons_of_mem _ hy)]
      simp
    · rw [if_neg hp, List.filter_cons_of_neg hp]
      simp only
      exact foldC_pick g pk f xs acc (by omega) fun y hy => h y (List.mem_cons_of_mem _ hy)
end
@[simp] theorem purs_nil (C : Nat → Option Fn) : purs C [] = true := by rw [purs]
@[simp] theorem purs_cons (C : Nat → Option Fn) (e : E) (es : List E) : purs C (e :: es) = (pur C e && purs C es) := by rw [purs]
@[simp] theorem pur_var (C : Nat → Option Fn) (i : Nat) : pur C (.var i) = true := by rw [pur]
@[simp] theorem pur_cst (C : Nat → Option Fn) (v : Val) : pur C (.cst v) = true := by rw [pur]
@[simp] theorem pur_bin (C : Nat → Option Fn) (o : O2) (a b : E) : pur C (.bin o a b) = (pur C a && pur C b) := by rw [pur]
@[simp] theorem pur_cmp (C : Nat → Option Fn) (o : Cp) (a b : E) : pur C (.cmp o a b) = (pur C a && pur C b) := by rw [pur]
@[simp] theorem pur_sub (C : Nat → Option Fn) (a b : E) : pur C (.sub a b) = (pur C a && pur C b) := by rw [pur]
@[simp] theorem pur_tup (C : Nat → Option Fn) (es : List E) : pur C (.tup es) = purs C es := by rw [pur]
@[simp] theorem pur_lst (C : Nat → Option Fn) (es : List E) : pur C (.lst es) = purs C es := by rw [pur]
@[simp] theorem pinQ_var (C : Nat → Option Fn) (i : Nat) (es : List E) : pinQ C (.var i) es = false := Eq.trans rfl rfl
@[simp] theorem pinQ_sub (C : Nat → Option Fn) (a b : E) (es : List E) : pinQ C (.sub a b) es = !purs C es := Eq.trans rfl rfl
@[simp] theorem pur_me (C : Nat → Option Fn) (m : Me) (o : E) (es : List E) : pur C (.me m o es) = (!isMut m && pur C o && purs C es) := by rw [pur]
@[simp] theorem pur_pr (C : Nat → Option Fn) (p : Mi.Pr) (es : List E) : pur C (.pr p es) = purs C es := by rw [pur]
@[simp] theorem pur_call (C : Nat → Option Fn) (f : Nat) (es : List E) : pur C (.call f es) = ((match C f with | some F => F.io.isEmpty && F.tk.isEmpty | none => true) && purs C es) := by first | (rw [pur]; done) | (rw [pur]; rfl)
@[simp] theorem tmutP_some (m : Me) (n : Nat) (ts : List T) (s : St) : tmutP m n (some (ts, s)) = match s.β[n]? with
    | some (some (r, p)) => tmut m (.vw r p) ts ⟨s.τ, s.α, s.β.take n⟩
    | _ => .bad := Eq.trans rfl rfl
@[simp] theorem keep_sub (C : Nat → Option Fn) (a b : E) (r : Nat) (p : List Nat) (es : List E) (s : St) : keep C (.sub a b) (.vw r p) es s = if purs C es = true then (look s (.vw r p)).map fun t => seen t r p else none := by
  show (if purs C es then match look s (.vw r p) with | some t => some (seen t r p) | none => none else none) = _
  cases look s (.vw r p) <;> rfl
@[simp] theorem af_tlT (L : List (List Int)) : af (tl true L) = false := by unfold tl; rw [af_lst]; rfl
/-! ### places read and changed, of rows -/
/-! places read and changed -/
def tsubO (t i : T) : Option V2 := match tsign t i with
  | some d => some (.own d)
  | none => (tixp t i).bind fun k => ((tkids t)[k]?).map .own
def tsubV (r : Nat) (p : List Nat) (t i : T) : Option V2 := match tsign t i with
  | some d => some (.own d)
  | none => (tixp t i).bind fun k => ((tkids t)[k]?).map fun d => seen d r (p ++ [k])
section
variable (s : St) (t i y : T) (r : Nat) (p : List Nat) (o : Bool) (xs ys : List T) (n : Int) (m : Nat) (ns : List Int) (L : List (List Int)) (ps : List (Int × Int)) (x : Str) (ks : List DKey) (kts : List (List DKey)) (ts : List T) (me : Me)
@[simp] theorem tsub_own : tsub s (.own t) i = tsubO t i := by
  unfold tsub tsubO
  simp only [look_own]
  cases tsign t i with
  | some d => rfl
  | none => cases tixp t i with
    | none => rfl
    | some k => simp only [Option.bind_some]; cases (tkids t)[k]? <;> rfl
@[simp] theorem tsub_vw : tsub s (.vw r p) i = (look s (.vw r p)).bind fun t => tsubV r p t i := by
  unfold tsub tsubV
  cases look s (.vw r p) with
  | none => rfl
  | some t =>
    simp only [Option.bind_some]
    cases tsign t i with
    | some d => rfl
    | none => cases tixp t i with
      | none => rfl
      | some k => simp only [Option.bind_some]; cases (tkids t)[k]? <;> rfl
@[simp] theorem subO_lst : tsubO (.lst o xs) (.int n) = (L2.ixN xs.length n).bind fun k => (xs[k]?).map .own := Eq.trans rfl rfl
@[simp] theorem subO_tup : tsubO (.tup xs) (.int n) = (L2.ixN xs.length n).bind fun k => (xs[k]?).map .own := Eq.trans rfl rfl
@[simp] theorem subO_fro : tsubO (.fro xs) (.int n) = (L2.ixN xs.length n).bind fun k => (xs[k]?).map .own := Eq.trans rfl rfl
@[simp] theorem subV_lst : tsubV r p (.lst o xs) (.int n) = (L2.ixN xs.length n).bind fun k => (xs[k]?).map fun d => seen d r (p ++ [k]) := Eq.trans rfl rfl
@[simp] theorem subV_tup : tsubV r p (.tup xs) (.int n) = (L2.ixN xs.length n).bind fun k => (xs[k]?).map fun d => seen d r (p ++ [k]) := Eq.trans rfl rfl
@[simp] theorem subO_ti : tsubO (ti o ns) (.int n) = (L2.ixN ns.length n).bind fun k => (ns[k]?).map fun d => .own (.int d) := by
  unfold ti
  rw [subO_lst, List.length_map]
  congr 1
  funext k
  rw [List.getElem?_map, Option.map_map]
  rfl
@[simp] theorem subV_ti : tsubV r p (ti o ns) (.int n) = (L2.ixN ns.length n).bind fun k => (ns[k]?).map fun d => .own (.int d) := by
  unfold ti
  rw [subV_lst, List.length_map]
  congr 1
  funext k
  rw [List.getElem?_map, Option.map_map]
  rfl
@[simp] theorem subO_tl : tsubO (tl o L) (.int n) = (L2.ixN L.length n).bind fun k => (L[k]?).map fun d => .own (ti o d) := by
  unfold tl
  rw [subO_lst, List.length_map]
  congr 1
  funext k
  rw [List.getElem?_map, Option.map_map]
  rfl
@[simp] theorem subO_tps : tsubO (tps o ps) (.int n) = (L2.ixN ps.length n).bind fun k => (ps[k]?).map fun d => .own (tp d) := by
  unfold tps
  rw [subO_lst, List.length_map]
  congr 1
  funext k
  rw [List.getElem?_map, Option.map_map]
  rfl
@[simp] theorem ixN_0 : L2.ixN m 0 = if 0 < m then some 0 else none := ixN_nat (n' := 0) m
@[simp] theorem ixN_1 : L2.ixN m 1 = if 1 < m then some 1 else none := ixN_nat (n' := 1) m
@[simp] theorem ixN_2 : L2.ixN m 2 = if 2 < m then some 2 else none := ixN_nat (n' := 2) m
@[simp] theorem ixN_3 : L2.ixN m 3 = if 3 < m then some 3 else none := ixN_nat (n' := 3) m
@[simp] theorem ixN_m1 : L2.ixN m (-1) = if 0 < m then some (m - 1) else none := by
  unfold L2.ixN
  rw [if_neg (by decide)]
  by_cases h : 0 < m
  · rw [if_pos (by omega), if_pos h]; congr 1; omega
  · rw [if_neg (by omega), if_neg h]
@[simp] theorem tset_vw (k : T) : tset (.vw r p) k y s = (look s (.vw r p)).bind fun t => (tsetop t k y).bind fun t' => s.put r p t' true := by
  show (match look s (.vw r p) with | some t => (match tsetop t k y with | some t' => s.put r p t' true | none => none) | none => none) = _
  cases look s (.vw r p) with
  | none => rfl
  | some t => simp only [Option.bind_some]; cases tsetop t k y <;> rfl
@[simp] theorem setop_lst : tsetop (.lst true xs) (.int n) y = (L2.ixN xs.length n).map fun j => .lst true (xs.set j y) := Eq.trans rfl rfl
@[simp] theorem setop_dK : tsetop (.dK true ks xs) i y = if ks.length < sizeLine then (tkey i).map fun k => match kpos ks k with
      | some j => .dK true ks (xs.set j y)
      | none => .dK true (ks ++ [k]) (xs ++ [y]) else none := Eq.trans rfl rfl
@[simp] theorem tkey_int : tkey (.int n) = some (.inl n) := Eq.trans rfl rfl
@[simp] theorem tkey_str : tkey (.str x) = some (.inr x) := Eq.trans rfl rfl
@[simp] theorem tmut_vw : tmut me (.vw r p) ts s = (look s (.vw r p)).elim .bad fun t => (tmeth me t ts).elim .bad fun q => (s.put r p q.2 (deepM me)).elim .bad fun s' => .ok (.own q.1) s' := by
  unfold tmut
  simp only
  cases look s (.vw r p) with
  | none => rfl
  | some t =>
    simp only [Option.elim_some]
    cases tmeth me t ts with
    | none => rfl
    | some q => simp only [Option.elim_some]; cases s.put r p q.2 (deepM me) <;> rfl
@[simp] theorem deep_append : deepM .append = false := Eq.trans rfl rfl
@[simp] theorem deep_extend : deepM .extend = false := Eq.trans rfl rfl
@[simp] theorem deep_pop : deepM .pop = true := Eq.trans rfl rfl
@[simp] theorem deep_popAt : deepM .popAt = true := Eq.trans rfl rfl
@[simp] theorem deep_insert : deepM .insert = true := Eq.trans rfl rfl
@[simp] theorem deep_reverse : deepM .reverse = true := Eq.trans rfl rfl
@[simp] theorem mut_append : isMut .append = true := Eq.trans rfl rfl
@[simp] theorem mut_extend : isMut .extend = true := Eq.trans rfl rfl
@[simp] theorem mut_pop : isMut .pop = true := Eq.trans rfl rfl
@[simp] theorem mut_popAt : isMut .popAt = true := Eq.trans rfl rfl
@[simp] theorem mut_insert : isMut .insert = true := Eq.trans rfl rfl
@[simp] theorem mut_reverse : isMut .reverse = true := Eq.trans rfl rfl
@[simp] theorem mut_index : isMut .index = false := Eq.trans rfl rfl
@[simp] theorem lst_append : lstMe .append = true := Eq.trans rfl rfl
@[simp] theorem lst_extend : lstMe .extend = true := Eq.trans rfl rfl
@[simp] theorem lst_pop : lstMe .pop = true := Eq.trans rfl rfl
@[simp] theorem lst_popAt : lstMe .popAt = true := Eq.trans rfl rfl
@[simp] theorem lst_insert : lstMe .insert = true := Eq.trans rfl rfl
@[simp] theorem lst_reverse : lstMe .reverse = true := Eq.trans rfl rfl
@[simp] theorem lst_index : lstMe .index = true := Eq.trans rfl rfl
@[simp] theorem meth_append : tmeth .append (.lst true xs) [y] = if xs.length < sizeLine then some (.non, .lst true (xs ++ [y])) else none := Eq.trans rfl rfl
@[simp] theorem meth_pop : tmeth .pop (.lst true xs) [] = match xs[xs.length - 1]? with | some y => some (y, .lst true xs.dropLast) | none => none := Eq.trans rfl rfl
@[simp] theorem meth_popAt : tmeth .popAt (.lst true xs) [.int n] = if in63 n = true then match xs[n.toNat]? with | some y => some (y, .lst true (xs.eraseIdx n.toNat)) | none => none else none := Eq.trans rfl rfl
@[simp] theorem meth_insert : tmeth .insert (.lst true xs) [.int n, y] = if xs.length < sizeLine ∧ in63 n = true then some (.non, .lst true (xs.take n.toNat ++ [y] ++ xs.drop n.toNat)) else none := Eq.trans rfl rfl
@[simp] theorem kidsSet_lst (k : Nat) : tkidsSet (.lst true xs) k t = some (.lst true (xs.set k t)) := Eq.trans rfl rfl
@[simp] theorem kidsSet_tup (k : Nat) : tkidsSet (.tup xs) k t = some (.tup (xs.set k t)) := Eq.trans rfl rfl
end
/-! sizes -/
theorem szl {n : Nat} (h : n ≤ 1000000) : n ≤ sizeLine := Nat.le_trans h (Nat.le_of_lt line_big)
@[simp] theorem sz1 : 1 ≤ sizeLine := szl (by decide)
@[simp] theorem sz2 : 2 ≤ sizeLine := szl (by decide)
@[simp] theorem sz3 : 3 ≤ sizeLine := szl (by decide)
@[simp] theorem sz4 : 4 ≤ sizeLine := szl (by decide)
@[simp] theorem sz5 : 5 ≤ sizeLine := szl (by decide)
@[simp] theorem sz6 : 6 ≤ sizeLine := szl (by decide)
@[simp] theorem sz7 : 7 ≤ sizeLine := szl (by decide)
@[simp] theorem sz8 : 8 ≤ sizeLine := szl (by decide)
/-! calls -/
section
variable (c : Cf) (io tk : List Nat) (j r n : Nat) (p : List Nat) (d t : T) (u v : V2) (us : List V2) (ts outs : List T) (s : St) (l : Pl) (g : TSem)
@[simp] theorem tkArgs_none : tkArgs c [] j us s = some (us, s) := by
  induction us generalizing j with
  | nil => rfl
  | cons u us ih => unfold tkArgs; rw [if_neg List.not_mem_nil, ih]
@[simp] theorem tkArgs_nil : tkArgs c tk j [] s = some ([], s) := Eq.trans rfl rfl
@[simp] theorem tkArgs_cons : tkArgs c tk j (u :: us) s = if j ∈ tk then (claim c u s).bind fun q => (tkArgs c tk (j + 1) us q.2).map fun w => (.own q.1 :: w.1, w.2) else (tkArgs c tk (j + 1) us s).map fun w => (u :: w.1, w.2) := by
  conv => lhs; unfold tkArgs
  by_cases h : j ∈ tk
  · rw [if_pos h, if_pos h]
    cases claim c u s with
    | none => rfl
    | some q => simp only [Option.bind_some]; cases tkArgs c tk (j + 1) us q.2 <;> rfl
  · rw [if_neg h, if_neg h]
    cases tkArgs c tk (j + 1) us s <;> rfl
@[simp] theorem ioArgs_nil : ioArgs us s [] = some [] := Eq.trans rfl rfl
@[simp] theorem ioArgs_cons : ioArgs us s (j :: io) = (us[j]?).bind fun u => (ioArgs us s io).bind fun l => match u with
    | .vw r p => if inL r l then none else some (some (r, p) :: l)
    | .own _ => some (none :: l) := by
  conv => lhs; unfold ioArgs
  cases us[j]? with
  | none => rfl
  | some u => cases u <;> (simp only [Option.bind_some]; cases ioArgs us s io <;> rfl)
@[simp] theorem inL_nil : inL r [] = false := Eq.trans rfl rfl
@[simp] theorem inL_some (r' : Nat) : inL r (some (r', p) :: l) = (decide (r' = r) || inL r l) := Eq.trans rfl rfl
@[simp] theorem inL_none : inL r (none :: l) = inL r l := Eq.trans rfl rfl
@[simp] theorem callArgs_nil : callArgs io tk l s j [] = some [] := Eq.trans rfl rfl
@[simp] theorem callArgs_own : callArgs io tk l s j (.own t :: us) = (callArgs io tk l s (j + 1) us).map fun ts => (if j ∈ io ∨ j ∈ tk then t else fz t) :: ts := by
  conv => lhs; unfold callArgs
  simp only [look_own]
  cases callArgs io tk l s (j + 1) us with
  | none => rfl
  | some ts =>
    by_cases h : j ∈ io ∨ j ∈ tk
    · simp only [if_pos h]; rfl
    · simp only [if_neg h]; rfl
@[simp] theorem callArgs_vw : callArgs io tk l s j (.vw r p :: us) = (look s (.vw r p)).bind fun t => (callArgs io tk l s (j + 1) us).bind fun ts => if j ∈ io ∨ j ∈ tk then some (t :: ts) else if inL r l then none else some (fz t :: ts) := by
  conv => lhs; unfold callArgs
  cases look s (.vw r p) with
  | none => rfl
  | some t => cases callArgs io tk l s (j + 1) us <;> rfl
@[simp] theorem putAll_nil : putAll [] [] s = some s := Eq.trans rfl rfl
@[simp] theorem putAll_some : putAll (some (r, p) :: l) (t :: outs) s = (s.put r p t true).bind fun s => putAll l outs s := by
  conv => lhs; unfold putAll
  cases s.put r p t true <;> rfl
@[simp] theorem putAll_none : putAll (none :: l) (t :: outs) s = putAll l outs s := Eq.trans rfl rfl
@[simp] theorem frzRead_nil : frzRead io j [] s = s := Eq.trans rfl rfl
@[simp] theorem frzRead_own : frzRead io j (.own t :: us) s = frzRead io (j + 1) us s := by
  conv => lhs; unfold frzRead
  by_cases h : j ∈ io
  · rw [if_pos h]
  · rw [if_neg h]
@[simp] theorem frzRead_vw : frzRead io j (.vw r p :: us) s = if j ∈ io then frzRead io (j + 1) us s else frzRead io (j + 1) us (s.frz r) := by
  conv => lhs; unfold frzRead
@[simp] theorem tcall_eq : tcall c ⟨n, io, tk, g⟩ us s = if us.length = n then match tkArgs c tk 0 us s with
  | none => .bad
  | some q => match ioArgs q.1 q.2 io with
    | some l => match callArgs io tk l q.2 0 q.1 with
      | some ts => match g ts with
        | .ok t outs => match putAll l outs (if nf t && nfs outs then q.2 else frzRead io 0 q.1 q.2) with
          | some s' => .ok (.own t) s'
          | none => .bad
        | .ex cl d outs => match putAll l outs (if nfo d && nfs outs then q.2 else frzRead io 0 q.1 q.2) with
          | some s' => .ex cl d s'
          | none => .bad
        | .bad => .bad
      | none => .bad
    | none => .bad
  else .bad := by
  unfold tcall
  by_cases h : us.length = n
  · rw [if_pos h, if_pos h]
    simp only
    cases tkArgs c tk 0 us s with
    | none => rfl
    | some q =>
      obtain ⟨us', s'⟩ := q
      rfl
  · rw [if_neg h, if_neg h]
@[simp] theorem nfo_none : nfo none = true := Eq.trans rfl rfl
@[simp] theorem r1_eq (x : TR V2) : r1 x = x.bind fun u s => TR.of (look s u) s := Eq.trans rfl rfl
@[simp] theorem r2_eq (C : Nat → Option Fn) (a b : E) (x : TR V2) (y : St → TR V2) : r2 C a b x y = x.bind fun u s => (y s).bind fun v s => match keep C a u [b] s with
  | some u => match look s u, look s v with
    | some x, some y => .ok (x, y) s
    | _, _ => .bad
  | none => .bad := Eq.trans rfl rfl
end
/-! ### sources -/
section
variable (c : Cf) (o : Bool) (xs : List T) (ns : List Int) (L : List (List Int)) (ps : List (Int × Int)) (i j : Int) (n r : Nat) (p : List Nat) (s : St) (u v : V2)
theorem tsrc_lst : tsrc (.own (.lst o xs)) s = some (.snap (fzs xs), xs.length, s) := Eq.trans rfl rfl
@[simp] theorem tsrc_vw : tsrc (.vw r p) s = (look s (.vw r p)).bind fun t => (tseq t).map fun xs => (.live s.β.length, xs.length, ⟨s.τ, s.α, s.β ++ [some (r, p)]⟩) := by
  show (match look s (.vw r p) with | some t => (match tseq t with | some xs => some (Sr.live s.β.length, xs.length, (⟨s.τ, s.α, s.β ++ [some (r, p)]⟩ : St)) | none => none) | none => none) = _
  cases look s (.vw r p) with
  | none => rfl
  | some t => simp only [Option.bind_some]; cases tseq t <;> rfl
@[simp] theorem start_lst : tstart .seq [.own (.lst o xs)] s = some (.sq (.snap (fzs xs)), xs.length, s) := Eq.trans rfl rfl
@[simp] theorem start_tup : tstart .seq [.own (.tup xs)] s = some (.sq (.snap (fzs xs)), xs.length, s) := Eq.trans rfl rfl
@[simp] theorem start_fro : tstart .seq [.own (.fro xs)] s = some (.sq (.snap (fzs xs)), xs.length, s) := Eq.trans rfl rfl
@[simp] theorem start_ti : tstart .seq [.own (ti o ns)] s = some (.sq (.snap (ns.map T.int)), ns.length, s) := by
  unfold ti
  rw [start_lst, fzs_int, List.length_map]
@[simp] theorem start_tl : tstart .seq [.own (tl o L)] s = some (.sq (.snap (L.map (ti false))), L.length, s) := by
  unfold tl
  rw [start_lst, fzs_ti, List.length_map]
@[simp] theorem start_tps : tstart .seq [.own (tps o ps)] s = some (.sq (.snap (ps.map tp)), ps.length, s) := by
  unfold tps
  rw [start_lst, fzs_tp, List.length_map]
@[simp] theorem start_vw : tstart .seq [.vw r p] s = (tsrc (.vw r p) s).map fun q => (.sq q.1, q.2.1, q.2.2) := by
  show (tsrc (.vw r p) s).map (fun (a, n, s) => (TI.sq a, n, s)) = _
  cases tsrc (.vw r p) s <;> rfl
@[simp] theorem start_rng1 (h : small62 i = true) : tstart .rng1 [.own (.int i)] s = some (.sq (.snap (trng 0 i.toNat)), i.toNat, s) := by
  have : tstart .rng1 [.own (.int i)] s = if small62 i then some (.sq (.snap (trng 0 i.toNat)), i.toNat, s) else none := Eq.trans rfl rfl
  rw [this, if_pos h]
@[simp] theorem start_rng2 (h1 : small62 i = true) (h2 : small62 j = true) : tstart .rng2 [.own (.int i), .own (.int j)] s = some (.sq (.snap (trng i (j - i).toNat)), (j - i).toNat, s) := by
  have : tstart .rng2 [.own (.int i), .own (.int j)] s = if small62 i && small62 j then some (.sq (.snap (trng i (j - i).toNat)), (j - i).toNat, s) else none := Eq.trans rfl rfl
  rw [this, if_pos (by rw [h1, h2]; rfl)]
@[simp] theorem start_rng3 (h1 : small62 i = true) (h2 : small62 j = true) : tstart .rng3 [.own (.int i), .own (.int j)] s = some (.sq (.snap (trngc i ((j - i + 1) / 2).toNat)), ((j - i + 1) / 2).toNat, s) := by
  have : tstart .rng3 [.own (.int i), .own (.int j)] s = if small62 i && small62 j then some (.sq (.snap (trngc i ((j - i + 1) / 2).toNat)), ((j - i + 1) / 2).toNat, s) else none := Eq.trans rfl rfl
  rw [this, if_pos (by rw [h1, h2]; rfl)]
end
def ownOk (own : List Nat) (t : Tg) : Bool := (Mi.slots t).all fun i => decide (i ∈ own)
theorem foldC_J {α : Type} {step : It → St → TR (Option T)} (g : α → It) (pk : α → Bool) (f : α → T) (J : St → Prop) : ∀ (xs : List α) (acc : List T) (s : St), acc.length + xs.length ≤ sizeLine → J s → (∀ x ∈ xs, ∀ s, J s → ∃ s', step (g x) s = .ok (if pk x = true then some (f x) else none) s' ∧ J s') → ∃ s', foldC step (xs.map g) acc s = .ok (acc ++ (xs.filter pk).map f) s' ∧ J s'
  | [], acc, s, _, hj, _ => ⟨s, by simp [foldC], hj⟩
  | x :: xs, acc, s, hl, hj, h => by
    obtain ⟨s1, h1, h2⟩ := h x List.mem_cons_self s hj
    rw [List.length_cons] at hl
    by_cases hp : pk x = true
    · rw [if_pos hp] at h1
      obtain ⟨s2, h3, h4⟩ := foldC_J g pk f J xs (acc ++ [f x]) s1 (by rw [List.length_append]; simp; omega) h2 fun y hy => h y (List.mem_cons_of_mem _ hy)
      refine ⟨s2, ?_, h4⟩
      rw [List.map_cons]
      simp only [foldC]
      rw [h1, List.filter_cons_of_pos hp]
      simp only
      rw [if_pos (by omega), h3]
      simp
    · rw [if_neg hp] at h1
      obtain ⟨s2, h3, h4⟩ := foldC_J g pk f J xs acc s1 (by omega) h2 fun y hy => h y (List.mem_cons_of_mem _ hy)
      refine ⟨s2, ?_, h4⟩
      rw [List.map_cons]
      simp only [foldC]
      rw [h1, List.filter_cons_of_neg hp]
      exact h3
/-- a comprehension over given things; what its steps leave is J -/
theorem tlc_G {α : Type} {c : Cf} {own : List Nat} {t : Tg} {ifs : List E} {e : E} {s s1 sb : St} {ti : TI} (g : α → It) (xs : List α) (hn : ∀ k s, tnext ti k s = some (xs.map g)[k]?) (pk : α → Bool) (f : α → T) (J : St → Prop) (ho : ownOk own t = true) (hx : xs.length ≤ 1000000) (h0 : J (wipeS s1 own))
    (hs : ∀ x ∈ xs, ∀ s, J s → ∃ s', lcStep c own t ifs e (g x) s = .ok (if pk x = true then some (f x) else none) s' ∧ J s') (hb : ∀ s2, J s2 → backS s1.τ s2 own = sb) :
    tlcL c own t ifs e s (some (ti, xs.length, s1)) = .ok (.own (.lst true ((xs.filter pk).map f))) ⟨sb.τ, sb.α, sb.β.take s.β.length⟩ := by
  unfold ownOk at ho
  unfold tlcL
  simp only
  rw [if_neg (not_not_intro ho), tcl_list hn xs.length 0 [] (wipeS s1 own) (by simp), List.drop_zero]
  obtain ⟨s', h2, h3⟩ := foldC_J (step := lcStep c own t ifs e) g pk f J xs [] (wipeS s1 own) (by simpa using szl hx) h0 hs
  rw [h2]
  simp only [List.nil_append, TR.bind_ok, hb s' h3]
theorem tlc_J {α : Type} {c : Cf} {own : List Nat} {t : Tg} {ifs : List E} {e : E} {s sb : St} (g : α → T) (xs : List α) (pk : α → Bool) (f : α → T) (J : St → Prop) (ho : ownOk own t = true) (hx : xs.length ≤ 1000000) (h0 : J (wipeS s own))
    (hs : ∀ x ∈ xs, ∀ s, J s → ∃ s', lcStep c own t ifs e (.one (.own (g x))) s = .ok (if pk x = true then some (f x) else none) s' ∧ J s') (hb : ∀ s1, J s1 → backS s.τ s1 own = sb) :
    tlcL c own t ifs e s (some (.sq (.snap (xs.map g)), xs.length, s)) = .ok (.own (.lst true ((xs.filter pk).map f))) ⟨sb.τ, sb.α, sb.β.take s.β.length⟩ := by
  unfold ownOk at ho
  unfold tlcL
  simp only
  rw [if_neg (not_not_intro ho)]
  have := tcl_snap (step := lcStep c own t ifs e) (xs.map g) [] (wipeS s own)
  rw [List.length_map] at this
  rw [this, List.map_map]
  obtain ⟨s', h2, h3⟩ := foldC_J (step := lcStep c own t ifs e) (fun x => .one (.own (g x))) pk f J xs [] (wipeS s own) (by simpa using szl hx) h0 hs
  rw [show (fun t => It.one (.own t)) ∘ g = fun x => It.one (.own (g x)) from rfl, h2]
  simp only [List.nil_append, TR.bind_ok, hb s' h3]
/-- with one slot of its own, nothing else in play -/
theorem tlc1 {α : Type} {c : Cf} {v : Nat} {t : Tg} {ifs : List E} {e : E} {τ : List (Option T)} (g : α → T) (xs : List α) (pk : α → Bool) (f : α → T) (hv : v < τ.length) (ho : ownOk [v] t = true) (hx : xs.length ≤ 1000000)
    (hs : ∀ x ∈ xs, ∀ o, ∃ o', lcStep c [v] t ifs e (.one (.own (g x))) ⟨τ.set v o, [], []⟩ = .ok (if pk x = true then some (f x) else none) ⟨τ.set v o', [], []⟩) :
    tlcL c [v] t ifs e ⟨τ, [], []⟩ (some (.sq (.snap (xs.map g)), xs.length, ⟨τ, [], []⟩)) = .ok (.own (.lst true ((xs.filter pk).map f))) ⟨τ, [], []⟩ := by
  have key := tlc_J (c := c) (own := [v]) (t := t) (ifs := ifs) (e := e) (s := ⟨τ, [], []⟩) (sb := ⟨τ, [], []⟩) g xs pk f (fun s => ∃ o, s = ⟨τ.set v o, [], []⟩) ho hx ⟨none, rfl⟩ (fun x hx' s ⟨o, e⟩ => by
    subst e
    obtain ⟨o', h⟩ := hs x hx' o
    exact ⟨_, h, o', rfl⟩) (fun s1 ⟨o, e⟩ => by
    subst e
    show (⟨(τ.set v o).set v ((τ[v]?).join), [], []⟩ : St) = ⟨τ, [], []⟩
    congr 1
    rw [List.set_set, List.getElem?_eq_getElem hv]
    exact List.set_getElem_self hv)
  exact key
/-- with two slots of its own -/
theorem tlc2 {α : Type} {c : Cf} {v w : Nat} {t : Tg} {ifs : List E} {e : E} {τ : List (Option T)} {ti : TI} (g : α → It) (xs : List α) (hn : ∀ k s, tnext ti k s = some (xs.map g)[k]?) (pk : α → Bool) (f : α → T) (hv : v < τ.length) (hw : w < τ.length) (hvw : v ≠ w) (ho : ownOk [v, w] t = true) (hx : xs.length ≤ 1000000)
    (hs : ∀ x ∈ xs, ∀ o o2, ∃ o' o2', lcStep c [v, w] t ifs e (g x) ⟨(τ.set v o).set w o2, [], []⟩ = .ok (if pk x = true then some (f x) else none) ⟨(τ.set v o').set w o2', [], []⟩) :
    tlcL c [v, w] t ifs e ⟨τ, [], []⟩ (some (ti, xs.length, ⟨τ, [], []⟩)) = .ok (.own (.lst true ((xs.filter pk).map f))) ⟨τ, [], []⟩ := by
  have key := tlc_G (c := c) (own := [v, w]) (t := t) (ifs := ifs) (e := e) (s := ⟨τ, [], []⟩) (s1 := ⟨τ, [], []⟩) (sb := ⟨τ, [], []⟩) g xs hn pk f (fun s => ∃ o o2, s = ⟨(τ.set v o).set w o2, [], []⟩) ho hx ⟨none, none, by
      show (⟨(τ.set w none).set v none, [], []⟩ : St) = _
      rw [List.set_comm _ _ hvw]⟩ (fun x hx' s ⟨o, o2, e⟩ => by
    subst e
    obtain ⟨o', o2', h⟩ := hs x hx' o o2
    exact ⟨_, h, o', o2', rfl⟩) (fun s1 ⟨o, o2, e⟩ => by
    subst e
    show (⟨(((τ.set v o).set w o2).set w ((τ[w]?).join)).set v ((τ[v]?).join), [], []⟩ : St) = ⟨τ, [], []⟩
    congr 1
    rw [List.set_set, List.set_comm _ _ hvw.symm, List.set_set, List.getElem?_eq_getElem hv, List.getElem?_eq_getElem hw]
    show (τ.set v τ[v]).set w τ[w] = τ
    rw [List.set_getElem_self, List.set_getElem_self])
  exact key
theorem next_zip (xs ys : List T) (k : Nat) (s : St) : tnext (.zp (.snap xs) (.snap ys)) k s = some (((xs.zip ys).map fun q => It.two (.own q.1) (.own q.2))[k]?) := by
  show some (match xs[k]?.map V2.own, ys[k]?.map V2.own with | some u, some v => some (It.two u v) | _, _ => none) = _
  rw [List.zip_eq_zipWith, List.map_zipWith, List.getElem?_zipWith]
  cases xs[k]? <;> cases ys[k]? <;> rfl
theorem next_zip_map {α β : Type} (f : α → T) (g : β → T) (xs : List α) (ys : List β) (k : Nat) (s : St) : tnext (.zp (.snap (xs.map f)) (.snap (ys.map g))) k s = some (((xs.zip ys).map fun q => It.two (.own (f q.1)) (.own (g q.2)))[k]?) := by
  rw [next_zip, List.zip_map, List.map_map]
  rfl
@[simp] theorem start_zip_lst (o o' : Bool) (xs ys : List T) (s : St) : tstart .zip [.own (.lst o xs), .own (.lst o' ys)] s = some (.zp (.snap (fzs xs)) (.snap (fzs ys)), min xs.length ys.length, s) := Eq.trans rfl rfl
@[simp] theorem start_zip_tl (o o' : Bool) (L M : List (List Int)) (s : St) : tstart .zip [.own (tl o L), .own (tl o' M)] s = some (.zp (.snap (L.map (ti false))) (.snap (M.map (ti false))), min L.length M.length, s) := by
  unfold tl
  rw [start_zip_lst, fzs_ti, fzs_ti, List.length_map, List.length_map]
@[simp] theorem len_tl (o : Bool) (L : List (List Int)) : tprim .len [tl o L] = some (.int L.length) := by unfold tl; rw [len_lst, List.length_map]
@[simp] theorem len_tps (o : Bool) (L : List (Int × Int)) : tprim .len [tps o L] = some (.int L.length) := by unfold tps; rw [len_lst, List.length_map]
@[simp] theorem ty_tl (o : Bool) (L : List (List Int)) : ttyIn (tl o L) = some "list" := Eq.trans rfl rfl
@[simp] theorem ty_tps (o : Bool) (L : List (Int × Int)) : ttyIn (tps o L) = some "list" := Eq.trans rfl rfl
@[simp] theorem isLst_tl (o : Bool) (L : List (List Int)) : isLst (some (tl o L)) = true := Eq.trans rfl rfl
@[simp] theorem isLst_tps (o : Bool) (L : List (Int × Int)) : isLst (some (tps o L)) = true := Eq.trans rfl rfl
@[simp] theorem tkids_tl (o : Bool) (L : List (List Int)) : tkids (tl o L) = L.map (ti o) := Eq.trans rfl rfl
@[simp] theorem tkids_tps (o : Bool) (L : List (Int × Int)) : tkids (tps o L) = L.map tp := Eq.trans rfl rfl
@[simp] theorem tseq_tl (o : Bool) (L : List (List Int)) : tseq (tl o L) = some (L.map (ti o)) := Eq.trans rfl rfl
@[simp] theorem tseq_tps (o : Bool) (L : List (Int × Int)) : tseq (tps o L) = some (L.map tp) := Eq.trans rfl rfl
@[simp] theorem tseq_tp (p : Int × Int) : tseq (tp p) = some [.int p.1, .int p.2] := Eq.trans rfl rfl
section
variable (s : St) (own : List Nat) (v : Nat) (vs : List Nat) (τ0 : List (Option T)) (t : T) (r : Nat) (p : List Nat) (c : Cf) (tg : Tg) (ifs : List E) (e : E) (u w : V2)
@[simp] theorem wipe_nil : wipeS s [] = s := Eq.trans rfl rfl
@[simp] theorem wipe_cons : wipeS s (v :: vs) = (wipeS s vs).setS v none := Eq.trans rfl rfl
@[simp] theorem back_nil : backS τ0 s [] = s := Eq.trans rfl rfl
@[simp] theorem back_cons : backS τ0 s (v :: vs) = (backS τ0 s vs).setS v ((τ0[v]?).join) := Eq.trans rfl rfl
@[simp] theorem free_own : v2Free own (.own t) = true := Eq.trans rfl rfl
@[simp] theorem free_vw : v2Free own (.vw r p) = !decide (r ∈ own) := Eq.trans rfl rfl
@[simp] theorem free_one : itFree own (.one u) = v2Free own u := Eq.trans rfl rfl
@[simp] theorem free_two : itFree own (.two u w) = (v2Free own u && v2Free own w) := Eq.trans rfl rfl
/-- a step, for simp -/
theorem lcStep_eq (it : It) : lcStep c own tg ifs e it s = if itFree own it = true then (tlayIt [] tg it (wipeS s own)).elim .bad fun s => (tvT c ifs s).bind fun b s => if b then (tv c e s).bind fun y s => (claim c y s).elim .bad fun q => .ok (some q.1) q.2 else .ok none s else .bad := by
  unfold lcStep
  by_cases h : itFree own it = true
  · rw [if_pos h, if_pos h]
    cases tlayIt [] tg it (wipeS s own) with
    | none => rfl
    | some s1 =>
      simp only [Option.elim_some]
      congr 1
      funext b s
      cases b with
      | false => rfl
      | true =>
        simp only [if_true]
        congr 1
        funext y s
        cases claim c y s <;> rfl
  · rw [if_neg h, if_neg h]
end
/-! ### equal trees -/
theorem eqvAll_map {α : Type} [DecidableEq α] (f : α → PyData) (hf : ∀ a b, PyData.eqv (f a) (f b) = decide (a = b)) : ∀ xs ys : List α, PyData.eqvAll (xs.map f) (ys.map f) = decide (xs = ys)
  | [], [] => by rw [List.map_nil, PyData.eqvAll]; rfl
  | [], _ :: _ => by rw [List.map_nil, List.map_cons, PyData.eqvAll]; rfl
  | _ :: _, [] => by rw [List.map_nil, List.map_cons, PyData.eqvAll]; rfl
  | x :: xs, y :: ys => by
    rw [List.map_cons, List.map_cons, PyData.eqvAll, hf, eqvAll_map f hf xs ys]
    by_cases h : x = y
    · subst h; simp
    · simp [h]
theorem allSome_all {α β : Type} (f : α → Option β) (g : α → β) (h : ∀ a, f a = some (g a)) : ∀ xs : List α, allSome (xs.map f) = some (xs.map g)
  | [] => rfl
  | a :: r => by rw [List.map_cons, h a, allSome_some, allSome_all f g h r]; rfl
theorem tdat_ti (o : Bool) (n : Nat) (xs : List Int) : tdat (n + 2) (ti o xs) = some (.list (xs.map .int)) := by
  show (allSome ((xs.map T.int).map (tdat (n + 1)))).map PyData.list = _
  rw [List.map_map, allSome_all (tdat (n + 1) ∘ T.int) PyData.int (fun a => rfl)]
  rfl
theorem eqv_ints (xs ys : List Int) : PyData.eqv (.list (xs.map .int)) (.list (ys.map .int)) = decide (xs = ys) := by
  rw [PyData.eqv, eqvAll_map _ (fun a b => by rw [PyData.eqv]; by_cases h : a = b <;> simp [h])]
@[simp] theorem teq_ti (o o' : Bool) (xs ys : List Int) : teq (ti o xs) (ti o' ys) = some (decide (xs = ys)) := by
  show (match tdat 8 (ti o xs), tdat 8 (ti o' ys) with | some d, some e => some (PyData.eqv d e) | _, _ => none) = _
  rw [tdat_ti o 6, tdat_ti o' 6]
  simp only [eqv_ints]
theorem tdat_tl (o : Bool) (n : Nat) (L : List (List Int)) : tdat (n + 3) (tl o L) = some (.list (L.map fun xs => .list (xs.map .int))) := by
  show (allSome ((L.map (ti o)).map (tdat (n + 2)))).map PyData.list = _
  rw [List.map_map, allSome_all (tdat (n + 2) ∘ ti o) (fun xs : List Int => PyData.list (xs.map .int)) (fun a => tdat_ti o n a)]
  rfl
@[simp] theorem teq_tl (o o' : Bool) (L M : List (List Int)) : teq (tl o L) (tl o' M) = some (decide (L = M)) := by
  show (match tdat 8 (tl o L), tdat 8 (tl o' M) with | some d, some e => some (PyData.eqv d e) | _, _ => none) = _
  rw [tdat_tl o 5, tdat_tl o' 5]
  simp only
  rw [PyData.eqv, eqvAll_map _ eqv_ints]
theorem tdat_tp (n : Nat) (p : Int × Int) : tdat (n + 2) (tp p) = some (.tuple [.int p.1, .int p.2]) := rfl
theorem eqv_tp (p q : Int × Int) : PyData.eqv (.tuple [.int p.1, .int p.2]) (.tuple [.int q.1, .int q.2]) = decide (p = q) := by
  obtain ⟨a, b⟩ := p
  obtain ⟨c, d⟩ := q
  have := eqvAll_map PyData.int (fun a b => by rw [PyData.eqv]; by_cases h : a = b <;> simp [h]) [a, b] [c, d]
  rw [PyData.eqv]
  simp only [List.map_cons, List.map_nil] at this
  rw [this]
  by_cases h1 : a = c <;> by_cases h2 : b = d <;> simp [h1, h2]
theorem tdat_tps (o : Bool) (n : Nat) (ps : List (Int × Int)) : tdat (n + 3) (tps o ps) = some (.list (ps.map fun p => .tuple [.int p.1, .int p.2])) := by
  show (allSome ((ps.map tp).map (tdat (n + 2)))).map PyData.list = _
  rw [List.map_map, allSome_all (tdat (n + 2) ∘ tp) (fun p : Int × Int => PyData.tuple [.int p.1, .int p.2]) (fun a => tdat_tp n a)]
  rfl
@[simp] theorem teq_tps (o o' : Bool) (ps qs : List (Int × Int)) : teq (tps o ps) (tps o' qs) = some (decide (ps = qs)) := by
  show (match tdat 8 (tps o ps), tdat 8 (tps o' qs) with | some d, some e => some (PyData.eqv d e) | _, _ => none) = _
  rw [tdat_tps o 5, tdat_tps o' 5]
  simp only
  rw [PyData.eqv, eqvAll_map _ eqv_tp]
/-! ### lists of numbers, rows, pairs: changed -/
section
variable (ns : List Int) (L : List (List Int)) (ps : List (Int × Int)) (i j : Int) (row : List Int) (k : Nat) (p : List Nat) (t : T) (o : Bool)
@[simp] theorem app_ti : tmeth .append (ti true ns) [.int i] = if ns.length < sizeLine then some (.non, ti true (ns ++ [i])) else none := by
  unfold ti
  rw [meth_append, List.length_map, List.map_append]
  rfl
@[simp] theorem app_tl : tmeth .append (tl true L) [ti true row] = if L.length < sizeLine then some (.non, tl true (L ++ [row])) else none := by
  unfold tl
  rw [meth_append, List.length_map, List.map_append]
  rfl
@[simp] theorem app_tps : tmeth .append (tps true ps) [.tup [.int i, .int j]] = if ps.length < sizeLine then some (.non, tps true (ps ++ [(i, j)])) else none := by
  unfold tps
  rw [meth_append, List.length_map, List.map_append]
  rfl
@[simp] theorem set_ti : tsetop (ti true ns) (.int i) (.int j) = (L2.ixN ns.length i).map fun k => ti true (ns.set k j) := by
  unfold ti
  rw [setop_lst, List.length_map]
  congr 1
  funext k
  rw [List.map_set]
@[simp] theorem kids_tl : tkidsSet (tl true L) k (ti true row) = some (tl true (L.set k row)) := by
  unfold tl
  rw [kidsSet_lst, List.map_set]
@[simp] theorem subV_tl (r : Nat) : tsubV r p (tl true L) (.int i) = (L2.ixN L.length i).bind fun k => (L[k]?).map fun _ => .vw r (p ++ [k]) := by
  unfold tl
  rw [subV_lst, List.length_map]
  congr 1
  funext k
  rw [List.getElem?_map, Option.map_map]
  rfl
theorem nil_ti : T.lst true [] = ti true [] := rfl
theorem nil_tl : T.lst true [] = tl true [] := rfl
theorem nil_tps : T.lst true [] = tps true [] := rfl
@[simp] theorem fz_tp (q : Int × Int) : fz (tp q) = tp q := rfl
@[simp] theorem af_tp (q : Int × Int) : af (tp q) = true := rfl
@[simp] theorem nf_tp (q : Int × Int) : nf (tp q) = true := rfl
end
/-! ### a for over given things -/
@[simp] theorem wp_nx (ws : List Nat) (s : St) : (TO.nx s).wp ws = .nx (wipeS s ws) := Eq.trans rfl rfl
@[simp] theorem wp_ct (ws : List Nat) (s : St) : (TO.ct s).wp ws = .ct (wipeS s ws) := Eq.trans rfl rfl
@[simp] theorem wp_bk (ws : List Nat) (s : St) : (TO.bk s).wp ws = .bk (wipeS s ws) := Eq.trans rfl rfl
@[simp] theorem wp_rt (ws : List Nat) (t : T) (s : St) : (TO.rt t s).wp ws = .rt t s := Eq.trans rfl rfl
@[simp] theorem wp_ex (ws : List Nat) (c : Nat) (d : Option T) (s : St) : (TO.ex c d s).wp ws = .ex c d s := Eq.trans rfl rfl
/-- one turn -/
theorem tfB_one (c : Cf) (t : Tg) (p : List Stm) (u : V2) (s : St) : tfB c t p (.one u) s = (tlay c.P t u s).elim .bad fun s => txs c p s := by
  unfold tfB
  rw [tlayIt_one]
  cases tlay c.P t u s <;> rfl
theorem tfB_two (c : Cf) (t1 t2 : Tg) (p : List Stm) (u v : V2) (s : St) : tfB c (.tup [t1, t2]) p (.two u v) s = (tlays c.P [t1, t2] [u, v] s).elim .bad fun s => txs c p s := by
  unfold tfB
  rw [tlayIt_two]
  cases tlays c.P [t1, t2] [u, v] s <;> rfl
end Tv
namespace Tv
open Mi
open PySem hiding Env Ctx
/-! ### loops over what is read as they go -/
theorem tcl_J {α : Type} {nxt : Nat → St → Option (Option It)} {step : It → St → TR (Option T)} (xs : List α) (pk : α → Bool) (f : α → T) (J : St → Prop) (hx : xs.length ≤ 1000000)
    (he : ∀ s, J s → nxt xs.length s = some none)
    (hs : ∀ k x s, xs[k]? = some x → J s → ∃ it s', nxt k s = some (some it) ∧ step it s = .ok (if pk x = true then some (f x) else none) s' ∧ J s') :
    ∀ (n k : Nat) (acc : List T) (s : St), xs.length = k + n → acc.length ≤ k → J s → ∃ s', tcl nxt step n k acc s = .ok (acc ++ ((xs.drop k).filter pk).map f) s' ∧ J s' := by
  intro n
  induction n with
  | zero =>
    intro k acc s h ha hj
    refine ⟨s, ?_, hj⟩
    have := he s hj
    rw [show xs.length = k from h] at this
    unfold tcl
    rw [this, List.drop_eq_nil_of_le (by omega)]
    simp
  | succ n ih =>
    intro k acc s h ha hj
    have hk : k < xs.length := by omega
    obtain ⟨it, s1, h1, h2, h3⟩ := hs k _ s (List.getElem?_eq_getElem hk) hj
    unfold tcl
    rw [h1]
    simp only
    rw [h2, List.drop_eq_getElem_cons hk]
    by_cases hp : pk xs[k] = true
    · rw [if_pos hp, List.filter_cons_of_pos hp]
      simp only
      rw [if_pos (Nat.lt_of_le_of_lt (show acc.length ≤ 1000000 by omega) line_big)]
      obtain ⟨s2, h4, h5⟩ := ih (k + 1) (acc ++ [f xs[k]]) s1 (by omega) (by rw [List.length_append]; simp; omega) h3
      refine ⟨s2, ?_, h5⟩
      rw [h4]
      simp
    · rw [if_neg hp, List.filter_cons_of_neg hp]
      simp only
      exact ih (k + 1) acc s1 (by omega) (by omega) h3
theorem tlc_live {α : Type} {c : Cf} {own : List Nat} {t : Tg} {ifs : List E} {e : E} {s s1 sb : St} {ti : TI} (xs : List α) (pk : α → Bool) (f : α → T) (J : St → Prop) (ho : ownOk own t = true) (hx : xs.length ≤ 1000000) (h0 : J (wipeS s1 own))
    (he : ∀ s, J s → tnext ti xs.length s = some none)
    (hs : ∀ k x s, xs[k]? = some x → J s → ∃ it s', tnext ti k s = some (some it) ∧ lcStep c own t ifs e it s = .ok (if pk x = true then some (f x) else none) s' ∧ J s') (hb : ∀ s2, J s2 → backS s1.τ s2 own = sb) :
    tlcL c own t ifs e s (some (ti, xs.length, s1)) = .ok (.own (.lst true ((xs.filter pk).map f))) ⟨sb.τ, sb.α, sb.β.take s.β.length⟩ := by
  unfold ownOk at ho
  unfold tlcL
  simp only
  rw [if_neg (not_not_intro ho)]
  obtain ⟨s', h2, h3⟩ := tcl_J (step := lcStep c own t ifs e) xs pk f J hx he hs xs.length 0 [] (wipeS s1 own) (by simp) (by simp) h0
  rw [h2]
  simp only [List.nil_append, TR.bind_ok, hb s' h3, List.drop_zero]
/-- a for by an invariant, its source read as it goes -/
theorem tfl_J {nxt : Nat → St → Option (Option It)} {body : It → St → TO} (N : Nat) (I : Nat → St → Prop) (he : ∀ s, I N s → nxt N s = some none)
    (hs : ∀ k s, k < N → I k s → ∃ it s', nxt k s = some (some it) ∧ (body it s = .nx s' ∨ body it s = .ct s') ∧ I (k + 1) s') :
    ∀ (n k : Nat) (s : St), N = k + n → I k s → ∃ s', tfl nxt body n k s = .nx s' ∧ I N s' := by
  intro n
  induction n with
  | zero =>
    intro k s h hi
    have : k = N := by omega
    subst this
    refine ⟨s, ?_, hi⟩
    unfold tfl
    rw [he s hi]
  | succ n ih =>
    intro k s h hi
    obtain ⟨it, s1, h1, h2, h3⟩ := hs k s (by omega) hi
    obtain ⟨s2, h4, h5⟩ := ih (k + 1) s1 (by omega) h3
    refine ⟨s2, ?_, h5⟩
    unfold tfl
    rw [h1]
    simp only
    rcases h2 with h2 | h2 <;> (rw [h2]; exact h4)
theorem tfor_J {c : Cf} {t : Tg} {p : List Stm} {s : St} {ti : TI} {b : Nat} (N : Nat) (I : Nat → St → Prop) (h0 : I 0 (wipeS s (wsOf c (Mi.slots t) p))) (he : ∀ s, I N s → tnext ti N s = some none)
    (hs : ∀ k s, k < N → I k s → ∃ it s', tnext ti k s = some (some it) ∧ (tfB c t p it s = .nx s' ∨ tfB c t p it s = .ct s') ∧ I (k + 1) (wipeS s' (wsOf c (Mi.slots t) p))) :
    ∃ s', tfL c t p b (some (ti, N, s)) = .nx ⟨s'.τ, s'.α, s'.β.take b⟩ ∧ I N s' := by
  obtain ⟨s', h1, h2⟩ := tfl_J (nxt := tnext ti) (body := tfW c t p) N I he (fun k s hk hi => by
    obtain ⟨it, s', h1, h2, h3⟩ := hs k s hk hi
    refine ⟨it, _, h1, ?_, h3⟩
    unfold tfW
    rcases h2 with h2 | h2 <;> rw [h2]
    · exact .inl rfl
    · exact .inr rfl) N 0 _ (by omega) h0
  refine ⟨s', ?_, h2⟩
  unfold tfL
  simp only
  rw [h1]
  rfl
/-- a for over given things -/
theorem tfor_list {α : Type} {c : Cf} {t : Tg} {p : List Stm} {s : St} {b : Nat} (g : α → T) (xs : List α) (I : Nat → St → Prop) (h0 : I 0 (wipeS s (wsOf c (Mi.slots t) p))) (hb : ∀ k s, I k s → s.β.length = b)
    (hs : ∀ (k : Nat) (x : α) (s : St), xs[k]? = some x → I k s → ∃ s', (tfB c t p (.one (.own (g x))) s = .nx s' ∨ tfB c t p (.one (.own (g x))) s = .ct s') ∧ I (k + 1) (wipeS s' (wsOf c (Mi.slots t) p))) :
    ∃ s', tfL c t p b (some (.sq (.snap (xs.map g)), xs.length, s)) = .nx s' ∧ I xs.length s' := by
  obtain ⟨s', h1, h2⟩ := tfor_J (c := c) (t := t) (p := p) (b := b) (ti := .sq (.snap (xs.map g))) xs.length I h0 (fun s _ => by
    show (some ((xs.map g)[xs.length]?.map V2.own)).map _ = _
    rw [List.getElem?_eq_none (by simp)]
    rfl) (fun k s hk hi => by
    obtain ⟨s', h1, h2⟩ := hs k xs[k] s (List.getElem?_eq_getElem hk) hi
    refine ⟨.one (.own (g xs[k])), s', ?_, h1, h2⟩
    show (some ((xs.map g)[k]?.map V2.own)).map _ = _
    rw [List.getElem?_map, List.getElem?_eq_getElem hk]
    rfl)
  refine ⟨s', ?_, h2⟩
  rw [h1]
  obtain ⟨x, y, z⟩ := s'
  have := hb _ _ h2
  have h3 : z.length = b := this
  show TO.nx ⟨x, y, z.take b⟩ = _
  rw [List.take_of_length_le (by omega)]
/-- a for over a range -/
theorem tfor_rng {c : Cf} {t : Tg} {p : List Stm} {s : St} {b : Nat} (lo : Int) (n : Nat) (I : Nat → St → Prop) (h0 : I 0 (wipeS s (wsOf c (Mi.slots t) p))) (hb : ∀ k s, I k s → s.β.length = b)
    (hs : ∀ (k : Nat) (s : St), k < n → I k s → ∃ s', (tfB c t p (.one (.own (.int (lo + k)))) s = .nx s' ∨ tfB c t p (.one (.own (.int (lo + k)))) s = .ct s') ∧ I (k + 1) (wipeS s' (wsOf c (Mi.slots t) p))) :
    ∃ s', tfL c t p b (some (.sq (.snap (trng lo n)), n, s)) = .nx s' ∧ I n s' := by
  have := tfor_list (c := c) (t := t) (p := p) (s := s) (b := b) (fun (i : Nat) => T.int (lo + i)) (List.range n) I h0 hb (fun k x s hx hi => by
    have hk : k < n := by have := (List.getElem?_eq_some_iff.mp hx).1; simpa using this
    rw [List.getElem?_range hk] at hx
    cases hx
    exact hs k s hk hi)
  rw [List.length_range] at this
  exact this
/-- a while by a measure -/
theorem twl_J {c : St → TR Bool} {body : St → TO} (I : Nat → St → Prop) (Q : St → Prop)
    (hs : ∀ k s, I k s → (∃ s1, c s = .ok false s1 ∧ Q s1) ∨ ∃ s1 s2 k', c s = .ok true s1 ∧ (body s1 = .nx s2 ∨ body s1 = .ct s2) ∧ k' < k ∧ I k' s2) :
    ∀ (F k : Nat) (s : St), k ≤ F → I k s → ∃ s', twl c body F s = .nx s' ∧ Q s' := by
  intro F
  induction F with
  | zero =>
    intro k s hk hi
    rcases hs k s hi with ⟨s1, h1, h2⟩ | ⟨s1, s2, k', h1, h2, h3, h4⟩
    · refine ⟨s1, ?_, h2⟩
      unfold twl
      rw [h1]
      rfl
    · omega
  | succ F ih =>
    intro k s hk hi
    rcases hs k s hi with ⟨s1, h1, h2⟩ | ⟨s1, s2, k', h1, h2, h3, h4⟩
    · refine ⟨s1, ?_, h2⟩
      unfold twl
      rw [h1]
      rfl
    · obtain ⟨s3, h5, h6⟩ := ih k' s2 (by omega) h4
      refine ⟨s3, ?_, h6⟩
      unfold twl
      rw [h1]
      show (match body s1 with
        | .nx s' => twl c body F s'
        | .ct s' => twl c body F s'
        | .bk s' => .nx s'
        | o => o) = _
      rcases h2 with h2 | h2 <;> (rw [h2]; exact h5)
theorem twh_J {c : Cf} {d : E} {p : List Stm} {s : St} (I : Nat → St → Prop) (Q : St → Prop) (K : Nat) (hK : K ≤ wmax) (h0 : I K (wipeS s (wsOf c [] p)))
    (hs : ∀ k s, I k s → (∃ s1, twT c d s = .ok false s1 ∧ Q s1) ∨ ∃ s1 s2 k', twT c d s = .ok true s1 ∧ (twB c p s1 = .nx s2 ∨ twB c p s1 = .ct s2) ∧ k' < k ∧ I k' (wipeS s2 (wsOf c [] p))) :
    ∃ s', twl (twT c d) (twW c p) wmax (wipeS s (wsOf c [] p)) = .nx s' ∧ Q s' :=
  twl_J I Q (fun k s hi => by
    rcases hs k s hi with h | ⟨s1, s2, k', h1, h2, h3, h4⟩
    · exact .inl h
    · refine .inr ⟨s1, _, k', h1, ?_, h3, h4⟩
      unfold twW
      rcases h2 with h2 | h2 <;> rw [h2]
      · exact .inl rfl
      · exact .inr rfl) wmax K _ hK h0
/-! what stands next, of a live source -/
section
variable {r k : Nat} {p : List Nat}
theorem next_live {b : Nat} {t : T} {xs : List T} {s : St} (hb : s.β[b]? = some (some (r, p))) (hl : look s (.vw r p) = some t) (ht : tseq t = some xs) : tnext (.sq (.live b)) k s = some ((xs[k]?).map fun d => .one (seen d r (p ++ [k]))) := by
  show (elemAt s (.live b) k).map _ = _
  unfold elemAt
  simp only [hb, hl, ht, Option.map_some, Option.map_map]
  rfl
end
/-! whole numbers or None -/
def tov : Option Int → T
  | none => .non
  | some d => .int d
def tos (o : Bool) (xs : List (Option Int)) : T := .lst o (xs.map tov)
instance : Lf tov := ⟨fun a => by cases a <;> rfl, fun a => by cases a <;> rfl, fun a => by cases a <;> rfl⟩
section
variable (o : Bool) (xs : List (Option Int)) (i j : Int) (r k : Nat) (p : List Nat) (d : Option Int)
@[simp] theorem fzs_tov : fzs (xs.map tov) = xs.map tov := Lf.fzs ..
@[simp] theorem afs_tov : afs (xs.map tov) = true := Lf.afs ..
@[simp] theorem nfs_tov : nfs (xs.map tov) = true := Lf.nfs ..
@[simp] theorem fz_tov : fz (tov d) = tov d := Lf.fz _
@[simp] theorem af_tov : af (tov d) = true := Lf.af _
@[simp] theorem nf_tov : nf (tov d) = true := Lf.nf _
@[simp] theorem tov_none : tov none = .non := Eq.trans rfl rfl
@[simp] theorem tov_some : tov (some i) = .int i := Eq.trans rfl rfl
@[simp] theorem fz_tos : fz (tos o xs) = tos false xs := by unfold tos; rw [fz_lst, fzs_tov]
@[simp] theorem af_tos : af (tos o xs) = !o := by unfold tos; rw [af_lst, afs_tov, Bool.and_true]
@[simp] theorem nf_tos : nf (tos o xs) = o := by unfold tos; rw [nf_lst, nfs_tov, Bool.and_true]
@[simp] theorem tlst_tos : tlst (tos o xs) = some (xs.map tov) := Eq.trans rfl rfl
@[simp] theorem tseq_tos : tseq (tos o xs) = some (xs.map tov) := Eq.trans rfl rfl
@[simp] theorem tkids_tos : tkids (tos o xs) = xs.map tov := Eq.trans rfl rfl
@[simp] theorem isLst_tos : isLst (some (tos o xs)) = true := Eq.trans rfl rfl
@[simp] theorem tisNon_tov : tisNon (tov d) = d.isNone := by cases d <;> rfl
@[simp] theorem len_tos : tprim .len [tos o xs] = some (.int xs.length) := by unfold tos; rw [len_lst, List.length_map]
@[simp] theorem subO_tos : tsubO (tos o xs) (.int i) = (L2.ixN xs.length i).bind fun k => (xs[k]?).map fun d => .own (tov d) := by
  unfold tos
  rw [subO_lst, List.length_map]
  congr 1
  funext k
  rw [List.getElem?_map, Option.map_map]
  rfl
@[simp] theorem subV_tos : tsubV r p (tos o xs) (.int i) = (L2.ixN xs.length i).bind fun k => (xs[k]?).map fun d => .own (tov d) := by
  unfold tos
  rw [subV_lst, List.length_map]
  congr 1
  funext k
  rw [List.getElem?_map, Option.map_map]
  congr 1
  funext d
  show seen (tov d) r (p ++ [k]) = _
  rw [seen_eq, af_tov]
  rfl
@[simp] theorem set_tos : tsetop (tos true xs) (.int i) (.int j) = (L2.ixN xs.length i).map fun k => tos true (xs.set k (some j)) := by
  unfold tos
  rw [setop_lst, List.length_map]
  congr 1
  funext k
  rw [List.map_set]
  rfl
end
/-- a comprehension over a list that goes on living, numbers in it, one slot of its own -/
theorem tlc1_live {c : Cf} {v r : Nat} {t : Tg} {ifs : List E} {e : E} {τ : List (Option T)} (xs : List Int) (pk : Int → Bool) (f : Int → T) (hr : τ[r]? = some (some (ti true xs))) (hv : v < τ.length) (hvr : v ≠ r) (ho : ownOk [v] t = true) (hx : xs.length ≤ 1000000)
    (hs : ∀ x ∈ xs, ∀ o, ∃ o', lcStep c [v] t ifs e (.one (.own (.int x))) ⟨τ.set v o, [], [some (r, [])]⟩ = .ok (if pk x = true then some (f x) else none) ⟨τ.set v o', [], [some (r, [])]⟩) :
    tlcL c [v] t ifs e ⟨τ, [], []⟩ (some (.sq (.live 0), xs.length, ⟨τ, [], [some (r, [])]⟩)) = .ok (.own (.lst true ((xs.filter pk).map f))) ⟨τ, [], []⟩ := by
  have nx : ∀ m o, tnext (.sq (.live 0)) m (⟨τ.set v o, [], [some (r, [])]⟩ : St) = some (((xs.map T.int)[m]?).map fun d => .one (seen d r ([] ++ [m]))) := fun m o =>
    next_live (t := ti true xs) (xs := xs.map T.int) rfl (by
      rw [look_vw', at_mk, List.getElem?_set, if_neg hvr, hr]
      rfl) (by simp)
  have key := tlc_live (c := c) (own := [v]) (t := t) (ifs := ifs) (e := e) (s := ⟨τ, [], []⟩) (s1 := ⟨τ, [], [some (r, [])]⟩) (ti := .sq (.live 0)) (sb := ⟨τ, [], [some (r, [])]⟩) xs pk f (fun s => ∃ o, s = ⟨τ.set v o, [], [some (r, [])]⟩) ho hx ⟨none, by
      rw [wipe_cons, wipe_nil, setS_mk, killA0_nil, killB0_some, if_neg (by omega), killB0_nil]⟩ (fun s ⟨o, e⟩ => by
      rw [e, nx, List.getElem?_eq_none (by simp)]
      rfl) (fun k x s hk ⟨o, e⟩ => by
      subst e
      obtain ⟨o', h⟩ := hs x (List.mem_of_getElem? hk) o
      refine ⟨_, _, ?_, h, o', rfl⟩
      rw [nx, List.getElem?_map, hk]
      simp) (fun s1 ⟨o, e⟩ => by
      subst e
      rw [back_cons, back_nil, setS_mk, killA0_nil, killB0_some, if_neg (by omega), killB0_nil, List.set_set]
      congr 1
      rw [List.getElem?_eq_getElem hv]
      exact List.set_getElem_self hv)
  exact key
end Tv
namespace Df
open Mi Tv
open PySem hiding Env Ctx Sem
/-! least_first (row, at) -/
def B_least_first_41 : List Stm := [(.ifS (.cmp .eq (.pr .len [(.var 0)]) (.cst (.int 0))) [(.ret (.lst []))] []), (.asg (.name 1) (.me .index (.var 0) [(.pr .min [(.var 0)])])), (.ret (.bin .add (.slL (.var 0) (.var 1)) (.slH (.var 0) (.var 1))))]
noncomputable def L_least_first_41 : Cal := []
theorem x_least_first_41 : ∃ f : Sem, f = Mi.run (ctxOf L_least_first_41) 2 B_least_first_41 := ⟨_, rfl⟩
noncomputable def F_least_first_41 : Sem := x_least_first_41.choose
theorem F_least_first_41_eq : F_least_first_41 = Mi.run (ctxOf L_least_first_41) 2 B_least_first_41 := x_least_first_41.choose_spec
noncomputable def T_least_first_41 : TCal := []
noncomputable def C_least_first_41 : Cf := ⟨tctx T_least_first_41, [], fun i => decide (i ∈ ([] : List Nat))⟩
@[simp] theorem C_least_first_41_P : C_least_first_41.P = [] := Eq.trans rfl rfl
@[simp] theorem C_least_first_41_M (i : Nat) : C_least_first_41.M i = decide (i ∈ ([] : List Nat)) := Eq.trans rfl rfl
theorem y_least_first_41 : ∃ f : TSem, f = trun C_least_first_41.C 2 C_least_first_41.P C_least_first_41.M B_least_first_41 := ⟨_, rfl⟩
noncomputable def G_least_first_41 : TSem := y_least_first_41.choose
theorem G_least_first_41_eq : G_least_first_41 = trun (tctx T_least_first_41) 2 [] C_least_first_41.M B_least_first_41 := y_least_first_41.choose_spec
theorem G_least_first_41_run (us : List T) : G_least_first_41 us = (txs C_least_first_41 B_least_first_41 ⟨us.map some ++ List.replicate (2 - us.length) none, [], []⟩).fin [] := congrFun y_least_first_41.choose_spec us
theorem ok_least_first_41 : FnOK F_least_first_41 ⟨1, [], [], G_least_first_41⟩ := by rw [F_least_first_41_eq, G_least_first_41_eq]; exact run_ok ctx_nil
/-! right_of (columns, place) -/
def B_right_of_126 : List Stm := [(.ret (.bin .add (.bin .sub (.var 1) (.bin .mod (.var 1) (.var 0))) (.bin .mod (.bin .add (.bin .mod (.var 1) (.var 0)) (.cst (.int 1))) (.var 0))))]
noncomputable def L_right_of_126 : Cal := []
theorem x_right_of_126 : ∃ f : Sem, f = Mi.run (ctxOf L_right_of_126) 2 B_right_of_126 := ⟨_, rfl⟩
noncomputable def F_right_of_126 : Sem := x_right_of_126.choose
theorem F_right_of_126_eq : F_right_of_126 = Mi.run (ctxOf L_right_of_126) 2 B_right_of_126 := x_right_of_126.choose_spec
noncomputable def T_right_of_126 : TCal := []
noncomputable def C_right_of_126 : Cf := ⟨tctx T_right_of_126, [], fun i => decide (i ∈ ([] : List Nat))⟩
@[simp] theorem C_right_of_126_P : C_right_of_126.P = [] := Eq.trans rfl rfl
@[simp] theorem C_right_of_126_M (i : Nat) : C_right_of_126.M i = decide (i ∈ ([] : List Nat)) := Eq.trans rfl rfl
theorem y_right_of_126 : ∃ f : TSem, f = trun C_right_of_126.C 2 C_right_of_126.P C_right_of_126.M B_right_of_126 := ⟨_, rfl⟩
noncomputable def G_right_of_126 : TSem := y_right_of_126.choose
theorem G_right_of_126_eq : G_right_of_126 = trun (tctx T_right_of_126) 2 [] C_right_of_126.M B_right_of_126 := y_right_of_126.choose_spec
theorem G_right_of_126_run (us : List T) : G_right_of_126 us = (txs C_right_of_126 B_right_of_126 ⟨us.map some ++ List.replicate (2 - us.length) none, [], []⟩).fin [] := congrFun y_right_of_126.choose_spec us
theorem ok_right_of_126 : FnOK F_right_of_126 ⟨2, [], [], G_right_of_126⟩ := by rw [F_right_of_126_eq, G_right_of_126_eq]; exact run_ok ctx_nil
/-! upper_of (rows, columns, shift, place) -/
def B_upper_of_127 : List Stm := [(.ifS (.cmp .lt (.bin .add (.var 3) (.var 1)) (.bin .mul (.var 0) (.var 1))) [(.ret (.bin .add (.var 3) (.var 1)))] []), (.ret (.bin .mod (.bin .add (.bin .mod (.var 3) (.var 1)) (.var 2)) (.var 1)))]
noncomputable def L_upper_of_127 : Cal := []
theorem x_upper_of_127 : ∃ f : Sem, f = Mi.run (ctxOf L_upper_of_127) 4 B_upper_of_127 := ⟨_, rfl⟩
noncomputable def F_upper_of_127 : Sem := x_upper_of_127.choose
theorem F_upper_of_127_eq : F_upper_of_127 = Mi.run (ctxOf L_upper_of_127) 4 B_upper_of_127 := x_upper_of_127.choose_spec
noncomputable def T_upper_of_127 : TCal := []
noncomputable def C_upper_of_127 : Cf := ⟨tctx T_upper_of_127, [], fun i => decide (i ∈ ([] : List Nat))⟩
@[simp] theorem C_upper_of_127_P : C_upper_of_127.P = [] := Eq.trans rfl rfl
@[simp] theorem C_upper_of_127_M (i : Nat) : C_upper_of_127.M i = decide (i ∈ ([] : List Nat)) := Eq.trans rfl rfl
theorem y_upper_of_127 : ∃ f : TSem, f = trun C_upper_of_127.C 4 C_upper_of_127.P C_upper_of_127.M B_upper_of_127 := ⟨_, rfl⟩
noncomputable def G_upper_of_127 : TSem := y_upper_of_127.choose
theorem G_upper_of_127_eq : G_upper_of_127 = trun (tctx T_upper_of_127) 4 [] C_upper_of_127.M B_upper_of_127 := y_upper_of_127.choose_spec
theorem G_upper_of_127_run (us : List T) : G_upper_of_127 us = (txs C_upper_of_127 B_upper_of_127 ⟨us.map some ++ List.replicate (4 - us.length) none, [], []⟩).fin [] := congrFun y_upper_of_127.choose_spec us
theorem ok_upper_of_127 : FnOK F_upper_of_127 ⟨4, [], [], G_upper_of_127⟩ := by rw [F_upper_of_127_eq, G_upper_of_127_eq]; exact run_ok ctx_nil
/-! made_threes (rows, columns, shift, many, left, down, back, place, upper, told, row) -/
abbrev W_made_threes_142_1 : List Stm := [(.asg (.name 8) (.call 127 [(.var 0), (.var 1), (.var 2), (.var 7)])), (.set (.var 4) (.call 126 [(.var 1), (.var 7)]) (.bin .add (.bin .mul (.cst (.int 6)) (.var 7)) (.cst (.int 1)))), (.set (.var 5) (.var 8) (.bin .add (.bin .mul (.cst (.int 6)) (.var 7)) (.cst (.int 3)))), (.set (.var 6) (.call 126 [(.var 1), (.var 8)]) (.bin .add (.bin .mul (.cst (.int 6)) (.var 7)) (.cst (.int 5))))]
abbrev W_made_threes_142_2 : List Stm := [(.asg (.name 10) (.lst [(.bin .add (.bin .mul (.cst (.int 6)) (.var 7)) (.cst (.int 2))), (.bin .add (.bin .mul (.cst (.int 6)) (.var 7)) (.cst (.int 4))), (.bin .mul (.cst (.int 6)) (.var 7)), (.sub (.var 5) (.var 7)), (.sub (.var 6) (.var 7)), (.sub (.var 4) (.var 7))])), (.exp (.me .append (.var 9) [(.call 41 [(.var 10)])]))]
def B_made_threes_142 : List Stm := [(.asg (.name 3) (.bin .mul (.var 0) (.var 1))), (.asg (.name 4) (.bin .mul (.lst [(.cst (.int 0))]) (.var 3))), (.asg (.name 5) (.bin .mul (.lst [(.cst (.int 0))]) (.var 3))), (.asg (.name 6) (.bin .mul (.lst [(.cst (.int 0))]) (.var 3))), (.for (.name 7) .rng1 [(.var 3)] W_made_threes_142_1), (.asg (.name 9) (.lst [])), (.for (.name 7) .rng1 [(.var 3)] W_made_threes_142_2), (.ret (.var 9))]
noncomputable def L_made_threes_142 : Cal := [("least_first", 41, 1, F_least_first_41), ("right_of", 126, 2, F_right_of_126), ("upper_of", 127, 4, F_upper_of_127)]
theorem x_made_threes_142 : ∃ f : Sem, f = Mi.run (ctxOf L_made_threes_142) 11 B_made_threes_142 := ⟨_, rfl⟩
noncomputable def F_made_threes_142 : Sem := x_made_threes_142.choose
theorem F_made_threes_142_eq : F_made_threes_142 = Mi.run (ctxOf L_made_threes_142) 11 B_made_threes_142 := x_made_threes_142.choose_spec
noncomputable def T_made_threes_142 : TCal := [(41, ⟨1, [], [], G_least_first_41⟩), (126, ⟨2, [], [], G_right_of_126⟩), (127, ⟨4, [], [], G_upper_of_127⟩)]
noncomputable def C_made_threes_142 : Cf := ⟨tctx T_made_threes_142, [], fun i => decide (i ∈ ([1007, 1008, 1010] : List Nat))⟩
@[simp] theorem C_made_threes_142_41 : C_made_threes_142.C 41 = some ⟨1, [], [], G_least_first_41⟩ := Eq.trans rfl rfl
@[simp] theorem C_made_threes_142_126 : C_made_threes_142.C 126 = some ⟨2, [], [], G_right_of_126⟩ := Eq.trans rfl rfl
@[simp] theorem C_made_threes_142_127 : C_made_threes_142.C 127 = some ⟨4, [], [], G_upper_of_127⟩ := Eq.trans rfl rfl
@[simp] theorem ws_made_threes_142_1 : wsOf C_made_threes_142 [7] W_made_threes_142_1 = [7, 8] := Eq.trans rfl rfl
@[simp] theorem ws_made_threes_142_2 : wsOf C_made_threes_142 [7] W_made_threes_142_2 = [7, 10] := Eq.trans rfl rfl
@[simp] theorem C_made_threes_142_P : C_made_threes_142.P = [] := Eq.trans rfl rfl
@[simp] theorem C_made_threes_142_M (i : Nat) : C_made_threes_142.M i = decide (i ∈ ([1007, 1008, 1010] : List Nat)) := Eq.trans rfl rfl
theorem y_made_threes_142 : ∃ f : TSem, f = trun C_made_threes_142.C 11 C_made_threes_142.P C_made_threes_142.M B_made_threes_142 := ⟨_, rfl⟩
noncomputable def G_made_threes_142 : TSem := y_made_threes_142.choose
theorem G_made_threes_142_eq : G_made_threes_142 = trun (tctx T_made_threes_142) 11 [] C_made_threes_142.M B_made_threes_142 := y_made_threes_142.choose_spec
theorem G_made_threes_142_run (us : List T) : G_made_threes_142 us = (txs C_made_threes_142 B_made_threes_142 ⟨us.map some ++ List.replicate (11 - us.length) none, [], []⟩).fin [] := congrFun y_made_threes_142.choose_spec us
theorem ok_made_threes_142 : FnOK F_made_threes_142 ⟨3, [], [], G_made_threes_142⟩ := by rw [F_made_threes_142_eq, G_made_threes_142_eq]; exact run_ok (ctx_cons rfl ok_least_first_41 (ctx_cons rfl ok_right_of_126 (ctx_cons rfl ok_upper_of_127 ctx_nil)))
/-! ask_numbers (rows, columns, shift) -/
def B_ask_numbers_829 : List Stm := [(.ifS (.or (.cmp .lt (.var 0) (.cst (.int 1))) (.or (.cmp .lt (.var 1) (.cst (.int 1))) (.or (.cmp .lt (.var 2) (.cst (.int 0))) (.or (.cmp .ge (.var 2) (.var 1)) (.cmp .gt (.bin .mul (.var 0) (.var 1)) (.cst (.int 40))))))) [(.raise 8)] [])]
noncomputable def L_ask_numbers_829 : Cal := []
theorem x_ask_numbers_829 : ∃ f : Sem, f = Mi.run (ctxOf L_ask_numbers_829) 3 B_ask_numbers_829 := ⟨_, rfl⟩
noncomputable def F_ask_numbers_829 : Sem := x_ask_numbers_829.choose
theorem F_ask_numbers_829_eq : F_ask_numbers_829 = Mi.run (ctxOf L_ask_numbers_829) 3 B_ask_numbers_829 := x_ask_numbers_829.choose_spec
noncomputable def T_ask_numbers_829 : TCal := []
noncomputable def C_ask_numbers_829 : Cf := ⟨tctx T_ask_numbers_829, [], fun i => decide (i ∈ ([] : List Nat))⟩
@[simp] theorem C_ask_numbers_829_P : C_ask_numbers_829.P = [] := Eq.trans rfl rfl
@[simp] theorem C_ask_numbers_829_M (i : Nat) : C_ask_numbers_829.M i = decide (i ∈ ([] : List Nat)) := Eq.trans rfl rfl
theorem y_ask_numbers_829 : ∃ f : TSem, f = trun C_ask_numbers_829.C 3 C_ask_numbers_829.P C_ask_numbers_829.M B_ask_numbers_829 := ⟨_, rfl⟩
noncomputable def G_ask_numbers_829 : TSem := y_ask_numbers_829.choose
theorem G_ask_numbers_829_eq : G_ask_numbers_829 = trun (tctx T_ask_numbers_829) 3 [] C_ask_numbers_829.M B_ask_numbers_829 := y_ask_numbers_829.choose_spec
theorem G_ask_numbers_829_run (us : List T) : G_ask_numbers_829 us = (txs C_ask_numbers_829 B_ask_numbers_829 ⟨us.map some ++ List.replicate (3 - us.length) none, [], []⟩).fin [] := congrFun y_ask_numbers_829.choose_spec us
theorem ok_ask_numbers_829 : FnOK F_ask_numbers_829 ⟨3, [], [], G_ask_numbers_829⟩ := by rw [F_ask_numbers_829_eq, G_ask_numbers_829_eq]; exact run_ok ctx_nil
/-! threes (rows, columns, shift) -/
def B_threes_831 : List Stm := [(.exp (.call 829 [(.var 0), (.var 1), (.var 2)])), (.ret (.call 142 [(.var 0), (.var 1), (.var 2)]))]
noncomputable def L_threes_831 : Cal := [("made_threes", 142, 3, F_made_threes_142), ("ask_numbers", 829, 3, F_ask_numbers_829)]
theorem x_threes_831 : ∃ f : Sem, f = Mi.run (ctxOf L_threes_831) 3 B_threes_831 := ⟨_, rfl⟩
noncomputable def F_threes_831 : Sem := x_threes_831.choose
theorem F_threes_831_eq : F_threes_831 = Mi.run (ctxOf L_threes_831) 3 B_threes_831 := x_threes_831.choose_spec
noncomputable def T_threes_831 : TCal := [(142, ⟨3, [], [], G_made_threes_142⟩), (829, ⟨3, [], [], G_ask_numbers_829⟩)]
noncomputable def C_threes_831 : Cf := ⟨tctx T_threes_831, [], fun i => decide (i ∈ ([] : List Nat))⟩
@[simp] theorem C_threes_831_142 : C_threes_831.C 142 = some ⟨3, [], [], G_made_threes_142⟩ := Eq.trans rfl rfl
@[simp] theorem C_threes_831_829 : C_threes_831.C 829 = some ⟨3, [], [], G_ask_numbers_829⟩ := Eq.trans rfl rfl
@[simp] theorem C_threes_831_P : C_threes_831.P = [] := Eq.trans rfl rfl
@[simp] theorem C_threes_831_M (i : Nat) : C_threes_831.M i = decide (i ∈ ([] : List Nat)) := Eq.trans rfl rfl
theorem y_threes_831 : ∃ f : TSem, f = trun C_threes_831.C 3 C_threes_831.P C_threes_831.M B_threes_831 := ⟨_, rfl⟩
noncomputable def G_threes_831 : TSem := y_threes_831.choose
theorem G_threes_831_eq : G_threes_831 = trun (tctx T_threes_831) 3 [] C_threes_831.M B_threes_831 := y_threes_831.choose_spec
theorem G_threes_831_run (us : List T) : G_threes_831 us = (txs C_threes_831 B_threes_831 ⟨us.map some ++ List.replicate (3 - us.length) none, [], []⟩).fin [] := congrFun y_threes_831.choose_spec us
theorem ok_threes_831 : FnOK F_threes_831 ⟨3, [], [], G_threes_831⟩ := by rw [F_threes_831_eq, G_threes_831_eq]; exact run_ok (ctx_cons rfl ok_made_threes_142 (ctx_cons rfl ok_ask_numbers_829 ctx_nil))
/-! l_mixed (_law_cell, _law_k, _law_many, _law_one) -/
def B_l_mixed_131 : List Stm := [(.asg (.name 3) (.bin .mod (.bin .pow (.bin .add (.bin .add (.bin .mod (.var 0) (.cst (.int 2147483647))) (.bin .mul (.cst (.int 40503)) (.var 1))) (.cst (.int 17))) (.cst (.int 5))) (.cst (.int 2147483647)))), (.ret (.bin .mod (.bin .mod (.bin .mul (.bin .mod (.bin .mul (.var 3) (.bin .add (.cst (.int 48271)) (.var 1))) (.cst (.int 999999937))) (.cst (.int 39373))) (.cst (.int 2147483629))) (.var 2)))]
noncomputable def L_l_mixed_131 : Cal := []
theorem x_l_mixed_131 : ∃ f : Sem, f = Mi.run (ctxOf L_l_mixed_131) 4 B_l_mixed_131 := ⟨_, rfl⟩
noncomputable def F_l_mixed_131 : Sem := x_l_mixed_131.choose
theorem F_l_mixed_131_eq : F_l_mixed_131 = Mi.run (ctxOf L_l_mixed_131) 4 B_l_mixed_131 := x_l_mixed_131.choose_spec
noncomputable def T_l_mixed_131 : TCal := []
noncomputable def C_l_mixed_131 : Cf := ⟨tctx T_l_mixed_131, [], fun i => decide (i ∈ ([] : List Nat))⟩
@[simp] theorem C_l_mixed_131_P : C_l_mixed_131.P = [] := Eq.trans rfl rfl
@[simp] theorem C_l_mixed_131_M (i : Nat) : C_l_mixed_131.M i = decide (i ∈ ([] : List Nat)) := Eq.trans rfl rfl
theorem y_l_mixed_131 : ∃ f : TSem, f = trun C_l_mixed_131.C 4 C_l_mixed_131.P C_l_mixed_131.M B_l_mixed_131 := ⟨_, rfl⟩
noncomputable def G_l_mixed_131 : TSem := y_l_mixed_131.choose
theorem G_l_mixed_131_eq : G_l_mixed_131 = trun (tctx T_l_mixed_131) 4 [] C_l_mixed_131.M B_l_mixed_131 := y_l_mixed_131.choose_spec
theorem G_l_mixed_131_run (us : List T) : G_l_mixed_131 us = (txs C_l_mixed_131 B_l_mixed_131 ⟨us.map some ++ List.replicate (4 - us.length) none, [], []⟩).fin [] := congrFun y_l_mixed_131.choose_spec us
theorem ok_l_mixed_131 : FnOK F_l_mixed_131 ⟨3, [], [], G_l_mixed_131⟩ := by rw [F_l_mixed_131_eq, G_l_mixed_131_eq]; exact run_ok ctx_nil
/-! l_take (_law_box, _law_many, _law_cell, _law_draw) -/
def B_l_take_132 : List Stm := [(.set (.var 0) (.cst (.int 3)) (.bin .add (.sub (.var 0) (.cst (.int 3))) (.cst (.int 1)))), (.asg (.name 2) (.cst (.int 0))), (.ifS (.and (.cmp .eq (.sub (.var 0) (.cst (.int 2))) (.cst (.int 0))) (.cmp .lt (.sub (.var 0) (.cst (.int 1))) (.pr .len [(.sub (.var 0) (.cst (.int 0)))]))) [(.asg (.name 2) (.sub (.sub (.var 0) (.cst (.int 0))) (.sub (.var 0) (.cst (.int 1))))), (.set (.var 0) (.cst (.int 1)) (.bin .add (.sub (.var 0) (.cst (.int 1))) (.cst (.int 1)))), (.ifS (.cmp .lt (.var 2) (.bin .pow (.cst (.int 10)) (.cst (.int 18)))) [(.ret (.call 131 [(.var 2), (.sub (.var 0) (.cst (.int 3))), (.var 1)]))] []), (.set (.var 0) (.cst (.int 2)) (.var 2))] []), (.ifS (.cmp .gt (.sub (.var 0) (.cst (.int 2))) (.cst (.int 0))) [(.asg (.name 3) (.bin .mod (.sub (.var 0) (.cst (.int 2))) (.var 1))), (.set (.var 0) (.cst (.int 2)) (.bin .fdiv (.sub (.var 0) (.cst (.int 2))) (.var 1))), (.ret (.var 3))] []), (.ifS (.cmp .gt (.pr .len [(.sub (.var 0) (.cst (.int 0)))]) (.cst (.int 0))) [(.asg (.name 2) (.sub (.sub (.var 0) (.cst (.int 0))) (.bin .mod (.sub (.var 0) (.cst (.int 3))) (.pr .len [(.sub (.var 0) (.cst (.int 0)))]))))] []), (.ret (.call 131 [(.var 2), (.sub (.var 0) (.cst (.int 3))), (.var 1)]))]
noncomputable def L_l_take_132 : Cal := [("_law_mixed", 131, 3, F_l_mixed_131)]
theorem x_l_take_132 : ∃ f : Sem, f = Mi.run (ctxOf L_l_take_132) 4 B_l_take_132 := ⟨_, rfl⟩
noncomputable def F_l_take_132 : Sem := x_l_take_132.choose
theorem F_l_take_132_eq : F_l_take_132 = Mi.run (ctxOf L_l_take_132) 4 B_l_take_132 := x_l_take_132.choose_spec
noncomputable def T_l_take_132 : TCal := [(131, ⟨3, [], [], G_l_mixed_131⟩)]
noncomputable def C_l_take_132 : Cf := ⟨tctx T_l_take_132, [0], fun i => decide (i ∈ ([] : List Nat))⟩
@[simp] theorem C_l_take_132_131 : C_l_take_132.C 131 = some ⟨3, [], [], G_l_mixed_131⟩ := Eq.trans rfl rfl
@[simp] theorem C_l_take_132_P : C_l_take_132.P = [0] := Eq.trans rfl rfl
@[simp] theorem C_l_take_132_M (i : Nat) : C_l_take_132.M i = decide (i ∈ ([] : List Nat)) := Eq.trans rfl rfl
theorem y_l_take_132 : ∃ f : TSem, f = trun C_l_take_132.C 4 C_l_take_132.P C_l_take_132.M B_l_take_132 := ⟨_, rfl⟩
noncomputable def G_l_take_132 : TSem := y_l_take_132.choose
theorem G_l_take_132_eq : G_l_take_132 = trun (tctx T_l_take_132) 4 [0] C_l_take_132.M B_l_take_132 := y_l_take_132.choose_spec
theorem G_l_take_132_run (us : List T) : G_l_take_132 us = (txs C_l_take_132 B_l_take_132 ⟨us.map some ++ List.replicate (4 - us.length) none, [], []⟩).fin [0] := congrFun y_l_take_132.choose_spec us
theorem ok_l_take_132 : FnOK F_l_take_132 ⟨2, [0], [], G_l_take_132⟩ := by rw [F_l_take_132_eq, G_l_take_132_eq]; exact run_ok (ctx_cons rfl ok_l_mixed_131 ctx_nil)
/-! l_whole (_law_found) -/
def B_l_whole_5 : List Stm := [(.ret (.and (.isi (.var 0) "int") (.not (.isi (.var 0) "bool"))))]
noncomputable def L_l_whole_5 : Cal := []
theorem x_l_whole_5 : ∃ f : Sem, f = Mi.run (ctxOf L_l_whole_5) 1 B_l_whole_5 := ⟨_, rfl⟩
noncomputable def F_l_whole_5 : Sem := x_l_whole_5.choose
theorem F_l_whole_5_eq : F_l_whole_5 = Mi.run (ctxOf L_l_whole_5) 1 B_l_whole_5 := x_l_whole_5.choose_spec
noncomputable def T_l_whole_5 : TCal := []
noncomputable def C_l_whole_5 : Cf := ⟨tctx T_l_whole_5, [], fun i => decide (i ∈ ([] : List Nat))⟩
@[simp] theorem C_l_whole_5_P : C_l_whole_5.P = [] := Eq.trans rfl rfl
@[simp] theorem C_l_whole_5_M (i : Nat) : C_l_whole_5.M i = decide (i ∈ ([] : List Nat)) := Eq.trans rfl rfl
theorem y_l_whole_5 : ∃ f : TSem, f = trun C_l_whole_5.C 1 C_l_whole_5.P C_l_whole_5.M B_l_whole_5 := ⟨_, rfl⟩
noncomputable def G_l_whole_5 : TSem := y_l_whole_5.choose
theorem G_l_whole_5_eq : G_l_whole_5 = trun (tctx T_l_whole_5) 1 [] C_l_whole_5.M B_l_whole_5 := y_l_whole_5.choose_spec
theorem G_l_whole_5_run (us : List T) : G_l_whole_5 us = (txs C_l_whole_5 B_l_whole_5 ⟨us.map some ++ List.replicate (1 - us.length) none, [], []⟩).fin [] := congrFun y_l_whole_5.choose_spec us
theorem ok_l_whole_5 : FnOK F_l_whole_5 ⟨1, [], [], G_l_whole_5⟩ := by rw [F_l_whole_5_eq, G_l_whole_5_eq]; exact run_ok ctx_nil
/-! l_row (_law_found, _law_due, _law_at, _law_number) -/
abbrev W_l_row_133_1 : List Stm := [(.ifS (.or (.not (.call 5 [(.sub (.var 0) (.var 2))])) (.cmp .ne (.sub (.var 0) (.var 2)) (.var 3))) [(.ret (.cst (.bl false)))] [])]
def B_l_row_133 : List Stm := [(.ifS (.or (.not (.isi (.var 0) "list")) (.cmp .ne (.pr .len [(.var 0)]) (.pr .len [(.var 1)]))) [(.ret (.cst (.bl false)))] []), (.for (.tup [(.name 2), (.name 3)]) .enum [(.var 1)] W_l_row_133_1), (.ret (.cst (.bl true)))]
noncomputable def L_l_row_133 : Cal := [("_law_whole", 5, 1, F_l_whole_5)]
theorem x_l_row_133 : ∃ f : Sem, f = Mi.run (ctxOf L_l_row_133) 4 B_l_row_133 := ⟨_, rfl⟩
noncomputable def F_l_row_133 : Sem := x_l_row_133.choose
theorem F_l_row_133_eq : F_l_row_133 = Mi.run (ctxOf L_l_row_133) 4 B_l_row_133 := x_l_row_133.choose_spec
noncomputable def T_l_row_133 : TCal := [(5, ⟨1, [], [], G_l_whole_5⟩)]
noncomputable def C_l_row_133 : Cf := ⟨tctx T_l_row_133, [], fun i => decide (i ∈ ([1002, 1003] : List Nat))⟩
@[simp] theorem C_l_row_133_5 : C_l_row_133.C 5 = some ⟨1, [], [], G_l_whole_5⟩ := Eq.trans rfl rfl
@[simp] theorem ws_l_row_133_1 : wsOf C_l_row_133 [2, 3] W_l_row_133_1 = [2, 3] := Eq.trans rfl rfl
@[simp] theorem C_l_row_133_P : C_l_row_133.P = [] := Eq.trans rfl rfl
@[simp] theorem C_l_row_133_M (i : Nat) : C_l_row_133.M i = decide (i ∈ ([1002, 1003] : List Nat)) := Eq.trans rfl rfl
theorem y_l_row_133 : ∃ f : TSem, f = trun C_l_row_133.C 4 C_l_row_133.P C_l_row_133.M B_l_row_133 := ⟨_, rfl⟩
noncomputable def G_l_row_133 : TSem := y_l_row_133.choose
theorem G_l_row_133_eq : G_l_row_133 = trun (tctx T_l_row_133) 4 [] C_l_row_133.M B_l_row_133 := y_l_row_133.choose_spec
theorem G_l_row_133_run (us : List T) : G_l_row_133 us = (txs C_l_row_133 B_l_row_133 ⟨us.map some ++ List.replicate (4 - us.length) none, [], []⟩).fin [] := congrFun y_l_row_133.choose_spec us
theorem ok_l_row_133 : FnOK F_l_row_133 ⟨2, [], [], G_l_row_133⟩ := by rw [F_l_row_133_eq, G_l_row_133_eq]; exact run_ok (ctx_cons rfl ok_l_whole_5 ctx_nil)
/-! l_rows (_law_found, _law_due, _law_at, _law_row_here) -/
abbrev W_l_rows_134_1 : List Stm := [(.ifS (.not (.call 133 [(.sub (.var 0) (.var 2)), (.var 3)])) [(.ret (.cst (.bl false)))] [])]
def B_l_rows_134 : List Stm := [(.ifS (.or (.not (.isi (.var 0) "list")) (.cmp .ne (.pr .len [(.var 0)]) (.pr .len [(.var 1)]))) [(.ret (.cst (.bl false)))] []), (.for (.tup [(.name 2), (.name 3)]) .enum [(.var 1)] W_l_rows_134_1), (.ret (.cst (.bl true)))]
noncomputable def L_l_rows_134 : Cal := [("_law_row", 133, 2, F_l_row_133)]
theorem x_l_rows_134 : ∃ f : Sem, f = Mi.run (ctxOf L_l_rows_134) 4 B_l_rows_134 := ⟨_, rfl⟩
noncomputable def F_l_rows_134 : Sem := x_l_rows_134.choose
theorem F_l_rows_134_eq : F_l_rows_134 = Mi.run (ctxOf L_l_rows_134) 4 B_l_rows_134 := x_l_rows_134.choose_spec
noncomputable def T_l_rows_134 : TCal := [(133, ⟨2, [], [], G_l_row_133⟩)]
noncomputable def C_l_rows_134 : Cf := ⟨tctx T_l_rows_134, [], fun i => decide (i ∈ ([1002, 1003] : List Nat))⟩
@[simp] theorem C_l_rows_134_133 : C_l_rows_134.C 133 = some ⟨2, [], [], G_l_row_133⟩ := Eq.trans rfl rfl
@[simp] theorem ws_l_rows_134_1 : wsOf C_l_rows_134 [2, 3] W_l_rows_134_1 = [2, 3] := Eq.trans rfl rfl
@[simp] theorem C_l_rows_134_P : C_l_rows_134.P = [] := Eq.trans rfl rfl
@[simp] theorem C_l_rows_134_M (i : Nat) : C_l_rows_134.M i = decide (i ∈ ([1002, 1003] : List Nat)) := Eq.trans rfl rfl
theorem y_l_rows_134 : ∃ f : TSem, f = trun C_l_rows_134.C 4 C_l_rows_134.P C_l_rows_134.M B_l_rows_134 := ⟨_, rfl⟩
noncomputable def G_l_rows_134 : TSem := y_l_rows_134.choose
theorem G_l_rows_134_eq : G_l_rows_134 = trun (tctx T_l_rows_134) 4 [] C_l_rows_134.M B_l_rows_134 := y_l_rows_134.choose_spec
theorem G_l_rows_134_run (us : List T) : G_l_rows_134 us = (txs C_l_rows_134 B_l_rows_134 ⟨us.map some ++ List.replicate (4 - us.length) none, [], []⟩).fin [] := congrFun y_l_rows_134.choose_spec us
theorem ok_l_rows_134 : FnOK F_l_rows_134 ⟨2, [], [], G_l_rows_134⟩ := by rw [F_l_rows_134_eq, G_l_rows_134_eq]; exact run_ok (ctx_cons rfl ok_l_row_133 ctx_nil)
/-! l_least (_law_row_here, _law_at) -/
def B_l_least_135 : List Stm := [(.ifS (.cmp .eq (.pr .len [(.var 0)]) (.cst (.int 0))) [(.ret (.lst []))] []), (.asg (.name 1) (.me .index (.var 0) [(.pr .min [(.var 0)])])), (.ret (.bin .add (.slL (.var 0) (.var 1)) (.slH (.var 0) (.var 1))))]
noncomputable def L_l_least_135 : Cal := []
theorem x_l_least_135 : ∃ f : Sem, f = Mi.run (ctxOf L_l_least_135) 2 B_l_least_135 := ⟨_, rfl⟩
noncomputable def F_l_least_135 : Sem := x_l_least_135.choose
theorem F_l_least_135_eq : F_l_least_135 = Mi.run (ctxOf L_l_least_135) 2 B_l_least_135 := x_l_least_135.choose_spec
noncomputable def T_l_least_135 : TCal := []
noncomputable def C_l_least_135 : Cf := ⟨tctx T_l_least_135, [], fun i => decide (i ∈ ([] : List Nat))⟩
@[simp] theorem C_l_least_135_P : C_l_least_135.P = [] := Eq.trans rfl rfl
@[simp] theorem C_l_least_135_M (i : Nat) : C_l_least_135.M i = decide (i ∈ ([] : List Nat)) := Eq.trans rfl rfl
theorem y_l_least_135 : ∃ f : TSem, f = trun C_l_least_135.C 2 C_l_least_135.P C_l_least_135.M B_l_least_135 := ⟨_, rfl⟩
noncomputable def G_l_least_135 : TSem := y_l_least_135.choose
theorem G_l_least_135_eq : G_l_least_135 = trun (tctx T_l_least_135) 2 [] C_l_least_135.M B_l_least_135 := y_l_least_135.choose_spec
theorem G_l_least_135_run (us : List T) : G_l_least_135 us = (txs C_l_least_135 B_l_least_135 ⟨us.map some ++ List.replicate (2 - us.length) none, [], []⟩).fin [] := congrFun y_l_least_135.choose_spec us
theorem ok_l_least_135 : FnOK F_l_least_135 ⟨1, [], [], G_l_least_135⟩ := by rw [F_l_least_135_eq, G_l_least_135_eq]; exact run_ok ctx_nil
/-! l_down (_law_r, _law_c, _law_s, _law_p) -/
def B_l_down_144 : List Stm := [(.ifS (.cmp .ge (.var 3) (.var 1)) [(.ret (.bin .sub (.var 3) (.var 1)))] []), (.ret (.bin .add (.bin .mul (.bin .sub (.var 0) (.cst (.int 1))) (.var 1)) (.bin .mod (.bin .sub (.var 3) (.var 2)) (.var 1))))]
noncomputable def L_l_down_144 : Cal := []
theorem x_l_down_144 : ∃ f : Sem, f = Mi.run (ctxOf L_l_down_144) 4 B_l_down_144 := ⟨_, rfl⟩
noncomputable def F_l_down_144 : Sem := x_l_down_144.choose
theorem F_l_down_144_eq : F_l_down_144 = Mi.run (ctxOf L_l_down_144) 4 B_l_down_144 := x_l_down_144.choose_spec
noncomputable def T_l_down_144 : TCal := []
noncomputable def C_l_down_144 : Cf := ⟨tctx T_l_down_144, [], fun i => decide (i ∈ ([] : List Nat))⟩
@[simp] theorem C_l_down_144_P : C_l_down_144.P = [] := Eq.trans rfl rfl
@[simp] theorem C_l_down_144_M (i : Nat) : C_l_down_144.M i = decide (i ∈ ([] : List Nat)) := Eq.trans rfl rfl
theorem y_l_down_144 : ∃ f : TSem, f = trun C_l_down_144.C 4 C_l_down_144.P C_l_down_144.M B_l_down_144 := ⟨_, rfl⟩
noncomputable def G_l_down_144 : TSem := y_l_down_144.choose
theorem G_l_down_144_eq : G_l_down_144 = trun (tctx T_l_down_144) 4 [] C_l_down_144.M B_l_down_144 := y_l_down_144.choose_spec
theorem G_l_down_144_run (us : List T) : G_l_down_144 us = (txs C_l_down_144 B_l_down_144 ⟨us.map some ++ List.replicate (4 - us.length) none, [], []⟩).fin [] := congrFun y_l_down_144.choose_spec us
theorem ok_l_down_144 : FnOK F_l_down_144 ⟨4, [], [], G_l_down_144⟩ := by rw [F_l_down_144_eq, G_l_down_144_eq]; exact run_ok ctx_nil
/-! l_threes (_law_r, _law_c, _law_s, _law_told, _law_p, _law_left, _law_down_here, _law_back, _law_row_here) -/
abbrev W_l_threes_145_1 : List Stm := [(.asg (.name 5) (.bin .add (.bin .sub (.var 4) (.bin .mod (.var 4) (.var 1))) (.bin .mod (.bin .sub (.bin .mod (.var 4) (.var 1)) (.cst (.int 1))) (.var 1)))), (.asg (.name 6) (.call 144 [(.var 0), (.var 1), (.var 2), (.var 4)])), (.asg (.name 7) (.call 144 [(.var 0), (.var 1), (.var 2), (.var 5)])), (.asg (.name 8) (.lst [(.bin .add (.bin .mul (.cst (.int 6)) (.var 4)) (.cst (.int 2))), (.bin .add (.bin .mul (.cst (.int 6)) (.var 4)) (.cst (.int 4))), (.bin .mul (.cst (.int 6)) (.var 4)), (.bin .add (.bin .mul (.cst (.int 6)) (.var 6)) (.cst (.int 3))), (.bin .add (.bin .mul (.cst (.int 6)) (.var 7)) (.cst (.int 5))), (.bin .add (.bin .mul (.cst (.int 6)) (.var 5)) (.cst (.int 1)))])), (.exp (.me .append (.var 3) [(.call 135 [(.var 8)])]))]
def B_l_threes_145 : List Stm := [(.asg (.name 3) (.lst [])), (.for (.name 4) .rng1 [(.bin .mul (.var 0) (.var 1))] W_l_threes_145_1), (.ret (.var 3))]
noncomputable def L_l_threes_145 : Cal := [("_law_least", 135, 1, F_l_least_135), ("_law_down", 144, 4, F_l_down_144)]
theorem x_l_threes_145 : ∃ f : Sem, f = Mi.run (ctxOf L_l_threes_145) 9 B_l_threes_145 := ⟨_, rfl⟩
noncomputable def F_l_threes_145 : Sem := x_l_threes_145.choose
theorem F_l_threes_145_eq : F_l_threes_145 = Mi.run (ctxOf L_l_threes_145) 9 B_l_threes_145 := x_l_threes_145.choose_spec
noncomputable def T_l_threes_145 : TCal := [(135, ⟨1, [], [], G_l_least_135⟩), (144, ⟨4, [], [], G_l_down_144⟩)]
noncomputable def C_l_threes_145 : Cf := ⟨tctx T_l_threes_145, [], fun i => decide (i ∈ ([1004, 1005, 1006, 1007, 1008] : List Nat))⟩
@[simp] theorem C_l_threes_145_135 : C_l_threes_145.C 135 = some ⟨1, [], [], G_l_least_135⟩ := Eq.trans rfl rfl
@[simp] theorem C_l_threes_145_144 : C_l_threes_145.C 144 = some ⟨4, [], [], G_l_down_144⟩ := Eq.trans rfl rfl
@[simp] theorem ws_l_threes_145_1 : wsOf C_l_threes_145 [4] W_l_threes_145_1 = [4, 5, 6, 7, 8] := Eq.trans rfl rfl
@[simp] theorem C_l_threes_145_P : C_l_threes_145.P = [] := Eq.trans rfl rfl
@[simp] theorem C_l_threes_145_M (i : Nat) : C_l_threes_145.M i = decide (i ∈ ([1004, 1005, 1006, 1007, 1008] : List Nat)) := Eq.trans rfl rfl
theorem y_l_threes_145 : ∃ f : TSem, f = trun C_l_threes_145.C 9 C_l_threes_145.P C_l_threes_145.M B_l_threes_145 := ⟨_, rfl⟩
noncomputable def G_l_threes_145 : TSem := y_l_threes_145.choose
theorem G_l_threes_145_eq : G_l_threes_145 = trun (tctx T_l_threes_145) 9 [] C_l_threes_145.M B_l_threes_145 := y_l_threes_145.choose_spec
theorem G_l_threes_145_run (us : List T) : G_l_threes_145 us = (txs C_l_threes_145 B_l_threes_145 ⟨us.map some ++ List.replicate (9 - us.length) none, [], []⟩).fin [] := congrFun y_l_threes_145.choose_spec us
theorem ok_l_threes_145 : FnOK F_l_threes_145 ⟨3, [], [], G_l_threes_145⟩ := by rw [F_l_threes_145_eq, G_l_threes_145_eq]; exact run_ok (ctx_cons rfl ok_l_least_135 (ctx_cons rfl ok_l_down_144 ctx_nil))
/-! l_numbers (_law_box, _law_way, _law_r, _law_c) -/
def B_l_numbers_137 : List Stm := [(.asg (.name 1) (.call 132 [(.var 0), (.cst (.int 6))])), (.ifS (.cmp .eq (.var 1) (.cst (.int 0))) [(.asg (.name 2) (.sub (.lst [(.cst (.int 1)), (.cst (.int 2)), (.cst (.int 4)), (.cst (.int 5)), (.cst (.int 8)), (.cst (.int 10)), (.cst (.int 20)), (.cst (.int 40))]) (.call 132 [(.var 0), (.cst (.int 8))]))), (.asg (.name 3) (.bin .fdiv (.cst (.int 40)) (.var 2)))] [(.asg (.name 2) (.bin .add (.cst (.int 1)) (.call 132 [(.var 0), (.sub (.lst [(.cst (.int 3)), (.cst (.int 6)), (.cst (.int 12)), (.cst (.int 40)), (.cst (.int 7))]) (.bin .sub (.var 1) (.cst (.int 1))))]))), (.asg (.name 3) (.bin .add (.cst (.int 1)) (.call 132 [(.var 0), (.bin .fdiv (.cst (.int 40)) (.var 2))]))), (.ifS (.cmp .eq (.call 132 [(.var 0), (.cst (.int 2))]) (.cst (.int 1))) [(.asg (.tup [(.name 2), (.name 3)]) (.tup [(.var 3), (.var 2)]))] [])]), (.ret (.tup [(.var 2), (.var 3), (.call 132 [(.var 0), (.var 3)])]))]
noncomputable def L_l_numbers_137 : Cal := [("_law_take", 132, 2, F_l_take_132)]
theorem x_l_numbers_137 : ∃ f : Sem, f = Mi.run (ctxOf L_l_numbers_137) 4 B_l_numbers_137 := ⟨_, rfl⟩
noncomputable def F_l_numbers_137 : Sem := x_l_numbers_137.choose
theorem F_l_numbers_137_eq : F_l_numbers_137 = Mi.run (ctxOf L_l_numbers_137) 4 B_l_numbers_137 := x_l_numbers_137.choose_spec
noncomputable def T_l_numbers_137 : TCal := [(132, ⟨2, [0], [], G_l_take_132⟩)]
noncomputable def C_l_numbers_137 : Cf := ⟨tctx T_l_numbers_137, [0], fun i => decide (i ∈ ([2, 3] : List Nat))⟩
@[simp] theorem C_l_numbers_137_132 : C_l_numbers_137.C 132 = some ⟨2, [0], [], G_l_take_132⟩ := Eq.trans rfl rfl
@[simp] theorem C_l_numbers_137_P : C_l_numbers_137.P = [0] := Eq.trans rfl rfl
@[simp] theorem C_l_numbers_137_M (i : Nat) : C_l_numbers_137.M i = decide (i ∈ ([2, 3] : List Nat)) := Eq.trans rfl rfl
theorem y_l_numbers_137 : ∃ f : TSem, f = trun C_l_numbers_137.C 4 C_l_numbers_137.P C_l_numbers_137.M B_l_numbers_137 := ⟨_, rfl⟩
noncomputable def G_l_numbers_137 : TSem := y_l_numbers_137.choose
theorem G_l_numbers_137_eq : G_l_numbers_137 = trun (tctx T_l_numbers_137) 4 [0] C_l_numbers_137.M B_l_numbers_137 := y_l_numbers_137.choose_spec
theorem G_l_numbers_137_run (us : List T) : G_l_numbers_137 us = (txs C_l_numbers_137 B_l_numbers_137 ⟨us.map some ++ List.replicate (4 - us.length) none, [], []⟩).fin [0] := congrFun y_l_numbers_137.choose_spec us
theorem ok_l_numbers_137 : FnOK F_l_numbers_137 ⟨1, [0], [], G_l_numbers_137⟩ := by rw [F_l_numbers_137_eq, G_l_numbers_137_eq]; exact run_ok (ctx_cons rfl ok_l_take_132 ctx_nil)
/-! l_spoilt (_law_box, _law_r, _law_c, _law_s, _law_great, _law_way) -/
def B_l_spoilt_138 : List Stm := [(.asg (.name 4) (.bin .add (.bin .mul (.call 132 [(.var 0), (.cst (.int 2))]) (.bin .pow (.cst (.int 10)) (.cst (.int 40)))) (.bin .mul (.call 132 [(.var 0), (.bin .pow (.cst (.int 10)) (.cst (.int 18)))]) (.call 132 [(.var 0), (.cst (.int 3))])))), (.asg (.name 5) (.call 132 [(.var 0), (.cst (.int 6))])), (.ifS (.cmp .eq (.var 5) (.cst (.int 0))) [(.asg (.name 1) (.bin .sub (.cst (.int 0)) (.var 4)))] []), (.ifS (.cmp .eq (.var 5) (.cst (.int 1))) [(.asg (.name 2) (.bin .sub (.cst (.int 0)) (.var 4)))] []), (.ifS (.cmp .eq (.var 5) (.cst (.int 2))) [(.asg (.name 3) (.bin .sub (.neg (.cst (.int 1))) (.var 4)))] []), (.ifS (.cmp .eq (.var 5) (.cst (.int 3))) [(.asg (.name 3) (.bin .add (.var 2) (.var 4)))] []), (.ifS (.cmp .eq (.var 5) (.cst (.int 4))) [(.asg (.name 1) (.bin .add (.bin .add (.bin .fdiv (.cst (.int 40)) (.pr .max2 [(.cst (.int 1)), (.var 2)])) (.cst (.int 1))) (.var 4)))] []), (.ifS (.cmp .eq (.var 5) (.cst (.int 5))) [(.asg (.name 2) (.bin .add (.bin .add (.bin .fdiv (.cst (.int 40)) (.pr .max2 [(.cst (.int 1)), (.var 1)])) (.cst (.int 1))) (.var 4)))] []), (.ret (.tup [(.var 1), (.var 2), (.var 3)]))]
noncomputable def L_l_spoilt_138 : Cal := [("_law_take", 132, 2, F_l_take_132)]
theorem x_l_spoilt_138 : ∃ f : Sem, f = Mi.run (ctxOf L_l_spoilt_138) 6 B_l_spoilt_138 := ⟨_, rfl⟩
noncomputable def F_l_spoilt_138 : Sem := x_l_spoilt_138.choose
theorem F_l_spoilt_138_eq : F_l_spoilt_138 = Mi.run (ctxOf L_l_spoilt_138) 6 B_l_spoilt_138 := x_l_spoilt_138.choose_spec
noncomputable def T_l_spoilt_138 : TCal := [(132, ⟨2, [0], [], G_l_take_132⟩)]
noncomputable def C_l_spoilt_138 : Cf := ⟨tctx T_l_spoilt_138, [0], fun i => decide (i ∈ ([] : List Nat))⟩
@[simp] theorem C_l_spoilt_138_132 : C_l_spoilt_138.C 132 = some ⟨2, [0], [], G_l_take_132⟩ := Eq.trans rfl rfl
@[simp] theorem C_l_spoilt_138_P : C_l_spoilt_138.P = [0] := Eq.trans rfl rfl
@[simp] theorem C_l_spoilt_138_M (i : Nat) : C_l_spoilt_138.M i = decide (i ∈ ([] : List Nat)) := Eq.trans rfl rfl
theorem y_l_spoilt_138 : ∃ f : TSem, f = trun C_l_spoilt_138.C 6 C_l_spoilt_138.P C_l_spoilt_138.M B_l_spoilt_138 := ⟨_, rfl⟩
noncomputable def G_l_spoilt_138 : TSem := y_l_spoilt_138.choose
theorem G_l_spoilt_138_eq : G_l_spoilt_138 = trun (tctx T_l_spoilt_138) 6 [0] C_l_spoilt_138.M B_l_spoilt_138 := y_l_spoilt_138.choose_spec
theorem G_l_spoilt_138_run (us : List T) : G_l_spoilt_138 us = (txs C_l_spoilt_138 B_l_spoilt_138 ⟨us.map some ++ List.replicate (6 - us.length) none, [], []⟩).fin [0] := congrFun y_l_spoilt_138.choose_spec us
theorem ok_l_spoilt_138 : FnOK F_l_spoilt_138 ⟨4, [0], [], G_l_spoilt_138⟩ := by rw [F_l_spoilt_138_eq, G_l_spoilt_138_eq]; exact run_ok (ctx_cons rfl ok_l_take_132 ctx_nil)
/-! l_refused (_law_r, _law_c, _law_s, e) -/
def B_l_refused_961 : List Stm := [(.tri [(.tri [(.exp (.call 831 [(.var 0), (.var 1), (.var 2)]))] 10 1000 [8] [(.ret (.cst (.bl false)))])] 8 3 [8] [(.ret (.and (.isx 0) (.and (.isx 100) (.not (.isx 10)))))]), (.ret (.cst (.bl false)))]
noncomputable def L_l_refused_961 : Cal := [("threes", 831, 3, F_threes_831)]
theorem x_l_refused_961 : ∃ f : Sem, f = Mi.run (ctxOf L_l_refused_961) 4 B_l_refused_961 := ⟨_, rfl⟩
noncomputable def F_l_refused_961 : Sem := x_l_refused_961.choose
theorem F_l_refused_961_eq : F_l_refused_961 = Mi.run (ctxOf L_l_refused_961) 4 B_l_refused_961 := x_l_refused_961.choose_spec
noncomputable def T_l_refused_961 : TCal := [(831, ⟨3, [], [], G_threes_831⟩)]
noncomputable def C_l_refused_961 : Cf := ⟨tctx T_l_refused_961, [], fun i => decide (i ∈ ([] : List Nat))⟩
@[simp] theorem C_l_refused_961_831 : C_l_refused_961.C 831 = some ⟨3, [], [], G_threes_831⟩ := Eq.trans rfl rfl
@[simp] theorem C_l_refused_961_P : C_l_refused_961.P = [] := Eq.trans rfl rfl
@[simp] theorem C_l_refused_961_M (i : Nat) : C_l_refused_961.M i = decide (i ∈ ([] : List Nat)) := Eq.trans rfl rfl
theorem y_l_refused_961 : ∃ f : TSem, f = trun C_l_refused_961.C 4 C_l_refused_961.P C_l_refused_961.M B_l_refused_961 := ⟨_, rfl⟩
noncomputable def G_l_refused_961 : TSem := y_l_refused_961.choose
theorem G_l_refused_961_eq : G_l_refused_961 = trun (tctx T_l_refused_961) 4 [] C_l_refused_961.M B_l_refused_961 := y_l_refused_961.choose_spec
theorem G_l_refused_961_run (us : List T) : G_l_refused_961 us = (txs C_l_refused_961 B_l_refused_961 ⟨us.map some ++ List.replicate (4 - us.length) none, [], []⟩).fin [] := congrFun y_l_refused_961.choose_spec us
theorem ok_l_refused_961 : FnOK F_l_refused_961 ⟨3, [], [], G_l_refused_961⟩ := by rw [F_l_refused_961_eq, G_l_refused_961_eq]; exact run_ok (ctx_cons rfl ok_threes_831 ctx_nil)
/-! l_refused_by_any (_law_r, _law_c, _law_s) -/
def B_l_refused_by_any_962 : List Stm := [(.tri [(.exp (.call 831 [(.var 0), (.var 1), (.var 2)]))] 0 1000 [8] [(.ret (.cst (.bl true)))]), (.ret (.cst (.bl false)))]
noncomputable def L_l_refused_by_any_962 : Cal := [("threes", 831, 3, F_threes_831)]
theorem x_l_refused_by_any_962 : ∃ f : Sem, f = Mi.run (ctxOf L_l_refused_by_any_962) 3 B_l_refused_by_any_962 := ⟨_, rfl⟩
noncomputable def F_l_refused_by_any_962 : Sem := x_l_refused_by_any_962.choose
theorem F_l_refused_by_any_962_eq : F_l_refused_by_any_962 = Mi.run (ctxOf L_l_refused_by_any_962) 3 B_l_refused_by_any_962 := x_l_refused_by_any_962.choose_spec
noncomputable def T_l_refused_by_any_962 : TCal := [(831, ⟨3, [], [], G_threes_831⟩)]
noncomputable def C_l_refused_by_any_962 : Cf := ⟨tctx T_l_refused_by_any_962, [], fun i => decide (i ∈ ([] : List Nat))⟩
@[simp] theorem C_l_refused_by_any_962_831 : C_l_refused_by_any_962.C 831 = some ⟨3, [], [], G_threes_831⟩ := Eq.trans rfl rfl
@[simp] theorem C_l_refused_by_any_962_P : C_l_refused_by_any_962.P = [] := Eq.trans rfl rfl
@[simp] theorem C_l_refused_by_any_962_M (i : Nat) : C_l_refused_by_any_962.M i = decide (i ∈ ([] : List Nat)) := Eq.trans rfl rfl
theorem y_l_refused_by_any_962 : ∃ f : TSem, f = trun C_l_refused_by_any_962.C 3 C_l_refused_by_any_962.P C_l_refused_by_any_962.M B_l_refused_by_any_962 := ⟨_, rfl⟩
noncomputable def G_l_refused_by_any_962 : TSem := y_l_refused_by_any_962.choose
theorem G_l_refused_by_any_962_eq : G_l_refused_by_any_962 = trun (tctx T_l_refused_by_any_962) 3 [] C_l_refused_by_any_962.M B_l_refused_by_any_962 := y_l_refused_by_any_962.choose_spec
theorem G_l_refused_by_any_962_run (us : List T) : G_l_refused_by_any_962 us = (txs C_l_refused_by_any_962 B_l_refused_by_any_962 ⟨us.map some ++ List.replicate (3 - us.length) none, [], []⟩).fin [] := congrFun y_l_refused_by_any_962.choose_spec us
theorem ok_l_refused_by_any_962 : FnOK F_l_refused_by_any_962 ⟨3, [], [], G_l_refused_by_any_962⟩ := by rw [F_l_refused_by_any_962_eq, G_l_refused_by_any_962_eq]; exact run_ok (ctx_cons rfl ok_threes_831 ctx_nil)
/-! l_law (_law_script, _law_box, _law_spoils, _law_r, _law_c, _law_s, _law_due, _law_told, _law_k, _law_good) -/
abbrev W_l_law_963_1 : List Stm := [(.asg (.tup [(.name 3), (.name 4), (.name 5)]) (.call 138 [(.var 1), (.var 3), (.var 4), (.var 5)]))]
def B_l_law_963 : List Stm := [(.asg (.name 1) (.lst [(.pr .list [(.var 0)]), (.cst (.int 0)), (.cst (.int 0)), (.cst (.int 0))])), (.asg (.name 2) (.sub (.lst [(.cst (.int 0)), (.cst (.int 0)), (.cst (.int 0)), (.cst (.int 0)), (.cst (.int 0)), (.cst (.int 1)), (.cst (.int 1)), (.cst (.int 2))]) (.call 132 [(.var 1), (.cst (.int 8))]))), (.asg (.tup [(.name 3), (.name 4), (.name 5)]) (.call 137 [(.var 1)])), (.asg (.name 6) (.call 145 [(.var 3), (.var 4), (.var 5)])), (.ifS (.not (.call 134 [(.call 831 [(.var 3), (.var 4), (.var 5)]), (.var 6)])) [(.ret (.cst (.bl false)))] []), (.asg (.name 7) (.call 831 [(.var 3), (.var 4), (.var 5)])), (.exp (.me .append (.sub (.var 7) (.cst (.int 0))) [(.cst (.int 7))])), (.exp (.me .pop (.var 7) [])), (.ifS (.not (.call 134 [(.call 831 [(.var 3), (.var 4), (.var 5)]), (.var 6)])) [(.ret (.cst (.bl false)))] []), (.for (.name 8) .rng1 [(.var 2)] W_l_law_963_1), (.asg (.name 9) (.and (.cmp .ge (.var 3) (.cst (.int 1))) (.and (.cmp .ge (.var 4) (.cst (.int 1))) (.and (.chain .le .lt (.cst (.int 0)) (.var 5) (.var 4)) (.cmp .le (.bin .mul (.var 3) (.var 4)) (.cst (.int 40))))))), (.ifS (.not (.var 9)) [(.ret (.and (.call 961 [(.var 3), (.var 4), (.var 5)]) (.call 962 [(.var 3), (.var 4), (.var 5)])))] []), (.ret (.call 134 [(.call 831 [(.var 3), (.var 4), (.var 5)]), (.call 145 [(.var 3), (.var 4), (.var 5)])]))]
noncomputable def L_l_law_963 : Cal := [("threes", 831, 3, F_threes_831), ("_law_take", 132, 2, F_l_take_132), ("_law_rows", 134, 2, F_l_rows_134), ("_law_threes", 145, 3, F_l_threes_145), ("_law_numbers", 137, 1, F_l_numbers_137), ("_law_spoilt", 138, 4, F_l_spoilt_138), ("_law_refused", 961, 3, F_l_refused_961), ("_law_refused_by_any", 962, 3, F_l_refused_by_any_962)]
theorem x_l_law_963 : ∃ f : Sem, f = Mi.run (ctxOf L_l_law_963) 10 B_l_law_963 := ⟨_, rfl⟩
noncomputable def F_l_law_963 : Sem := x_l_law_963.choose
theorem F_l_law_963_eq : F_l_law_963 = Mi.run (ctxOf L_l_law_963) 10 B_l_law_963 := x_l_law_963.choose_spec
noncomputable def T_l_law_963 : TCal := [(831, ⟨3, [], [], G_threes_831⟩), (132, ⟨2, [0], [], G_l_take_132⟩), (134, ⟨2, [], [], G_l_rows_134⟩), (145, ⟨3, [], [], G_l_threes_145⟩), (137, ⟨1, [0], [], G_l_numbers_137⟩), (138, ⟨4, [0], [], G_l_spoilt_138⟩), (961, ⟨3, [], [], G_l_refused_961⟩), (962, ⟨3, [], [], G_l_refused_by_any_962⟩)]
noncomputable def C_l_law_963 : Cf := ⟨tctx T_l_law_963, [], fun i => decide (i ∈ ([1008] : List Nat))⟩
@[simp] theorem C_l_law_963_831 : C_l_law_963.C 831 = some ⟨3, [], [], G_threes_831⟩ := Eq.trans rfl rfl
@[simp] theorem C_l_law_963_132 : C_l_law_963.C 132 = some ⟨2, [0], [], G_l_take_132⟩ := Eq.trans rfl rfl
@[simp] theorem C_l_law_963_134 : C_l_law_963.C 134 = some ⟨2, [], [], G_l_rows_134⟩ := Eq.trans rfl rfl
@[simp] theorem C_l_law_963_145 : C_l_law_963.C 145 = some ⟨3, [], [], G_l_threes_145⟩ := Eq.trans rfl rfl
@[simp] theorem C_l_law_963_137 : C_l_law_963.C 137 = some ⟨1, [0], [], G_l_numbers_137⟩ := Eq.trans rfl rfl
@[simp] theorem C_l_law_963_138 : C_l_law_963.C 138 = some ⟨4, [0], [], G_l_spoilt_138⟩ := Eq.trans rfl rfl
@[simp] theorem C_l_law_963_961 : C_l_law_963.C 961 = some ⟨3, [], [], G_l_refused_961⟩ := Eq.trans rfl rfl
@[simp] theorem C_l_law_963_962 : C_l_law_963.C 962 = some ⟨3, [], [], G_l_refused_by_any_962⟩ := Eq.trans rfl rfl
@[simp] theorem ws_l_law_963_1 : wsOf C_l_law_963 [8] W_l_law_963_1 = [8] := Eq.trans rfl rfl
@[simp] theorem C_l_law_963_P : C_l_law_963.P = [] := Eq.trans rfl rfl
@[simp] theorem C_l_law_963_M (i : Nat) : C_l_law_963.M i = decide (i ∈ ([1008] : List Nat)) := Eq.trans rfl rfl
theorem y_l_law_963 : ∃ f : TSem, f = trun C_l_law_963.C 10 C_l_law_963.P C_l_law_963.M B_l_law_963 := ⟨_, rfl⟩
noncomputable def G_l_law_963 : TSem := y_l_law_963.choose
theorem G_l_law_963_eq : G_l_law_963 = trun (tctx T_l_law_963) 10 [] C_l_law_963.M B_l_law_963 := y_l_law_963.choose_spec
theorem G_l_law_963_run (us : List T) : G_l_law_963 us = (txs C_l_law_963 B_l_law_963 ⟨us.map some ++ List.replicate (10 - us.length) none, [], []⟩).fin [] := congrFun y_l_law_963.choose_spec us
theorem ok_l_law_963 : FnOK F_l_law_963 ⟨1, [], [], G_l_law_963⟩ := by rw [F_l_law_963_eq, G_l_law_963_eq]; exact run_ok (ctx_cons rfl ok_threes_831 (ctx_cons rfl ok_l_take_132 (ctx_cons rfl ok_l_rows_134 (ctx_cons rfl ok_l_threes_145 (ctx_cons rfl ok_l_numbers_137 (ctx_cons rfl ok_l_spoilt_138 (ctx_cons rfl ok_l_refused_961 (ctx_cons rfl ok_l_refused_by_any_962 ctx_nil))))))))
end Df
namespace Df
open Mi Tv
open PySem hiding Env Ctx Sem
@[simp] theorem slots_name (i : Nat) : Mi.slots (.name i) = [i] := Eq.trans rfl rfl
@[simp] theorem slots_two (i j : Nat) : Mi.slots (.tup [.name i, .name j]) = [i, j] := Eq.trans rfl rfl
theorem mul_lit {i j : Int} (h1 : -18446744073709551616 < i) (h2 : i < 18446744073709551616) : mulOk i j = true := mulOk_l ⟨h1, h2⟩
theorem mul_litr {i j : Int} (h1 : -18446744073709551616 < j) (h2 : j < 18446744073709551616) : mulOk i j = true := mulOk_r ⟨h1, h2⟩
@[simp] theorem kit_ii : L2.kitB "int" "int" = some true := by decide
@[simp] theorem kit_ib : L2.kitB "int" "bool" = some false := by decide
@[simp] theorem kit_ll : L2.kitB "list" "list" = some true := by decide
@[simp] theorem kit_tt : L2.kitB "tuple" "tuple" = some true := by decide
@[simp] theorem kit_bb : L2.kitB "bool" "bool" = some true := by decide
@[simp] theorem kit_bi : L2.kitB "bool" "int" = some true := by decide
theorem log_ok {n : Int} (hn : 0 < n) (hn2 : n ≤ 1000000) : n.natAbs.log2 < 9000 := by
  have : n.natAbs < 2 ^ 9000 := Nat.lt_of_le_of_lt (show n.natAbs ≤ 2 ^ 20 by omega) (Nat.pow_lt_pow_right (by decide) (by decide))
  by_cases hz : n.natAbs = 0
  · rw [hz]; decide
  · exact (Nat.log2_lt hz).mpr this
theorem small_nat {n : Nat} (h : n ≤ 1000000) : small62 (n : Int) = true := small62_of (by omega)
theorem fro_sub {ns : List Int} {s : Tv.St} {k : Nat} (h : k < ns.length) : tsub s (.own (.fro (ns.map .int))) (.int k) = some (.own (.int ns[k])) :=
  tsub_own_fro (k := k) _ _ _ _ (by rw [ixN_nat, List.length_map, if_pos h]) (by rw [List.getElem?_map, List.getElem?_eq_getElem h]; rfl)
/-! sizes -/
theorem sz_lt {n : Nat} (h : n ≤ 1000000) : n < sizeLine := Nat.lt_of_le_of_lt h line_big
theorem tnew_ti {ns : List Int} (h : ns.length ≤ 1000000) : tnew (ns.map .int) = some (ti true ns) := tnew_ok _ (by rw [List.length_map]; exact szl h)
theorem tnew_tl {L : List (List Int)} {o : Bool} (h : L.length ≤ 1000000) : tnew (L.map (ti o)) = some (.lst true (L.map (ti o))) := tnew_ok _ (by rw [List.length_map]; exact szl h)
/-! whole numbers from 0 on -/
def up (n : Nat) : List Int := (List.range n).map fun (i : Nat) => (i : Int)
@[simp] theorem up_len (n : Nat) : (up n).length = n := by simp [up]
theorem up_get {n k : Nat} (h : k < n) : (up n)[k]? = some (k : Int) := by simp [up, h]
theorem up_mem {n : Nat} {x : Int} : x ∈ up n ↔ 0 ≤ x ∧ x < n := by
  simp only [up, List.mem_map, List.mem_range]
  constructor
  · rintro ⟨a, h, rfl⟩; omega
  · intro h; exact ⟨x.toNat, by omega, by omega⟩
theorem up_pw (n : Nat) : (up n).Pairwise (· < ·) := by
  unfold up
  rw [List.pairwise_map]
  exact List.pairwise_lt_range.imp fun h => by omega
theorem trng_up (n : Nat) : trng 0 n = (up n).map .int := by
  unfold trng up
  rw [List.map_map]
  congr 1
  funext i
  simp
theorem lst_trng (n : Nat) : T.lst true (trng 0 n) = ti true (up n) := by rw [trng_up]; rfl
/-! sorted lists -/
def srt (ns : List Int) : List Int := ns.mergeSort (fun a b => decide (a ≤ b))
theorem srt_len (ns : List Int) : (srt ns).length = ns.length := List.length_mergeSort ..
theorem srt_perm (ns : List Int) : (srt ns).Perm ns := List.mergeSort_perm ..
theorem srt_pw (ns : List Int) : (srt ns).Pairwise (· ≤ ·) := by
  have := List.pairwise_mergeSort (le := fun a b : Int => decide (a ≤ b)) (by intro a b c; simp; omega) (by intro a b; simp; omega) ns
  exact this.imp fun h => by simpa using h
theorem srt_uniq {l m : List Int} (h : l.Perm m) (hl : l.Pairwise (· ≤ ·)) (hm : m.Pairwise (· ≤ ·)) : l = m := by
  induction l generalizing m with
  | nil => exact h.nil_eq
  | cons a l ih =>
    cases m with
    | nil => (exact absurd h.length_eq (by simp))
    | cons b m =>
      rw [List.pairwise_cons] at hl hm
      have e : a = b := by
        have h1 : a ∈ b :: m := h.mem_iff.mp List.mem_cons_self
        have h2 : b ∈ a :: l := h.mem_iff.mpr List.mem_cons_self
        rcases List.mem_cons.mp h1 with h1 | h1
        · exact h1
        · rcases List.mem_cons.mp h2 with h2 | h2
          · exact h2.symm
          · have := hl.1 b h2
            have := hm.1 a h1
            omega
      subst e
      rw [ih (List.Perm.cons_inv h) hl.2 hm.2]
theorem srt_eq {l m : List Int} (h : l.Perm m) (hm : m.Pairwise (· ≤ ·)) : srt l = m := srt_uniq ((srt_perm l).trans h) (srt_pw l) hm
theorem srt_up {l : List Int} {n : Nat} (h : l.Perm (up n)) : srt l = up n := srt_eq h ((up_pw n).imp fun h => by omega)
@[simp] theorem srt_sorted (o : Bool) (ns : List Int) : tprim .sorted [ti o ns] = tnew ((srt ns).map .int) := by
  show (match (some (ns.map T.int)).bind tints with | some ns => tnew ((ns.mergeSort (fun a b => decide (a ≤ b))).map .int) | none => match (some (ns.map T.int)).bind tprs with | some ps => tnew ((ps.mergeSort lePr).map tPr) | none => none) = _
  simp only [Option.bind_some, tints_map]
  rfl
@[simp] theorem ext_ti (o : Bool) (ns ms : List Int) : tmeth .extend (ti true ns) [ti o ms] = if ns.length + ms.length ≤ sizeLine then some (.non, ti true (ns ++ ms)) else none := by
  show (if (ns.map T.int).length + (ms.map T.int).length ≤ sizeLine ∧ afs (ms.map T.int) = true then some (T.non, T.lst true (ns.map T.int ++ ms.map T.int)) else none) = _
  simp only [List.length_map, afs_int, and_true, ← List.map_append]
  rfl
/-! pieces of lists -/
theorem cut_to {α : Type} (xs : List α) {k : Nat} (h : k ≤ xs.length) : cut xs none (some (k : Int)) = xs.take k := by
  unfold cut
  rw [HT.sIx_none, HT.sIx_nat, Nat.min_eq_left h, Nat.sub_zero, List.drop_zero]
theorem cut_from {α : Type} (xs : List α) {k : Nat} (h : k ≤ xs.length) : cut xs (some (k : Int)) none = xs.drop k := by
  unfold cut
  rw [HT.sIx_none, HT.sIx_nat, Nat.min_eq_left h, List.take_of_length_le (by rw [List.length_drop]; exact Nat.le_refl _)]
theorem sl_to (o : Bool) {xs : List Int} {k : Nat} (h : k ≤ xs.length) (hz : xs.length ≤ 1000000) : tslice (ti o xs) none (some (k : Int)) = some (ti true (xs.take k)) := by
  show tnew (cut (xs.map T.int) none (some (k : Int))) = _
  rw [cut_to _ (by rw [List.length_map]; exact h), ← List.map_take]
  exact tnew_ti (by rw [List.length_take]; omega)
theorem sl_from (o : Bool) {xs : List Int} {k : Nat} (h : k ≤ xs.length) (hz : xs.length ≤ 1000000) : tslice (ti o xs) (some (k : Int)) none = some (ti true (xs.drop k)) := by
  show tnew (cut (xs.map T.int) (some (k : Int)) none) = _
  rw [cut_from _ (by rw [List.length_map]; exact h), ← List.map_drop]
  exact tnew_ti (by rw [List.length_drop]; omega)
/-! where a number stands -/
theorem find_int (m : Int) : ∀ (xs : List Int) (k : Nat), m ∈ xs → tfind1 (.int m) (xs.map T.int) k = some (k + xs.idxOf m)
  | [], _, h => by cases h
  | x :: xs, k, h => by
    rw [List.map_cons, List.idxOf_cons]
    unfold tfind1
    by_cases e : x = m
    · subst e
      simp [tfeq]
    · have h1 : tfeq (.int x) (.int m) = false := by simp [tfeq, e]
      have h2 : (x == m) = false := by simpa using e
      rw [h1, h2]
      simp only [Bool.false_eq_true, if_false, cond_false]
      rw [find_int m xs (k + 1) ((List.mem_cons.mp h).resolve_left fun q => e q.symm)]
      congr 1
      omega
theorem index_ti (o : Bool) {m : Int} {xs : List Int} (h : m ∈ xs) : trmeth .index (ti o xs) [.int m] = some (.int (xs.idxOf m : Nat)) := by
  have hf : (xs.map T.int).all tflat = true := by simp [List.all_eq_true, tflat]
  show (match tlst (ti o xs) with | some xs => if tflat (.int m) && xs.all tflat then (tfind1 (.int m) xs 0).map fun j => T.int (j : Nat) else none | none => none) = _
  rw [tlst_ti]
  simp only [hf, Bool.and_true]
  rw [if_pos (show tflat (T.int m) = true from rfl), find_int m xs 0 h, Nat.zero_add]
  rfl
theorem foldl_min_mem : ∀ (xs : List Int) (a : Int), xs.foldl min a = a ∨ xs.foldl min a ∈ xs
  | [], a => .inl rfl
  | x :: xs, a => by
    rw [List.foldl_cons]
    rcases foldl_min_mem xs (min a x) with h | h
    · rw [h]
      by_cases e : a ≤ x
      · left; exact Int.min_eq_left e
      · right; rw [Int.min_eq_right (by omega)]; exact List.mem_cons_self
    · exact .inr (List.mem_cons_of_mem _ h)
theorem foldl_min_le : ∀ (xs : List Int) (a : Int), xs.foldl min a ≤ a ∧ ∀ x ∈ xs, xs.foldl min a ≤ x
  | [], a => ⟨Int.le_refl _, fun _ h => nomatch h⟩
  | y :: xs, a => by
    rw [List.foldl_cons]
    obtain ⟨h1, h2⟩ := foldl_min_le xs (min a y)
    refine ⟨by omega, fun x hx => ?_⟩; rcases List.mem_cons.mp hx with rfl | hx
    · omega
    · exact h2 x hx
theorem minL_mem {xs : List Int} (h : xs ≠ []) : minL xs ∈ xs := by
  cases xs with
  | nil => exact absurd rfl h
  | cons x r =>
    rcases foldl_min_mem r x with e | e
    · rw [show minL (x :: r) = r.foldl min x from rfl, e]; exact List.mem_cons_self
    · exact List.mem_cons_of_mem _ e
theorem minL_le {xs : List Int} : ∀ x ∈ xs, minL xs ≤ x := by
  cases xs with
  | nil => exact fun _ h => nomatch h
  | cons y r =>
    obtain ⟨h1, h2⟩ := foldl_min_le r y
    intro x hx
    rcases List.mem_cons.mp hx with rfl | hx -- (here)
    · exact h1
    · exact h2 x hx
@[simp] theorem min_ti (o : Bool) (xs : List Int) : tprim .min [ti o xs] = if xs.isEmpty then none else some (.int (minL xs)) := by
  show ((some (xs.map T.int)).bind fun xs => (tints xs).bind fun ns => if ns.isEmpty then none else some (T.int (minL ns))) = _
  simp only [Option.bind_some, tints_map]
/-! turned to begin with the least one -/
def begun (xs : List Int) (m : Int) : List Int := xs.drop (xs.idxOf m) ++ xs.take (xs.idxOf m)
def least (xs : List Int) : List Int := begun xs (minL xs)
theorem begun_perm (xs : List Int) (m : Int) : (begun xs m).Perm xs := List.perm_append_comm.trans (by rw [List.take_append_drop])
theorem least_perm (xs : List Int) : (least xs).Perm xs := begun_perm ..
@[simp] theorem begun_len (xs : List Int) (m : Int) : (begun xs m).length = xs.length := (begun_perm xs m).length_eq
@[simp] theorem least_len (xs : List Int) : (least xs).length = xs.length := begun_len ..
@[simp] theorem least_nil : least [] = [] := rfl
theorem idx_le {xs : List Int} {m : Int} (h : m ∈ xs) : xs.idxOf m ≤ xs.length := Nat.le_of_lt (List.idxOf_lt_length_iff.mpr h)
def bLeast : List Stm := [(.ifS (.cmp .eq (.pr .len [(.var 0)]) (.cst (.int 0))) [(.ret (.lst []))] []), (.asg (.name 1) (.me .index (.var 0) [(.pr .min [(.var 0)])])), (.ret (.bin .add (.slL (.var 0) (.var 1)) (.slH (.var 0) (.var 1))))]
theorem least_gen (C : Cf) (hP : C.P = []) (xs : List Int) (hz : xs.length ≤ 1000000) : (txs C bLeast ⟨[some (ti false xs), none], [], []⟩).fin [] = .ok (ti true (least xs)) [] := by
  by_cases h : xs = []
  · subst h
    simp [bLeast, tpr_plain, nil_ti]
  · have hm := minL_mem h
    have hl : 0 < xs.length := List.length_pos_iff.mpr h
    have hl' : ¬ (xs.length : Int) = 0 := by omega
    have i1 := index_ti false hm
    have s1 := sl_from false (idx_le hm) hz
    have s2 := sl_to false (idx_le hm) hz
    have t1 : tnew (List.drop (xs.idxOf (minL xs)) (xs.map T.int) ++ List.take (xs.idxOf (minL xs)) (xs.map T.int)) = some (ti true (least xs)) := by
      rw [← List.map_drop, ← List.map_take, ← List.map_append]
      exact tnew_ti (by rw [show (List.drop (xs.idxOf (minL xs)) xs ++ List.take (xs.idxOf (minL xs)) xs).length = (least xs).length from rfl, least_len]; exact hz)
    simp [bLeast, tpr_plain, hl', h, i1, hP, s1, s2, t1]
end Df
namespace Df
open Mi Tv
theorem killA0_idem (v : Nat) (α : List (Nat × Nat × List Nat)) : killA0 v (killA0 v α) = killA0 v α := by
  unfold killA0
  rw [List.filter_filter]
  congr 1
  funext e
  simp
theorem killA0_head (v r : Nat) (p : List Nat) (α : List (Nat × Nat × List Nat)) : killA0 v ((v, r, p) :: α) = killA0 v α := by
  rw [killA0_cons, if_neg (by simp)]
theorem killB0_app (v r : Nat) (h : r ≠ v) (β : List (Option (Nat × List Nat))) (p : List Nat) : killB0 v (β ++ [some (r, p)]) = killB0 v β ++ [some (r, p)] := by
  unfold killB0
  rw [List.map_append]
  simp [h]
theorem pin_at (β : List (Option (Nat × List Nat))) (x : Option (Nat × List Nat)) : (β ++ [x])[β.length]? = some x := by simp
/-- a comprehension over the rows at a slot -/
theorem tlc_rows {c : Cf} {v r : Nat} {ifs : List E} {e : E} {τ : List (Option T)} {α : List (Nat × Nat × List Nat)} {β : List (Option (Nat × List Nat))} (P : List (List Int)) (pk : List Int → Bool) (f : List Int → T)
    (hr : τ[r]? = some (some (tl true P))) (hv : v < τ.length) (hvr : v ≠ r) (hx : P.length ≤ 1000000) (hβ : killB0 v β = β)
    (hs : ∀ k row, P[k]? = some row → ((tvT c ifs ⟨τ.set v none, (v, r, [k]) :: killA0 v α, β ++ [some (r, [])]⟩).bind fun b s => if b then (tv c e s).bind fun y s => (claim c y s).elim .bad fun q => .ok (some q.1) q.2 else .ok none s) =
      .ok (if pk row = true then some (f row) else none) ⟨τ.set v none, (v, r, [k]) :: killA0 v α, β ++ [some (r, [])]⟩) :
    tlcL c [v] (.name v) ifs e ⟨τ, α, β⟩ (some (.sq (.live β.length), P.length, ⟨τ, α, β ++ [some (r, [])]⟩)) = .ok (.own (.lst true ((P.filter pk).map f))) ⟨τ, killA0 v α, β⟩ := by
  have hr2 : ∀ x, (τ.set v x)[r]? = some (some (tl true P)) := fun x => by rw [List.getElem?_set, if_neg hvr, hr]
  have hb2 := killB0_app v r (fun h => hvr h.symm) β []
  rw [hβ] at hb2
  have nx : ∀ m al, tnext (.sq (.live β.length)) m (⟨τ.set v none, al, β ++ [some (r, [])]⟩ : Tv.St) = some (((P.map (ti true))[m]?).map fun d => .one (seen d r ([] ++ [m]))) := fun m al =>
    next_live (t := tl true P) (xs := P.map (ti true)) (pin_at ..) (by rw [look_vw', at_mk, hr2]; rfl) rfl
  have key := tlc_live (c := c) (own := [v]) (t := .name v) (ifs := ifs) (e := e) (s := ⟨τ, α, β⟩) (s1 := ⟨τ, α, β ++ [some (r, [])]⟩) (ti := .sq (.live β.length)) (sb := ⟨τ, killA0 v α, β ++ [some (r, [])]⟩) P pk f
    (fun s => ∃ al, s = ⟨τ.set v none, al, β ++ [some (r, [])]⟩ ∧ killA0 v al = killA0 v α) (by simp [Tv.ownOk, Mi.slots]) hx
    ⟨killA0 v α, by rw [wipe_cons, wipe_nil, setS_mk, hb2], killA0_idem ..⟩
    (fun s ⟨al, e, _⟩ => by
      subst e
      rw [nx, List.getElem?_eq_none (by simp)]
      rfl)
    (fun k row s hk ⟨al, e, h⟩ => by
      subst e
      refine ⟨.one (.vw r [k]), _, ?_, ?_, (v, r, [k]) :: killA0 v α, rfl, by rw [killA0_head, killA0_idem]⟩
      · rw [nx, List.getElem?_map, hk]
        simp
      · have hf : itFree [v] (.one (.vw r [k])) = true := by
          have : ¬ r = v := fun h => hvr h.symm
          simp [this]
        have hl : tlayIt [] (.name v) (.one (.vw r [k])) (wipeS (⟨τ.set v none, al, β ++ [some (r, [])]⟩ : Tv.St) [v]) = some ⟨τ.set v none, (v, r, [k]) :: killA0 v α, β ++ [some (r, [])]⟩ := by
          have h1 : ¬ (r = v ∨ ¬ v < τ.length ∨ ((τ.set v none)[r]?.join).isNone = true) := by
            rw [hr2]
            rintro (h | h | h)
            · exact hvr h.symm
            · exact h hv
            · cases h
          rw [wipe_cons, wipe_nil, setS_mk, List.set_set, hb2, tlayIt_one, tlay_vw, if_neg List.not_mem_nil]
          simp only [at_mk, List.length_set, setS_mk, List.set_set, hb2]
          rw [if_neg h1, h, killA0_idem]
        rw [lcStep_eq, if_pos hf, hl]
        exact hs k row hk)
    (fun s2 ⟨al, e, h⟩ => by
      subst e
      rw [back_cons, back_nil, setS_mk, hb2, List.set_set, h]
      congr 1
      rw [List.getElem?_eq_getElem hv]
      exact List.set_getElem_self hv)
  rw [key]
  simp
/-- a for over the rows at a slot, each changed by itself -/
theorem tfor_rows {c : Cf} {v r : Nat} {p : List Stm} {τ : List (Option T)} {α : List (Nat × Nat × List Nat)} {β : List (Option (Nat × List Nat))} (P : List (List Int)) (g : List Int → List Int)
    (hr : τ[r]? = some (some (tl true P))) (hv : v < τ.length) (hvr : v ≠ r) (hP : v ∉ c.P) (hw : wsOf c [v] p = [v]) (hβ : killB0 v β = β)
    (hs : ∀ k row Q, Q[k]? = some row → P[k]? = some row → txs c p ⟨(τ.set v none).set r (some (tl true Q)), (v, r, [k]) :: killA0 v α, β ++ [some (r, [])]⟩ =
      .nx ⟨(τ.set v none).set r (some (tl true (Q.set k (g row)))), (v, r, [k]) :: killA0 v α, β ++ [some (r, [])]⟩) :
    tfL c (.name v) p β.length (some (.sq (.live β.length), P.length, ⟨τ, α, β ++ [some (r, [])]⟩)) = .nx ⟨(τ.set v none).set r (some (tl true (P.map g))), killA0 v α, β⟩ := by
  have hrl : r < τ.length := (List.getElem?_eq_some_iff.mp hr).1
  have hb2 := killB0_app v r (fun h => hvr h.symm) β []
  rw [hβ] at hb2
  have hr2 : ∀ Q, ((τ.set v none).set r (some (tl true Q)))[r]? = some (some (tl true Q)) := fun Q => by
    rw [List.getElem?_set, if_pos rfl, if_pos (by rw [List.length_set]; exact hrl)]
  have nx : ∀ m Q al, tnext (.sq (.live β.length)) m (⟨(τ.set v none).set r (some (tl true Q)), al, β ++ [some (r, [])]⟩ : Tv.St) = some (((Q.map (ti true))[m]?).map fun d => .one (seen d r ([] ++ [m]))) := fun m Q al =>
    next_live (t := tl true Q) (xs := Q.map (ti true)) (pin_at ..) (by rw [look_vw', at_mk, hr2]; rfl) rfl
  have wv : ∀ Q al, wipeS (⟨(τ.set v none).set r (some (tl true Q)), al, β ++ [some (r, [])]⟩ : Tv.St) [v] = ⟨(τ.set v none).set r (some (tl true Q)), killA0 v al, β ++ [some (r, [])]⟩ := fun Q al => by
    rw [wipe_cons, wipe_nil, setS_mk, hb2, List.set_comm _ _ (fun h => hvr h.symm), List.set_set]
  have hτ : τ.set v none = (τ.set v none).set r (some (tl true P)) := by
    apply List.ext_getElem?
    intro i
    rw [List.getElem?_set (l := τ.set v none)]
    by_cases h : r = i
    · subst h
      rw [if_pos rfl, if_pos (by rw [List.length_set]; exact hrl), List.getElem?_set, if_neg hvr, hr]
    · rw [if_neg h]
  obtain ⟨s', h1, h2⟩ := tfor_J (c := c) (t := .name v) (p := p) (b := β.length) (ti := .sq (.live β.length)) P.length (s := ⟨τ, α, β ++ [some (r, [])]⟩)
    (fun m s => s = ⟨(τ.set v none).set r (some (tl true ((P.take m).map g ++ P.drop m))), killA0 v α, β ++ [some (r, [])]⟩)
    (by
      rw [show Mi.slots (.name v) = [v] from rfl, hw, wipe_cons, wipe_nil, setS_mk, hb2]
      rw [List.take_zero, List.map_nil, List.nil_append, List.drop_zero, ← hτ])
    (fun s e => by
      rw [e, nx, List.getElem?_eq_none (by simp)]
      rfl)
    (fun m s hm e => by
      subst e
      have hk : P[m]? = some P[m] := List.getElem?_eq_getElem hm
      have hpl : ((P.take m).map g).length = m := by rw [List.length_map, List.length_take]; omega
      have hq : ((P.take m).map g ++ P.drop m)[m]? = some P[m] := by
        rw [List.getElem?_append_right (by rw [hpl]; exact Nat.le_refl _), hpl, Nat.sub_self, List.drop_eq_getElem_cons hm]
        rfl
      have hset : ((P.take m).map g ++ P.drop m).set m (g P[m]) = (P.take (m + 1)).map g ++ P.drop (m + 1) := by
        rw [List.set_append_right _ _ (by rw [hpl]; exact Nat.le_refl _), hpl, Nat.sub_self, List.drop_eq_getElem_cons hm, List.set_cons_zero, List.take_add_one, hk, List.map_append, List.append_assoc]
        rfl
      refine ⟨.one (.vw r [m]), ⟨(τ.set v none).set r (some (tl true (((P.take m).map g ++ P.drop m).set m (g P[m])))), (v, r, [m]) :: killA0 v α, β ++ [some (r, [])]⟩, ?_, .inl ?_, ?_⟩
      · rw [nx, List.getElem?_map, hq]
        simp
      · have hl : tlay c.P (.name v) (.vw r [m]) (⟨(τ.set v none).set r (some (tl true ((P.take m).map g ++ P.drop m))), killA0 v α, β ++ [some (r, [])]⟩ : Tv.St) =
            some ⟨(τ.set v none).set r (some (tl true ((P.take m).map g ++ P.drop m))), (v, r, [m]) :: killA0 v α, β ++ [some (r, [])]⟩ := by
          have h1 : ¬ (r = v ∨ ¬ v < τ.length ∨ ((((τ.set v none).set r (some (tl true ((P.take m).map g ++ P.drop m))))[r]?).join).isNone = true) := by
            rw [hr2]
            rintro (h | h | h)
            · exact hvr h.symm
            · exact h hv
            · cases h
          rw [tlay_vw, if_neg hP]
          simp only [at_mk, List.length_set, setS_mk, hb2]
          rw [if_neg h1, killA0_idem, List.set_comm _ _ (fun h => hvr h.symm), List.set_set]
        rw [tfB_one, hl]
        exact hs m _ _ hq hk
      · rw [show Mi.slots (.name v) = [v] from rfl, hw, wv, hset, killA0_head, killA0_idem])
  rw [h1, h2]
  simp
theorem tlc_rowmap {c : Cf} {v r : Nat} {e : E} {τ : List (Option T)} {α : List (Nat × Nat × List Nat)} {β : List (Option (Nat × List Nat))} (P : List (List Int)) (g : List Int → List Int)
    (hr : τ[r]? = some (some (tl true P))) (hv : v < τ.length) (hvr : v ≠ r) (hx : P.length ≤ 1000000) (hβ : killB0 v β = β)
    (hs : ∀ k row, P[k]? = some row → tv c e ⟨τ.set v none, (v, r, [k]) :: killA0 v α, β ++ [some (r, [])]⟩ = .ok (.own (ti true (g row))) ⟨τ.set v none, (v, r, [k]) :: killA0 v α, β ++ [some (r, [])]⟩) :
    tlcL c [v] (.name v) [] e ⟨τ, α, β⟩ (some (.sq (.live β.length), P.length, ⟨τ, α, β ++ [some (r, [])]⟩)) = .ok (.own (tl true (P.map g))) ⟨τ, killA0 v α, β⟩ := by
  rw [tlc_rows P (fun _ => true) (fun row => ti true (g row)) hr hv hvr hx hβ (fun k row hk => by rw [tvT_nil, TR.bind_ok, if_pos rfl, hs k row hk, TR.bind_ok, claim_own, if_pos rfl]; rfl)]
  unfold tl
  rw [filter_all, List.map_map]
  rfl
theorem tlc_rng {c : Cf} {v : Nat} {e : E} {τ : List (Option T)} (n : Nat) (f : Nat → T) (hv : v < τ.length) (hn : n ≤ 1000000)
    (hs : ∀ k, k < n → tv c e ⟨τ.set v (some (.int (k : Int))), [], []⟩ = .ok (.own (f k)) ⟨τ.set v (some (.int (k : Int))), [], []⟩) :
    tlcL c [v] (.name v) [] e ⟨τ, [], []⟩ (some (.sq (.snap (trng 0 n)), n, ⟨τ, [], []⟩)) = .ok (.own (.lst true ((List.range n).map f))) ⟨τ, [], []⟩ := by
  have key := tlc1 (c := c) (v := v) (t := .name v) (ifs := []) (e := e) (τ := τ) (fun (i : Nat) => T.int (0 + i)) (List.range n) (fun _ => true) f hv (by simp [Tv.ownOk]) (by rw [List.length_range]; exact hn) (fun k hk o => ⟨some (.int (k : Int)), by
    have h := hs k (List.mem_range.mp hk)
    have hl : tlayIt [] (.name v) (.one (.own (.int (0 + (k : Int))))) (wipeS (⟨τ.set v o, [], []⟩ : Tv.St) [v]) = some ⟨τ.set v (some (.int (k : Int))), [], []⟩ := by
      rw [Int.zero_add]
      simp
    rw [lcStep_eq, if_pos (by simp), hl]
    simp [h]⟩)
  rw [List.length_range] at key
  refine key.trans ?_
  rw [filter_all]
theorem txs_app (c : Cf) (a b : List Stm) (s : Tv.St) : txs c (a ++ b) s = (txs c a s).then fun s => txs c b s := by
  induction a generalizing s with
  | nil => simp
  | cons x a ih =>
    rw [List.cons_append, txs_cons, txs_cons]
    cases tx c x s with
    | nx s' => exact ih s'
    | _ => rfl
/-- rows copied -/
theorem list_row {o : Bool} {row : List Int} (h : row.length ≤ 1000000) : tprim .list [ti o row] = some (ti true row) := by
  show tnew (row.map T.int) = _
  exact tnew_ti h
end Df
namespace Df
open Mi Tv
/-! more loops -/
theorem tfl_fold {nxt : Nat → Tv.St → Option (Option It)} {body : It → Tv.St → TO} {its : List It} (hn : ∀ k s, nxt k s = some its[k]?) (s : Tv.St) : tfl nxt body its.length 0 s = foldIt body its s := by
  rw [tfl_list hn its.length 0 s (by simp), List.drop_zero]
/-- a for that stops at the first bad thing -/
theorem tfor_find {α : Type} {c : Cf} {t : Tg} {p : List Stm} {s0 : Tv.St} {b : Nat} (g : α → T) (xs : List α) (bad : α → Bool) (q : α → TO) (hw : wipeS s0 (wsOf c (Mi.slots t) p) = s0) (hb : s0.β.length = b)
    (hq : ∀ x ws, (q x).wp ws = q x) (hq2 : ∀ x s, q x ≠ .nx s ∧ q x ≠ .ct s ∧ q x ≠ .bk s)
    (hg : ∀ x ∈ xs, bad x = false → ∃ s', tfB c t p (.one (.own (g x))) s0 = .nx s' ∧ wipeS s' (wsOf c (Mi.slots t) p) = s0)
    (hx : ∀ x ∈ xs, bad x = true → tfB c t p (.one (.own (g x))) s0 = q x) :
    tfL c t p b (some (.sq (.snap (xs.map g)), xs.length, s0)) = (xs.find? bad).elim (.nx s0) q := by
  unfold tfL
  simp only
  rw [hw]
  have h1 := tfl_snap (body := tfW c t p) (xs.map g) s0
  rw [List.length_map, List.map_map] at h1
  rw [h1]
  have key : ∀ ys : List α, (∀ x ∈ ys, x ∈ xs) → foldIt (tfW c t p) (ys.map ((fun t => It.one (.own t)) ∘ g)) s0 = (ys.find? bad).elim (.nx s0) q := by
    intro ys
    induction ys with
    | nil => intro _; rfl
    | cons y ys ih =>
      intro hm
      rw [List.map_cons]
      simp only [foldIt]
      by_cases hy : bad y = true
      · have : tfW c t p (It.one (.own (g y))) s0 = q y := by
          unfold tfW
          rw [hx y (hm y List.mem_cons_self) hy, hq]
        rw [show ((fun t => It.one (.own t)) ∘ g) y = It.one (.own (g y)) from rfl, this, List.find?_cons_of_pos hy]
        rw [Option.elim_some]
        have h3 := hq2 y
        cases e : q y with
        | nx s => exact absurd e (h3 s).1
        | ct s => exact absurd e (h3 s).2.1
        | bk s => exact absurd e (h3 s).2.2
        | _ => rfl
      · have hy : bad y = false := by simpa using hy
        obtain ⟨s', g1, g2⟩ := hg y (hm y List.mem_cons_self) hy
        have : tfW c t p (It.one (.own (g y))) s0 = .nx s0 := by
          unfold tfW
          rw [g1, wp_nx, g2]
        rw [show ((fun t => It.one (.own t)) ∘ g) y = It.one (.own (g y)) from rfl, this, List.find?_cons_of_neg (by rw [hy]; exact Bool.false_ne_true)]
        exact ih fun x hx => hm x (List.mem_cons_of_mem _ hx)
  rw [key xs fun _ h => h]
  cases e : xs.find? bad with
  | none =>
    show TO.nx ⟨s0.τ, s0.α, s0.β.take b⟩ = .nx s0
    rw [List.take_of_length_le (by omega)]
  | some x =>
    rw [Option.elim_some]
    have h3 := hq2 x
    cases e : q x with
    | nx s => exact absurd e (h3 s).1
    | _ => rfl
@[simp] theorem start_enum_ti (o : Bool) (ns : List Int) (s : Tv.St) : tstart .enum [.own (ti o ns)] s = some (.en (.snap (ns.map T.int)), ns.length, s) := by
  have h : tsrc (.own (ti o ns)) s = some (.snap (fzs (ns.map T.int)), (ns.map T.int).length, s) := rfl
  rw [fzs_int, List.length_map] at h
  show (if lonly s (.own (ti o ns)) then (tsrc (.own (ti o ns)) s).map fun (a, n, s) => (TI.en a, n, s) else none) = _
  rw [h]
  rfl
/-- a for over numbered things -/
theorem tfor_enum {α : Type} {c : Cf} {t : Tg} {p : List Stm} {s : Tv.St} {b : Nat} (g : α → T) (xs : List α) (I : Nat → Tv.St → Prop) (h0 : I 0 (wipeS s (wsOf c (Mi.slots t) p))) (hb : ∀ k s, I k s → s.β.length = b)
    (hs : ∀ (k : Nat) (x : α) (s : Tv.St), xs[k]? = some x → I k s → ∃ s', (tfB c t p (.two (.own (.int (k : Int))) (.own (g x))) s = .nx s' ∨ tfB c t p (.two (.own (.int (k : Int))) (.own (g x))) s = .ct s') ∧ I (k + 1) (wipeS s' (wsOf c (Mi.slots t) p))) :
    ∃ s', tfL c t p b (some (.en (.snap (xs.map g)), xs.length, s)) = .nx s' ∧ I xs.length s' := by
  obtain ⟨s', h1, h2⟩ := tfor_J (c := c) (t := t) (p := p) (b := b) (ti := .en (.snap (xs.map g))) xs.length I h0 (fun s _ => by
    show (some ((xs.map g)[xs.length]?.map V2.own)).map _ = _
    rw [List.getElem?_eq_none (by simp)]
    rfl) (fun k s hk hi => by
    obtain ⟨s', h1, h2⟩ := hs k xs[k] s (List.getElem?_eq_getElem hk) hi
    refine ⟨.two (.own (.int (k : Int))) (.own (g xs[k])), s', ?_, h1, h2⟩
    show (some ((xs.map g)[k]?.map V2.own)).map _ = _
    rw [List.getElem?_map, List.getElem?_eq_getElem hk]
    rfl)
  refine ⟨s', ?_, h2⟩
  rw [h1]
  obtain ⟨x, y, z⟩ := s'
  have h3 : z.length = b := hb _ _ h2
  show TO.nx ⟨x, y, z.take b⟩ = _
  rw [List.take_of_length_le (by omega)]
@[simp] theorem tisNon_tup (xs : List T) : tisNon (.tup xs) = false := Eq.trans rfl rfl
@[simp] theorem tisNon_tp (p : Int × Int) : tisNon (tp p) = false := Eq.trans rfl rfl
@[simp] theorem tisNon_bl (b : Bool) : tisNon (.bl b) = false := Eq.trans rfl rfl
/-! errors -/
@[simp] theorem triO_nx (i : Nat) (h : Nat → Tv.St → TO) (s : Tv.St) : triO i h (.nx s) = .nx s := Eq.trans rfl rfl
@[simp] theorem triO_rt (i : Nat) (h : Nat → Tv.St → TO) (t : T) (s : Tv.St) : triO i h (.rt t s) = .rt t s := Eq.trans rfl rfl
@[simp] theorem triO_ex (i : Nat) (h : Nat → Tv.St → TO) (c : Nat) (s : Tv.St) : triO i h (.ex c none s) = h c s := Eq.trans rfl rfl
@[simp] theorem gone_nx (i : Nat) (s : Tv.St) : (TO.nx s).gone i = .nx (s.setS i none) := Eq.trans rfl rfl
@[simp] theorem gone_rt (i : Nat) (t : T) (s : Tv.St) : (TO.rt t s).gone i = .rt t s := Eq.trans rfl rfl
@[simp] theorem unp_mk (τ : List (Option T)) (α : List (Nat × Nat × List Nat)) (β : List (Option (Nat × List Nat))) (n : Nat) : (⟨τ, α, β⟩ : Tv.St).unp n = ⟨τ, α, List.replicate n none⟩ := Eq.trans rfl rfl
@[simp] theorem curT_no (C : Nat → Option Fn) (c : Nat) : curT C c excNo = some ⟨c, [], [], fun _ => .bad⟩ := if_pos rfl
@[simp] theorem exSub_def (c k : Nat) : exSub c k = (decide (c = k) || decide (k = 0) || decide (100 ≤ k)) := Eq.trans rfl rfl
/-- a for over a range that may leave -/
theorem tfor_or {c : Cf} {t : Tg} {p : List Stm} {s : Tv.St} {b : Nat} (n : Nat) (I : Nat → Tv.St → Prop) (Q : TO → Prop) (h0 : I 0 (wipeS s (wsOf c (Mi.slots t) p))) (hb : ∀ k s, I k s → s.β.length = b)
    (hs : ∀ (k : Nat) (s : Tv.St), k < n → I k s → (∃ s', (tfB c t p (.one (.own (.int (k : Int)))) s = .nx s' ∨ tfB c t p (.one (.own (.int (k : Int)))) s = .ct s') ∧ I (k + 1) (wipeS s' (wsOf c (Mi.slots t) p))) ∨
      ∃ v s', tfB c t p (.one (.own (.int (k : Int)))) s = .rt v s' ∧ Q (.rt v s')) :
    (∃ s', tfL c t p b (some (.sq (.snap (trng 0 n)), n, s)) = .nx s' ∧ I n s') ∨ ∃ v s', tfL c t p b (some (.sq (.snap (trng 0 n)), n, s)) = .rt v s' ∧ Q (.rt v s') := by
  have hn : ∀ k (s : Tv.St), k < n → tnext (.sq (.snap (trng 0 n))) k s = some (some (.one (.own (.int (k : Int))))) := fun k s hk => by
    show (some ((trng 0 n)[k]?.map V2.own)).map _ = _
    rw [trng_up, List.getElem?_map, up_get hk]
    rfl
  have he : ∀ s : Tv.St, tnext (.sq (.snap (trng 0 n))) n s = some none := fun s => by
    show (some ((trng 0 n)[n]?.map V2.own)).map _ = _
    rw [trng_up, List.getElem?_map, List.getElem?_eq_none (by simp)]
    rfl
  have key : ∀ (m k : Nat) (s : Tv.St), n = k + m → I k s → (∃ s', tfl (tnext (.sq (.snap (trng 0 n)))) (tfW c t p) m k s = .nx s' ∧ I n s') ∨ ∃ v s', tfl (tnext (.sq (.snap (trng 0 n)))) (tfW c t p) m k s = .rt v s' ∧ Q (.rt v s') := by
    intro m
    induction m with
    | zero =>
      intro k s h hi
      have : k = n := by omega
      subst this
      refine .inl ⟨s, ?_, hi⟩
      unfold tfl
      rw [he]
    | succ m ih =>
      intro k s h hi
      rcases hs k s (by omega) hi with ⟨s', h1, h2⟩ | ⟨v, s', h1, h2⟩
      · have hw : tfW c t p (.one (.own (.int (k : Int)))) s = .nx (wipeS s' (wsOf c (Mi.slots t) p)) ∨ tfW c t p (.one (.own (.int (k : Int)))) s = .ct (wipeS s' (wsOf c (Mi.slots t) p)) := by
          unfold tfW
          rcases h1 with h1 | h1 <;> rw [h1]
          · exact .inl rfl
          · exact .inr rfl
        have h3 := ih (k + 1) _ (by omega) h2
        have e : tfl (tnext (.sq (.snap (trng 0 n)))) (tfW c t p) (m + 1) k s = tfl (tnext (.sq (.snap (trng 0 n)))) (tfW c t p) m (k + 1) (wipeS s' (wsOf c (Mi.slots t) p)) := by
          conv => lhs; unfold tfl
          rw [hn k s (by omega)]
          simp only
          rcases hw with hw | hw <;> rw [hw]
        rw [e]
        exact h3
      · refine .inr ⟨v, s', ?_, h2⟩
        have hw : tfW c t p (.one (.own (.int (k : Int)))) s = .rt v s' := by
          unfold tfW
          rw [h1]
          rfl
        unfold tfl
        rw [hn k s (by omega)]
        simp only
        rw [hw]
  unfold tfL
  simp only
  rcases key n 0 _ (by omega) h0 with ⟨s', h1, h2⟩ | ⟨v, s', h1, h2⟩
  · refine .inl ⟨s', ?_, h2⟩
    rw [h1]
    obtain ⟨x, y, z⟩ := s'
    have h3 : z.length = b := hb _ _ h2
    show TO.nx ⟨x, y, z.take b⟩ = _
    rw [List.take_of_length_le (by omega)]
  · refine .inr ⟨v, s', ?_, h2⟩
    rw [h1]
    rfl
end Df
namespace Df
open Mi Tv
theorem log_ok2 {n : Int} (hn : 0 < n) (hn2 : n ≤ 1000000000000000000) : n.natAbs.log2 < 9000 := by
  have : n.natAbs < 2 ^ 9000 := Nat.lt_of_le_of_lt (show n.natAbs ≤ 2 ^ 60 by omega) (Nat.pow_lt_pow_right (by decide) (by decide))
  by_cases hz : n.natAbs = 0
  · rw [hz]; decide
  · exact (Nat.log2_lt hz).mpr this
theorem G_mixed131_ok (c k n : Int) (h0 : 0 ≤ k) (h1 : k ≤ 100000) (hn : 0 < n) : ∃ d : Int, 0 ≤ d ∧ d < n ∧ G_l_mixed_131 [.int c, .int k, .int n] = .ok (.int d) [] := by
  have a1 : mulOk 40503 k = true := mulOk_l (by decide)
  have hc := Int.emod_nonneg c (b := 2147483647) (by decide)
  have hc2 := Int.emod_lt_of_pos c (b := 2147483647) (by decide)
  have a5 : (c % 2147483647 + 40503 * k + 17).natAbs < 2 ^ 64 := by omega
  generalize hb : c % 2147483647 + 40503 * k + 17 = b at a5
  have a6 : ∀ x : Int, mulOk x (48271 + k) = true := fun x => mulOk_r (by omega)
  have a7 : ∀ x : Int, mulOk x 39373 = true := fun x => mulOk_r (by decide)
  refine ⟨b ^ 5 % 2147483647 * (48271 + k) % 999999937 * 39373 % 2147483629 % n, Int.emod_nonneg _ (by omega), Int.emod_lt_of_pos _ hn, ?_⟩
  simp [G_l_mixed_131_run, B_l_mixed_131, a1, a5, a6, a7, hb, hn]
/-- the box: the script, where it stands, the rest of a great cell, how many were taken -/
def bq (ns : List Int) (a : Nat) (r j : Int) : T := .lst true [ti true ns, .int a, .int r, .int j]
@[simp] theorem af_bq (ns : List Int) (a : Nat) (r j : Int) : af (bq ns a r j) = false := Eq.trans rfl rfl
@[simp] theorem nf_bq (ns : List Int) (a : Nat) (r j : Int) : nf (bq ns a r j) = true := by
  unfold bq
  simp
theorem G_take132_ok {ns : List Int} {a : Nat} {r j n : Int} (hr : 0 ≤ r) (hj : 0 ≤ j) (hj2 : j ≤ 1000) (hn : 0 < n) (hn2 : n ≤ 1000000000000000000) (hl : ns.length ≤ 1000) :
    ∃ (d : Int) (a' : Nat) (r' : Int), 0 ≤ d ∧ d < n ∧ 0 ≤ r' ∧ G_l_take_132 [bq ns a r j, .int n] = .ok (.int d) [bq ns a' r' (j + 1)] := by
  have lg := log_ok2 hn hn2
  by_cases hp : 0 < r
  · have hp0 : ¬ r = 0 := by omega
    refine ⟨r % n, a, r / n, Int.emod_nonneg _ (by omega), Int.emod_lt_of_pos _ hn, Int.ediv_nonneg hr (by omega), ?_⟩
    simp [G_l_take_132_run, B_l_take_132, bq, lg, hp, hp0, hn]
  · have hr0 : r = 0 := by omega
    subst hr0
    by_cases ha : a < ns.length
    · have ha' : (a : Int) < ns.length := by omega
      have hg : ns[a]? = some ns[a] := List.getElem?_eq_getElem ha
      have ix : L2.ixN ns.length (a : Int) = some a := by
        unfold L2.ixN
        rw [if_pos (by omega), if_pos (by omega)]; congr 1
      by_cases hc : ns[a] < 1000000000000000000
      · obtain ⟨d, d0, d1, h1⟩ := G_mixed131_ok ns[a] (j + 1) n (by omega) (by omega) hn
        refine ⟨d, a + 1, 0, d0, d1, Int.le_refl _, ?_⟩
        generalize hcc : ns[a] = c at *
        simp [G_l_take_132_run, B_l_take_132, bq, tpr_plain, ha, ha', ix, hcc, hc, h1]
      · have hp2 : 0 < ns[a] := by omega
        refine ⟨ns[a] % n, a + 1, ns[a] / n, Int.emod_nonneg _ (by omega), Int.emod_lt_of_pos _ hn, Int.ediv_nonneg (by omega) (by omega), ?_⟩
        generalize hcc : ns[a] = c at *
        simp [G_l_take_132_run, B_l_take_132, bq, tpr_plain, ha, ha', ix, hcc, hc, hp2, lg, hn]
    · have ha' : ¬ (a : Int) < ns.length := by omega
      by_cases hz : ns = []
      · subst hz
        obtain ⟨d, d0, d1, h1⟩ := G_mixed131_ok 0 (j + 1) n (by omega) (by omega) hn
        refine ⟨d, a, 0, d0, d1, Int.le_refl _, ?_⟩
        have ha2 : ¬ (a : Int) < 0 := by omega
        simp [G_l_take_132_run, B_l_take_132, bq, tpr_plain, ha', ha2, h1]
      · have hl0 : 0 < ns.length := List.length_pos_iff.mpr hz
        have m0 := Int.emod_nonneg (j + 1) (b := ns.length) (by omega)
        have m1 := Int.emod_lt_of_pos (j + 1) (b := ns.length) (by omega)
        obtain ⟨k, hk⟩ := Int.eq_ofNat_of_zero_le m0
        have hkl : k < ns.length := (by omega)
        have ix : L2.ixN ns.length (k : Int) = some k := by
          unfold L2.ixN
          rw [if_pos (by omega), if_pos (by omega)]; congr 1
        obtain ⟨d, d0, d1, h1⟩ := G_mixed131_ok ns[k] (j + 1) n (by omega) (by omega) hn
        refine ⟨d, a, 0, d0, d1, Int.le_refl _, ?_⟩
        generalize hcc : ns[k] = c at *
        simp [G_l_take_132_run, B_l_take_132, bq, tpr_plain, ha', hl0, hk, hkl, ix, hcc, h1]
end Df
namespace Df
theorem em0 {x c : Int} (h0 : 0 ≤ x) (h1 : x < c) : x % c = x := Int.emod_eq_of_lt h0 h1
theorem em1 {x c : Int} (h0 : c ≤ x) (h1 : x < 2 * c) : x % c = x - c := by
  have : x % c = (x - c) % c := by rw [Int.sub_emod_right]
  rw [this]
  exact em0 (by omega) (by omega)
theorem em2 {x c : Int} (h0 : -c ≤ x) (h1 : x < 0) : x % c = x + c := by
  have : x % c = (x + c) % c := by rw [Int.add_emod_right]
  rw [this]
  exact em0 (by omega) (by omega)
/-- right, left, up, down of a place -/
def rgt (c p : Int) : Int := p - p % c + (p % c + 1) % c
def lft (c p : Int) : Int := p - p % c + (p % c - 1) % c
def upr (r c s p : Int) : Int := if p + c < r * c then p + c else (p % c + s) % c
def dwn (r c s p : Int) : Int := if c ≤ p then p - c else (r - 1) * c + (p - s) % c
/-- a place by its row and column -/
theorem pos_of {r c p : Int} (hc : 0 < c) (h0 : 0 ≤ p) (h1 : p < r * c) : ∃ i j : Int, p = i * c + j ∧ 0 ≤ j ∧ j < c ∧ 0 ≤ i ∧ i < r ∧ p % c = j := by
  refine ⟨p / c, p % c, ?_, Int.emod_nonneg _ (by omega), Int.emod_lt_of_pos _ hc, Int.ediv_nonneg h0 (by omega), ?_, rfl⟩
  · have := Int.mul_ediv_add_emod p c
    rw [Int.mul_comm] at this
    omega
  · exact Int.ediv_lt_of_lt_mul hc h1
theorem row_bd {r c i : Int} (hc : 0 < c) (h0 : 0 ≤ i) (h1 : i < r) : 0 ≤ i * c ∧ i * c + c ≤ r * c := by
  refine ⟨Int.mul_nonneg h0 (by omega), ?_⟩; have : (i + 1) * c ≤ r * c := Int.mul_le_mul_of_nonneg_right (by omega) (by omega)
  rw [Int.add_mul, Int.one_mul] at this
  exact this
theorem rem_of {i c j : Int} (h0 : 0 ≤ j) (h1 : j < c) : (i * c + j) % c = j := by
  rw [Int.add_comm, Int.add_mul_emod_self_right]
  exact em0 h0 h1
theorem rl {r c p : Int} (hc : 0 < c) (h0 : 0 ≤ p) (h1 : p < r * c) : 0 ≤ rgt c p ∧ rgt c p < r * c ∧ lft c (rgt c p) = p := by
  obtain ⟨i, j, rfl, j0, j1, i0, i1, hj⟩ := pos_of hc h0 h1
  have hb := row_bd hc i0 i1
  unfold rgt lft
  rw [hj]
  by_cases h : j + 1 < c
  · rw [em0 (show 0 ≤ j + 1 by omega) h]
    have e : i * c + j - j + (j + 1) = i * c + (j + 1) := by omega
    rw [e, rem_of (by omega) h, em0 (show 0 ≤ j + 1 - 1 by omega) (by omega)]
    omega
  · rw [em1 (show c ≤ j + 1 by omega) (by omega)]
    have e : i * c + j - j + (j + 1 - c) = i * c + 0 := by omega
    rw [e, rem_of (by omega) hc, em2 (show -c ≤ 0 - 1 by omega) (by omega)]
    omega
theorem lr {r c p : Int} (hc : 0 < c) (h0 : 0 ≤ p) (h1 : p < r * c) : 0 ≤ lft c p ∧ lft c p < r * c ∧ rgt c (lft c p) = p := by
  obtain ⟨i, j, rfl, j0, j1, i0, i1, hj⟩ := pos_of hc h0 h1
  have hb := row_bd hc i0 i1
  unfold rgt lft
  rw [hj]
  by_cases h : 0 ≤ j - 1
  · rw [em0 (show 0 ≤ j - 1 by omega) (by omega)]
    have e : i * c + j - j + (j - 1) = i * c + (j - 1) := by omega
    rw [e, rem_of (by omega) (by omega), em0 (show 0 ≤ j - 1 + 1 by omega) (by omega)]
    omega
  · rw [em2 (show -c ≤ j - 1 by omega) (by omega)]
    have e : i * c + j - j + (j - 1 + c) = i * c + (j - 1 + c) := by omega
    rw [e, rem_of (by omega) (by omega), em1 (show c ≤ j - 1 + c + 1 by omega) (by omega)]
    omega
theorem ud {r c s p : Int} (hr : 0 < r) (hc : 0 < c) (hs0 : 0 ≤ s) (hs1 : s < c) (h0 : 0 ≤ p) (h1 : p < r * c) : 0 ≤ upr r c s p ∧ upr r c s p < r * c ∧ dwn r c s (upr r c s p) = p := by
  obtain ⟨i, j, rfl, j0, j1, i0, i1, hj⟩ := pos_of hc h0 h1
  have hb := row_bd hc i0 i1
  have e1 : (r - 1) * c = r * c - c := by rw [Int.sub_mul, Int.one_mul]
  unfold upr dwn
  rw [hj, e1]
  by_cases h : i * c + j + c < r * c
  · rw [if_pos h, if_pos (by omega)] -- (here)
    omega
  · rw [if_neg h]
    have hi : i = r - 1 := by
      by_cases hh : i < r - 1
      · have := row_bd hc i0 hh
        rw [e1] at this
        omega
      · omega
    subst hi
    rw [e1] at hb h ⊢
    have hc2 : c ≤ r * c := by
      have : 1 * c ≤ r * c := Int.mul_le_mul_of_nonneg_right (by omega) (by omega)
      omega
    by_cases h2 : j + s < c
    · rw [em0 (show 0 ≤ j + s by omega) h2, if_neg (by omega), em0 (show 0 ≤ j + s - s by omega) (by omega)]
      omega
    · rw [em1 (show c ≤ j + s by omega) (by omega), if_neg (by omega), em2 (show -c ≤ j + s - c - s by omega) (by omega)]
      omega
theorem du {r c s p : Int} (hr : 0 < r) (hc : 0 < c) (hs0 : 0 ≤ s) (hs1 : s < c) (h0 : 0 ≤ p) (h1 : p < r * c) : 0 ≤ dwn r c s p ∧ dwn r c s p < r * c ∧ upr r c s (dwn r c s p) = p := by
  have e1 : (r - 1) * c = r * c - c := by rw [Int.sub_mul, Int.one_mul]
  have hc2 : c ≤ r * c := by
    have : 1 * c ≤ r * c := Int.mul_le_mul_of_nonneg_right (by omega) (by omega)
    omega
  unfold upr dwn
  by_cases h : c ≤ p
  · rw [if_pos h, if_pos (by omega)] -- (here)
    omega
  · rw [if_neg h]
    by_cases h2 : s ≤ p
    · rw [em0 (show 0 ≤ p - s by omega) (by omega), if_neg (by omega), rem_of (by omega) (by omega), em0 (show 0 ≤ p - s + s by omega) (by omega)]
      omega
    · rw [em2 (show -c ≤ p - s by omega) (by omega), if_neg (by omega), rem_of (by omega) (by omega), em1 (show c ≤ p - s + c + s by omega) (by omega)]
      omega
end Df
namespace Df
open Mi Tv
theorem ixn_nat {n p : Nat} (h : p < n) : L2.ixN n (p : Int) = some p := by
  unfold L2.ixN
  rw [if_pos (by omega), if_pos (by omega)]; congr 1
theorem ixn_int {n : Nat} {e : Int} (h0 : 0 ≤ e) (h1 : e < n) : L2.ixN n e = some e.toNat := by
  unfold L2.ixN
  rw [if_pos (by omega), if_pos (by omega)] -- (here)
theorem up_succ (n : Nat) : up (n + 1) = up n ++ [(n : Int)] := by
  unfold up
  rw [List.range_succ, List.map_append]
  rfl
/-- a list of n numbers, written place by place along f, whose way back is g -/
def wr (g : Int → Int) (v : Int → Int) (k : Nat) (q : Int) : Int := if g q < k then v (g q) else 0
theorem wr_step {n k : Nat} {f g v : Int → Int} (hf : ∀ q : Int, 0 ≤ q → q < n → 0 ≤ g q ∧ g q < n ∧ f (g q) = q) (hg : g (f k) = k) (h0 : 0 ≤ f k) (h1 : f k < n) :
    ((up n).map (wr g v k)).set (f k).toNat (v k) = (up n).map (wr g v (k + 1)) := by
  apply List.ext_getElem?
  intro i
  by_cases hi : i < n
  · have hq := hf i (by omega) (by omega)
    by_cases he : (f k).toNat = i
    · rw [he, List.getElem?_set_self (by simpa using hi), List.getElem?_map, up_get hi]
      have e1 : (i : Int) = f k := by omega
      have : wr g v (k + 1) (i : Int) = v k := by
        unfold wr
        rw [e1, hg, if_pos (by omega)]
      simp [this]
    · rw [List.getElem?_set_ne he, List.getElem?_map, List.getElem?_map, up_get hi]
      have hne : g (i : Int) ≠ k := fun q => he (by
        have := hq.2.2
        rw [q] at this
        omega)
      have : wr g v (k + 1) (i : Int) = wr g v k (i : Int) := by
        unfold wr
        by_cases h : g (i : Int) < k
        · rw [if_pos h, if_pos (by omega)] -- (here)
        · rw [if_neg h, if_neg (by omega)] -- (here)
      simp [this]
  · rw [List.getElem?_eq_none (by simpa using Nat.le_of_not_lt hi), List.getElem?_eq_none (by simpa using Nat.le_of_not_lt hi)]
theorem wr_all {n : Nat} {g v : Int → Int} (hg : ∀ q : Int, 0 ≤ q → q < n → g q < n) : (up n).map (wr g v n) = (up n).map fun q => v (g q) := by
  apply List.map_congr_left
  intro q hq
  have := up_mem.mp hq
  unfold wr
  rw [if_pos (hg q this.1 this.2)]
theorem wr_zero {n : Nat} {g v : Int → Int} (hg : ∀ q : Int, 0 ≤ q → q < n → 0 ≤ g q) : (up n).map (wr g v 0) = List.replicate n 0 := by
  have : (up n).map (wr g v 0) = (up n).map fun _ => (0 : Int) := by
    apply List.map_congr_left
    intro q hq
    have := up_mem.mp hq
    have := hg q this.1 this.2
    unfold wr
    rw [if_neg (by omega)]
  rw [this, List.map_const', up_len]
/-- numbers that fit -/
structure Fit (r c s : Int) (n : Nat) : Prop where
  r0 : 1 ≤ r
  c0 : 1 ≤ c
  s0 : 0 ≤ s
  s1 : s < c
  n1 : r * c = n
  n40 : n ≤ 40
theorem Fit.r1 {r c s : Int} {n : Nat} (h : Fit r c s n) : r ≤ 40 := by
  have := h.n1; have := h.n40; have := h.c0; have := h.r0
  have : r * 1 ≤ r * c := Int.mul_le_mul_of_nonneg_left (by omega) (by omega)
  omega
theorem Fit.c1 {r c s : Int} {n : Nat} (h : Fit r c s n) : c ≤ 40 := by
  have := h.n1; have := h.n40; have := h.c0; have := h.r0
  have : 1 * c ≤ r * c := Int.mul_le_mul_of_nonneg_right (by omega) (by omega)
  omega
theorem rep0 {n : Nat} (h : n ≤ 1000) : tbin .mul (.lst true [.int 0]) (.int (n : Int)) = some (ti true (List.replicate n 0)) := by
  rw [tb_rep, if_pos ⟨sg63_iff.mpr (by omega), by rw [Int.toNat_natCast]; exact szl (by simp; omega), by simp⟩, Int.toNat_natCast]
  have : (List.replicate n [T.int 0]).flatten = (List.replicate n (0 : Int)).map T.int := by simp
  rw [this]
  exact tnew_ti (by simp; omega)
theorem mul_big {i j : Int} (hi : i.natAbs < 2 ^ 1000) (hj : j.natAbs < 2 ^ 1000) : mulOk i j = true := by
  have lg : ∀ x : Nat, x < 2 ^ 1000 → x.log2 < 1000 := fun x hx => by
    by_cases hz : x = 0
    · rw [hz]; decide
    · exact (Nat.log2_lt hz).mpr hx
  have h1 := lg _ hi
  have h2 := lg _ hj
  rw [mulOk_def]
  simp only [Bool.or_eq_true, Bool.and_eq_true, decide_eq_true_eq]
  exact .inr (by omega)
end Df
namespace Df
open Mi Tv
theorem div40 {r : Int} (h0 : 1 ≤ r) (h1 : r ≤ 40) : 1 ≤ 40 / r ∧ 40 / r ≤ 40 ∧ r * (40 / r) ≤ 40 := by
  have h2 : r * (40 / r) ≤ 40 := Int.mul_ediv_self_le (by omega)
  have h3 : 40 / r ≤ 40 := Int.ediv_le_self _ (by decide)
  have h4 : 1 ≤ 40 / r := (Int.le_ediv_iff_mul_le (by omega)).mpr (by omega)
  exact ⟨h4, h3, h2⟩
theorem fit_of {r c s : Int} (h0 : 1 ≤ r) (h1 : 1 ≤ c) (h2 : r * c ≤ 40) (h3 : 0 ≤ s) (h4 : s < c) : ∃ n, Fit r c s n := by
  have h5 : 0 ≤ r * c := Int.mul_nonneg (by omega) (by omega)
  obtain ⟨n, hn⟩ := Int.eq_ofNat_of_zero_le h5
  exact ⟨n, h0, h1, h3, h4, hn, by omega⟩
theorem log40 {r : Int} (h0 : 1 ≤ r) (h1 : r ≤ 1000000) : r.natAbs.log2 < 9000 := log_ok2 (by omega) (by omega)
/-- taken twice, each less than its number -/
theorem G_numbers137_ok {ns : List Int} {a : Nat} {x j : Int} (hx : 0 ≤ x) (hj : 0 ≤ j) (hj2 : j ≤ 900) (hl : ns.length ≤ 1000) :
    ∃ (r c s : Int) (n a' : Nat) (x' j' : Int), Fit r c s n ∧ 0 ≤ x' ∧ 0 ≤ j' ∧ j' ≤ j + 5 ∧ G_l_numbers_137 [bq ns a x j] = .ok (.tup [.int r, .int c, .int s]) [bq ns a' x' j'] := by
  obtain ⟨w, a1, x1, w0, w1, p1, h1⟩ := G_take132_ok (ns := ns) (a := a) (r := x) (j := j) (n := 6) hx hj (by omega) (by decide) (by decide) hl
  by_cases hw : w = 0
  · subst hw
    obtain ⟨u, a2, x2, u0, u1, p2, h2⟩ := G_take132_ok (ns := ns) (a := a1) (r := x1) (j := j + 1) (n := 8) p1 (by omega) (by omega) (by decide) (by decide) hl
    obtain ⟨u, rfl⟩ := Int.eq_ofNat_of_zero_le u0
    have key : ∀ r : Int, 1 ≤ r → r ≤ 40 → ([1, 2, 4, 5, 8, 10, 20, 40] : List Int)[u]? = some r → ∃ (r c s : Int) (n a' : Nat) (x' j' : Int), Fit r c s n ∧ 0 ≤ x' ∧ 0 ≤ j' ∧ j' ≤ j + 5 ∧ G_l_numbers_137 [bq ns a x j] = .ok (.tup [.int r, .int c, .int s]) [bq ns a' x' j'] := by
      intro r r0 r1 hr
      obtain ⟨d0, d1, d2⟩ := div40 r0 r1
      obtain ⟨s, a3, x3, s0, s1, p3, h3⟩ := G_take132_ok (ns := ns) (a := a2) (r := x2) (j := j + 1 + 1) (n := 40 / r) p2 (by omega) (by omega) (by omega) (by omega) hl
      obtain ⟨n, hf⟩ := fit_of r0 d0 d2 s0 s1
      refine ⟨r, 40 / r, s, n, a3, x3, j + 1 + 1 + 1, hf, p3, by omega, by omega, ?_⟩
      have lg := log40 r0 (by omega)
      have rp : 0 < r := by omega
      have ix : L2.ixN 8 (u : Int) = some u := ixn_nat (by omega)
      have t8 : ([.int 1, .int 2, .int 4, .int 5, .int 8, .int 10, .int 20, .int 40] : List T)[u]? = some (.int r) := by
        have : ([.int 1, .int 2, .int 4, .int 5, .int 8, .int 10, .int 20, .int 40] : List T) = ([1, 2, 4, 5, 8, 10, 20, 40] : List Int).map T.int := rfl
        rw [this, List.getElem?_map, hr]
        rfl
      simp [G_l_numbers_137_run, B_l_numbers_137, h1, h2, h3, ix, t8, lg, rp]
    rcases (by omega : u = 0 ∨ u = 1 ∨ u = 2 ∨ u = 3 ∨ u = 4 ∨ u = 5 ∨ u = 6 ∨ u = 7) with rfl | rfl | rfl | rfl | rfl | rfl | rfl | rfl
    · exact key 1 (by decide) (by decide) rfl
    · exact key 2 (by decide) (by decide) rfl
    · exact key 4 (by decide) (by decide) rfl
    · exact key 5 (by decide) (by decide) rfl
    · exact key 8 (by decide) (by decide) rfl
    · exact key 10 (by decide) (by decide) rfl
    · exact key 20 (by decide) (by decide) rfl
    · exact key 40 (by decide) (by decide) rfl
  · obtain ⟨u, hu⟩ := Int.eq_ofNat_of_zero_le (show 0 ≤ w - 1 by omega)
    have key : ∀ m : Int, 1 ≤ m → m ≤ 40 → ([3, 6, 12, 40, 7] : List Int)[u]? = some m → ∃ (r c s : Int) (n a' : Nat) (x' j' : Int), Fit r c s n ∧ 0 ≤ x' ∧ 0 ≤ j' ∧ j' ≤ j + 5 ∧ G_l_numbers_137 [bq ns a x j] = .ok (.tup [.int r, .int c, .int s]) [bq ns a' x' j'] := by
      intro m m0 m1 hm
      obtain ⟨r, a2, x2, r0, r1, p2, h2⟩ := G_take132_ok (ns := ns) (a := a1) (r := x1) (j := j + 1) (n := m) p1 (by omega) (by omega) (by omega) (by omega) hl
      obtain ⟨d0, d1, d2⟩ := div40 (r := 1 + r) (by omega) (by omega)
      obtain ⟨c, a3, x3, c0, c1, p3, h3⟩ := G_take132_ok (ns := ns) (a := a2) (r := x2) (j := j + 1 + 1) (n := 40 / (1 + r)) p2 (by omega) (by omega) (by omega) (by omega) hl
      obtain ⟨f, a4, x4, f0, f1, p4, h4⟩ := G_take132_ok (ns := ns) (a := a3) (r := x3) (j := j + 1 + 1 + 1) (n := 2) p3 (by omega) (by omega) (by decide) (by decide) hl
      have hrc : (1 + r) * (1 + c) ≤ 40 := by
        have : (1 + r) * (1 + c) ≤ (1 + r) * (40 / (1 + r)) := Int.mul_le_mul_of_nonneg_left (by omega) (by omega)
        omega
      have lg := log40 (r := 1 + r) (by omega) (by omega)
      have rp : 0 < 1 + r := by omega
      have ix : L2.ixN 5 (u : Int) = some u := ixn_nat (by omega)
      have t5 : ([.int 3, .int 6, .int 12, .int 40, .int 7] : List T)[u]? = some (.int m) := by
        have : ([.int 3, .int 6, .int 12, .int 40, .int 7] : List T) = ([3, 6, 12, 40, 7] : List Int).map T.int := rfl
        rw [this, List.getElem?_map, hm]
        rfl
      by_cases hf : f = 1
      · subst hf
        obtain ⟨s, a5, x5, s0, s1, p5, h5⟩ := G_take132_ok (ns := ns) (a := a4) (r := x4) (j := j + 1 + 1 + 1 + 1) (n := 1 + r) p4 (by omega) (by omega) (by omega) (by omega) hl
        obtain ⟨n, hfit⟩ := fit_of (r := 1 + c) (c := 1 + r) (s := s) (by omega) (by omega) (by rw [Int.mul_comm]; exact hrc) s0 s1
        refine ⟨1 + c, 1 + r, s, n, a5, x5, j + 1 + 1 + 1 + 1 + 1, hfit, p5, by omega, by omega, ?_⟩
        simp [G_l_numbers_137_run, B_l_numbers_137, h1, h2, h3, h4, h5, ix, t5, lg, rp, hw, hu]
      · obtain ⟨s, a5, x5, s0, s1, p5, h5⟩ := G_take132_ok (ns := ns) (a := a4) (r := x4) (j := j + 1 + 1 + 1 + 1) (n := 1 + c) p4 (by omega) (by omega) (by omega) (by omega) hl
        obtain ⟨n, hfit⟩ := fit_of (r := 1 + r) (c := 1 + c) (s := s) (by omega) (by omega) hrc s0 s1
        refine ⟨1 + r, 1 + c, s, n, a5, x5, j + 1 + 1 + 1 + 1 + 1, hfit, p5, by omega, by omega, ?_⟩
        simp [G_l_numbers_137_run, B_l_numbers_137, h1, h2, h3, h4, h5, ix, t5, lg, rp, hw, hu, hf]
    rcases (by omega : u = 0 ∨ u = 1 ∨ u = 2 ∨ u = 3 ∨ u = 4) with rfl | rfl | rfl | rfl | rfl
    · exact key 3 (by decide) (by decide) rfl
    · exact key 6 (by decide) (by decide) rfl
    · exact key 12 (by decide) (by decide) rfl
    · exact key 40 (by decide) (by decide) rfl
    · exact key 7 (by decide) (by decide) rfl
/-- numbers of few figures -/
def few (x : Int) : Prop := -(10 ^ 42) ≤ x ∧ x ≤ 10 ^ 42
theorem G_spoilt138_ok {ns : List Int} {a : Nat} {x j r c s : Int} (hx : 0 ≤ x) (hj : 0 ≤ j) (hj2 : j ≤ 900) (hl : ns.length ≤ 1000) (hr : few r) (hc : few c) :
    ∃ (r' c' s' : Int) (a' : Nat) (x' j' : Int), few r' ∧ few c' ∧ 0 ≤ x' ∧ 0 ≤ j' ∧ j' ≤ j + 5 ∧ G_l_spoilt_138 [bq ns a x j, .int r, .int c, .int s] = .ok (.tup [.int r', .int c', .int s']) [bq ns a' x' j'] := by
  obtain ⟨t1, a1, x1, b1, b2, p1, h1⟩ := G_take132_ok (ns := ns) (a := a) (r := x) (j := j) (n := 2) hx hj (by omega) (by decide) (by decide) hl
  obtain ⟨t2, a2, x2, b3, b4, p2, h2⟩ := G_take132_ok (ns := ns) (a := a1) (r := x1) (j := j + 1) (n := 1000000000000000000) p1 (by omega) (by omega) (by decide) (by decide) hl
  obtain ⟨t3, a3, x3, b5, b6, p3, h3⟩ := G_take132_ok (ns := ns) (a := a2) (r := x2) (j := j + 1 + 1) (n := 3) p2 (by omega) (by omega) (by decide) (by decide) hl
  obtain ⟨w, a4, x4, b7, b8, p4, h4⟩ := G_take132_ok (ns := ns) (a := a3) (r := x3) (j := j + 1 + 1 + 1) (n := 6) p3 (by omega) (by omega) (by decide) (by decide) hl
  have m1 : ∀ y, mulOk t1 y = true := fun y => mulOk_l (by omega)
  have m2 : mulOk t2 t3 = true := mulOk_r (by omega)
  obtain ⟨g, hg⟩ : ∃ g, g = t1 * 10000000000000000000000000000000000000000 + t2 * t3 := ⟨_, rfl⟩
  have g0 : 0 ≤ g := by rw [hg]; exact Int.add_nonneg (Int.mul_nonneg b1 (by decide)) (Int.mul_nonneg b3 b5)
  have g1 : g ≤ 10 ^ 41 := by
    have e1 : t2 * t3 ≤ 1000000000000000000 * 3 := Int.mul_le_mul (by omega) (by omega) b5 (by decide)
    rw [hg]
    omega
  have key : ∀ v : Int, 1 ≤ v → v ≤ 10 ^ 42 → v.natAbs.log2 < 9000 ∧ 0 ≤ 40 / v ∧ 40 / v ≤ 40 := fun v v0 v1 => by
    refine ⟨?_, Int.ediv_nonneg (by decide) (by omega), Int.ediv_le_self _ (by decide)⟩
    have : v.natAbs < 2 ^ 9000 := Nat.lt_of_le_of_lt (show v.natAbs ≤ 2 ^ 200 by omega) (Nat.pow_lt_pow_right (by decide) (by decide))
    exact (Nat.log2_lt (by omega)).mpr this
  obtain ⟨vc, ec, vc0, vc1⟩ : ∃ v : Int, (if c > 1 then c else 1) = v ∧ 1 ≤ v ∧ v ≤ 10 ^ 42 := ⟨_, rfl, by split <;> omega, by unfold few at hc; split <;> omega⟩
  obtain ⟨vr, er, vr0, vr1⟩ : ∃ v : Int, (if r > 1 then r else 1) = v ∧ 1 ≤ v ∧ v ≤ 10 ^ 42 := ⟨_, rfl, by split <;> omega, by unfold few at hr; split <;> omega⟩
  have xc : tprim .max2 [.int 1, .int c] = some (.int vc) := by rw [← ec]; rfl
  have xr : tprim .max2 [.int 1, .int r] = some (.int vr) := by rw [← er]; rfl
  obtain ⟨kc1, kc2, kc3⟩ := key vc vc0 vc1
  obtain ⟨kr1, kr2, kr3⟩ := key vr vr0 vr1
  have vcp : 0 < vc := by omega
  have vrp : 0 < vr := by omega
  unfold few at hr hc ⊢
  rcases (by omega : w = 0 ∨ w = 1 ∨ w = 2 ∨ w = 3 ∨ w = 4 ∨ w = 5) with rfl | rfl | rfl | rfl | rfl | rfl
  · refine ⟨0 - g, c, s, a4, x4, j + 1 + 1 + 1 + 1, by omega, hc, p4, by omega, by omega, ?_⟩
    simp [G_l_spoilt_138_run, B_l_spoilt_138, h1, h2, h3, h4, m1, m2, ← hg]
  · refine ⟨r, 0 - g, s, a4, x4, j + 1 + 1 + 1 + 1, hr, by omega, p4, by omega, by omega, ?_⟩
    simp [G_l_spoilt_138_run, B_l_spoilt_138, h1, h2, h3, h4, m1, m2, ← hg]
  · refine ⟨r, c, -1 - g, a4, x4, j + 1 + 1 + 1 + 1, hr, hc, p4, by omega, by omega, ?_⟩
    simp [G_l_spoilt_138_run, B_l_spoilt_138, h1, h2, h3, h4, m1, m2, ← hg]
  · refine ⟨r, c, c + g, a4, x4, j + 1 + 1 + 1 + 1, hr, hc, p4, by omega, by omega, ?_⟩
    simp [G_l_spoilt_138_run, B_l_spoilt_138, h1, h2, h3, h4, m1, m2, ← hg]
  · refine ⟨40 / vc + 1 + g, c, s, a4, x4, j + 1 + 1 + 1 + 1, by omega, hc, p4, by omega, by omega, ?_⟩
    simp [G_l_spoilt_138_run, B_l_spoilt_138, h1, h2, h3, h4, m1, m2, ← hg, tpr_plain, xc, kc1, vcp]
  · refine ⟨r, 40 / vr + 1 + g, s, a4, x4, j + 1 + 1 + 1 + 1, hr, by omega, p4, by omega, by omega, ?_⟩
    simp [G_l_spoilt_138_run, B_l_spoilt_138, h1, h2, h3, h4, m1, m2, ← hg, tpr_plain, xr, kr1, vrp]
end Df
namespace Df
open Mi Tv
def gd (r c s : Int) : Bool := decide (1 ≤ r) && decide (1 ≤ c) && decide (0 ≤ s) && decide (s < c) && decide (r * c ≤ 40)
theorem few_mul {r c : Int} (hr : few r) (hc : few c) : mulOk r c = true := by
  unfold few at hr hc
  have h : (10 : Nat) ^ 42 < 2 ^ 1000 := Nat.lt_of_lt_of_le (show (10 : Nat) ^ 42 < 2 ^ 200 by decide) (Nat.pow_le_pow_right (by decide) (by decide))
  exact mul_big (Nat.lt_of_le_of_lt (by omega) h) (Nat.lt_of_le_of_lt (by omega) h)
theorem gd_fit {r c s : Int} (h : gd r c s = true) : ∃ n, Fit r c s n := by
  unfold gd at h
  simp only [Bool.and_eq_true, decide_eq_true_eq] at h; exact fit_of h.1.1.1.1 h.1.1.1.2 h.2 h.1.1.2 h.1.2
theorem fit_few {r c s : Int} {n : Nat} (h : Fit r c s n) : few r ∧ few c := by
  have := h.r0; have := h.r1; have := h.c0; have := h.c1
  unfold few
  omega
theorem fit_gd {r c s : Int} {n : Nat} (h : Fit r c s n) : gd r c s = true := by
  have h1 := h.n1; have h2 := h.n40; have := h.r0; have := h.c0; have := h.s0; have := h.s1
  unfold gd
  simp only [Bool.and_eq_true, decide_eq_true_eq]; omega
theorem G_ask829_ok {r c s : Int} (hr : few r) (hc : few c) : G_ask_numbers_829 [.int r, .int c, .int s] = if gd r c s = true then .ok .non [] else .ex 8 none [] := by
  have m := few_mul hr hc
  unfold gd
  by_cases h1 : r < 1
  · have : ¬ 1 ≤ r := by omega
    simp [G_ask_numbers_829_run, B_ask_numbers_829, h1, this]
  by_cases h2 : c < 1
  · have : ¬ 1 ≤ c := by omega
    simp [G_ask_numbers_829_run, B_ask_numbers_829, h1, h2, this]
  by_cases h3 : s < 0
  · have : ¬ 0 ≤ s := by omega
    simp [G_ask_numbers_829_run, B_ask_numbers_829, h1, h2, h3, this]
  by_cases h4 : c ≤ s
  · have : ¬ s < c := by omega
    simp [G_ask_numbers_829_run, B_ask_numbers_829, h1, h2, h3, h4, this]
  by_cases h5 : 40 < r * c
  · have : ¬ r * c ≤ 40 := by omega
    simp [G_ask_numbers_829_run, B_ask_numbers_829, h1, h2, h3, h4, h5, m, this]
  · have a1 : 1 ≤ r := by omega
    have a2 : 1 ≤ c := by omega
    have a3 : 0 ≤ s := by omega
    have a4 : s < c := by omega
    have a5 : r * c ≤ 40 := by omega
    simp [G_ask_numbers_829_run, B_ask_numbers_829, h1, h2, h3, h4, h5, m, a1, a2, a3, a4, a5]
end Df
namespace Df
open Mi Tv
theorem G_right126_ok {c p : Int} (hc : 0 < c) : G_right_of_126 [.int c, .int p] = .ok (.int (rgt c p)) [] := by
  simp [G_right_of_126_run, B_right_of_126, hc, rgt]
theorem G_upper127_ok {r c s p : Int} (hc : 0 < c) (hr : r ≤ 40) (hr0 : 1 ≤ r) : G_upper_of_127 [.int r, .int c, .int s, .int p] = .ok (.int (upr r c s p)) [] := by
  have m1 : mulOk r c = true := mulOk_l (by omega)
  unfold upr
  by_cases h : p + c < r * c
  · simp [G_upper_of_127_run, B_upper_of_127, m1, h]
  · simp [G_upper_of_127_run, B_upper_of_127, m1, h, hc]
end Df
namespace Df
open Mi Tv
theorem G_least_first_ok (xs : List Int) (hz : xs.length ≤ 1000000) : G_least_first_41 [ti false xs] = .ok (ti true (least xs)) [] := by
  rw [G_least_first_41_run]
  exact least_gen C_least_first_41 rfl xs hz
end Df
namespace Df
open Mi Tv
/-- where back leads: down of left -/
def bck (r c s p : Int) : Int := dwn r c s (lft c p)
def bku (r c s p : Int) : Int := rgt c (upr r c s p)
def thrRow (r c s p : Int) : List Int := least [6 * p + 2, 6 * p + 4, 6 * p, 6 * dwn r c s p + 3, 6 * bck r c s p + 5, 6 * lft c p + 1]
def thL (c : Int) (n : Nat) (k : Nat) : List Int := (up n).map (wr (lft c) (fun p => 6 * p + 1) k)
def thD (r c s : Int) (n : Nat) (k : Nat) : List Int := (up n).map (wr (dwn r c s) (fun p => 6 * p + 3) k)
def thB (r c s : Int) (n : Nat) (k : Nat) : List Int := (up n).map (wr (bck r c s) (fun p => 6 * p + 5) k)
def mtS (r c s : Int) (n : Nat) (A B E : List Int) (x7 x8 x9 x10 : Option T) : Tv.St := ⟨[some (.int r), some (.int c), some (.int s), some (.int (n : Int)), some (ti true A), some (ti true B), some (ti true E), x7, x8, x9, x10], [], []⟩
theorem mt_loop {r c s : Int} {n : Nat} (h : Fit r c s n) : tfL C_made_threes_142 (.name 7) W_made_threes_142_1 0 (some (.sq (.snap (trng 0 n)), n, mtS r c s n (List.replicate n 0) (List.replicate n 0) (List.replicate n 0) none none none none)) =
    .nx (mtS r c s n ((up n).map fun q => 6 * lft c q + 1) ((up n).map fun q => 6 * dwn r c s q + 3) ((up n).map fun q => 6 * bck r c s q + 5) none none none none) := by
  have r0 := h.r0; have c0 := h.c0; have s0 := h.s0; have s1 := h.s1; have n1 := h.n1; have n40 := h.n40; have hr := h.r1; have hc := h.c1
  have fl : ∀ q : Int, 0 ≤ q → q < n → 0 ≤ lft c q ∧ lft c q < n ∧ rgt c (lft c q) = q := fun q a b => by have := lr (r := r) (c := c) (p := q) (by omega) a (by omega); omega
  have fr : ∀ q : Int, 0 ≤ q → q < n → 0 ≤ rgt c q ∧ rgt c q < n ∧ lft c (rgt c q) = q := fun q a b => by have := rl (r := r) (c := c) (p := q) (by omega) a (by omega); omega
  have fd : ∀ q : Int, 0 ≤ q → q < n → 0 ≤ dwn r c s q ∧ dwn r c s q < n ∧ upr r c s (dwn r c s q) = q := fun q a b => by have := du (r := r) (c := c) (s := s) (p := q) (by omega) (by omega) s0 s1 a (by omega); omega
  have fu : ∀ q : Int, 0 ≤ q → q < n → 0 ≤ upr r c s q ∧ upr r c s q < n ∧ dwn r c s (upr r c s q) = q := fun q a b => by have := ud (r := r) (c := c) (s := s) (p := q) (by omega) (by omega) s0 s1 a (by omega); omega
  have fb : ∀ q : Int, 0 ≤ q → q < n → 0 ≤ bck r c s q ∧ bck r c s q < n ∧ bku r c s (bck r c s q) = q := fun q a b => by
    have h1 := fl q a b
    have h2 := fd _ h1.1 h1.2.1
    refine ⟨h2.1, h2.2.1, ?_⟩
    unfold bku bck
    rw [h2.2.2, h1.2.2]
  obtain ⟨s', h1, rfl⟩ := tfor_rng (c := C_made_threes_142) (t := .name 7) (p := W_made_threes_142_1) (b := 0) (s := mtS r c s n (List.replicate n 0) (List.replicate n 0) (List.replicate n 0) none none none none) 0 n
    (fun k z => z = mtS r c s n (thL c n k) (thD r c s n k) (thB r c s n k) none none none none) (by
      unfold thL thD thB
      rw [wr_zero fun q a b => (fl q a b).1, wr_zero fun q a b => (fd q a b).1, wr_zero fun q a b => (fb q a b).1]
      simp [mtS]) (fun k z e => by rw [e]; rfl)
    (fun k z hk e => by
      subst e
      have g1 := fr k (by omega) (by omega)
      have g2 := fu k (by omega) (by omega)
      have g3 := fr _ g2.1 g2.2.1
      have gb : bck r c s (bku r c s k) = k := by unfold bck bku; rw [g3.2.2, g2.2.2]
      have e1 := wr_step (v := fun p => 6 * p + 1) fl g1.2.2 g1.1 g1.2.1
      have e2 := wr_step (v := fun p => 6 * p + 3) fd g2.2.2 g2.1 g2.2.1
      have e3 := wr_step (f := bku r c s) (v := fun p => 6 * p + 5) fb gb g3.1 g3.2.1
      have c1 := G_right126_ok (c := c) (p := k) (by omega)
      have c3 := G_right126_ok (c := c) (p := upr r c s k) (by omega)
      have c2 := G_upper127_ok (r := r) (c := c) (s := s) (p := k) (by omega) (by omega) (by omega)
      have la : (thL c n k).length = n := by simp [thL]
      have lb : (thD r c s n k).length = n := by simp [thD]
      have lc : (thB r c s n k).length = n := by simp [thB]
      have i1 := ixn_int g1.1 g1.2.1
      have i2 := ixn_int g2.1 g2.2.1
      have i3 := ixn_int g3.1 g3.2.1
      have m4 : mulOk 6 (k : Int) = true := mulOk_l (by decide)
      refine ⟨mtS r c s n (thL c n (k + 1)) (thD r c s n (k + 1)) (thB r c s n (k + 1)) (some (.int k)) (some (.int (upr r c s k))) none none, .inl ?_, by simp [mtS]⟩
      have e1 : (thL c n k).set (rgt c k).toNat (6 * (k : Int) + 1) = thL c n (k + 1) := e1
      have e2 : (thD r c s n k).set (upr r c s k).toNat (6 * (k : Int) + 3) = thD r c s n (k + 1) := e2
      have e3 : (thB r c s n k).set (rgt c (upr r c s k)).toNat (6 * (k : Int) + 5) = thB r c s n (k + 1) := e3
      generalize thL c n (k + 1) = A1 at *
      generalize thD r c s n (k + 1) = B1 at *
      generalize thB r c s n (k + 1) = E1 at *
      generalize thL c n k = A at *
      generalize thD r c s n k = B at *
      generalize thB r c s n k = E at *
      generalize rgt c (upr r c s k) = z at *
      generalize rgt c k = x at *
      generalize upr r c s k = y at *
      simp [tfB_one, mtS, W_made_threes_142_1, c1, c2, c3, m4, la, lb, lc, i1, i2, i3, e1, e2, e3])
  rw [h1]
  unfold thL thD thB
  rw [wr_all fun q a b => (fl q a b).2.1, wr_all fun q a b => (fd q a b).2.1, wr_all fun q a b => (fb q a b).2.1]
end Df
namespace Df
open Mi Tv
theorem G_least135_ok (xs : List Int) (hz : xs.length ≤ 1000000) : G_l_least_135 [ti false xs] = .ok (ti true (least xs)) [] := by
  rw [G_l_least_135_run]
  exact least_gen C_l_least_135 rfl xs hz
end Df
namespace Df
open Mi Tv
theorem app_row {L : List (List Int)} {row : List Int} (h : L.length ≤ 1000000) : tmeth .append (tl true L) [ti true row] = some (.non, tl true (L ++ [row])) := by
  show (if (L.map (ti true)).length < PySem.sizeLine then some (T.non, T.lst true (L.map (ti true) ++ [ti true row])) else none) = _
  rw [if_pos (by rw [List.length_map]; exact sz_lt h)]
  unfold tl
  rw [List.map_append]
  rfl
theorem mt_told {r c s : Int} {n : Nat} (h : Fit r c s n) : tfL C_made_threes_142 (.name 7) W_made_threes_142_2 0 (some (.sq (.snap (trng 0 n)), n, mtS r c s n ((up n).map fun q => 6 * lft c q + 1) ((up n).map fun q => 6 * dwn r c s q + 3) ((up n).map fun q => 6 * bck r c s q + 5) none none (some (tl true [])) none)) =
    .nx (mtS r c s n ((up n).map fun q => 6 * lft c q + 1) ((up n).map fun q => 6 * dwn r c s q + 3) ((up n).map fun q => 6 * bck r c s q + 5) none none (some (tl true ((up n).map (thrRow r c s)))) none) := by
  have n40 := h.n40
  obtain ⟨s', h1, rfl⟩ := tfor_rng (c := C_made_threes_142) (t := .name 7) (p := W_made_threes_142_2) (b := 0) (s := mtS r c s n ((up n).map fun q => 6 * lft c q + 1) ((up n).map fun q => 6 * dwn r c s q + 3) ((up n).map fun q => 6 * bck r c s q + 5) none none (some (tl true [])) none) 0 n
    (fun k z => z = mtS r c s n ((up n).map fun q => 6 * lft c q + 1) ((up n).map fun q => 6 * dwn r c s q + 3) ((up n).map fun q => 6 * bck r c s q + 5) none none (some (tl true ((up k).map (thrRow r c s)))) none) (by simp [mtS, up]) (fun k z e => by rw [e]; rfl)
    (fun k z hk e => by
      subst e
      have m4 : mulOk 6 (k : Int) = true := mulOk_l (by decide)
      have ga : ((up n).map fun q => 6 * lft c q + 1)[k]? = some (6 * lft c k + 1) := by rw [List.getElem?_map, up_get hk]; rfl
      have gb : ((up n).map fun q => 6 * dwn r c s q + 3)[k]? = some (6 * dwn r c s k + 3) := by rw [List.getElem?_map, up_get hk]; rfl
      have gc : ((up n).map fun q => 6 * bck r c s q + 5)[k]? = some (6 * bck r c s k + 5) := by rw [List.getElem?_map, up_get hk]; rfl
      have la : ((up n).map fun q => 6 * lft c q + 1).length = n := by simp
      have lb : ((up n).map fun q => 6 * dwn r c s q + 3).length = n := by simp
      have lc : ((up n).map fun q => 6 * bck r c s q + 5).length = n := by simp
      have ix := ixn_nat hk
      generalize ((up n).map fun q => 6 * lft c q + 1) = A at *
      generalize ((up n).map fun q => 6 * dwn r c s q + 3) = B at *
      generalize ((up n).map fun q => 6 * bck r c s q + 5) = E at *
      have c1 := G_least_first_ok [6 * (k : Int) + 2, 6 * k + 4, 6 * k, 6 * dwn r c s k + 3, 6 * bck r c s k + 5, 6 * lft c k + 1] (by simp)
      have e1 : T.lst true [.int (6 * (k : Int) + 2), .int (6 * k + 4), .int (6 * k), .int (6 * dwn r c s k + 3), .int (6 * bck r c s k + 5), .int (6 * lft c k + 1)] = ti true [6 * (k : Int) + 2, 6 * k + 4, 6 * k, 6 * dwn r c s k + 3, 6 * bck r c s k + 5, 6 * lft c k + 1] := rfl
      have e2 : tnew [.int (6 * (k : Int) + 2), .int (6 * k + 4), .int (6 * k), .int (6 * dwn r c s k + 3), .int (6 * bck r c s k + 5), .int (6 * lft c k + 1)] = some (ti true [6 * (k : Int) + 2, 6 * k + 4, 6 * k, 6 * dwn r c s k + 3, 6 * bck r c s k + 5, 6 * lft c k + 1]) := tnew_ti (ns := [6 * (k : Int) + 2, 6 * k + 4, 6 * k, 6 * dwn r c s k + 3, 6 * bck r c s k + 5, 6 * lft c k + 1]) (by simp)
      have ap := app_row (L := (up k).map (thrRow r c s)) (row := thrRow r c s k) (by simp; omega)
      have hu : (up (k + 1)).map (thrRow r c s) = (up k).map (thrRow r c s) ++ [thrRow r c s k] := by rw [up_succ, List.map_append]; rfl
      obtain ⟨a1, a2⟩ := List.getElem?_eq_some_iff.mp ga
      obtain ⟨b1, b2⟩ := List.getElem?_eq_some_iff.mp gb
      obtain ⟨d1, d2⟩ := List.getElem?_eq_some_iff.mp gc
      refine ⟨mtS r c s n A B E (some (.int k)) none (some (tl true ((up (k + 1)).map (thrRow r c s)))) (some (ti true [6 * (k : Int) + 2, 6 * k + 4, 6 * k, 6 * dwn r c s k + 3, 6 * bck r c s k + 5, 6 * lft c k + 1])), .inl ?_, by simp [mtS]⟩
      rw [hu]
      have hrow : thrRow r c s k = least [6 * (k : Int) + 2, 6 * k + 4, 6 * k, 6 * dwn r c s k + 3, 6 * bck r c s k + 5, 6 * lft c k + 1] := rfl
      rw [← hrow] at c1
      generalize thrRow r c s k = row at *
      generalize (up k).map (thrRow r c s) = L at *
      simp [tfB_one, mtS, W_made_threes_142_2, m4, la, lb, lc, ix, hk, a2, b2, d2, e1, e2, c1, ap])
  exact h1
theorem G_threes142_ok {r c s : Int} {n : Nat} (h : Fit r c s n) : G_made_threes_142 [.int r, .int c, .int s] = .ok (tl true ((up n).map (thrRow r c s))) [] := by
  have r0 := h.r0; have c0 := h.c0; have n1 := h.n1; have n40 := h.n40; have hr := h.r1; have hc := h.c1
  have l1 := mt_loop h
  have l2 := mt_told h
  have r1 := rep0 (n := n) (by omega)
  have m1 : mulOk r c = true := mulOk_l (by omega)
  have s2 := small_nat (n := n) (by omega)
  unfold mtS at l1 l2
  generalize (up n).map (thrRow r c s) = R at *
  generalize ((up n).map fun q => 6 * lft c q + 1) = A at *
  generalize ((up n).map fun q => 6 * dwn r c s q + 3) = B at *
  generalize ((up n).map fun q => 6 * bck r c s q + 5) = E at *
  generalize List.replicate n (0 : Int) = z at *
  have hn : (n : Int) ≤ 1000000 := by omega
  simp [G_made_threes_142_run, B_made_threes_142, m1, n1, r1, s2, hn, l1, l2, nil_tl]
theorem G_down144_ok {r c s p : Int} (hc : 0 < c) (hc2 : c ≤ 40) : G_l_down_144 [.int r, .int c, .int s, .int p] = .ok (.int (dwn r c s p)) [] := by
  have m1 : mulOk (r - 1) c = true := mulOk_r (by omega)
  unfold dwn
  by_cases h : c ≤ p
  · simp [G_l_down_144_run, B_l_down_144, h]
  · simp [G_l_down_144_run, B_l_down_144, h, m1, hc]
def ltS (r c s : Int) (L : List (List Int)) (x4 x5 x6 x7 x8 : Option T) : Tv.St := ⟨[some (.int r), some (.int c), some (.int s), some (tl true L), x4, x5, x6, x7, x8], [], []⟩
theorem G_lthrees145_ok {r c s : Int} {n : Nat} (h : Fit r c s n) : G_l_threes_145 [.int r, .int c, .int s] = .ok (tl true ((up n).map (thrRow r c s))) [] := by
  have r0 := h.r0; have c0 := h.c0; have n1 := h.n1; have n40 := h.n40; have hr := h.r1; have hc := h.c1
  obtain ⟨s', h1, rfl⟩ := tfor_rng (c := C_l_threes_145) (t := .name 4) (p := W_l_threes_145_1) (b := 0) (s := ltS r c s [] none none none none none) 0 n
    (fun k z => z = ltS r c s ((up k).map (thrRow r c s)) none none none none none) (by simp [ltS, up]) (fun k z e => by rw [e]; rfl)
    (fun k z hk e => by
      subst e
      have m4 : ∀ x : Int, mulOk 6 x = true := fun x => mulOk_l (by decide)
      have g1 := G_down144_ok (r := r) (c := c) (s := s) (p := k) (by omega) hc
      have g2 := G_down144_ok (r := r) (c := c) (s := s) (p := lft c k) (by omega) hc
      have hb : dwn r c s (lft c k) = bck r c s k := rfl
      rw [hb] at g2
      have hl : (k : Int) - k % c + (k - 1) % c = lft c k := by unfold lft; simp
      have c1 := G_least135_ok [6 * (k : Int) + 2, 6 * k + 4, 6 * k, 6 * dwn r c s k + 3, 6 * bck r c s k + 5, 6 * lft c k + 1] (by simp)
      have e1 : T.lst true [.int (6 * (k : Int) + 2), .int (6 * k + 4), .int (6 * k), .int (6 * dwn r c s k + 3), .int (6 * bck r c s k + 5), .int (6 * lft c k + 1)] = ti true [6 * (k : Int) + 2, 6 * k + 4, 6 * k, 6 * dwn r c s k + 3, 6 * bck r c s k + 5, 6 * lft c k + 1] := rfl
      have e2 : tnew [.int (6 * (k : Int) + 2), .int (6 * k + 4), .int (6 * k), .int (6 * dwn r c s k + 3), .int (6 * bck r c s k + 5), .int (6 * lft c k + 1)] = some (ti true [6 * (k : Int) + 2, 6 * k + 4, 6 * k, 6 * dwn r c s k + 3, 6 * bck r c s k + 5, 6 * lft c k + 1]) := tnew_ti (ns := [6 * (k : Int) + 2, 6 * k + 4, 6 * k, 6 * dwn r c s k + 3, 6 * bck r c s k + 5, 6 * lft c k + 1]) (by simp)
      have ap := app_row (L := (up k).map (thrRow r c s)) (row := thrRow r c s k) (by simp; omega)
      have hu : (up (k + 1)).map (thrRow r c s) = (up k).map (thrRow r c s) ++ [thrRow r c s k] := by rw [up_succ, List.map_append]; rfl
      have cp : 0 < c := by omega
      refine ⟨ltS r c s ((up (k + 1)).map (thrRow r c s)) (some (.int k)) (some (.int (lft c k))) (some (.int (dwn r c s k))) (some (.int (bck r c s k))) (some (ti true [6 * (k : Int) + 2, 6 * k + 4, 6 * k, 6 * dwn r c s k + 3, 6 * bck r c s k + 5, 6 * lft c k + 1])), .inl ?_, by simp [ltS]⟩
      rw [hu]
      have hrow : thrRow r c s k = least [6 * (k : Int) + 2, 6 * k + 4, 6 * k, 6 * dwn r c s k + 3, 6 * bck r c s k + 5, 6 * lft c k + 1] := rfl
      rw [← hrow] at c1
      generalize thrRow r c s k = row at *
      generalize (up k).map (thrRow r c s) = L at *
      simp [tfB_one, ltS, W_l_threes_145_1, m4, cp, hl, g1, g2, e1, e2, c1, ap])
  have m1 : mulOk r c = true := mulOk_l (by omega)
  have s2 := small_nat (n := n) (by omega)
  have hn : (n : Int) ≤ 1000000 := by omega
  unfold ltS at h1
  generalize (up n).map (thrRow r c s) = R at *
  simp [G_l_threes_145_run, B_l_threes_145, m1, n1, s2, hn, h1, nil_tl]
end Df
namespace Df
open Mi Tv
theorem G_whole5_ok (x : Int) : G_l_whole_5 [.int x] = .ok (.bl true) [] := by
  simp [G_l_whole_5_run, B_l_whole_5]
end Df
namespace Df
open Mi Tv
theorem G_row133_ok (xs : List Int) : G_l_row_133 [ti false xs, ti false xs] = .ok (.bl true) [] := by
  obtain ⟨s', h1, rfl⟩ := tfor_enum (c := C_l_row_133) (t := .tup [.name 2, .name 3]) (p := W_l_row_133_1) (b := 0) (s := ⟨[some (ti false xs), some (ti false xs), none, none], [], []⟩) T.int xs
    (fun k s => s = ⟨[some (ti false xs), some (ti false xs), none, none], [], []⟩) (by simp) (fun k s e => by rw [e]; rfl)
    (fun k x s hk e => by
      subst e
      obtain ⟨k1, k2⟩ := List.getElem?_eq_some_iff.mp hk
      have ix : L2.ixN xs.length (k : Int) = some k := by
        unfold L2.ixN
        rw [if_pos (by omega), if_pos (by omega)]; congr 1
      have w := G_whole5_ok x
      refine ⟨⟨[some (ti false xs), some (ti false xs), some (.int k), some (.int x)], [], []⟩, .inl ?_, by simp⟩
      simp [tfB_two, W_l_row_133_1, k1, k2, ix, w])
  simp [G_l_row_133_run, B_l_row_133, tpr_plain, h1]
theorem start_enum_tl2 (o : Bool) (L : List (List Int)) (s : Tv.St) : tstart .enum [.own (tl o L)] s = some (.en (.snap (L.map (ti false))), L.length, s) := by
  have h : tsrc (.own (tl o L)) s = some (.snap (fzs (L.map (ti o))), (L.map (ti o)).length, s) := rfl
  rw [fzs_ti, List.length_map] at h
  show (if lonly s (.own (tl o L)) then (tsrc (.own (tl o L)) s).map fun (a, n, s) => (TI.en a, n, s) else none) = _
  rw [h]
  rfl
theorem G_rows134_ok (L : List (List Int)) : G_l_rows_134 [tl false L, tl false L] = .ok (.bl true) [] := by
  obtain ⟨s', h1, rfl⟩ := tfor_enum (c := C_l_rows_134) (t := .tup [.name 2, .name 3]) (p := W_l_rows_134_1) (b := 0) (s := ⟨[some (tl false L), some (tl false L), none, none], [], []⟩) (ti false) L
    (fun k s => s = ⟨[some (tl false L), some (tl false L), none, none], [], []⟩) (by simp) (fun k s e => by rw [e]; rfl)
    (fun k x s hk e => by
      subst e
      obtain ⟨k1, k2⟩ := List.getElem?_eq_some_iff.mp hk
      have ix : L2.ixN L.length (k : Int) = some k := by
        unfold L2.ixN
        rw [if_pos (by omega), if_pos (by omega)]; congr 1
      have w := G_row133_ok x
      refine ⟨⟨[some (tl false L), some (tl false L), some (.int k), some (ti false x)], [], []⟩, .inl ?_, by simp⟩
      simp [tfB_two, W_l_rows_134_1, k1, k2, ix, w])
  simp [G_l_rows_134_run, B_l_rows_134, tpr_plain, start_enum_tl2, h1]
end Df
namespace Df
open Mi Tv
theorem G_threes831_ok {r c s : Int} {n : Nat} (h : Fit r c s n) : G_threes_831 [.int r, .int c, .int s] = .ok (tl true ((up n).map (thrRow r c s))) [] := by
  have h1 := G_threes142_ok h
  have h2 := G_ask829_ok (s := s) (fit_few h).1 (fit_few h).2
  rw [fit_gd h, if_pos rfl] at h2
  simp [G_threes_831_run, B_threes_831, h1, h2]
theorem G_threes831_no {r c s : Int} (hr : few r) (hc : few c) (h : gd r c s = false) : G_threes_831 [.int r, .int c, .int s] = .ex 8 none [] := by
  have h2 := G_ask829_ok (s := s) hr hc
  rw [h, if_neg (by decide)] at h2
  simp [G_threes_831_run, B_threes_831, h2]
theorem G_refused961_ok {r c s : Int} (hr : few r) (hc : few c) (h : gd r c s = false) : G_l_refused_961 [.int r, .int c, .int s] = .ok (.bl true) [] := by
  have h1 := G_threes831_no hr hc h
  simp [G_l_refused_961_run, B_l_refused_961, h1]
theorem G_any962_ok {r c s : Int} (hr : few r) (hc : few c) (h : gd r c s = false) : G_l_refused_by_any_962 [.int r, .int c, .int s] = .ok (.bl true) [] := by
  have h1 := G_threes831_no hr hc h
  simp [G_l_refused_by_any_962_run, B_l_refused_by_any_962, h1]
end Df
namespace Df
open Mi Tv
def l7 (ns : List Int) (a : Nat) (x j : Int) (sp r c s : Int) (x6 x7 x8 x9 : Option T) : Tv.St := ⟨[some (.fro (ns.map .int)), some (bq ns a x j), some (.int sp), some (.int r), some (.int c), some (.int s), x6, x7, x8, x9], [], []⟩
theorem l7_a (ns : List Int) (hl : ns.length ≤ 63) : ∃ (a : Nat) (x j sp r c s : Int) (n : Nat), Fit r c s n ∧ 0 ≤ x ∧ 0 ≤ j ∧ j ≤ 10 ∧ 0 ≤ sp ∧ sp ≤ 2 ∧
    txs C_l_law_963 (B_l_law_963.take 4) ⟨[some (.fro (ns.map .int)), none, none, none, none, none, none, none, none, none], [], []⟩ = .nx (l7 ns a x j sp r c s (some (tl true ((up n).map (thrRow r c s)))) none none none) := by
  obtain ⟨u, a1, x1, u0, u1, p1, h1⟩ := G_take132_ok (ns := ns) (a := 0) (r := 0) (j := 0) (n := 8) (by decide) (by decide) (by decide) (by decide) (by decide) (by omega)
  obtain ⟨r, c, s, n, a2, x2, j2, hf, p2, p3, p4, h2⟩ := G_numbers137_ok (ns := ns) (a := a1) (x := x1) (j := 0 + 1) p1 (by decide) (by decide) (by omega)
  have h3 := G_lthrees145_ok hf
  obtain ⟨u, rfl⟩ := Int.eq_ofNat_of_zero_le u0
  have ix : L2.ixN 8 (u : Int) = some u := ixn_nat (by omega)
  have lst : tprim .list [.fro (ns.map T.int)] = some (ti true ns) := by
    show tnew (ns.map T.int) = _
    exact tnew_ti (by omega)
  have tn : tnew [ti true ns, .int 0, .int 0, .int 0] = some (bq ns 0 0 0) := tnew_ok _ (szl (by simp))
  have tb : T.lst true [ti true ns, .int 0, .int 0, .int 0] = bq ns 0 0 0 := rfl
  have key : ∀ sp : Int, 0 ≤ sp → sp ≤ 2 → ([0, 0, 0, 0, 0, 1, 1, 2] : List Int)[u]? = some sp → ∃ (a : Nat) (x j sp r c s : Int) (n : Nat), Fit r c s n ∧ 0 ≤ x ∧ 0 ≤ j ∧ j ≤ 10 ∧ 0 ≤ sp ∧ sp ≤ 2 ∧
    txs C_l_law_963 (B_l_law_963.take 4) ⟨[some (.fro (ns.map .int)), none, none, none, none, none, none, none, none, none], [], []⟩ = .nx (l7 ns a x j sp r c s (some (tl true ((up n).map (thrRow r c s)))) none none none) := by
    intro sp sp0 sp1 hsp
    refine ⟨a2, x2, j2, sp, r, c, s, n, hf, p2, p3, by omega, sp0, sp1, ?_⟩
    have t8 : ([.int 0, .int 0, .int 0, .int 0, .int 0, .int 1, .int 1, .int 2] : List T)[u]? = some (.int sp) := by
      have : ([.int 0, .int 0, .int 0, .int 0, .int 0, .int 1, .int 1, .int 2] : List T) = ([0, 0, 0, 0, 0, 1, 1, 2] : List Int).map T.int := rfl
      rw [this, List.getElem?_map, hsp]
      rfl
    have h2 : G_l_numbers_137 [bq ns a1 x1 1] = .ok (.tup [.int r, .int c, .int s]) [bq ns a2 x2 j2] := h2
    have h1 : G_l_take_132 [bq ns 0 0 0, .int 8] = .ok (.int (u : Int)) [bq ns a1 x1 1] := h1
    generalize (up n).map (thrRow r c s) = R at *
    unfold l7
    simp [B_l_law_963, lst, tn, tb, h1, h2, h3, ix, t8]
  rcases (by omega : u = 0 ∨ u = 1 ∨ u = 2 ∨ u = 3 ∨ u = 4 ∨ u = 5 ∨ u = 6 ∨ u = 7) with rfl | rfl | rfl | rfl | rfl | rfl | rfl | rfl
  · exact key 0 (by decide) (by decide) rfl
  · exact key 0 (by decide) (by decide) rfl
  · exact key 0 (by decide) (by decide) rfl
  · exact key 0 (by decide) (by decide) rfl
  · exact key 0 (by decide) (by decide) rfl
  · exact key 1 (by decide) (by decide) rfl
  · exact key 1 (by decide) (by decide) rfl
  · exact key 2 (by decide) (by decide) rfl
theorem l7_b {ns : List Int} {a : Nat} {x j sp r c s : Int} {n : Nat} (hf : Fit r c s n) : ∃ t : T,
    txs C_l_law_963 ((B_l_law_963.drop 4).take 5) (l7 ns a x j sp r c s (some (tl true ((up n).map (thrRow r c s)))) none none none) = .nx (l7 ns a x j sp r c s (some (tl true ((up n).map (thrRow r c s)))) (some t) none none) := by
  have h1 := G_threes831_ok hf
  have h2 := G_rows134_ok ((up n).map (thrRow r c s))
  have hn : 0 < n := by
    have := hf.n1
    have h0 := hf.r0; have h1 := hf.c0
    have : 0 < r * c := Int.mul_pos (by omega) (by omega)
    omega
  have hlen : ((up n).map (thrRow r c s)).length = n := by simp
  have hrl : ∀ row ∈ (up n).map (thrRow r c s), row.length ≤ 10 := fun row h => by
    obtain ⟨p, _, rfl⟩ := List.mem_map.mp h
    unfold thrRow
    rw [least_len]
    simp
  generalize (up n).map (thrRow r c s) = R at *
  cases R with
  | nil => simp at hlen; omega
  | cons row R =>
    have hz : row.length < PySem.sizeLine := sz_lt (by have := hrl row List.mem_cons_self; omega)
    have f2 : tmeth .append (ti true row) [.int 7] = some (.non, ti true (row ++ [7])) := by
      show (if (row.map T.int).length < PySem.sizeLine then some (T.non, T.lst true (row.map T.int ++ [T.int 7])) else none) = _
      rw [if_pos (by rw [List.length_map]; exact hz)]
      unfold ti
      rw [List.map_append]
      rfl
    have f3 : tPut (tl true (row :: R)) [0] (ti true (row ++ [7])) = some (tl true ((row ++ [7]) :: R)) := rfl
    have hd : ∃ y, ((row ++ [7]) :: R)[R.length]? = some y := ⟨_, List.getElem?_eq_getElem (by simp)⟩
    obtain ⟨y, hy⟩ := hd
    have f4 : tmeth .pop (tl true ((row ++ [7]) :: R)) [] = some (ti true y, tl true ((row ++ [7]) :: R).dropLast) := by
      show (match (((row ++ [7]) :: R).map (ti true))[(((row ++ [7]) :: R).map (ti true)).length - 1]? with | some y => some (y, T.lst true (((row ++ [7]) :: R).map (ti true)).dropLast) | none => none) = _
      rw [List.length_map, List.length_cons, Nat.add_sub_cancel, List.getElem?_map, hy, ← List.map_dropLast]
      rfl
    have f7 : (tkids (tl true (row :: R)))[0]? = some (ti true row) := rfl
    have i0 : L2.ixN (R.length + 1) 0 = some 0 := ixn_nat (n := R.length + 1) (p := 0) (by omega)
    refine ⟨tl true ((row ++ [7]) :: R).dropLast, ?_⟩
    generalize hM : ((row ++ [7]) :: R).dropLast = M at *
    unfold l7
    simp [B_l_law_963, h1, h2, tpr_plain, f2, f3, f4, f7, i0]
theorem l7_c {ns : List Int} {a : Nat} {x j sp r c s : Int} {x6 x7 : Option T} (hl : ns.length ≤ 63) (hx : 0 ≤ x) (hj : 0 ≤ j) (hj2 : j ≤ 10) (hs0 : 0 ≤ sp) (hs1 : sp ≤ 2) (hr : few r) (hc : few c) :
    ∃ (a' : Nat) (x' j' r' c' s' : Int), few r' ∧ few c' ∧ txs C_l_law_963 ((B_l_law_963.drop 9).take 1) (l7 ns a x j sp r c s x6 x7 none none) = .nx (l7 ns a' x' j' sp r' c' s' x6 x7 none none) := by
  obtain ⟨sp, rfl⟩ := Int.eq_ofNat_of_zero_le hs0
  obtain ⟨z, h1, a', x', j', r', c', s', rfl, g1, g2, g3, g4, g5⟩ := tfor_rng (c := C_l_law_963) (t := .name 8) (p := W_l_law_963_1) (b := 0) (s := l7 ns a x j sp r c s x6 x7 none none) 0 sp
    (fun k z => ∃ a' x' j' r' c' s', z = l7 ns a' x' j' sp r' c' s' x6 x7 none none ∧ 0 ≤ x' ∧ 0 ≤ j' ∧ j' ≤ 10 + 5 * k ∧ few r' ∧ few c') ⟨a, x, j, r, c, s, by simp [l7], hx, hj, by omega, hr, hc⟩ (fun k z ⟨_, _, _, _, _, _, e, _⟩ => by rw [e]; rfl)
    (fun k z hk ⟨a', x', j', r', c', s', e, g1, g2, g3, g4, g5⟩ => by
      subst e
      obtain ⟨r2, c2, s2, a2, x2, j2, q1, q2, q3, q4, q5, h2⟩ := G_spoilt138_ok (ns := ns) (a := a') (x := x') (j := j') (r := r') (c := c') (s := s') g1 g2 (by omega) (by omega) g4 g5
      refine ⟨l7 ns a2 x2 j2 sp r2 c2 s2 x6 x7 (some (.int k)) none, .inl ?_, a2, x2, j2, r2, c2, s2, by simp [l7], q3, q4, by omega, q1, q2⟩
      unfold l7
      simp [tfB_one, W_l_law_963_1, h2])
  refine ⟨a', x', j', r', c', s', g4, g5, ?_⟩
  have ss := small_nat (n := sp) (by omega)
  unfold l7 at h1 ⊢
  have sl : (sp : Int) ≤ 1000000 := by omega
  simp [B_l_law_963, ss, sl, h1]
theorem l7_d {ns : List Int} {a : Nat} {x j sp r c s : Int} {x6 x7 : Option T} (hr : few r) (hc : few c) : (txs C_l_law_963 (B_l_law_963.drop 10) (l7 ns a x j sp r c s x6 x7 none none)).fin [] = .ok (.bl true) [] := by
  have m := few_mul hr hc
  by_cases hg : gd r c s = true
  · obtain ⟨n, hf⟩ := gd_fit hg
    have h1 := G_threes831_ok hf
    have h2 := G_rows134_ok ((up n).map (thrRow r c s))
    have h3 := G_lthrees145_ok hf
    generalize (up n).map (thrRow r c s) = R at *
    unfold gd at hg
    simp only [Bool.and_eq_true, decide_eq_true_eq] at hg
    obtain ⟨⟨⟨⟨a1, a2⟩, a3⟩, a4⟩, a5⟩ := hg
    unfold l7
    simp [B_l_law_963, h1, h2, h3, m, a1, a2, a3, a4, a5]
  · have hg : gd r c s = false := by simpa using hg
    have h1 := G_refused961_ok hr hc hg
    have h2 := G_any962_ok hr hc hg
    unfold gd at hg
    unfold l7
    by_cases a1 : 1 ≤ r
    · by_cases a2 : 1 ≤ c
      · by_cases a3 : 0 ≤ s
        · by_cases a4 : s < c
          · have a5 : ¬ r * c ≤ 40 := by simpa [a1, a2, a3, a4] using hg
            simp [B_l_law_963, h1, h2, m, a1, a2, a3, a4, a5]
          · simp [B_l_law_963, h1, h2, m, a1, a2, a3, a4]
        · simp [B_l_law_963, h1, h2, m, a1, a2, a3]
      · simp [B_l_law_963, h1, h2, m, a1, a2]
    · simp [B_l_law_963, h1, h2, m, a1]
theorem holds_k36 (ns : List Int) (hl : ns.length ≤ 63) : ∃ outs, G_l_law_963 [.fro (ns.map .int)] = .ok (.bl true) outs := by
  obtain ⟨a, x, j, sp, r, c, s, n, hf, g1, g2, g3, g4, g5, h1⟩ := l7_a ns hl
  obtain ⟨t, h2⟩ := l7_b (ns := ns) (a := a) (x := x) (j := j) (sp := sp) hf
  obtain ⟨a', x', j', r', c', s', g6, g7, h3⟩ := l7_c (ns := ns) (a := a) (x := x) (j := j) (sp := sp) (r := r) (c := c) (s := s) (x6 := some (tl true ((up n).map (thrRow r c s)))) (x7 := some t) hl g1 g2 g3 g4 g5 (fit_few hf).1 (fit_few hf).2
  have h4 := l7_d (ns := ns) (a := a') (x := x') (j := j') (sp := sp) (r := r') (c := c') (s := s') (x6 := some (tl true ((up n).map (thrRow r c s)))) (x7 := some t) g6 g7
  refine ⟨[], ?_⟩
  have hB : B_l_law_963 = B_l_law_963.take 4 ++ ((B_l_law_963.drop 4).take 5 ++ ((B_l_law_963.drop 9).take 1 ++ B_l_law_963.drop 10)) := rfl
  rw [G_l_law_963_run]
  refine (congrArg (fun B => (txs C_l_law_963 B _).fin []) hB).trans ?_
  rw [txs_app, show (⟨[T.fro (ns.map .int)].map some ++ List.replicate (10 - [T.fro (ns.map T.int)].length) none, [], []⟩ : Tv.St) = ⟨[some (.fro (ns.map .int)), none, none, none, none, none, none, none, none, none], [], []⟩ from rfl, h1, TO.then_nx, txs_app, h2, TO.then_nx, txs_app, h3, TO.then_nx, h4]
end Df
namespace Lk36
open PySem L2 Mi Df
abbrev BMV : List Value := [.type "ValueError", .type "Exception", .type "BaseException", .type "object"]
def top (i : Nat) : Stmt := PySem.Challenge.pw_ringfloor_k36_threes_made.main.body.getD i (.Pass ⟨0, 0, 0, 0⟩)
abbrev s_least_first : Stmt := top 1
def N_least_first : List Str := ["row", "at"]
def f_least_first : List (Str × Nat) := []
def t_least_first : TC := tcOf (defScope s_least_first) N_least_first f_least_first [("LARGEST", .int 40)] [] [("NoNumbers", 8), ("NoKind", 10), ("FloorError", 0), ("ValueError", 100)] [8]
theorem b_least_first : trSl (trS 60 t_least_first) (defBody s_least_first) = some B_least_first_41 := by kernel_rfl
abbrev s_right_of : Stmt := top 8
def N_right_of : List Str := ["columns", "place"]
def f_right_of : List (Str × Nat) := []
def t_right_of : TC := tcOf (defScope s_right_of) N_right_of f_right_of [("LARGEST", .int 40)] [] [("NoNumbers", 8), ("NoKind", 10), ("FloorError", 0), ("ValueError", 100)] [8]
theorem b_right_of : trSl (trS 60 t_right_of) (defBody s_right_of) = some B_right_of_126 := by kernel_rfl
abbrev s_upper_of : Stmt := top 9
def N_upper_of : List Str := ["rows", "columns", "shift", "place"]
def f_upper_of : List (Str × Nat) := []
def t_upper_of : TC := tcOf (defScope s_upper_of) N_upper_of f_upper_of [("LARGEST", .int 40)] [] [("NoNumbers", 8), ("NoKind", 10), ("FloorError", 0), ("ValueError", 100)] [8]
theorem b_upper_of : trSl (trS 60 t_upper_of) (defBody s_upper_of) = some B_upper_of_127 := by kernel_rfl
abbrev s_made_threes : Stmt := top 10
def N_made_threes : List Str := ["rows", "columns", "shift", "many", "left", "down", "back", "place", "upper", "told", "row"]
def f_made_threes : List (Str × Nat) := [("least_first", 41), ("right_of", 126), ("upper_of", 127)]
def t_made_threes : TC := tcOf (defScope s_made_threes) N_made_threes f_made_threes [("LARGEST", .int 40)] [] [("NoNumbers", 8), ("NoKind", 10), ("FloorError", 0), ("ValueError", 100)] [8]
theorem b_made_threes : trSl (trS 60 t_made_threes) (defBody s_made_threes) = some B_made_threes_142 := by kernel_rfl
abbrev s_ask_numbers : Stmt := top 11
def N_ask_numbers : List Str := ["rows", "columns", "shift"]
def f_ask_numbers : List (Str × Nat) := []
def t_ask_numbers : TC := tcOf (defScope s_ask_numbers) N_ask_numbers f_ask_numbers [("LARGEST", .int 40)] [] [("NoNumbers", 8), ("NoKind", 10), ("FloorError", 0), ("ValueError", 100)] [8]
theorem b_ask_numbers : trSl (trS 60 t_ask_numbers) (defBody s_ask_numbers) = some B_ask_numbers_829 := by kernel_rfl
abbrev s_threes : Stmt := top 12
def N_threes : List Str := ["rows", "columns", "shift"]
def f_threes : List (Str × Nat) := [("made_threes", 142), ("ask_numbers", 829)]
def t_threes : TC := tcOf (defScope s_threes) N_threes f_threes [("LARGEST", .int 40)] [] [("NoNumbers", 8), ("NoKind", 10), ("FloorError", 0), ("ValueError", 100)] [8]
theorem b_threes : trSl (trS 60 t_threes) (defBody s_threes) = some B_threes_831 := by kernel_rfl
abbrev s_l_mixed : Stmt := top 14
def N_l_mixed : List Str := ["_law_cell", "_law_k", "_law_many", "_law_one"]
def f_l_mixed : List (Str × Nat) := []
def t_l_mixed : TC := tcOf (defScope s_l_mixed) N_l_mixed f_l_mixed [("LARGEST", .int 40)] [] [("NoNumbers", 8), ("NoKind", 10), ("FloorError", 0), ("ValueError", 100)] [8]
theorem b_l_mixed : trSl (trS 60 t_l_mixed) (defBody s_l_mixed) = some B_l_mixed_131 := by kernel_rfl
abbrev s_l_take : Stmt := top 15
def N_l_take : List Str := ["_law_box", "_law_many", "_law_cell", "_law_draw"]
def f_l_take : List (Str × Nat) := [("_law_mixed", 131)]
def t_l_take : TC := tcOf (defScope s_l_take) N_l_take f_l_take [("LARGEST", .int 40)] [] [("NoNumbers", 8), ("NoKind", 10), ("FloorError", 0), ("ValueError", 100)] [8]
theorem b_l_take : trSl (trS 60 t_l_take) (defBody s_l_take) = some B_l_take_132 := by kernel_rfl
abbrev s_l_whole : Stmt := top 16
def N_l_whole : List Str := ["_law_found"]
def f_l_whole : List (Str × Nat) := []
def t_l_whole : TC := tcOf (defScope s_l_whole) N_l_whole f_l_whole [("LARGEST", .int 40)] [] [("NoNumbers", 8), ("NoKind", 10), ("FloorError", 0), ("ValueError", 100)] [8]
theorem b_l_whole : trSl (trS 60 t_l_whole) (defBody s_l_whole) = some B_l_whole_5 := by kernel_rfl
abbrev s_l_row : Stmt := top 17
def N_l_row : List Str := ["_law_found", "_law_due", "_law_at", "_law_number"]
def f_l_row : List (Str × Nat) := [("_law_whole", 5)]
def t_l_row : TC := tcOf (defScope s_l_row) N_l_row f_l_row [("LARGEST", .int 40)] [] [("NoNumbers", 8), ("NoKind", 10), ("FloorError", 0), ("ValueError", 100)] [8]
theorem b_l_row : trSl (trS 60 t_l_row) (defBody s_l_row) = some B_l_row_133 := by kernel_rfl
abbrev s_l_rows : Stmt := top 18
def N_l_rows : List Str := ["_law_found", "_law_due", "_law_at", "_law_row_here"]
def f_l_rows : List (Str × Nat) := [("_law_row", 133)]
def t_l_rows : TC := tcOf (defScope s_l_rows) N_l_rows f_l_rows [("LARGEST", .int 40)] [] [("NoNumbers", 8), ("NoKind", 10), ("FloorError", 0), ("ValueError", 100)] [8]
theorem b_l_rows : trSl (trS 60 t_l_rows) (defBody s_l_rows) = some B_l_rows_134 := by kernel_rfl
abbrev s_l_least : Stmt := top 19
def N_l_least : List Str := ["_law_row_here", "_law_at"]
def f_l_least : List (Str × Nat) := []
def t_l_least : TC := tcOf (defScope s_l_least) N_l_least f_l_least [("LARGEST", .int 40)] [] [("NoNumbers", 8), ("NoKind", 10), ("FloorError", 0), ("ValueError", 100)] [8]
theorem b_l_least : trSl (trS 60 t_l_least) (defBody s_l_least) = some B_l_least_135 := by kernel_rfl
abbrev s_l_down : Stmt := top 20
def N_l_down : List Str := ["_law_r", "_law_c", "_law_s", "_law_p"]
def f_l_down : List (Str × Nat) := []
def t_l_down : TC := tcOf (defScope s_l_down) N_l_down f_l_down [("LARGEST", .int 40)] [] [("NoNumbers", 8), ("NoKind", 10), ("FloorError", 0), ("ValueError", 100)] [8]
theorem b_l_down : trSl (trS 60 t_l_down) (defBody s_l_down) = some B_l_down_144 := by kernel_rfl
abbrev s_l_threes : Stmt := top 21
def N_l_threes : List Str := ["_law_r", "_law_c", "_law_s", "_law_told", "_law_p", "_law_left", "_law_down_here", "_law_back", "_law_row_here"]
def f_l_threes : List (Str × Nat) := [("_law_least", 135), ("_law_down", 144)]
def t_l_threes : TC := tcOf (defScope s_l_threes) N_l_threes f_l_threes [("LARGEST", .int 40)] [] [("NoNumbers", 8), ("NoKind", 10), ("FloorError", 0), ("ValueError", 100)] [8]
theorem b_l_threes : trSl (trS 60 t_l_threes) (defBody s_l_threes) = some B_l_threes_145 := by kernel_rfl
abbrev s_l_numbers : Stmt := top 22
def N_l_numbers : List Str := ["_law_box", "_law_way", "_law_r", "_law_c"]
def f_l_numbers : List (Str × Nat) := [("_law_take", 132)]
def t_l_numbers : TC := tcOf (defScope s_l_numbers) N_l_numbers f_l_numbers [("LARGEST", .int 40)] [] [("NoNumbers", 8), ("NoKind", 10), ("FloorError", 0), ("ValueError", 100)] [8]
theorem b_l_numbers : trSl (trS 60 t_l_numbers) (defBody s_l_numbers) = some B_l_numbers_137 := by kernel_rfl
abbrev s_l_spoilt : Stmt := top 23
def N_l_spoilt : List Str := ["_law_box", "_law_r", "_law_c", "_law_s", "_law_great", "_law_way"]
def f_l_spoilt : List (Str × Nat) := [("_law_take", 132)]
def t_l_spoilt : TC := tcOf (defScope s_l_spoilt) N_l_spoilt f_l_spoilt [("LARGEST", .int 40)] [] [("NoNumbers", 8), ("NoKind", 10), ("FloorError", 0), ("ValueError", 100)] [8]
theorem b_l_spoilt : trSl (trS 60 t_l_spoilt) (defBody s_l_spoilt) = some B_l_spoilt_138 := by kernel_rfl
abbrev s_l_refused : Stmt := top 24
def N_l_refused : List Str := ["_law_r", "_law_c", "_law_s", "e"]
def f_l_refused : List (Str × Nat) := [("threes", 831)]
def t_l_refused : TC := tcOf (defScope s_l_refused) N_l_refused f_l_refused [("LARGEST", .int 40)] [] [("NoNumbers", 8), ("NoKind", 10), ("FloorError", 0), ("ValueError", 100)] [8]
theorem b_l_refused : trSl (trS 60 t_l_refused) (defBody s_l_refused) = some B_l_refused_961 := by kernel_rfl
abbrev s_l_refused_by_any : Stmt := top 25
def N_l_refused_by_any : List Str := ["_law_r", "_law_c", "_law_s"]
def f_l_refused_by_any : List (Str × Nat) := [("threes", 831)]
def t_l_refused_by_any : TC := tcOf (defScope s_l_refused_by_any) N_l_refused_by_any f_l_refused_by_any [("LARGEST", .int 40)] [] [("NoNumbers", 8), ("NoKind", 10), ("FloorError", 0), ("ValueError", 100)] [8]
theorem b_l_refused_by_any : trSl (trS 60 t_l_refused_by_any) (defBody s_l_refused_by_any) = some B_l_refused_by_any_962 := by kernel_rfl
abbrev s_l_law : Stmt := top 26
def N_l_law : List Str := ["_law_script", "_law_box", "_law_spoils", "_law_r", "_law_c", "_law_s", "_law_due", "_law_told", "_law_k", "_law_good"]
def f_l_law : List (Str × Nat) := [("threes", 831), ("_law_take", 132), ("_law_rows", 134), ("_law_threes", 145), ("_law_numbers", 137), ("_law_spoilt", 138), ("_law_refused", 961), ("_law_refused_by_any", 962)]
def t_l_law : TC := tcOf (defScope s_l_law) N_l_law f_l_law [("LARGEST", .int 40)] [] [("NoNumbers", 8), ("NoKind", 10), ("FloorError", 0), ("ValueError", 100)] [8]
theorem b_l_law : trSl (trS 60 t_l_law) (defBody s_l_law) = some B_l_law_963 := by kernel_rfl
abbrev CLS : List (Str × Nat) := [("NoNumbers", 8), ("NoKind", 10), ("FloorError", 0), ("ValueError", 100)]
abbrev CST : List (Str × Val) := [("LARGEST", .int 40)]
abbrev RAI : List Nat := [8]
section
variable {P : Program} {w : World} {K : PySem.W.Frag} {mg : Str → Option Value} {base : Heap} {cl : Nat → Value}
theorem at_least_first {fa : Addr} {fd : FuncData} (F : Fun K "least_first" "least_first" s_least_first fa fd) (hm : mg "least_first" = some (.ref fa)) (hB : Binds K fd ["row"] []) (hcls : ClsF K mg cl CLS RAI) (hk : ∀ x v, CST.lookup x = some v → ∃ u z, mg x = some u ∧ RelV z u ∧ ∀ m H, RV K m H v z) (hb : ∀ x ∈ bnames, mg x = none) : FnAt P w K mg base cl 1 "least_first" 1 F_least_first_41 :=
  F_least_first_41_eq ▸ fn_ok (k := 0) (N := N_least_first) F hm hB (by decide +kernel) (txOf (L := L_least_first_41) hcls hb (by decide) .nil hk) (by decide +kernel) b_least_first
theorem at_right_of {fa : Addr} {fd : FuncData} (F : Fun K "right_of" "right_of" s_right_of fa fd) (hm : mg "right_of" = some (.ref fa)) (hB : Binds K fd ["columns", "place"] []) (hcls : ClsF K mg cl CLS RAI) (hk : ∀ x v, CST.lookup x = some v → ∃ u z, mg x = some u ∧ RelV z u ∧ ∀ m H, RV K m H v z) (hb : ∀ x ∈ bnames, mg x = none) : FnAt P w K mg base cl 1 "right_of" 2 F_right_of_126 :=
  F_right_of_126_eq ▸ fn_ok (k := 0) (N := N_right_of) F hm hB (by decide +kernel) (txOf (L := L_right_of_126) hcls hb (by decide) .nil hk) (by decide +kernel) b_right_of
theorem at_upper_of {fa : Addr} {fd : FuncData} (F : Fun K "upper_of" "upper_of" s_upper_of fa fd) (hm : mg "upper_of" = some (.ref fa)) (hB : Binds K fd ["rows", "columns", "shift", "place"] []) (hcls : ClsF K mg cl CLS RAI) (hk : ∀ x v, CST.lookup x = some v → ∃ u z, mg x = some u ∧ RelV z u ∧ ∀ m H, RV K m H v z) (hb : ∀ x ∈ bnames, mg x = none) : FnAt P w K mg base cl 1 "upper_of" 4 F_upper_of_127 :=
  F_upper_of_127_eq ▸ fn_ok (k := 0) (N := N_upper_of) F hm hB (by decide +kernel) (txOf (L := L_upper_of_127) hcls hb (by decide) .nil hk) (by decide +kernel) b_upper_of
theorem at_made_threes {fa : Addr} {fd : FuncData} (F : Fun K "made_threes" "made_threes" s_made_threes fa fd) (hm : mg "made_threes" = some (.ref fa)) (hB : Binds K fd ["rows", "columns", "shift"] []) (hcls : ClsF K mg cl CLS RAI) (hk : ∀ x v, CST.lookup x = some v → ∃ u z, mg x = some u ∧ RelV z u ∧ ∀ m H, RV K m H v z) (hb : ∀ x ∈ bnames, mg x = none) (h_least_first : FnAt P w K mg base cl 1 "least_first" 1 F_least_first_41) (h_right_of : FnAt P w K mg base cl 1 "right_of" 2 F_right_of_126) (h_upper_of : FnAt P w K mg base cl 1 "upper_of" 4 F_upper_of_127) : FnAt P w K mg base cl 2 "made_threes" 3 F_made_threes_142 :=
  F_made_threes_142_eq ▸ fn_ok (k := 1) (N := N_made_threes) F hm hB (by decide +kernel) (txOf (L := L_made_threes_142) hcls hb (by decide) (.cons (h_least_first.mono (by decide)) (.cons (h_right_of.mono (by decide)) (.cons (h_upper_of.mono (by decide)) .nil))) hk) (by decide +kernel) b_made_threes
theorem at_ask_numbers {fa : Addr} {fd : FuncData} (F : Fun K "ask_numbers" "ask_numbers" s_ask_numbers fa fd) (hm : mg "ask_numbers" = some (.ref fa)) (hB : Binds K fd ["rows", "columns", "shift"] []) (hcls : ClsF K mg cl CLS RAI) (hk : ∀ x v, CST.lookup x = some v → ∃ u z, mg x = some u ∧ RelV z u ∧ ∀ m H, RV K m H v z) (hb : ∀ x ∈ bnames, mg x = none) : FnAt P w K mg base cl 1 "ask_numbers" 3 F_ask_numbers_829 :=
  F_ask_numbers_829_eq ▸ fn_ok (k := 0) (N := N_ask_numbers) F hm hB (by decide +kernel) (txOf (L := L_ask_numbers_829) hcls hb (by decide) .nil hk) (by decide +kernel) b_ask_numbers
theorem at_threes {fa : Addr} {fd : FuncData} (F : Fun K "threes" "threes" s_threes fa fd) (hm : mg "threes" = some (.ref fa)) (hB : Binds K fd ["rows", "columns", "shift"] []) (hcls : ClsF K mg cl CLS RAI) (hk : ∀ x v, CST.lookup x = some v → ∃ u z, mg x = some u ∧ RelV z u ∧ ∀ m H, RV K m H v z) (hb : ∀ x ∈ bnames, mg x = none) (h_made_threes : FnAt P w K mg base cl 2 "made_threes" 3 F_made_threes_142) (h_ask_numbers : FnAt P w K mg base cl 1 "ask_numbers" 3 F_ask_numbers_829) : FnAt P w K mg base cl 3 "threes" 3 F_threes_831 :=
  F_threes_831_eq ▸ fn_ok (k := 2) (N := N_threes) F hm hB (by decide +kernel) (txOf (L := L_threes_831) hcls hb (by decide) (.cons (h_made_threes.mono (by decide)) (.cons (h_ask_numbers.mono (by decide)) .nil)) hk) (by decide +kernel) b_threes
theorem at_l_mixed {fa : Addr} {fd : FuncData} (F : Fun K "_law_mixed" "_law_mixed" s_l_mixed fa fd) (hm : mg "_law_mixed" = some (.ref fa)) (hB : Binds K fd ["_law_cell", "_law_k", "_law_many"] []) (hcls : ClsF K mg cl CLS RAI) (hk : ∀ x v, CST.lookup x = some v → ∃ u z, mg x = some u ∧ RelV z u ∧ ∀ m H, RV K m H v z) (hb : ∀ x ∈ bnames, mg x = none) : FnAt P w K mg base cl 1 "_law_mixed" 3 F_l_mixed_131 :=
  F_l_mixed_131_eq ▸ fn_ok (k := 0) (N := N_l_mixed) F hm hB (by decide +kernel) (txOf (L := L_l_mixed_131) hcls hb (by decide) .nil hk) (by decide +kernel) b_l_mixed
theorem at_l_take {fa : Addr} {fd : FuncData} (F : Fun K "_law_take" "_law_take" s_l_take fa fd) (hm : mg "_law_take" = some (.ref fa)) (hB : Binds K fd ["_law_box", "_law_many"] []) (hcls : ClsF K mg cl CLS RAI) (hk : ∀ x v, CST.lookup x = some v → ∃ u z, mg x = some u ∧ RelV z u ∧ ∀ m H, RV K m H v z) (hb : ∀ x ∈ bnames, mg x = none) (h_l_mixed : FnAt P w K mg base cl 1 "_law_mixed" 3 F_l_mixed_131) : FnAt P w K mg base cl 2 "_law_take" 2 F_l_take_132 :=
  F_l_take_132_eq ▸ fn_ok (k := 1) (N := N_l_take) F hm hB (by decide +kernel) (txOf (L := L_l_take_132) hcls hb (by decide) (.cons (h_l_mixed.mono (by decide)) .nil) hk) (by decide +kernel) b_l_take
theorem at_l_whole {fa : Addr} {fd : FuncData} (F : Fun K "_law_whole" "_law_whole" s_l_whole fa fd) (hm : mg "_law_whole" = some (.ref fa)) (hB : Binds K fd ["_law_found"] []) (hcls : ClsF K mg cl CLS RAI) (hk : ∀ x v, CST.lookup x = some v → ∃ u z, mg x = some u ∧ RelV z u ∧ ∀ m H, RV K m H v z) (hb : ∀ x ∈ bnames, mg x = none) : FnAt P w K mg base cl 1 "_law_whole" 1 F_l_whole_5 :=
  F_l_whole_5_eq ▸ fn_ok (k := 0) (N := N_l_whole) F hm hB (by decide +kernel) (txOf (L := L_l_whole_5) hcls hb (by decide) .nil hk) (by decide +kernel) b_l_whole
theorem at_l_row {fa : Addr} {fd : FuncData} (F : Fun K "_law_row" "_law_row" s_l_row fa fd) (hm : mg "_law_row" = some (.ref fa)) (hB : Binds K fd ["_law_found", "_law_due"] []) (hcls : ClsF K mg cl CLS RAI) (hk : ∀ x v, CST.lookup x = some v → ∃ u z, mg x = some u ∧ RelV z u ∧ ∀ m H, RV K m H v z) (hb : ∀ x ∈ bnames, mg x = none) (h_l_whole : FnAt P w K mg base cl 1 "_law_whole" 1 F_l_whole_5) : FnAt P w K mg base cl 2 "_law_row" 2 F_l_row_133 :=
  F_l_row_133_eq ▸ fn_ok (k := 1) (N := N_l_row) F hm hB (by decide +kernel) (txOf (L := L_l_row_133) hcls hb (by decide) (.cons (h_l_whole.mono (by decide)) .nil) hk) (by decide +kernel) b_l_row
theorem at_l_rows {fa : Addr} {fd : FuncData} (F : Fun K "_law_rows" "_law_rows" s_l_rows fa fd) (hm : mg "_law_rows" = some (.ref fa)) (hB : Binds K fd ["_law_found", "_law_due"] []) (hcls : ClsF K mg cl CLS RAI) (hk : ∀ x v, CST.lookup x = some v → ∃ u z, mg x = some u ∧ RelV z u ∧ ∀ m H, RV K m H v z) (hb : ∀ x ∈ bnames, mg x = none) (h_l_row : FnAt P w K mg base cl 2 "_law_row" 2 F_l_row_133) : FnAt P w K mg base cl 3 "_law_rows" 2 F_l_rows_134 :=
  F_l_rows_134_eq ▸ fn_ok (k := 2) (N := N_l_rows) F hm hB (by decide +kernel) (txOf (L := L_l_rows_134) hcls hb (by decide) (.cons (h_l_row.mono (by decide)) .nil) hk) (by decide +kernel) b_l_rows
theorem at_l_least {fa : Addr} {fd : FuncData} (F : Fun K "_law_least" "_law_least" s_l_least fa fd) (hm : mg "_law_least" = some (.ref fa)) (hB : Binds K fd ["_law_row_here"] []) (hcls : ClsF K mg cl CLS RAI) (hk : ∀ x v, CST.lookup x = some v → ∃ u z, mg x = some u ∧ RelV z u ∧ ∀ m H, RV K m H v z) (hb : ∀ x ∈ bnames, mg x = none) : FnAt P w K mg base cl 1 "_law_least" 1 F_l_least_135 :=
  F_l_least_135_eq ▸ fn_ok (k := 0) (N := N_l_least) F hm hB (by decide +kernel) (txOf (L := L_l_least_135) hcls hb (by decide) .nil hk) (by decide +kernel) b_l_least
theorem at_l_down {fa : Addr} {fd : FuncData} (F : Fun K "_law_down" "_law_down" s_l_down fa fd) (hm : mg "_law_down" = some (.ref fa)) (hB : Binds K fd ["_law_r", "_law_c", "_law_s", "_law_p"] []) (hcls : ClsF K mg cl CLS RAI) (hk : ∀ x v, CST.lookup x = some v → ∃ u z, mg x = some u ∧ RelV z u ∧ ∀ m H, RV K m H v z) (hb : ∀ x ∈ bnames, mg x = none) : FnAt P w K mg base cl 1 "_law_down" 4 F_l_down_144 :=
  F_l_down_144_eq ▸ fn_ok (k := 0) (N := N_l_down) F hm hB (by decide +kernel) (txOf (L := L_l_down_144) hcls hb (by decide) .nil hk) (by decide +kernel) b_l_down
theorem at_l_threes {fa : Addr} {fd : FuncData} (F : Fun K "_law_threes" "_law_threes" s_l_threes fa fd) (hm : mg "_law_threes" = some (.ref fa)) (hB : Binds K fd ["_law_r", "_law_c", "_law_s"] []) (hcls : ClsF K mg cl CLS RAI) (hk : ∀ x v, CST.lookup x = some v → ∃ u z, mg x = some u ∧ RelV z u ∧ ∀ m H, RV K m H v z) (hb : ∀ x ∈ bnames, mg x = none) (h_l_least : FnAt P w K mg base cl 1 "_law_least" 1 F_l_least_135) (h_l_down : FnAt P w K mg base cl 1 "_law_down" 4 F_l_down_144) : FnAt P w K mg base cl 2 "_law_threes" 3 F_l_threes_145 :=
  F_l_threes_145_eq ▸ fn_ok (k := 1) (N := N_l_threes) F hm hB (by decide +kernel) (txOf (L := L_l_threes_145) hcls hb (by decide) (.cons (h_l_least.mono (by decide)) (.cons (h_l_down.mono (by decide)) .nil)) hk) (by decide +kernel) b_l_threes
theorem at_l_numbers {fa : Addr} {fd : FuncData} (F : Fun K "_law_numbers" "_law_numbers" s_l_numbers fa fd) (hm : mg "_law_numbers" = some (.ref fa)) (hB : Binds K fd ["_law_box"] []) (hcls : ClsF K mg cl CLS RAI) (hk : ∀ x v, CST.lookup x = some v → ∃ u z, mg x = some u ∧ RelV z u ∧ ∀ m H, RV K m H v z) (hb : ∀ x ∈ bnames, mg x = none) (h_l_take : FnAt P w K mg base cl 2 "_law_take" 2 F_l_take_132) : FnAt P w K mg base cl 3 "_law_numbers" 1 F_l_numbers_137 :=
  F_l_numbers_137_eq ▸ fn_ok (k := 2) (N := N_l_numbers) F hm hB (by decide +kernel) (txOf (L := L_l_numbers_137) hcls hb (by decide) (.cons (h_l_take.mono (by decide)) .nil) hk) (by decide +kernel) b_l_numbers
theorem at_l_spoilt {fa : Addr} {fd : FuncData} (F : Fun K "_law_spoilt" "_law_spoilt" s_l_spoilt fa fd) (hm : mg "_law_spoilt" = some (.ref fa)) (hB : Binds K fd ["_law_box", "_law_r", "_law_c", "_law_s"] []) (hcls : ClsF K mg cl CLS RAI) (hk : ∀ x v, CST.lookup x = some v → ∃ u z, mg x = some u ∧ RelV z u ∧ ∀ m H, RV K m H v z) (hb : ∀ x ∈ bnames, mg x = none) (h_l_take : FnAt P w K mg base cl 2 "_law_take" 2 F_l_take_132) : FnAt P w K mg base cl 3 "_law_spoilt" 4 F_l_spoilt_138 :=
  F_l_spoilt_138_eq ▸ fn_ok (k := 2) (N := N_l_spoilt) F hm hB (by decide +kernel) (txOf (L := L_l_spoilt_138) hcls hb (by decide) (.cons (h_l_take.mono (by decide)) .nil) hk) (by decide +kernel) b_l_spoilt
theorem at_l_refused {fa : Addr} {fd : FuncData} (F : Fun K "_law_refused" "_law_refused" s_l_refused fa fd) (hm : mg "_law_refused" = some (.ref fa)) (hB : Binds K fd ["_law_r", "_law_c", "_law_s"] []) (hcls : ClsF K mg cl CLS RAI) (hk : ∀ x v, CST.lookup x = some v → ∃ u z, mg x = some u ∧ RelV z u ∧ ∀ m H, RV K m H v z) (hb : ∀ x ∈ bnames, mg x = none) (h_threes : FnAt P w K mg base cl 3 "threes" 3 F_threes_831) : FnAt P w K mg base cl 4 "_law_refused" 3 F_l_refused_961 :=
  F_l_refused_961_eq ▸ fn_ok (k := 3) (N := N_l_refused) F hm hB (by decide +kernel) (txOf (L := L_l_refused_961) hcls hb (by decide) (.cons (h_threes.mono (by decide)) .nil) hk) (by decide +kernel) b_l_refused
theorem at_l_refused_by_any {fa : Addr} {fd : FuncData} (F : Fun K "_law_refused_by_any" "_law_refused_by_any" s_l_refused_by_any fa fd) (hm : mg "_law_refused_by_any" = some (.ref fa)) (hB : Binds K fd ["_law_r", "_law_c", "_law_s"] []) (hcls : ClsF K mg cl CLS RAI) (hk : ∀ x v, CST.lookup x = some v → ∃ u z, mg x = some u ∧ RelV z u ∧ ∀ m H, RV K m H v z) (hb : ∀ x ∈ bnames, mg x = none) (h_threes : FnAt P w K mg base cl 3 "threes" 3 F_threes_831) : FnAt P w K mg base cl 4 "_law_refused_by_any" 3 F_l_refused_by_any_962 :=
  F_l_refused_by_any_962_eq ▸ fn_ok (k := 3) (N := N_l_refused_by_any) F hm hB (by decide +kernel) (txOf (L := L_l_refused_by_any_962) hcls hb (by decide) (.cons (h_threes.mono (by decide)) .nil) hk) (by decide +kernel) b_l_refused_by_any
theorem at_l_law {fa : Addr} {fd : FuncData} (F : Fun K "law" "law" s_l_law fa fd) (hcls : ClsF K mg cl CLS RAI) (hk : ∀ x v, CST.lookup x = some v → ∃ u z, mg x = some u ∧ RelV z u ∧ ∀ m H, RV K m H v z) (hb : ∀ x ∈ bnames, mg x = none) (h_threes : FnAt P w K mg base cl 3 "threes" 3 F_threes_831) (h_l_take : FnAt P w K mg base cl 2 "_law_take" 2 F_l_take_132) (h_l_rows : FnAt P w K mg base cl 3 "_law_rows" 2 F_l_rows_134) (h_l_threes : FnAt P w K mg base cl 2 "_law_threes" 3 F_l_threes_145) (h_l_numbers : FnAt P w K mg base cl 3 "_law_numbers" 1 F_l_numbers_137) (h_l_spoilt : FnAt P w K mg base cl 3 "_law_spoilt" 4 F_l_spoilt_138) (h_l_refused : FnAt P w K mg base cl 4 "_law_refused" 3 F_l_refused_961) (h_l_refused_by_any : FnAt P w K mg base cl 4 "_law_refused_by_any" 3 F_l_refused_by_any_962) : FnOk P w K mg base (L2.CX P w) 5 fa fd ["_law_script"] (spOf K cl 1 F_l_law_963) :=
  F_l_law_963_eq ▸ fn_okX (k := 4) (N := N_l_law) F (by decide +kernel) (txOf (L := L_l_law_963) hcls hb (by decide) (.cons (h_threes.mono (by decide)) (.cons (h_l_take.mono (by decide)) (.cons (h_l_rows.mono (by decide)) (.cons (h_l_threes.mono (by decide)) (.cons (h_l_numbers.mono (by decide)) (.cons (h_l_spoilt.mono (by decide)) (.cons (h_l_refused.mono (by decide)) (.cons (h_l_refused_by_any.mono (by decide)) .nil)))))))) hk) (by decide +kernel) b_l_law
end
theorem all_mk {l : PySem.W.OpenLaw} {w : World} {K : PySem.W.Frag} {h : Heap} {mg : Str → Option Value} {fa f0 f1 f2 f3 f4 f5 f6 f7 f8 f9 f10 f11 f12 f13 f14 f15 f16 f17 f18 : Addr} (X : K.In h) (G : h.Ns mainGlobals mg) (hfa : mg "law" = some (.ref fa))
    {d0 e0 d1 e1 d2 e2 d3 e3 d4 e4 d5 e5 d6 e6 d7 e7 d8 e8 d9 e9 d10 e10 d11 e11 d12 e12 d13 e13 d14 e14 d15 e15 d16 e16 d17 e17 d18 e18 : Option Addr} {sl0 sl1 sl2 sl3 sl4 sl5 sl6 sl7 sl8 sl9 sl10 sl11 sl12 sl13 sl14 sl15 sl16 sl17 sl18 : Array (Option Value)} {oc0 kv0 dc0 pm0 cd0 ct0 oc1 kv1 dc1 pm1 cd1 ct1 oc2 kv2 dc2 pm2 cd2 ct2 oc3 kv3 dc3 pm3 cd3 ct3 oc4 kv4 dc4 pm4 cd4 ct4 oc5 kv5 dc5 pm5 cd5 ct5 oc6 kv6 dc6 pm6 cd6 ct6 oc7 kv7 dc7 pm7 cd7 ct7 oc8 kv8 dc8 pm8 cd8 ct8 oc9 kv9 dc9 pm9 cd9 ct9 oc10 kv10 dc10 pm10 cd10 ct10 oc11 kv11 dc11 pm11 cd11 ct11 oc12 kv12 dc12 pm12 cd12 ct12 oc13 kv13 dc13 pm13 cd13 ct13 oc14 kv14 dc14 pm14 cd14 ct14 oc15 kv15 dc15 pm15 cd15 ct15 oc16 kv16 dc16 pm16 cd16 ct16 oc17 kv17 dc17 pm17 cd17 ct17 oc18 kv18 dc18 pm18 cd18 ct18 : Value}
    (a0 : PySem.W.nsIn K mainGlobals "least_first" = some (some (.ref f0))) (l0 : K.lookup f0 = some ⟨oc0, d0, .func (PySem.W.fnOf "least_first" "least_first" (defArgs s_least_first) (defBody s_least_first) (defScope s_least_first) .none kv0 dc0 pm0 e0 cd0 ct0), sl0⟩) (c0 : PySem.W.codeIn K cd0 "least_first" = true) (k0 : PySem.W.keepIn K (.ref f0) = true)
    (a1 : PySem.W.nsIn K mainGlobals "right_of" = some (some (.ref f1))) (l1 : K.lookup f1 = some ⟨oc1, d1, .func (PySem.W.fnOf "right_of" "right_of" (defArgs s_right_of) (defBody s_right_of) (defScope s_right_of) .none kv1 dc1 pm1 e1 cd1 ct1), sl1⟩) (c1 : PySem.W.codeIn K cd1 "right_of" = true) (k1 : PySem.W.keepIn K (.ref f1) = true)
    (a2 : PySem.W.nsIn K mainGlobals "upper_of" = some (some (.ref f2))) (l2 : K.lookup f2 = some ⟨oc2, d2, .func (PySem.W.fnOf "upper_of" "upper_of" (defArgs s_upper_of) (defBody s_upper_of) (defScope s_upper_of) .none kv2 dc2 pm2 e2 cd2 ct2), sl2⟩) (c2 : PySem.W.codeIn K cd2 "upper_of" = true) (k2 : PySem.W.keepIn K (.ref f2) = true)
    (a3 : PySem.W.nsIn K mainGlobals "made_threes" = some (some (.ref f3))) (l3 : K.lookup f3 = some ⟨oc3, d3, .func (PySem.W.fnOf "made_threes" "made_threes" (defArgs s_made_threes) (defBody s_made_threes) (defScope s_made_threes) .none kv3 dc3 pm3 e3 cd3 ct3), sl3⟩) (c3 : PySem.W.codeIn K cd3 "made_threes" = true) (k3 : PySem.W.keepIn K (.ref f3) = true)
    (a4 : PySem.W.nsIn K mainGlobals "ask_numbers" = some (some (.ref f4))) (l4 : K.lookup f4 = some ⟨oc4, d4, .func (PySem.W.fnOf "ask_numbers" "ask_numbers" (defArgs s_ask_numbers) (defBody s_ask_numbers) (defScope s_ask_numbers) .none kv4 dc4 pm4 e4 cd4 ct4), sl4⟩) (c4 : PySem.W.codeIn K cd4 "ask_numbers" = true) (k4 : PySem.W.keepIn K (.ref f4) = true)
    (a5 : PySem.W.nsIn K mainGlobals "threes" = some (some (.ref f5))) (l5 : K.lookup f5 = some ⟨oc5, d5, .func (PySem.W.fnOf "threes" "threes" (defArgs s_threes) (defBody s_threes) (defScope s_threes) .none kv5 dc5 pm5 e5 cd5 ct5), sl5⟩) (c5 : PySem.W.codeIn K cd5 "threes" = true) (k5 : PySem.W.keepIn K (.ref f5) = true)
    (a6 : PySem.W.nsIn K mainGlobals "_law_mixed" = some (some (.ref f6))) (l6 : K.lookup f6 = some ⟨oc6, d6, .func (PySem.W.fnOf "_law_mixed" "_law_mixed" (defArgs s_l_mixed) (defBody s_l_mixed) (defScope s_l_mixed) .none kv6 dc6 pm6 e6 cd6 ct6), sl6⟩) (c6 : PySem.W.codeIn K cd6 "_law_mixed" = true) (k6 : PySem.W.keepIn K (.ref f6) = true)
    (a7 : PySem.W.nsIn K mainGlobals "_law_take" = some (some (.ref f7))) (l7 : K.lookup f7 = some ⟨oc7, d7, .func (PySem.W.fnOf "_law_take" "_law_take" (defArgs s_l_take) (defBody s_l_take) (defScope s_l_take) .none kv7 dc7 pm7 e7 cd7 ct7), sl7⟩) (c7 : PySem.W.codeIn K cd7 "_law_take" = true) (k7 : PySem.W.keepIn K (.ref f7) = true)
    (a8 : PySem.W.nsIn K mainGlobals "_law_whole" = some (some (.ref f8))) (l8 : K.lookup f8 = some ⟨oc8, d8, .func (PySem.W.fnOf "_law_whole" "_law_whole" (defArgs s_l_whole) (defBody s_l_whole) (defScope s_l_whole) .none kv8 dc8 pm8 e8 cd8 ct8), sl8⟩) (c8 : PySem.W.codeIn K cd8 "_law_whole" = true) (k8 : PySem.W.keepIn K (.ref f8) = true)
    (a9 : PySem.W.nsIn K mainGlobals "_law_row" = some (some (.ref f9))) (l9 : K.lookup f9 = some ⟨oc9, d9, .func (PySem.W.fnOf "_law_row" "_law_row" (defArgs s_l_row) (defBody s_l_row) (defScope s_l_row) .none kv9 dc9 pm9 e9 cd9 ct9), sl9⟩) (c9 : PySem.W.codeIn K cd9 "_law_row" = true) (k9 : PySem.W.keepIn K (.ref f9) = true)
    (a10 : PySem.W.nsIn K mainGlobals "_law_rows" = some (some (.ref f10))) (l10 : K.lookup f10 = some ⟨oc10, d10, .func (PySem.W.fnOf "_law_rows" "_law_rows" (defArgs s_l_rows) (defBody s_l_rows) (defScope s_l_rows) .none kv10 dc10 pm10 e10 cd10 ct10), sl10⟩) (c10 : PySem.W.codeIn K cd10 "_law_rows" = true) (k10 : PySem.W.keepIn K (.ref f10) = true)
    (a11 : PySem.W.nsIn K mainGlobals "_law_least" = some (some (.ref f11))) (l11 : K.lookup f11 = some ⟨oc11, d11, .func (PySem.W.fnOf "_law_least" "_law_least" (defArgs s_l_least) (defBody s_l_least) (defScope s_l_least) .none kv11 dc11 pm11 e11 cd11 ct11), sl11⟩) (c11 : PySem.W.codeIn K cd11 "_law_least" = true) (k11 : PySem.W.keepIn K (.ref f11) = true)
    (a12 : PySem.W.nsIn K mainGlobals "_law_down" = some (some (.ref f12))) (l12 : K.lookup f12 = some ⟨oc12, d12, .func (PySem.W.fnOf "_law_down" "_law_down" (defArgs s_l_down) (defBody s_l_down) (defScope s_l_down) .none kv12 dc12 pm12 e12 cd12 ct12), sl12⟩) (c12 : PySem.W.codeIn K cd12 "_law_down" = true) (k12 : PySem.W.keepIn K (.ref f12) = true)
    (a13 : PySem.W.nsIn K mainGlobals "_law_threes" = some (some (.ref f13))) (l13 : K.lookup f13 = some ⟨oc13, d13, .func (PySem.W.fnOf "_law_threes" "_law_threes" (defArgs s_l_threes) (defBody s_l_threes) (defScope s_l_threes) .none kv13 dc13 pm13 e13 cd13 ct13), sl13⟩) (c13 : PySem.W.codeIn K cd13 "_law_threes" = true) (k13 : PySem.W.keepIn K (.ref f13) = true)
    (a14 : PySem.W.nsIn K mainGlobals "_law_numbers" = some (some (.ref f14))) (l14 : K.lookup f14 = some ⟨oc14, d14, .func (PySem.W.fnOf "_law_numbers" "_law_numbers" (defArgs s_l_numbers) (defBody s_l_numbers) (defScope s_l_numbers) .none kv14 dc14 pm14 e14 cd14 ct14), sl14⟩) (c14 : PySem.W.codeIn K cd14 "_law_numbers" = true) (k14 : PySem.W.keepIn K (.ref f14) = true)
    (a15 : PySem.W.nsIn K mainGlobals "_law_spoilt" = some (some (.ref f15))) (l15 : K.lookup f15 = some ⟨oc15, d15, .func (PySem.W.fnOf "_law_spoilt" "_law_spoilt" (defArgs s_l_spoilt) (defBody s_l_spoilt) (defScope s_l_spoilt) .none kv15 dc15 pm15 e15 cd15 ct15), sl15⟩) (c15 : PySem.W.codeIn K cd15 "_law_spoilt" = true) (k15 : PySem.W.keepIn K (.ref f15) = true)
    (a16 : PySem.W.nsIn K mainGlobals "_law_refused" = some (some (.ref f16))) (l16 : K.lookup f16 = some ⟨oc16, d16, .func (PySem.W.fnOf "_law_refused" "_law_refused" (defArgs s_l_refused) (defBody s_l_refused) (defScope s_l_refused) .none kv16 dc16 pm16 e16 cd16 ct16), sl16⟩) (c16 : PySem.W.codeIn K cd16 "_law_refused" = true) (k16 : PySem.W.keepIn K (.ref f16) = true)
    (a17 : PySem.W.nsIn K mainGlobals "_law_refused_by_any" = some (some (.ref f17))) (l17 : K.lookup f17 = some ⟨oc17, d17, .func (PySem.W.fnOf "_law_refused_by_any" "_law_refused_by_any" (defArgs s_l_refused_by_any) (defBody s_l_refused_by_any) (defScope s_l_refused_by_any) .none kv17 dc17 pm17 e17 cd17 ct17), sl17⟩) (c17 : PySem.W.codeIn K cd17 "_law_refused_by_any" = true) (k17 : PySem.W.keepIn K (.ref f17) = true)
    (a18 : PySem.W.nsIn K mainGlobals "law" = some (some (.ref f18))) (l18 : K.lookup f18 = some ⟨oc18, d18, .func (PySem.W.fnOf "law" "law" (defArgs s_l_law) (defBody s_l_law) (defScope s_l_law) .none kv18 dc18 pm18 e18 cd18 ct18), sl18⟩) (c18 : PySem.W.codeIn K cd18 "law" = true) (k18 : PySem.W.keepIn K (.ref f18) = true)
    {ec8 ec10 ec0 : Addr}
    (ga8 : PySem.W.nsIn K mainGlobals "NoNumbers" = some (some (.ref ec8))) (gs8 : PySem.W.subIn K (.ref ec8) (.type "BaseException") = some true) (gt8 : PySem.W.typeIn K (.ref ec8) = some (.type "type")) (gh8 : PySem.W.hasDictIn K ec8 = true)
    (ga10 : PySem.W.nsIn K mainGlobals "NoKind" = some (some (.ref ec10))) (gs10 : PySem.W.subIn K (.ref ec10) (.type "BaseException") = some true) (gt10 : PySem.W.typeIn K (.ref ec10) = some (.type "type")) (gh10 : PySem.W.hasDictIn K ec10 = true)
    (ga0 : PySem.W.nsIn K mainGlobals "FloorError" = some (some (.ref ec0))) (gs0 : PySem.W.subIn K (.ref ec0) (.type "BaseException") = some true) (gt0 : PySem.W.typeIn K (.ref ec0) = some (.type "type")) (gh0 : PySem.W.hasDictIn K ec0 = true)
    (gb100 : PySem.W.nsIn K mainGlobals "ValueError" = some none) (gw100 : PySem.W.subIn K (.type "ValueError") (.type "BaseException") = some true)
    (gx8 : PySem.W.excIn K ec8 BMV "ValueError.__new__" = true) (gk8 : PySem.W.keepIn K (.ref ec8) = true) (gc8 : ExcC K ec8)
    (gu8_8 : PySem.W.subIn K (.ref ec8) (.ref ec8) = some true)
    (gu8_10 : PySem.W.subIn K (.ref ec8) (.ref ec10) = some false) (gn8_10 : (ec8 == ec10) = false)
    (gu8_0 : PySem.W.subIn K (.ref ec8) (.ref ec0) = some true)
    (gu8_100 : PySem.W.subIn K (.ref ec8) (.type "ValueError") = some true)
    {yt0 : Tok} (y0 : PySem.W.nsIn K mainGlobals "LARGEST" = some (some (.int 40 yt0)))
    (z0 : PySem.W.nsIn K mainGlobals "len" = some none) (z1 : PySem.W.nsIn K mainGlobals "sum" = some none) (z2 : PySem.W.nsIn K mainGlobals "max" = some none) (z3 : PySem.W.nsIn K mainGlobals "min" = some none) (z4 : PySem.W.nsIn K mainGlobals "sorted" = some none) (z5 : PySem.W.nsIn K mainGlobals "abs" = some none) (z6 : PySem.W.nsIn K mainGlobals "all" = some none) (z7 : PySem.W.nsIn K mainGlobals "any" = some none) (z8 : PySem.W.nsIn K mainGlobals "str" = some none) (z9 : PySem.W.nsIn K mainGlobals "int" = some none) (z10 : PySem.W.nsIn K mainGlobals "list" = some none) (z11 : PySem.W.nsIn K mainGlobals "tuple" = some none) (z12 : PySem.W.nsIn K mainGlobals "range" = some none) (z13 : PySem.W.nsIn K mainGlobals "enumerate" = some none) (z14 : PySem.W.nsIn K mainGlobals "zip" = some none) (z15 : PySem.W.nsIn K mainGlobals "reversed" = some none) (z16 : PySem.W.nsIn K mainGlobals "isinstance" = some none) (z17 : PySem.W.nsIn K mainGlobals "bool" = some none) (z18 : PySem.W.nsIn K mainGlobals "dict" = some none) :
    ∃ fd : FuncData, (∀ (s : Shared) (v : Value), BindsTo s fd ⟨[v], []⟩ [("_law_script", v)]) ∧ ∀ base : Heap, K.In base → base.Ns mainGlobals mg → FnOk l.prog w K mg base (L2.CX l.prog w) 5 fa fd ["_law_script"] (spOk K 1 F_l_law_963) := by
  have e := hfa.symm.trans (PySem.W.mg_of X G a18)
  cases e
  have hb : ∀ x ∈ bnames, mg x = none := by
    intro x hx
    simp only [bnames, List.mem_cons, List.not_mem_nil, or_false] at hx
    rcases hx with rfl | rfl | rfl | rfl | rfl | rfl | rfl | rfl | rfl | rfl | rfl | rfl | rfl | rfl | rfl | rfl | rfl | rfl | rfl
    · exact PySem.W.mg_none_of X G z0
    · exact PySem.W.mg_none_of X G z1
    · exact PySem.W.mg_none_of X G z2
    · exact PySem.W.mg_none_of X G z3
    · exact PySem.W.mg_none_of X G z4
    · exact PySem.W.mg_none_of X G z5
    · exact PySem.W.mg_none_of X G z6
    · exact PySem.W.mg_none_of X G z7
    · exact PySem.W.mg_none_of X G z8
    · exact PySem.W.mg_none_of X G z9
    · exact PySem.W.mg_none_of X G z10
    · exact PySem.W.mg_none_of X G z11
    · exact PySem.W.mg_none_of X G z12
    · exact PySem.W.mg_none_of X G z13
    · exact PySem.W.mg_none_of X G z14
    · exact PySem.W.mg_none_of X G z15
    · exact PySem.W.mg_none_of X G z16
    · exact PySem.W.mg_none_of X G z17
    · exact PySem.W.mg_none_of X G z18
  have F0 := fun_mk (st := s_least_first) l0 c0 k0
  have b0 := F0.binds (ps := ["row"]) fun _ _ _ _ _ _ us hl => match us, hl with | [_], _ => rfl
  have F1 := fun_mk (st := s_right_of) l1 c1 k1
  have b1 := F1.binds (ps := ["columns", "place"]) fun _ _ _ _ _ _ us hl => match us, hl with | [_, _], _ => rfl
  have F2 := fun_mk (st := s_upper_of) l2 c2 k2
  have b2 := F2.binds (ps := ["rows", "columns", "shift", "place"]) fun _ _ _ _ _ _ us hl => match us, hl with | [_, _, _, _], _ => rfl
  have F3 := fun_mk (st := s_made_threes) l3 c3 k3
  have b3 := F3.binds (ps := ["rows", "columns", "shift"]) fun _ _ _ _ _ _ us hl => match us, hl with | [_, _, _], _ => rfl
  have F4 := fun_mk (st := s_ask_numbers) l4 c4 k4
  have b4 := F4.binds (ps := ["rows", "columns", "shift"]) fun _ _ _ _ _ _ us hl => match us, hl with | [_, _, _], _ => rfl
  have F5 := fun_mk (st := s_threes) l5 c5 k5
  have b5 := F5.binds (ps := ["rows", "columns", "shift"]) fun _ _ _ _ _ _ us hl => match us, hl with | [_, _, _], _ => rfl
  have F6 := fun_mk (st := s_l_mixed) l6 c6 k6
  have b6 := F6.binds (ps := ["_law_cell", "_law_k", "_law_many"]) fun _ _ _ _ _ _ us hl => match us, hl with | [_, _, _], _ => rfl
  have F7 := fun_mk (st := s_l_take) l7 c7 k7
  have b7 := F7.binds (ps := ["_law_box", "_law_many"]) fun _ _ _ _ _ _ us hl => match us, hl with | [_, _], _ => rfl
  have F8 := fun_mk (st := s_l_whole) l8 c8 k8
  have b8 := F8.binds (ps := ["_law_found"]) fun _ _ _ _ _ _ us hl => match us, hl with | [_], _ => rfl
  have F9 := fun_mk (st := s_l_row) l9 c9 k9
  have b9 := F9.binds (ps := ["_law_found", "_law_due"]) fun _ _ _ _ _ _ us hl => match us, hl with | [_, _], _ => rfl
  have F10 := fun_mk (st := s_l_rows) l10 c10 k10
  have b10 := F10.binds (ps := ["_law_found", "_law_due"]) fun _ _ _ _ _ _ us hl => match us, hl with | [_, _], _ => rfl
  have F11 := fun_mk (st := s_l_least) l11 c11 k11
  have b11 := F11.binds (ps := ["_law_row_here"]) fun _ _ _ _ _ _ us hl => match us, hl with | [_], _ => rfl
  have F12 := fun_mk (st := s_l_down) l12 c12 k12
  have b12 := F12.binds (ps := ["_law_r", "_law_c", "_law_s", "_law_p"]) fun _ _ _ _ _ _ us hl => match us, hl with | [_, _, _, _], _ => rfl
  have F13 := fun_mk (st := s_l_threes) l13 c13 k13
  have b13 := F13.binds (ps := ["_law_r", "_law_c", "_law_s"]) fun _ _ _ _ _ _ us hl => match us, hl with | [_, _, _], _ => rfl
  have F14 := fun_mk (st := s_l_numbers) l14 c14 k14
  have b14 := F14.binds (ps := ["_law_box"]) fun _ _ _ _ _ _ us hl => match us, hl with | [_], _ => rfl
  have F15 := fun_mk (st := s_l_spoilt) l15 c15 k15
  have b15 := F15.binds (ps := ["_law_box", "_law_r", "_law_c", "_law_s"]) fun _ _ _ _ _ _ us hl => match us, hl with | [_, _, _, _], _ => rfl
  have F16 := fun_mk (st := s_l_refused) l16 c16 k16
  have b16 := F16.binds (ps := ["_law_r", "_law_c", "_law_s"]) fun _ _ _ _ _ _ us hl => match us, hl with | [_, _, _], _ => rfl
  have F17 := fun_mk (st := s_l_refused_by_any) l17 c17 k17
  have b17 := F17.binds (ps := ["_law_r", "_law_c", "_law_s"]) fun _ _ _ _ _ _ us hl => match us, hl with | [_, _, _], _ => rfl
  have F18 := fun_mk (st := s_l_law) l18 c18 k18
  have hcls : ClsF K mg (clOf [(8, (.ref ec8)), (10, (.ref ec10)), (0, (.ref ec0)), (100, (.type "ValueError"))]) CLS RAI := by
    refine ⟨fun e he h => ?_, fun e he h => ?_, fun k hk => ?_, fun k hk e he => ?_⟩
    · simp only [CLS, List.mem_cons, List.not_mem_nil, or_false] at he
      rcases he with rfl | rfl | rfl | rfl
      · exact ⟨_, rfl, PySem.W.mg_of X G ga8⟩
      · exact ⟨_, rfl, PySem.W.mg_of X G ga10⟩
      · exact ⟨_, rfl, PySem.W.mg_of X G ga0⟩
      · exact absurd h (by decide)
    · simp only [CLS, List.mem_cons, List.not_mem_nil, or_false] at he
      rcases he with rfl | rfl | rfl | rfl
      · exact absurd h (by decide)
      · exact absurd h (by decide)
      · exact absurd h (by decide)
      · exact ⟨PySem.W.mg_none_of X G gb100, by decide, _, rfl, by decide +kernel⟩
    · simp only [RAI, List.mem_cons, List.not_mem_nil, or_false] at hk
      rcases hk with rfl
      · exact ⟨ec8, BMV, rfl, PySem.F.excBase_ValueError, gx8, gk8, gs8, gt8, gc8⟩
    · simp only [RAI, List.mem_cons, List.not_mem_nil, or_false] at hk
      simp only [CLS, List.mem_cons, List.not_mem_nil, or_false] at he
      rcases hk with rfl
      · rcases he with rfl | rfl | rfl | rfl
        · exact ⟨kit_ref gh8 gt8 gu8_8 (fun _ => rfl), PySem.W.exm_ref gs8 gh8 gt8 gu8_8⟩
        · exact ⟨kit_ref gh10 gt10 gu8_10 (fun e => by rw [e] at gn8_10; simp at gn8_10), PySem.W.exm_ref gs10 gh10 gt10 gu8_10⟩
        · exact ⟨kit_ref gh0 gt0 gu8_0 (fun _ => rfl), PySem.W.exm_ref gs0 gh0 gt0 gu8_0⟩
        · exact ⟨kit_bt (by decide) gu8_100, exm_bt gw100 (by decide) gu8_100⟩
  have hk : ∀ x v, CST.lookup x = some v → ∃ u z, mg x = some u ∧ RelV z u ∧ ∀ m H, RV K m H v z := fun x v h => by
    have h1 := PySem.mem_of_lookup h
    simp only [CST, List.mem_cons, List.not_mem_nil, or_false, Prod.mk.injEq] at h1
    rcases h1 with ⟨rfl, rfl⟩
    · exact ⟨_, .int 40, PySem.W.mg_of X G y0, ⟨_, rfl⟩, fun _ _ => rfl⟩
  refine ⟨PySem.W.fnOf "law" "law" (defArgs s_l_law) (defBody s_l_law) (defScope s_l_law) .none kv18 dc18 pm18 e18 cd18 ct18, fun s v => .of_eq rfl, fun base _ _ => ?_⟩
  have h0 : FnAt l.prog w K mg base _ 1 "least_first" 1 F_least_first_41 := at_least_first F0 (PySem.W.mg_of X G a0) b0 hcls hk hb
  have h1 : FnAt l.prog w K mg base _ 1 "right_of" 2 F_right_of_126 := at_right_of F1 (PySem.W.mg_of X G a1) b1 hcls hk hb
  have h2 : FnAt l.prog w K mg base _ 1 "upper_of" 4 F_upper_of_127 := at_upper_of F2 (PySem.W.mg_of X G a2) b2 hcls hk hb
  have h3 : FnAt l.prog w K mg base _ 2 "made_threes" 3 F_made_threes_142 := at_made_threes F3 (PySem.W.mg_of X G a3) b3 hcls hk hb h0 h1 h2
  have h4 : FnAt l.prog w K mg base _ 1 "ask_numbers" 3 F_ask_numbers_829 := at_ask_numbers F4 (PySem.W.mg_of X G a4) b4 hcls hk hb
  have h5 : FnAt l.prog w K mg base _ 3 "threes" 3 F_threes_831 := at_threes F5 (PySem.W.mg_of X G a5) b5 hcls hk hb h3 h4
  have h6 : FnAt l.prog w K mg base _ 1 "_law_mixed" 3 F_l_mixed_131 := at_l_mixed F6 (PySem.W.mg_of X G a6) b6 hcls hk hb
  have h7 : FnAt l.prog w K mg base _ 2 "_law_take" 2 F_l_take_132 := at_l_take F7 (PySem.W.mg_of X G a7) b7 hcls hk hb h6
  have h8 : FnAt l.prog w K mg base _ 1 "_law_whole" 1 F_l_whole_5 := at_l_whole F8 (PySem.W.mg_of X G a8) b8 hcls hk hb
  have h9 : FnAt l.prog w K mg base _ 2 "_law_row" 2 F_l_row_133 := at_l_row F9 (PySem.W.mg_of X G a9) b9 hcls hk hb h8
  have h10 : FnAt l.prog w K mg base _ 3 "_law_rows" 2 F_l_rows_134 := at_l_rows F10 (PySem.W.mg_of X G a10) b10 hcls hk hb h9
  have h11 : FnAt l.prog w K mg base _ 1 "_law_least" 1 F_l_least_135 := at_l_least F11 (PySem.W.mg_of X G a11) b11 hcls hk hb
  have h12 : FnAt l.prog w K mg base _ 1 "_law_down" 4 F_l_down_144 := at_l_down F12 (PySem.W.mg_of X G a12) b12 hcls hk hb
  have h13 : FnAt l.prog w K mg base _ 2 "_law_threes" 3 F_l_threes_145 := at_l_threes F13 (PySem.W.mg_of X G a13) b13 hcls hk hb h11 h12
  have h14 : FnAt l.prog w K mg base _ 3 "_law_numbers" 1 F_l_numbers_137 := at_l_numbers F14 (PySem.W.mg_of X G a14) b14 hcls hk hb h7
  have h15 : FnAt l.prog w K mg base _ 3 "_law_spoilt" 4 F_l_spoilt_138 := at_l_spoilt F15 (PySem.W.mg_of X G a15) b15 hcls hk hb h7
  have h16 : FnAt l.prog w K mg base _ 4 "_law_refused" 3 F_l_refused_961 := at_l_refused F16 (PySem.W.mg_of X G a16) b16 hcls hk hb h5
  have h17 : FnAt l.prog w K mg base _ 4 "_law_refused_by_any" 3 F_l_refused_by_any_962 := at_l_refused_by_any F17 (PySem.W.mg_of X G a17) b17 hcls hk hb h5
  exact (at_l_law F18 hcls hk hb h5 h7 h10 h13 h14 h15 h16 h17).imp fun vs H Q E q => spOk_of vs H Q E q
end Lk36
open PySem PySem.W
open PyProof.Rows
set_option maxHeartbeats 0 in
theorem PySem.Challenge.cw_ringfloor_k36_threes_made_holds : PySem.Challenge.rw_ringfloor_k36_threes_made.Holds := by
  w_on; o_law; k_head; (case hw => w_witness2); k_fill
  refine L2.walk_of (l := PySem.Challenge.rw_ringfloor_k36_threes_made) (n := 63) (k := 5) (x := "_law_script") (CX := fun w => L2.CX PySem.Challenge.rw_ringfloor_k36_threes_made.prog w) (sp := fun w => Mi.spOk _ 1 Df.F_l_law_963) rfl (by decide) rfl ⟨rfl, by decide, by decide⟩ (fun w h Y => PySem.W.kIn_of Y) ?F (fun _ _ a ns hl hO hS => Mi.sp_lawO hO hS (Tv.law_by Df.ok_l_law_963 (Df.holds_k36 ns hl))) (fun _ _ _ _ _ h => Mi.cx_none h)
  case F =>
    intro w mg fa h KX G hmg
    refine' Lk36.all_mk KX G hmg ?a0 ?l0 ?c0 ?k0 ?a1 ?l1 ?c1 ?k1 ?a2 ?l2 ?c2 ?k2 ?a3 ?l3 ?c3 ?k3 ?a4 ?l4 ?c4 ?k4 ?a5 ?l5 ?c5 ?k5 ?a6 ?l6 ?c6 ?k6 ?a7 ?l7 ?c7 ?k7 ?a8 ?l8 ?c8 ?k8 ?a9 ?l9 ?c9 ?k9 ?a10 ?l10 ?c10 ?k10 ?a11 ?l11 ?c11 ?k11 ?a12 ?l12 ?c12 ?k12 ?a13 ?l13 ?c13 ?k13 ?a14 ?l14 ?c14 ?k14 ?a15 ?l15 ?c15 ?k15 ?a16 ?l16 ?c16 ?k16 ?a17 ?l17 ?c17 ?k17 ?a18 ?l18 ?c18 ?k18 ?ga8 ?gs8 ?gt8 ?gh8 ?ga10 ?gs10 ?gt10 ?gh10 ?ga0 ?gs0 ?gt0 ?gh0 ?gb100 ?gw100 ?gx8 ?gk8 ?gc8 ?gu8_8 ?gu8_10 ?gn8_10 ?gu8_0 ?gu8_100 ?y0 ?z0 ?z1 ?z2 ?z3 ?z4 ?z5 ?z6 ?z7 ?z8 ?z9 ?z10 ?z11 ?z12 ?z13 ?z14 ?z15 ?z16 ?z17 ?z18
    (case a0 => k_is); (case l0 => k_is); (case c0 => k_is); (case k0 => k_is)
    (case a1 => k_is); (case l1 => k_is); (case c1 => k_is); (case k1 => k_is); (case a2 => k_is); (case l2 => k_is); (case c2 => k_is); (case k2 => k_is)
    (case a3 => k_is); (case l3 => k_is); (case c3 => k_is); (case k3 => k_is); (case a4 => k_is); (case l4 => k_is); (case c4 => k_is); (case k4 => k_is)
    (case a5 => k_is); (case l5 => k_is); (case c5 => k_is); (case k5 => k_is)
    (case a6 => k_is); (case l6 => k_is); (case c6 => k_is); (case k6 => k_is)
    (case a7 => k_is); (case l7 => k_is); (case c7 => k_is); (case k7 => k_is)
    (case a8 => k_is); (case l8 => k_is); (case c8 => k_is); (case k8 => k_is)
    (case a9 => k_is); (case l9 => k_is); (case c9 => k_is); (case k9 => k_is)
    (case a10 => k_is); (case l10 => k_is); (case c10 => k_is); (case k10 => k_is)
    (case a11 => k_is); (case l11 => k_is); (case c11 => k_is); (case k11 => k_is)
    (case a12 => k_is); (case l12 => k_is); (case c12 => k_is); (case k12 => k_is)
    (case a13 => k_is); (case l13 => k_is); (case c13 => k_is); (case k13 => k_is)
    (case a14 => k_is); (case l14 => k_is); (case c14 => k_is); (case k14 => k_is)
    (case a15 => k_is); (case l15 => k_is); (case c15 => k_is); (case k15 => k_is)
    (case a16 => k_is); (case l16 => k_is); (case c16 => k_is); (case k16 => k_is)
    (case a17 => k_is); (case l17 => k_is); (case c17 => k_is); (case k17 => k_is)
    (case a18 => k_is); (case l18 => k_is); (case c18 => k_is); (case k18 => k_is)
    (case ga8 => k_is)
    (case gs8 => k_is)
    (case gt8 => k_is)
    (case gh8 => k_is)
    (case ga10 => k_is)
    (case gs10 => k_is)
    (case gt10 => k_is)
    (case gh10 => k_is)
    (case ga0 => k_is)
    (case gs0 => k_is)
    (case gt0 => k_is)
    (case gh0 => k_is)
    (case gb100 => k_is)
    (case gw100 => k_is)
    (case gx8 => k_exc)
    (case gk8 => k_is)
    (case gc8 => exact ⟨by k_is, by k_is, by k_is, by k_is, by k_is, by k_is, by k_is, by k_is⟩)
    (case gu8_8 => k_is)
    (case gu8_10 => k_is)
    (case gn8_10 => decide)
    (case gu8_0 => k_is)
    (case gu8_100 => k_is)
    (case y0 => k_is)
    (case z0 => k_is)
    (case z1 => k_is)
    (case z2 => k_is)
    (case z3 => k_is)
    (case z4 => k_is)
    (case z5 => k_is)
    (case z6 => k_is)
    (case z7 => k_is)
    (case z8 => k_is)
    (case z9 => k_is)
    (case z10 => k_is)
    (case z11 => k_is)
    (case z12 => k_is)
    (case z13 => k_is)
    (case z14 => k_is)
    (case z15 => k_is)
    (case z16 => k_is)
    (case z17 => k_is)
    (case z18 => k_is)
