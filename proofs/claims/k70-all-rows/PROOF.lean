import PyProof.Rows.All
import Wide.All
import OpenK.AllK
import Wide.FinOn
import HandS.ForMost
import HandS.Exc
import HandS.SetBool
import HandS.TupMul
import HandS.TupAny
import HandS.SetFor
import HandS.IsInst
import HandS.Rev
import HandS.Zip
import HandS.Style
import HandS.Deep
import KE.KTupSum
import HandS.SortInts
import HandS.SortRule
import HandS.Conv
import HandS.Base
import PyProof.LongRange
import HandS.Iter
import KE.GoesEnum
import KE.GoesZip
import KE.GoesMore
import HandS.Comp
import HandS.Dict
import HandS.ExcInit
import HandS.ExcField
import HandS.ExcIs
import HandS.TryOnly
import HandS.Words
import HandS.WordsExc
import OpenK.KCls
import HandS.Ends
import PyProof.NoPylong
import KE.IntBitsLaws
import PySem.Challenge.RW_powerrests_k70_all_rows_gone_through
set_option Elab.async false
set_option linter.all false
set_option maxRecDepth 100000
/-! M: a small language on data, its meaning as total functions -/
namespace M
open PySem L2
abbrev D := PyData

/-! ### strict sameness of data -/
mutual
def same : D → D → Bool
  | .none, .none => true
  | .bool a, .bool b => a == b
  | .int a, .int b => a == b
  | .str a, .str b => decide (a = b)
  | .list a, .list b => sames a b
  | .tuple a, .tuple b => sames a b
  | .dict a, .dict b => samekv a b
  | _, _ => false
def sames : List D → List D → Bool
  | [], [] => true
  | x :: xs, y :: ys => same x y && sames xs ys
  | _, _ => false
def samekv : List (D × D) → List (D × D) → Bool
  | [], [] => true
  | (k, v) :: xs, (j, w) :: ys => same k j && same v w && samekv xs ys
  | _, _ => false
end

/-! ### syntax -/
inductive Bop where
  | add | sub | mul | fdiv | mod | pow
  deriving DecidableEq
inductive Cop where
  | lt | le | gt | ge | eq | ne | is_ | isnot | in_ | notin
  deriving DecidableEq
inductive Ty where
  | int | bool | str | tuple | list | dict
  deriving DecidableEq
inductive Fn where
  | len | abs | max2 | min2 | sum | tuple | list | repr | str | int | all | any | sorted
  deriving DecidableEq
inductive Mth where
  | append | pop | popAt | remove | reverse | clear | count | index
  deriving DecidableEq
inductive Tg where
  | n (i : Nat)
  | t (is : List Nat)
  deriving DecidableEq
mutual
inductive E where
  | c (d : D)
  | v (i : Nat)
  | g (x : Str) (d : D)
  | bin (o : Bop) (a b : E)
  | neg (a : E)
  | cmp (o : Cop) (a b : E)
  | chain (o o' : Cop) (a b c : E)
  | and_ (a b : E)
  | or_ (a b : E)
  | not_ (a : E)
  | ite (c a b : E)
  | tup (es : Es)
  | lst (es : Es)
  | dct (ks : List Key) (es : Es)
  | dc1 (es : Es)
  | dget (a k d : E)
  | rep (es : Es) (n : E)
  | ix (a b : E)
  | sl (a lo hi : E)
  | rev (a : E)
  | no
  | call (f : Nat) (es : Es)
  | callp (f : Nat) (es : Es)
  | blt (f : Fn) (es : Es)
  | lrng (a b : E)
  | isi (a : E) (tys : List Ty)
  | meth (m : Mth) (i : Nat) (es : Es)
  | ext (i : Nat) (e : E)
  | comp (e : E) (tg : Tg) (s : Src) (cond : E)
inductive Es where
  | nil
  | cons (e : E) (es : Es)
inductive Src where
  | of (e : E)
  | rng1 (a : E)
  | rng2 (a b : E)
  | rng3 (a b c : E)
  | enum (a : E)
  | zip (a b : E)
  | rev (a : E)
end
/-! within an except suite -/
inductive HA where
  | c (d : D)
  | v (i : Nat)
  | fld (f : Str)
inductive HE where
  | at_ (a : HA)
  | is1 (k : Nat)
  | isn (ks : List Nat)
  | isv
  | not_ (a : HE)
  | and_ (a b : HE)
  | or_ (a b : HE)
  | ite (c a b : HE)
  | tup (as : List HA)
  | lst (as : List HA)
inductive HS where
  | nev
  | asg (i : Nat) (e : HE)
  | if_ (c : HE) (i : Nat) (e : HE)
mutual
inductive S where
  | asg (i : Nat) (e : E)
  | mov (i j : Nat)
  | par (i j : Nat) (a b : E)
  | unp (is : List Nat) (e : E)
  | set (i : Nat) (k e : E)
  | ex (e : E)
  | ret (e : E)
  | ret0
  | if_ (c : E) (a b : Ss)
  | wh (c : E) (b : Ss)
  | for_ (tg : Tg) (s : Src) (b : Ss)
  | brk
  | cont
  | pass
  | never
  | kill (is : List Nat)
  | raise_ (k : Nat) (fs : List Str) (es : Es)
  | try_ (b : Ss) (k : Nat) (i : Option Nat) (h : List HS)
inductive Ss where
  | nil
  | cons (s : S) (ss : Ss)
end

/-! ### states -/
structure Exc where
  cls : Nat
  fs : List (Str × D)
inductive Cell where
  | l (xs : List D)
  | d (kvs : List (Key × D))
def keyD : Key → D
  | .inl i => .int i
  | .inr s => .str s
def Cell.toD : Cell → D
  | .l xs => .list xs
  | .d kvs => .dict (kvs.map fun p => (keyD p.1, p.2))
inductive Slot where
  | un
  | val (d : D)
  | own (t : Option Nat) (lk : Bool) (c : Cell)
abbrev Env := List Slot
inductive RV where
  | v (d : D)
  | fresh (c : Cell)
  | slot (i : Nat)
inductive R (α : Type) where
  | ok (a : α) (ρ : Env)
  | exc (x : Exc) (ρ : Env)
  | bad
def R.bind {α β : Type} (m : R α) (f : α → Env → R β) : R β :=
  match m with
  | .ok a ρ => f a ρ
  | .exc x ρ => .exc x ρ
  | .bad => .bad
@[simp] theorem R.bind_ok {α β : Type} (a : α) (ρ : Env) (f : α → Env → R β) : (R.ok a ρ).bind f = f a ρ := rfl
@[simp] theorem R.bind_exc {α β : Type} (x : Exc) (ρ : Env) (f : α → Env → R β) : (R.exc x ρ : R α).bind f = .exc x ρ := rfl
@[simp] theorem R.bind_bad {α β : Type} (f : α → Env → R β) : (R.bad : R α).bind f = .bad := rfl
def R.of {α : Type} (ρ : Env) : Option α → R α
  | some a => .ok a ρ
  | none => .bad
@[simp] theorem R.of_some {α : Type} (ρ : Env) (a : α) : R.of ρ (some a) = .ok a ρ := rfl
@[simp] theorem R.of_none {α : Type} (ρ : Env) : (R.of ρ none : R α) = .bad := rfl
/-- what a call takes, what it hands back (outs: the owned ones, in order) -/
inductive Arg where
  | val (d : D)
  | own (c : Cell)
inductive FR where
  | ok (r : RV) (outs : List Cell)
  | exc (x : Exc) (outs : List Cell)
  | bad
abbrev Sem := List Arg → FR
abbrev Phi := Nat → Sem

/-! ### what can be shown -/
mutual
def shw : D → Bool
  | .none | .bool _ | .str _ => true
  | .int i => decide (i.natAbs.log2 < 12900)
  | .list xs | .tuple xs => shws xs
  | .dict kvs => shwKv kvs
def shws : List D → Bool
  | [] => true
  | x :: xs => shw x && shws xs
def shwKv : List (D × D) → Bool
  | [] => true
  | (k, v) :: r => shw k && shw v && shwKv r
end
/-! ### small operations -/
def pk (ρ : Env) : RV → Option D
  | .v d => some d
  | .fresh c => some c.toD
  | .slot i => match ρ[i]? with
    | some (.own _ _ c) => some c.toD
    | some (.val d) => some d
    | _ => none
def pks (ρ : Env) : List RV → Option (List D)
  | [] => some []
  | r :: rs => match pk ρ r, pks ρ rs with
    | some d, some ds => some (d :: ds)
    | _, _ => none
def frz (ρ : Env) : RV → R D
  | .v d => .ok d ρ
  | .fresh c => .ok c.toD ρ
  | .slot i => match ρ[i]? with
    | some (.own none false c) => .ok c.toD (ρ.set i (.val c.toD))
    | some (.val d) => .ok d ρ
    | _ => .bad
def settle : RV → RV
  | .fresh c => .v c.toD
  | r => r
def nameV (ρ : Env) (i : Nat) : R RV := match ρ[i]? with
  | some (.val d) => .ok (.v d) ρ
  | some (.own _ _ _) => .ok (.slot i) ρ
  | _ => .bad
def truth : D → Option Bool
  | .none => some false
  | .bool b => some b
  | .int i => some (i != 0)
  | .list xs => some (!xs.isEmpty)
  | .tuple xs => some (!xs.isEmpty)
  | _ => none
def mulOk (a b : Int) : Bool := !(decide (Builtin.Int.intBits a > shortFactorBits) && decide (Builtin.Int.intBits b > shortFactorBits) && Builtin.Int.intTooBig (Builtin.Int.intBits a + Builtin.Int.intBits b))
def powOk (a n : Int) : Bool := decide (0 ≤ n ∧ (Builtin.Int.intBits a : Int) * n ≤ 2 ^ 27)
def binD : Bop → D → D → Option RV
  | .add, .int a, .int b => some (.v (.int (a + b)))
  | .add, .str a, .str b => if a.length + b.length ≤ sizeLine then some (.v (.str (a ++ b))) else none
  | .add, .list a, .list b => if a.length + b.length ≤ sizeLine then some (.fresh (.l (a ++ b))) else none
  | .add, .tuple a, .tuple b => if a.length + b.length ≤ sizeLine then some (.v (.tuple (a ++ b))) else none
  | .sub, .int a, .int b => some (.v (.int (a - b)))
  | .mul, .int a, .int b => if mulOk a b then some (.v (.int (a * b))) else none
  | .mul, .tuple a, .int k => if a ≠ [] ∧ a.length ≤ 1000 ∧ -1000 ≤ k ∧ k ≤ 1000 then some (.v (.tuple (List.replicate k.toNat a).flatten)) else none
  | .fdiv, .int a, .int b => if b ≠ 0 ∧ Builtin.divisionGoesByPylong a b = false then some (.v (.int (a.fdiv b))) else none
  | .mod, .int a, .int b => if b ≠ 0 then some (.v (.int (a.fmod b))) else none
  | .pow, .int a, .int b => if powOk a b then some (.v (.int (a ^ b.toNat))) else none
  | .add, .bool a, .int b => some (.v (.int ((if a = true then 1 else 0) + b)))
  | _, _, _ => none
def flat : D → Bool
  | .none => true
  | .bool _ => true
  | .int _ => true
  | .str _ => true
  | _ => false
def isIn (x : D) (xs : List D) : Bool := xs.any fun y => PyData.eqv y x
def items? : D → Option (List D)
  | .list xs => some xs
  | .tuple xs => some xs
  | _ => none
/-- a list, a tuple of any things, and the empty one -/
def nilE : D → D → Option Bool
  | .tuple xs, .tuple [] => some xs.isEmpty
  | .list xs, .list [] => some xs.isEmpty
  | _, _ => none
def cmpD : Cop → D → D → Option Bool
  | .lt, .int a, .int b => some (decide (a < b))
  | .le, .int a, .int b => some (decide (a ≤ b))
  | .gt, .int a, .int b => some (decide (b < a))
  | .ge, .int a, .int b => some (decide (b ≤ a))
  | .eq, .str a, .str b => some (decide (a = b))
  | .ne, .str a, .str b => some (!decide (a = b))
  | .eq, a, b => if SeqAt.shaped a ∧ SeqAt.shaped b then some (PyData.eqv a b) else nilE a b
  | .ne, a, b => if SeqAt.shaped a ∧ SeqAt.shaped b then some (!PyData.eqv a b) else (nilE a b).map (!·)
  | .is_, .none, .none => some true
  | .is_, _, .none => some false
  | .is_, .bool a, .bool b => some (decide (a = b))
  | .is_, _, .bool _ => some false
  | .isnot, .none, .none => some false
  | .isnot, _, .none => some true
  | .isnot, .bool a, .bool b => some (!decide (a = b))
  | .isnot, _, .bool _ => some true
  | .in_, a, b => match items? b with
    | some xs => if flat a ∧ xs.all flat then some (isIn a xs) else if SeqAt.shaped a ∧ SeqAt.shaped b then some (isIn a xs) else none
    | none => none
  | .notin, a, b => match items? b with
    | some xs => if flat a ∧ xs.all flat then some (!isIn a xs) else if SeqAt.shaped a ∧ SeqAt.shaped b then some (!isIn a xs) else none
    | none => none
  | _, _, _ => none
/-- a dict's item by a key that is an int or a text -/
def lookD (k : D) : List (D × D) → Option D
  | [] => none
  | (j, d) :: r => if same j k then some d else lookD k r
def toKey : D → Option Key
  | .int i => some (.inl i)
  | .str s => some (.inr s)
  | _ => none
/-- {..}.get(y, z) -/
def getD (kvs : List (Key × D)) (y z : D) : Option RV := match toKey y with
  | some k => some (.v (((kvs.find? fun p => decide (p.1 = k)).map (·.2)).getD z))
  | none => none
/-- {x: y} -/
def dcN (x y : D) : Option RV := match toKey x with
  | some k => some (.fresh (.d [(k, y)]))
  | none => (match x, y with
    | .bool b, .bool c => some (.v (.dict [(.bool b, .bool c)]))
    | _, _ => none)
/-- a[i], by the peeked a -/
def ixD : D → D → Option D
  | .list xs, .int i => atI xs i
  | .tuple xs, .int i => atI xs i
  | .str z, .int i => if z.length ≤ sizeLine then (atI z.cps.toList i).map fun c => .str ⟨#[c]⟩ else none
  | .dict ps, .int i => lookD (.int i) ps
  | .dict ps, .str z => lookD (.str z) ps
  | _, _ => none
def cutD (xs : List D) (lo hi : Option Int) : List D := (xs.drop (HT.sIx xs.length 0 lo)).take (HT.sIx xs.length xs.length hi - HT.sIx xs.length 0 lo)
def slD : D → Option Int → Option Int → Option RV
  | .list xs, lo, hi => some (.fresh (.l (cutD xs lo hi)))
  | .tuple xs, lo, hi => some (.v (.tuple (cutD xs lo hi)))
  | _, _, _ => none
def revD : D → Option RV
  | .list xs => some (.fresh (.l xs.reverse))
  | .tuple xs => some (.v (.tuple xs.reverse))
  | _ => none
def ints? : List D → Option (List Int)
  | [] => some []
  | .int i :: r => (ints? r).map (i :: ·)
  | _ => none
def bools? : List D → Option (List Bool)
  | [] => some []
  | .bool b :: r => (bools? r).map (b :: ·)
  | _ => none
/-! ### rows of ints, by their first number that differs -/
def lexF (fin : Bool) : List Int → List Int → Bool
  | x :: xs, y :: ys => if x = y then lexF fin xs ys else decide (x < y)
  | _, _ => fin
def lexI (xs ys : List Int) : Bool := lexF (decide (xs.length < ys.length)) xs ys
def insR (x : List Int) : List (List Int) → List (List Int)
  | [] => [x]
  | y :: l => if lexI y x = true then y :: insR x l else x :: y :: l
def sortR : List (List Int) → List (List Int)
  | [] => []
  | x :: l => insR x (sortR l)
def tupI (r : List Int) : D := .tuple (r.map .int)
def rows? : List D → Option (List (List Int))
  | [] => some []
  | .tuple ys :: l => (ints? ys).bind fun r => (rows? l).map (r :: ·)
  | _ => none
/-! ### the sorted row is one alone -/
def insI (x : Int) : List Int → List Int
  | [] => [x]
  | y :: l => if y < x then y :: insI x l else x :: y :: l
def sortI : List Int → List Int
  | [] => []
  | x :: l => insI x (sortI l)
theorem insI_perm (x : Int) : ∀ l : List Int, (insI x l).Perm (x :: l)
  | [] => .refl _
  | y :: l => by
    unfold insI
    split
    · exact ((insI_perm x l).cons y).trans (.swap x y l)
    · exact .refl _
theorem sortI_perm : ∀ ns : List Int, (sortI ns).Perm ns
  | [] => .refl _
  | x :: l => (insI_perm x (sortI l)).trans ((sortI_perm l).cons x)
theorem insI_pw (x : Int) : ∀ {l : List Int}, l.Pairwise (· ≤ ·) → (insI x l).Pairwise (· ≤ ·)
  | [], _ => List.pairwise_singleton _ _
  | y :: l, h => by
    have h' := List.pairwise_cons.mp h
    unfold insI
    split
    · rename_i z
      refine List.pairwise_cons.mpr ⟨fun a ha => ?_, insI_pw x h'.2⟩
      rcases List.mem_cons.mp ((insI_perm x l).mem_iff.mp ha) with e | ha
      · omega
      · exact h'.1 a ha
    · rename_i z
      refine List.pairwise_cons.mpr ⟨fun a ha => ?_, h⟩
      rcases List.mem_cons.mp ha with e | ha
      · omega
      · have := h'.1 a ha; omega
theorem sortI_pw : ∀ ns : List Int, (sortI ns).Pairwise (· ≤ ·)
  | [] => .nil
  | x :: l => insI_pw x (sortI_pw l)
theorem perm_one : ∀ a b : List Int, a.Perm b → a.Pairwise (· ≤ ·) → b.Pairwise (· ≤ ·) → a = b
  | [], b, h, _, _ => by rw [List.nil_perm.mp h]
  | x :: r, [], h, _, _ => by have := h.length_eq; simp at this
  | x :: r, y :: t, h, ha, hb => by
    have hx : x ∈ y :: t := h.mem_iff.mp List.mem_cons_self
    have hy : y ∈ x :: r := h.mem_iff.mpr List.mem_cons_self
    have h1 : x ≤ y := by
      cases List.mem_cons.mp hy with
      | inl e => omega
      | inr m => exact (List.pairwise_cons.mp ha).1 y m
    have h2 : y ≤ x := by
      cases List.mem_cons.mp hx with
      | inl e => omega
      | inr m => exact (List.pairwise_cons.mp hb).1 x m
    have e : x = y := by omega
    subst e
    rw [perm_one r t h.cons_inv (List.pairwise_cons.mp ha).2 (List.pairwise_cons.mp hb).2]
theorem sortI_one {a b : List Int} (h : a.Perm b) (ha : a.Pairwise (· ≤ ·)) : a = sortI b := perm_one _ _ (h.trans (sortI_perm b).symm) ha (sortI_pw b)
def fnD : Fn → List D → Option RV
  | .len, [.list xs] => some (.v (.int xs.length))
  | .len, [.tuple xs] => some (.v (.int xs.length))
  | .len, [.str z] => if z.length ≤ sizeLine then some (.v (.int z.length)) else none
  | .abs, [.int a] => some (.v (.int (if a < 0 then -a else a)))
  | .max2, [.int a, .int b] => some (.v (.int (if b > a then b else a)))
  | .min2, [.int a, .int b] => some (.v (.int (if b < a then b else a)))
  | .sum, [.list xs] => (ints? xs).map fun ns => .v (.int ns.sum)
  | .sum, [.tuple xs] => (ints? xs).map fun ns => .v (.int ns.sum)
  | .tuple, [.list xs] => some (.v (.tuple xs))
  | .tuple, [.tuple xs] => some (.v (.tuple xs))
  | .list, [.list xs] => some (.fresh (.l xs))
  | .list, [.tuple xs] => some (.fresh (.l xs))
  | .repr, [d] => if shw d = true ∧ d.depth ≤ 64 ∧ d.shown.length ≤ sizeLine then some (.v (.str d.shown)) else none
  | .str, [.int i] => if i.natAbs.log2 < 12900 then some (.v (.str (toString i))) else none
  | .str, [.str x] => some (.v (.str x))
  | .str, [.bool b] => some (.v (.str (if b then "True" else "False")))
  | .str, [.tuple xs] => if shw (.tuple xs) = true ∧ PyData.depth (.tuple xs) ≤ 64 ∧ (PyData.shown (.tuple xs)).length ≤ sizeLine then some (.v (.str (PyData.shown (.tuple xs)))) else none
  | .int, [.int i] => some (.v (.int i))
  | .int, [.bool b] => some (.v (.int (if b then 1 else 0)))
  | .all, [.list xs] => (bools? xs).map fun bs => .v (.bool (bs.all id))
  | .any, [.list xs] => (bools? xs).map fun bs => .v (.bool (bs.any id))
  | .sorted, [.list xs] => match ints? xs with
    | some ns => some (.fresh (.l ((sortI ns).map .int)))
    | none => (rows? xs).bind fun rs => if (rs.all fun r => !r.isEmpty) = true ∨ rs.length < 2 then some (.fresh (.l ((sortR rs).map tupI))) else none
  | .sorted, [.tuple xs] => (ints? xs).map fun ns => .fresh (.l ((sortI ns).map .int))
  | _, _ => none
def tyIs : Ty → D → Bool
  | .int, .int _ => true
  | .int, .bool _ => true
  | .bool, .bool _ => true
  | .str, .str _ => true
  | .tuple, .tuple _ => true
  | .list, .list _ => true
  | .dict, .dict _ => true
  | _, _ => false
/-- a method of the list at a slot: what it hands back, the list behind it -/
def methL : Mth → List D → List D → Option (D × List D)
  | .append, xs, [y] => if xs.length < sizeLine then some (.none, xs ++ [y]) else none
  | .pop, xs, [] => (xs[xs.length - 1]?).map fun y => (y, xs.dropLast)
  | .popAt, xs, [.int i] => match ixN xs.length i with
    | some k => (xs[k]?).map fun y => (y, xs.eraseIdx k)
    | none => none
  | .reverse, xs, [] => some (.none, xs.reverse)
  | .clear, _, [] => some (.none, [])
  | .count, xs, [.int i] => (ints? xs).map fun ns => (.int (ns.count i), xs)
  | .index, xs, [.int i] => (ints? xs).bind fun ns => if i ∈ ns then some (.int (ns.idxOf i), xs) else none
  | _, _, _ => none
def putK (kvs : List (Key × D)) (k : Key) (d : D) : List (Key × D) :=
  if (kvs.any fun kv => decide (kv.1 = k)) = true then kvs.map (fun kv => if kv.1 = k then (kv.1, d) else kv) else kvs ++ [(k, d)]
/-- slot[k] = d -/
def setC : Cell → D → D → Option Cell
  | .l xs, .int i, d => (ixN xs.length i).map fun j => .l (xs.set j d)
  | .d kvs, k, d => match toKey k with
    | some k => if kvs.length < 1000 then some (.d (putK kvs k d)) else none
    | none => none
  | _, _, _ => none
def rngI (a : Int) (n : Nat) : List D := (List.range n).map fun i : Nat => .int (a + (i : Int))
def rngC (a c : Int) (n : Nat) : List D := (List.range n).map fun i : Nat => .int (a + (i : Int) * c)
def okR (i : Int) : Bool := decide (-(2 ^ 62) ≤ i ∧ i < 2 ^ 62)
def pairsL : List D → List D → List D
  | x :: xs, y :: ys => .tuple [x, y] :: pairsL xs ys
  | _, _ => []
def enumL : Nat → List D → List D
  | _, [] => []
  | n, x :: xs => .tuple [.int n, x] :: enumL (n + 1) xs
/-- the targets of a loop, filled -/
def putTg (ρ : Env) : Tg → D → Option Env
  | .n i, d => some (ρ.set i (.val d))
  | .t is, .tuple ds => if is.length = ds.length then some ((is.zip ds).foldl (fun ρ p => ρ.set p.1 (.val p.2)) ρ) else none
  | .t _, _ => none
def Tg.is : Tg → List Nat
  | .n i => [i]
  | .t is => is
def Slot.free : Option Slot → Bool
  | some (.own _ _ _) => false
  | none => false
  | _ => true
/-- no target is an owned slot -/
def tgFree (ρ : Env) (tg : Tg) : Bool := tg.is.all fun i => Slot.free ρ[i]?
def wipeE (ρ : Env) (is : List Nat) : Env := is.foldl (fun ρ i => ρ.set i .un) ρ
/-- the targets as they were -/
def backE (ρ ρ' : Env) (is : List Nat) : Env := is.foldl (fun r i => match ρ[i]? with | some s => r.set i s | none => r) ρ'

/-! ### calls -/
def argOf (ρ : Env) : RV → Option Arg
  | .v d => some (.val d)
  | .fresh c => some (.val c.toD)
  | .slot i => match ρ[i]? with
    | some (.own _ false c) => some (.own c)
    | _ => none
def argsOf (ρ : Env) : List RV → Option (List Arg)
  | [] => some []
  | r :: rs => match argOf ρ r, argsOf ρ rs with
    | some a, some as => some (a :: as)
    | _, _ => none
def slotsOf : List RV → List Nat
  | [] => []
  | .slot i :: r => i :: slotsOf r
  | _ :: r => slotsOf r
def putBack : Env → List Nat → List Cell → Option Env
  | ρ, [], [] => some ρ
  | ρ, i :: is, c :: cs => match ρ[i]? with
    | some (.own t false _) => putBack (ρ.set i (.own t false c)) is cs
    | _ => none
  | _, _, _ => none
def callR (f : Sem) (ρ : Env) (rs : List RV) : R RV :=
  if (slotsOf rs).Nodup then
    match argsOf ρ rs with
    | some as => match f as with
      | .ok r outs => match putBack ρ (slotsOf rs) outs with
        | some ρ' => (match r with | .slot _ => .bad | r => .ok r ρ')
        | none => .bad
      | .exc x outs => match putBack ρ (slotsOf rs) outs with
        | some ρ' => .exc x ρ'
        | none => .bad
      | .bad => .bad
    | none => .bad
  else .bad

mutual
/-- no list and no dict in it -/
def noL : D → Bool
  | .none => true
  | .bool _ => true
  | .int _ => true
  | .str _ => true
  | .list _ => false
  | .dict _ => false
  | .tuple xs => noLs xs
def noLs : List D → Bool
  | [] => true
  | x :: xs => noL x && noLs xs
end
/-- a call that reads what it is lent, and hands back no list -/
def callPR (f : Sem) (ρ : Env) (rs : List RV) : R RV := match pks ρ rs with
  | some ds => (match f (ds.map .val) with
    | .ok (.v d) [] => if noL d = true then .ok (.v d) ρ else .bad
    | _ => .bad)
  | none => .bad
/-! ### loops -/
def compGo (tg : Tg) (cnd el : Env → R RV) : List D → Env → List D → R (List D)
  | [], ρ, acc => .ok acc ρ
  | x :: xs, ρ, acc => match putTg ρ tg x with
    | some ρ1 => (match cnd ρ1 with
      | .ok (.v (.bool true)) ρ2 => (match el ρ2 with
        | .ok r ρ3 => (match frz ρ3 r with
          | .ok d ρ4 => if acc.length < sizeLine then compGo tg cnd el xs (wipeE ρ4 tg.is) (acc ++ [d]) else .bad
          | _ => .bad)
        | _ => .bad)
      | .ok (.v (.bool false)) ρ2 => compGo tg cnd el xs (wipeE ρ2 tg.is) acc
      | _ => .bad)
    | none => .bad
inductive Fl where
  | nx (ρ : Env)
  | rt (r : RV) (ρ : Env)
  | bk (ρ : Env)
  | ct (ρ : Env)
  | exc (x : Exc) (ρ : Env)
  | bad
def R.fl {α : Type} (m : R α) (f : α → Env → Fl) : Fl :=
  match m with
  | .ok a ρ => f a ρ
  | .exc x ρ => .exc x ρ
  | .bad => .bad
@[simp] theorem R.fl_ok {α : Type} (a : α) (ρ : Env) (f : α → Env → Fl) : (R.ok a ρ).fl f = f a ρ := rfl
@[simp] theorem R.fl_exc {α : Type} (x : Exc) (ρ : Env) (f : α → Env → Fl) : (R.exc x ρ : R α).fl f = .exc x ρ := rfl
@[simp] theorem R.fl_bad {α : Type} (f : α → Env → Fl) : (R.bad : R α).fl f = .bad := rfl
def Fl.next (m : Fl) (f : Env → Fl) : Fl :=
  match m with
  | .nx ρ => f ρ
  | m => m
@[simp] theorem Fl.next_nx (ρ : Env) (f : Env → Fl) : (Fl.nx ρ).next f = f ρ := rfl
@[simp] theorem Fl.next_rt (r : RV) (ρ : Env) (f : Env → Fl) : (Fl.rt r ρ).next f = .rt r ρ := rfl
@[simp] theorem Fl.next_bk (ρ : Env) (f : Env → Fl) : (Fl.bk ρ).next f = .bk ρ := rfl
@[simp] theorem Fl.next_ct (ρ : Env) (f : Env → Fl) : (Fl.ct ρ).next f = .ct ρ := rfl
@[simp] theorem Fl.next_exc (x : Exc) (ρ : Env) (f : Env → Fl) : (Fl.exc x ρ).next f = .exc x ρ := rfl
@[simp] theorem Fl.next_bad (f : Env → Fl) : Fl.bad.next f = .bad := rfl
def loopW (c : Env → R RV) (b : Env → Fl) : Nat → Env → Fl
  | 0, _ => .bad
  | n + 1, ρ => (c ρ).fl fun r ρ1 => match r with
    | .v (.bool true) => (match b ρ1 with
      | .nx ρ2 => loopW c b n ρ2
      | .ct ρ2 => loopW c b n ρ2
      | .bk ρ2 => .nx ρ2
      | f => f)
    | .v (.bool false) => .nx ρ1
    | _ => .bad
def loopF (tg : Tg) (b : Env → Fl) : List D → Env → Fl
  | [], ρ => .nx ρ
  | x :: xs, ρ => match putTg ρ tg x with
    | some ρ1 => (match b ρ1 with
      | .nx ρ2 => if tgFree ρ2 tg then loopF tg b xs ρ2 else .bad
      | .ct ρ2 => if tgFree ρ2 tg then loopF tg b xs ρ2 else .bad
      | .bk ρ2 => .nx ρ2
      | f => f)
    | none => .bad
def FUEL : Nat := 10 ^ 18

/-! ### an except suite -/
/-- is the exception of the class k (0: the base of all) -/
def isE (x : Exc) (k : Nat) : Bool := decide (k = 0) || decide (x.cls = k)
def evA (x : Exc) : HA → Env → R D
  | .c d, ρ => .ok d ρ
  | .v i, ρ => (nameV ρ i).bind fun r ρ => frz ρ r
  | .fld f, ρ => match x.fs.lookup f with
    | some d => .ok d ρ
    | none => .bad
def evAs (x : Exc) : List HA → Env → R (List D)
  | [], ρ => .ok [] ρ
  | a :: as, ρ => (evA x a ρ).bind fun d ρ => (evAs x as ρ).bind fun ds ρ => .ok (d :: ds) ρ
def evH (x : Exc) : HE → Env → R RV
  | .at_ (.v i), ρ => nameV ρ i
  | .at_ a, ρ => (evA x a ρ).bind fun d ρ => .ok (.v d) ρ
  | .is1 k, ρ => .ok (.v (.bool (isE x k))) ρ
  | .isn ks, ρ => .ok (.v (.bool (ks.any (isE x)))) ρ
  | .isv, ρ => .ok (.v (.bool true)) ρ
  | .not_ a, ρ => (evH x a ρ).bind fun r ρ => match r with
    | .v (.bool b) => .ok (.v (.bool (!b))) ρ
    | _ => .bad
  | .and_ a b, ρ => (evH x a ρ).bind fun r ρ => match r with
    | .v (.bool true) => evH x b ρ
    | .v (.bool false) => .ok (.v (.bool false)) ρ
    | _ => .bad
  | .or_ a b, ρ => (evH x a ρ).bind fun r ρ => match r with
    | .v (.bool true) => .ok (.v (.bool true)) ρ
    | .v (.bool false) => evH x b ρ
    | _ => .bad
  | .ite c a b, ρ => (evH x c ρ).bind fun r ρ => match r with
    | .v (.bool true) => evH x a ρ
    | .v (.bool false) => evH x b ρ
    | _ => .bad
  | .tup as, ρ => (evAs x as ρ).bind fun ds ρ => if ds.length ≤ sizeLine then .ok (.v (.tuple ds)) ρ else .bad
  | .lst as, ρ => (evAs x as ρ).bind fun ds ρ => if ds.length ≤ sizeLine then .ok (.fresh (.l ds)) ρ else .bad
def asgR (i : Nat) (m : R RV) : Fl := m.fl fun r ρ => match ρ[i]? with
  | some (.own (some _) _ _) => .bad
  | some (.own none true _) => .bad
  | none => .bad
  | _ => (match r with
    | .fresh c => .nx (ρ.set i (.own none false c))
    | r => (frz ρ r).fl fun d ρ => .nx (ρ.set i (.val d)))
def exH (x : Exc) : List HS → Env → Fl
  | [], ρ => .nx ρ
  | .nev :: _, _ => .bad
  | .asg i e :: r, ρ => (asgR i (evH x e ρ)).next fun ρ => exH x r ρ
  | .if_ c i e :: r, ρ => ((evH x c ρ).fl fun rv ρ => match rv with
    | .v (.bool true) => asgR i (evH x e ρ)
    | .v (.bool false) => .nx ρ
    | _ => .bad).next fun ρ => exH x r ρ
def unN (ρ : Env) : Option Nat → Env
  | some i => ρ.set i .un
  | none => ρ
/-- what a try makes of its body's end -/
def okN (ρ : Env) : Option Nat → Bool
  | some i => decide (i < ρ.length)
  | none => true
def tryR (k : Nat) (i : Option Nat) (h : List HS) : Fl → Fl
  | .exc x ρ => if isE x k = true then (if okN ρ i = true then (exH x h (unN ρ i)).next fun ρ => .nx (unN ρ i) else .bad) else .exc x ρ
  | f => f
def raiseR (k : Nat) (fs : List Str) (m : R (List D)) : Fl := m.fl fun ds ρ =>
  if ds.length = fs.length then .exc ⟨k, fs.zip ds⟩ ρ else .bad
/-! ### meaning -/
def tst (t : Bool) (m : R RV) : R RV :=
  if t then m.bind fun r ρ => match (pk ρ r).bind truth with
    | some b => .ok (.v (.bool b)) ρ
    | none => .bad
  else m
@[simp] theorem tst_false (m : R RV) : tst false m = m := rfl
@[simp] theorem tst_bool (t : Bool) (b : Bool) (ρ : Env) : tst t (.ok (.v (.bool b)) ρ) = .ok (.v (.bool b)) ρ := by cases t <;> rfl
/-- a part of a slice -/
def partE : E → RV → Option (Option Int)
  | .no, _ => some none
  | _, .v (.int i) => some (some i)
  | _, _ => none
section
variable (Φ : Phi)
mutual
def ev : Bool → E → Env → R RV
  | t, .c d, ρ => tst t (.ok (.v d) ρ)
  | t, .v i, ρ => tst t (nameV ρ i)
  | t, .g _ d, ρ => tst t (.ok (.v d) ρ)
  | t, .bin o a b, ρ => tst t ((ev false a ρ).bind fun ra ρ => (ev false b ρ).bind fun rb ρ =>
      match pk ρ ra, pk ρ rb with
      | some x, some y => .of ρ (binD o x y)
      | _, _ => .bad)
  | t, .neg a, ρ => tst t ((ev false a ρ).bind fun ra ρ => match ra with | .v (.int i) => .ok (.v (.int (-i))) ρ | _ => .bad)
  | _, .cmp o a b, ρ => (ev false a ρ).bind fun ra ρ => (ev false b ρ).bind fun rb ρ =>
      match pk ρ ra, pk ρ rb with
      | some x, some y => .of ρ ((cmpD o x y).map fun k => .v (.bool k))
      | _, _ => .bad
  | _, .chain o o' a b c, ρ => (ev false a ρ).bind fun ra ρ => (ev false b ρ).bind fun rb ρ =>
      match pk ρ ra, pk ρ rb with
      | some x, some y => (match cmpD o x y with
        | some true => (ev false c ρ).bind fun rc ρ => (match pk ρ rb, pk ρ rc with
          | some y, some z => .of ρ ((cmpD o' y z).map fun k => .v (.bool k))
          | _, _ => .bad)
        | some false => .ok (.v (.bool false)) ρ
        | none => .bad)
      | _, _ => .bad
  | t, .and_ a b, ρ => (ev t a ρ).bind fun r ρ => match r with
      | .v (.bool true) => ev t b ρ
      | .v (.bool false) => .ok (.v (.bool false)) ρ
      | _ => .bad
  | t, .or_ a b, ρ => (ev t a ρ).bind fun r ρ => match r with
      | .v (.bool true) => .ok (.v (.bool true)) ρ
      | .v (.bool false) => ev t b ρ
      | _ => .bad
  | t, .not_ a, ρ => (ev t a ρ).bind fun r ρ => match r with
      | .v (.bool b) => .ok (.v (.bool (!b))) ρ
      | _ => .bad
  | t, .ite c a b, ρ => tst t ((ev true c ρ).bind fun r ρ => match r with
      | .v (.bool true) => ev false a ρ
      | .v (.bool false) => ev false b ρ
      | _ => .bad)
  | t, .tup es, ρ => tst t ((evd es ρ).bind fun ds ρ => if ds.length ≤ sizeLine then .ok (.v (.tuple ds)) ρ else .bad)
  | t, .lst es, ρ => tst t ((evd es ρ).bind fun ds ρ => if ds.length ≤ sizeLine then .ok (.fresh (.l ds)) ρ else .bad)
  | t, .dct ks es, ρ => tst t (match evd es ρ with
      | .ok ds ρ => if ks.length = ds.length ∧ ks.Nodup then .ok (.fresh (.d (ks.zip ds))) ρ else .bad
      | _ => .bad)
  | t, .dc1 es, ρ => tst t (match evd es ρ with
      | .ok [x, y] ρ => .of ρ (dcN x y)
      | _ => .bad)
  | t, .dget a k d, ρ => tst t ((ev false a ρ).bind fun ra ρ => (match ra with
      | .fresh (.d kvs) => (ev false k ρ).bind fun rk ρ => (frz ρ rk).bind fun y ρ => (ev false d ρ).bind fun rd ρ => (frz ρ rd).bind fun z ρ => .of ρ (getD kvs y z)
      | _ => .bad))
  | t, .rep es b, ρ => tst t ((evd es ρ).bind fun ds ρ => if ds.length ≤ sizeLine then (ev false b ρ).bind fun rb ρ => (match rb with
      | .v (.int k) => if (-(2 ^ 62) ≤ k ∧ k < 2 ^ 62) ∧ ds.length * k.toNat ≤ sizeLine then .ok (.fresh (.l (List.replicate k.toNat ds).flatten)) ρ else .bad
      | _ => .bad) else .bad)
  | t, .ix a b, ρ => tst t ((ev false a ρ).bind fun ra ρ => (ev false b ρ).bind fun rb ρ =>
      match pk ρ ra, pk ρ rb with
      | some x, some k => .of ρ ((ixD x k).map .v)
      | _, _ => .bad)
  | t, .sl a lo hi, ρ => tst t ((ev false a ρ).bind fun ra ρ => (ev false lo ρ).bind fun l ρ => match partE lo l with
      | some l => (ev false hi ρ).bind fun h ρ => (match pk ρ ra, partE hi h with
        | some x, some h => .of ρ (slD x l h)
        | _, _ => .bad)
      | none => .bad)
  | t, .rev a, ρ => tst t ((ev false a ρ).bind fun ra ρ => match pk ρ ra with
      | some x => .of ρ (revD x)
      | none => .bad)
  | _, .no, ρ => .ok (.v .none) ρ
  | t, .call f es, ρ => tst t ((evs es ρ).bind fun rs ρ => callR (Φ f) ρ rs)
  | t, .callp f es, ρ => tst t ((evs es ρ).bind fun rs ρ => callPR (Φ f) ρ rs)
  | t, .blt f es, ρ => tst t ((evs es ρ).bind fun rs ρ => match pks ρ rs with
      | some ds => .of ρ (fnD f ds)
      | none => .bad)
  | t, .lrng a b, ρ => tst t ((ev false a ρ).bind fun ra ρ => (ev false b ρ).bind fun rb ρ => match ra, rb with
      | .v (.int i), .v (.int j) => if okR i ∧ okR j ∧ (j - i).toNat ≤ 100000 then .ok (.fresh (.l (rngI i (j - i).toNat))) ρ else .bad
      | _, _ => .bad)
  | _, .isi a tys, ρ => (ev false a ρ).bind fun ra ρ => match pk ρ ra with
      | some x => .ok (.v (.bool (tys.any fun t => tyIs t x))) ρ
      | none => .bad
  | t, .meth m i es, ρ => tst t (match ρ[i]? with
      | some (.own _ _ (.l _)) => (evd es ρ).bind fun ds ρ => (match ρ[i]? with
        | some (.own t false (.l xs)) => (match methL m xs ds with
          | some (y, ys) => .ok (.v y) (ρ.set i (.own t false (.l ys)))
          | none => .bad)
        | _ => .bad)
      | _ => .bad)
  | t, .ext i e, ρ => tst t (match ρ[i]? with
      | some (.own _ _ (.l _)) => (ev false e ρ).bind fun r ρ => (match r, ρ[i]? with
        | .fresh (.l ys), some (.own t false (.l xs)) => if xs.length + ys.length ≤ sizeLine then .ok (.v .none) (ρ.set i (.own t false (.l (xs ++ ys)))) else .bad
        | _, _ => .bad)
      | _ => .bad)
  | t, .comp e tg s cnd, ρ => tst t ((evSrc s ρ).bind fun xs ρ =>
      if tgFree ρ tg then
        (compGo tg (fun ρ => ev true cnd ρ) (fun ρ => ev false e ρ) xs (wipeE ρ tg.is) []).bind fun ds ρ' =>
          .ok (.fresh (.l ds)) (backE ρ ρ' tg.is)
      else .bad)
def evs : Es → Env → R (List RV)
  | .nil, ρ => .ok [] ρ
  | .cons e es, ρ => (ev false e ρ).bind fun r ρ => (evs es ρ).bind fun rs ρ => .ok (settle r :: rs) ρ
def evd : Es → Env → R (List D)
  | .nil, ρ => .ok [] ρ
  | .cons e es, ρ => (ev false e ρ).bind fun r ρ => (frz ρ r).bind fun d ρ => (evd es ρ).bind fun ds ρ => .ok (d :: ds) ρ
def evSrc : Src → Env → R (List D)
  | .of e, ρ => (ev false e ρ).bind fun r ρ => (frz ρ r).bind fun d ρ => (match items? d with | some xs => .ok xs ρ | none => .bad)
  | .rng1 a, ρ => (ev false a ρ).bind fun r ρ => match r with
    | .v (.int j) => if okR j then .ok (rngI 0 j.toNat) ρ else .bad
    | _ => .bad
  | .rng2 a b, ρ => (ev false a ρ).bind fun ra ρ => (ev false b ρ).bind fun rb ρ => match ra, rb with
    | .v (.int i), .v (.int j) => if (okR i ∧ okR j) ∨ j ≤ i then .ok (rngI i (j - i).toNat) ρ else .bad
    | _, _ => .bad
  | .rng3 a b c, ρ => (ev false a ρ).bind fun ra ρ => (ev false b ρ).bind fun rb ρ => (ev false c ρ).bind fun rc ρ => match ra, rb, rc with
    | .v (.int i), .v (.int j), .v (.int c) => if c ≠ 0 ∧ c.natAbs < 1073741824 ∧ Builtin.Range.small i j c = true ∧ 0 ≤ Builtin.Range.rangeSize i j c then .ok (rngC i c (Builtin.Range.rangeSize i j c).toNat) ρ else .bad
    | _, _, _ => .bad
  | .enum a, ρ => (ev false a ρ).bind fun r ρ => (frz ρ r).bind fun d ρ => (match items? d with | some xs => .ok (enumL 0 xs) ρ | none => .bad)
  | .zip a b, ρ => (ev false a ρ).bind fun ra ρ => (frz ρ ra).bind fun x ρ => (ev false b ρ).bind fun rb ρ => (frz ρ rb).bind fun y ρ =>
    match items? x, items? y with
    | some xs, some ys => .ok (pairsL xs ys) ρ
    | _, _ => .bad
  | .rev a, ρ => (ev false a ρ).bind fun r ρ => (frz ρ r).bind fun d ρ => (match items? d with | some xs => .ok xs.reverse ρ | none => .bad)
end
mutual
def exS : S → Env → Fl
  | .asg i e, ρ => (ev Φ false e ρ).fl fun r ρ => match ρ[i]? with
      | some (.own (some _) _ _) => .bad
      | some (.own none true _) => .bad
      | none => .bad
      | _ => (match r with
        | .fresh c => .nx (ρ.set i (.own none false c))
        | r => (frz ρ r).fl fun d ρ => .nx (ρ.set i (.val d)))
  | .mov i j, ρ => if i = j then .bad else (match ρ[j]? with
      | some (.own none false c) => (match ρ[i]? with
        | some (.own (some _) _ _) => .bad
        | some (.own none true _) => .bad
        | none => .bad
        | _ => .nx ((ρ.set j .un).set i (.own none false c)))
      | _ => .bad)
  | .par i j a b, ρ => (ev Φ false a ρ).fl fun ra ρ => (frz ρ ra).fl fun x ρ => (ev Φ false b ρ).fl fun rb ρ => (frz ρ rb).fl fun y ρ =>
      if tgFree ρ (.t [i, j]) then .nx ((ρ.set i (.val x)).set j (.val y)) else .bad
  | .unp is e, ρ => (ev Φ false e ρ).fl fun r ρ => (frz ρ r).fl fun d ρ =>
      if tgFree ρ (.t is) then (match putTg ρ (.t is) d with | some ρ => .nx ρ | none => .bad) else .bad
  | .set i k e, ρ => (ev Φ false e ρ).fl fun r ρ => (frz ρ r).fl fun d ρ => match ρ[i]? with
      | some (.own _ _ _) => (ev Φ false k ρ).fl fun rk ρ => (match ρ[i]?, rk with
        | some (.own t false c), .v k => (match setC c k d with
          | some c => .nx (ρ.set i (.own t false c))
          | none => .bad)
        | _, _ => .bad)
      | _ => .bad
  | .ex e, ρ => (ev Φ false e ρ).fl fun _ ρ => .nx ρ
  | .ret e, ρ => (ev Φ false e ρ).fl fun r ρ => .rt r ρ
  | .ret0, ρ => .rt (.v .none) ρ
  | .if_ c a b, ρ => (ev Φ true c ρ).fl fun r ρ => match r with
      | .v (.bool true) => exSs a ρ
      | .v (.bool false) => exSs b ρ
      | _ => .bad
  | .wh c b, ρ => loopW (fun ρ => ev Φ true c ρ) (fun ρ => exSs b ρ) FUEL ρ
  | .for_ tg s b, ρ => (evSrc Φ s ρ).fl fun xs ρ => if tgFree ρ tg then loopF tg (fun ρ => exSs b ρ) xs ρ else .bad
  | .brk, ρ => .bk ρ
  | .cont, ρ => .ct ρ
  | .pass, ρ => .nx ρ
  | .never, _ => .bad
  | .kill is, ρ => .nx (wipeE ρ is)
  | .raise_ k fs es, ρ => raiseR k fs (evd Φ es ρ)
  | .try_ b k i h, ρ => tryR k i h (exSs b ρ)
def exSs : Ss → Env → Fl
  | .nil, ρ => .nx ρ
  | .cons s ss, ρ => (exS s ρ).next fun ρ => exSs ss ρ
end
end
/-! ### a def -/
def argSlot : Nat → List Arg → List Slot
  | _, [] => []
  | n, .val d :: r => .val d :: argSlot n r
  | n, .own c :: r => .own (some n) false c :: argSlot (n + 1) r
def cellsOfA : List Arg → List Cell
  | [] => []
  | .val _ :: r => cellsOfA r
  | .own c :: r => c :: cellsOfA r
/-- the owned parameters' cells at the end, in order -/
def outsOf : Env → List Arg → Nat → Nat → Option (List Cell)
  | _, [], _, _ => some []
  | ρ, .val _ :: r, i, n => outsOf ρ r (i + 1) n
  | ρ, .own _ :: r, i, n => match ρ[i]?, outsOf ρ r (i + 1) (n + 1) with
    | some (.own (some m) _ c), some cs => if m = n then some (c :: cs) else none
    | _, _ => none
/-- a def's meaning by its body: many names, nps parameters -/
def body (Φ : Phi) (many nps : Nat) (b : Ss) : Sem := fun as =>
  if as.length = nps then
    match exSs Φ b (argSlot 0 as ++ List.replicate (many - nps) .un) with
    | .rt r ρ => (match outsOf ρ as 0 0 with
      | some outs => (match r with
        | .slot i => (match ρ[i]? with
          | some (.own none _ c) => .ok (.fresh c) outs
          | some (.val d) => .ok (.v d) outs
          | _ => .bad)
        | r => .ok r outs)
      | none => .bad)
    | .nx ρ => (match outsOf ρ as 0 0 with
      | some outs => .ok (.v .none) outs
      | none => .bad)
    | .exc x ρ => (match outsOf ρ as 0 0 with
      | some outs => .exc x outs
      | none => .bad)
    | _ => .bad
  else .bad
end M

set_option Elab.async false
set_option linter.all false
/-! M: the dict {b: c} of two truths -/
namespace M
open PySem PySem.Spec PyProof.Rows L2 PpSet
/-- the dict {b: c} of two truths -/
def DcB (P : Program) (w : World) (h : Heap) (a : Addr) (b c : Bool) : Prop := (a == sysModules) = false ∧ h.DictOf (boolK P w) a [(b, .bool c)]
def DcBO (P : Program) (w : World) (a : Addr) (b c : Bool) : HO := .ext fun h => DcB P w h a b c
theorem dcB_new {P : Program} {w : World} {H : Hp} {h : Heap} {a : Addr} {b c : Bool} (R : DcB P w h a b c) : ObjOk P w H h a (DcBO P w a b c) := by
  obtain ⟨z, o, es, ep, ho, r⟩ := R
  refine ⟨⟨z, o, es, ep, ho, r⟩, ⟨o, ho⟩, fun h1 h2 p k => ?_⟩
  obtain ⟨z1, o1, es1, ep1, ho1, r1⟩ := p
  exact ⟨z1, o1, es1, ep1, k _ ho1, r1⟩
theorem carries_b {P : Program} {w : World} {b c : Bool} {ws : List (Value × Value)} (r : VV [(V.bl b, V.bl c)] ws) : Carries (boolK P w) ws [(b, .bool c)] := by
  cases r with
  | @cons p q as bs h t =>
    cases t
    obtain ⟨u, v⟩ := q
    obtain ⟨h1, h2⟩ := h
    cases h1
    cases h2
    exact ⟨boolK_is P w b, rfl, True.intro⟩
theorem pairs_b {P : Program} {w : World} {b c : Bool} : ∀ {es : List DictEntry}, Pairs (boolK P w) es [(b, Value.bool c)] → es.map (·.key) = [.bool b] ∧ es.map (·.val) = [.bool c]
  | _, .cons h1 h2 .nil => by
    have h1 := isB_shape h1
    simp only [List.map_cons, List.map_nil, h1, h2]
    exact ⟨trivial, trivial⟩
end M

set_option Elab.async false
set_option linter.all false
set_option maxRecDepth 100000
set_option maxHeartbeats 4000000
/-! M: data over the abstract heap; what holds between an expression's start and its end -/
namespace M
open PySem PySem.Spec PyProof.Rows L2

/-! ### data over the heap -/
mutual
inductive Rp (K : PySem.W.Frag) (H : Hp) : V → D → Prop
  | non : Rp K H .non .none
  | bl (b : Bool) : Rp K H (.bl b) (.bool b)
  | int (i : Int) : Rp K H (.int i) (.int i)
  | str (x : Str) : Rp K H (.str x) (.str x)
  | lst {a : Addr} {xs : List V} {ds : List D} : SqL K H a xs → Rps K H xs ds → Rp K H (.ref a) (.list ds)
  | tup {a : Addr} {xs : List V} {ds : List D} : SqT K H a xs → Rps K H xs ds → Rp K H (.ref a) (.tuple ds)
  | dct {a : Addr} {ks : List Key} {xs : List V} {ds : List D} : H a = some (.dK (ks.zip xs)) → ks.length = xs.length → Rps K H xs ds → Rp K H (.ref a) (.dict ((ks.map keyD).zip ds))
  | dcb {a : Addr} {b c : Bool} {φ : Heap → Prop} : H a = some (.ext φ) → (∀ h, φ h → ∃ P w, DcB P w h a b c) → Rp K H (.ref a) (.dict [(.bool b, .bool c)])
inductive Rps (K : PySem.W.Frag) (H : Hp) : List V → List D → Prop
  | nil : Rps K H [] []
  | cons {v : V} {vs : List V} {d : D} {ds : List D} : Rp K H v d → Rps K H vs ds → Rps K H (v :: vs) (d :: ds)
end
theorem sqT_mono {K : PySem.W.Frag} {H H' : Hp} {a : Addr} {xs : List V} (e : Same H H') (h : SqT K H a xs) : SqT K H' a xs := by
  rcases h with (h | ⟨o, h⟩) | h
  · exact .inl (.inl (e _ _ h))
  · exact .inl (.inr ⟨o, e _ _ h⟩)
  · exact .inr h
mutual
theorem Rp.mono {K : PySem.W.Frag} {H H' : Hp} (e : Same H H') : ∀ {v : V} {d : D}, Rp K H v d → Rp K H' v d
  | _, _, .non => .non
  | _, _, .bl b => .bl b
  | _, _, .int i => .int i
  | _, _, .str x => .str x
  | _, _, .lst h r => .lst (e.seq h) (Rps.mono e r)
  | _, _, .tup h r => .tup (sqT_mono e h) (Rps.mono e r)
  | _, _, .dct h l r => .dct (e _ _ h) l (Rps.mono e r)
  | _, _, .dcb h k => .dcb (e _ _ h) k
theorem Rps.mono {K : PySem.W.Frag} {H H' : Hp} (e : Same H H') : ∀ {vs : List V} {ds : List D}, Rps K H vs ds → Rps K H' vs ds
  | _, _, .nil => .nil
  | _, _, .cons h r => .cons (Rp.mono e h) (Rps.mono e r)
end
theorem Rps.len {K : PySem.W.Frag} {H : Hp} : ∀ {vs : List V} {ds : List D}, Rps K H vs ds → vs.length = ds.length
  | _, _, .nil => rfl
  | _, _, .cons _ r => by simp [Rps.len r]
theorem Rps.app {K : PySem.W.Frag} {H : Hp} : ∀ {vs ws : List V} {ds es : List D}, Rps K H vs ds → Rps K H ws es → Rps K H (vs ++ ws) (ds ++ es)
  | _, _, _, _, .nil, s => s
  | _, _, _, _, .cons h r, s => .cons h (Rps.app r s)
theorem Rps.get {K : PySem.W.Frag} {H : Hp} : ∀ {vs : List V} {ds : List D} {i : Nat} {d : D}, Rps K H vs ds → ds[i]? = some d → ∃ v, vs[i]? = some v ∧ Rp K H v d
  | _, _, _, _, .nil, e => by simp at e
  | _, _, 0, _, .cons h r, e => by simp at e; subst e; exact ⟨_, by simp, h⟩
  | _, _, i + 1, _, .cons h r, e => by
    obtain ⟨v, h1, h2⟩ := Rps.get (i := i) r (by simpa using e)
    exact ⟨v, by simpa using h1, h2⟩
theorem Rps.set {K : PySem.W.Frag} {H : Hp} {v : V} {d : D} (h : Rp K H v d) : ∀ {vs : List V} {ds : List D} (i : Nat), Rps K H vs ds → Rps K H (vs.set i v) (ds.set i d)
  | _, _, _, .nil => .nil
  | _, _, 0, .cons _ r => .cons h r
  | _, _, i + 1, .cons q r => .cons q (Rps.set h i r)
theorem Rps.take {K : PySem.W.Frag} {H : Hp} : ∀ {vs : List V} {ds : List D} (n : Nat), Rps K H vs ds → Rps K H (vs.take n) (ds.take n)
  | _, _, 0, _ => .nil
  | _, _, _ + 1, .nil => .nil
  | _, _, n + 1, .cons h r => .cons h (Rps.take n r)
theorem Rps.drop {K : PySem.W.Frag} {H : Hp} : ∀ {vs : List V} {ds : List D} (n : Nat), Rps K H vs ds → Rps K H (vs.drop n) (ds.drop n)
  | _, _, 0, r => r
  | _, _, _ + 1, .nil => .nil
  | _, _, n + 1, .cons _ r => Rps.drop n r
theorem Rps.rev {K : PySem.W.Frag} {H : Hp} : ∀ {vs : List V} {ds : List D}, Rps K H vs ds → Rps K H vs.reverse ds.reverse
  | _, _, .nil => .nil
  | _, _, .cons h r => by
    rw [List.reverse_cons, List.reverse_cons]
    exact (Rps.rev r).app (.cons h .nil)
theorem Rps.ints {K : PySem.W.Frag} {H : Hp} : ∀ {vs : List V} {ds : List D} {ns : List Int}, Rps K H vs ds → ints? ds = some ns → vs = ns.map V.int
  | _, _, _, .nil, e => by cases (Option.some.inj e); rfl
  | _, _, _, .cons (d := d) h r, e => by
    cases d with
    | int i =>
      cases h
      simp only [ints?, Option.map_eq_some_iff] at e
      obtain ⟨ms, e1, e2⟩ := e
      subst e2
      rw [Rps.ints r e1]; rfl
    | _ => simp [ints?] at e
theorem Rps.bools {K : PySem.W.Frag} {H : Hp} : ∀ {vs : List V} {ds : List D} {ns : List Bool}, Rps K H vs ds → bools? ds = some ns → vs = ns.map V.bl
  | _, _, _, .nil, e => by cases (Option.some.inj e); rfl
  | _, _, _, .cons (d := d) h r, e => by
    cases d with
    | bool i =>
      cases h
      simp only [bools?, Option.map_eq_some_iff] at e
      obtain ⟨ms, e1, e2⟩ := e
      subst e2
      rw [Rps.bools r e1]; rfl
    | _ => simp [bools?] at e
theorem Rps.ofInts {K : PySem.W.Frag} {H : Hp} : ∀ ns : List Int, Rps K H (ns.map V.int) (ns.map PyData.int)
  | [] => .nil
  | n :: r => .cons (.int n) (Rps.ofInts r)

/-! ### the frame's heap -/
/-- H0: the heap at the entry; I: the owned parameters' addresses, n of them; h: what is hidden besides -/
structure Fr where
  H0 : Hp
  I : Nat → Addr
  n : Nat
  h : Addr → Prop
def Fr.hide (F : Fr) (p : Addr) : Fr := { F with h := fun b => F.h b ∨ b = p }
/-- an owned slot's address -/
def OA (σ : L2.St) (ρ : Env) (b : Addr) : Prop := ∃ (i : Nat) (t : Option Nat) (lk : Bool) (c : Cell), ρ[i]? = some (.own t lk c) ∧ σ[i]? = some (some (.ref b))
open Classical in
noncomputable def vis (F : Fr) (σ : L2.St) (ρ : Env) (H : Hp) : Hp := fun b => if F.h b ∨ OA σ ρ b then none else H b
theorem vis_of {F : Fr} {σ : L2.St} {ρ : Env} {H : Hp} {b : Addr} (h1 : ¬ F.h b) (h2 : ¬ OA σ ρ b) : vis F σ ρ H b = H b := by
  unfold vis; rw [if_neg (fun z => z.elim h1 h2)]
theorem vis_some {F : Fr} {σ : L2.St} {ρ : Env} {H : Hp} {b : Addr} {o : HO} (e : vis F σ ρ H b = some o) : H b = some o ∧ ¬ F.h b ∧ ¬ OA σ ρ b := by
  unfold vis at e
  split at e
  · cases e
  · rename_i z
    exact ⟨e, fun q => z (.inl q), fun q => z (.inr q)⟩
theorem vis_le {F : Fr} {σ : L2.St} {ρ : Env} {H : Hp} : Same (vis F σ ρ H) H := fun _ _ e => (vis_some e).1
def CellR (K : PySem.W.Frag) (V : Hp) : Cell → HO → Prop
  | .l ds, .lst vs => Rps K V vs ds
  | .d ps, .dK kvs => kvs.map (·.1) = ps.map (·.1) ∧ Rps K V (kvs.map (·.2)) (ps.map (·.2))
  | _, _ => False
theorem CellR.mono {K : PySem.W.Frag} {V V' : Hp} (e : Same V V') : ∀ {c : Cell} {o : HO}, CellR K V c o → CellR K V' c o
  | .l _, .lst _, h => Rps.mono e h
  | .d _, .dK _, h => ⟨h.1, Rps.mono e h.2⟩
  | .l _, .tup _, h => h.elim
  | .l _, .dK _, h => h.elim
  | .l _, .dT _, h => h.elim
  | .l _, .set _ _, h => h.elim
  | .l _, .ins _ _ _, h => h.elim
  | .l _, .own _, h => h.elim
  | .l _, .xd _, h => h.elim
  | .l _, .met _ _, h => h.elim
  | .l _, .rng _ _, h => h.elim
  | .l _, .frz _ _, h => h.elim
  | .l _, .tbl _, h => h.elim
  | .l _, .ext _, h => h.elim
  | .d _, .lst _, h => h.elim
  | .d _, .tup _, h => h.elim
  | .d _, .dT _, h => h.elim
  | .d _, .set _ _, h => h.elim
  | .d _, .ins _ _ _, h => h.elim
  | .d _, .own _, h => h.elim
  | .d _, .xd _, h => h.elim
  | .d _, .met _ _, h => h.elim
  | .d _, .rng _ _, h => h.elim
  | .d _, .frz _ _, h => h.elim
  | .d _, .tbl _, h => h.elim
  | .d _, .ext _, h => h.elim
theorem CellR.lst {K : PySem.W.Frag} {V : Hp} {ds : List D} {o : HO} (h : CellR K V (.l ds) o) : ∃ vs, o = .lst vs ∧ Rps K V vs ds := by
  cases o <;> first | exact ⟨_, rfl, h⟩ | exact h.elim
theorem CellR.dct {K : PySem.W.Frag} {V : Hp} {ps : List (Key × D)} {o : HO} (h : CellR K V (.d ps) o) : ∃ kvs, o = .dK kvs ∧ kvs.map (·.1) = ps.map (·.1) ∧ Rps K V (kvs.map (·.2)) (ps.map (·.2)) := by
  cases o <;> first | exact ⟨_, rfl, h⟩ | exact h.elim
theorem zip_maps {α β : Type} : ∀ l : List (α × β), (l.map (·.1)).zip (l.map (·.2)) = l
  | [] => rfl
  | (a, b) :: r => by simp [zip_maps r]
/-- an owned cell, read as data -/
theorem CellR.rp {K : PySem.W.Frag} {H : Hp} {c : Cell} {o : HO} {p : Addr} (h : CellR K H c o) (hp : H p = some o) : Rp K H (.ref p) c.toD := by
  cases c with
  | l ds =>
    obtain ⟨vs, rfl, r⟩ := h.lst
    exact .lst (.inl (.inl hp)) r
  | d ps =>
    obtain ⟨kvs, rfl, e, r⟩ := h.dct
    have q := Rp.dct (a := p) (ks := kvs.map (·.1)) (xs := kvs.map (·.2)) (ds := ps.map (·.2)) (K := K) (H := H) (by rw [zip_maps]; exact hp) (by simp) r
    have e2 : ((kvs.map (·.1)).map keyD).zip (ps.map (·.2)) = ps.map fun p => (keyD p.1, p.2) := by
      rw [e]
      clear h hp e r q
      induction ps with
      | nil => rfl
      | cons x r ih => simp only [List.map_cons, List.zip_cons_cons, ih]
    rw [e2] at q
    exact q

structure EnvR (K : PySem.W.Frag) (F : Fr) (σ : L2.St) (H : Hp) (ρ : Env) : Prop where
  len : σ.length = ρ.length
  val : ∀ (i : Nat) d, ρ[i]? = some (.val d) → ∃ v, σ[i]? = some (some v) ∧ Rp K (vis F σ ρ H) v d
  own : ∀ (i : Nat) t lk c, ρ[i]? = some (.own t lk c) → ∃ p o, σ[i]? = some (some (.ref p)) ∧ H p = some o ∧ CellR K (vis F σ ρ H) c o ∧ ¬ F.h p ∧
    (∀ j, t = some j → j < F.n ∧ p = F.I j) ∧ (t = none → F.H0 p = none)
  uniq : ∀ (i j : Nat) t lk c t' lk' c' p, ρ[i]? = some (.own t lk c) → ρ[j]? = some (.own t' lk' c') → σ[i]? = some (some (.ref p)) → σ[j]? = some (some (.ref p)) → i = j
  hid : ∀ b, F.h b → ∃ o, H b = some o
  keep : ∀ b o, F.H0 b = some o → (∀ j, j < F.n → b ≠ F.I j) → H b = some o
  inn : ∀ j, j < F.n → ∃ o, H (F.I j) = some o
/-- from the start of an expression to a later point -/
structure Stp (F : Fr) (σ : L2.St) (H : Hp) (ρ : Env) (H' : Hp) (ρ' : Env) : Prop where
  same : Same (vis F σ ρ H) (vis F σ ρ' H')
  hidk : ∀ b, F.h b → H' b = H b
  dom : ∀ b o, H b = some o → ∃ o', H' b = some o'
theorem Stp.refl {F : Fr} {σ : L2.St} {H : Hp} {ρ : Env} : Stp F σ H ρ H ρ := ⟨fun _ _ e => e, fun _ _ => rfl, fun _ o e => ⟨o, e⟩⟩
theorem Stp.trans {F : Fr} {σ : L2.St} {H H1 H2 : Hp} {ρ ρ1 ρ2 : Env} (a : Stp F σ H ρ H1 ρ1) (b : Stp F σ H1 ρ1 H2 ρ2) : Stp F σ H ρ H2 ρ2 :=
  ⟨a.same.trans b.same, fun c h => (b.hidk c h).trans (a.hidk c h), fun c o e => let ⟨o', e'⟩ := a.dom c o e; b.dom c o' e'⟩

section
variable {K : PySem.W.Frag} {F : Fr} {σ : L2.St} {H : Hp} {ρ : Env} {p : Addr} {o : HO}
theorem EnvR.oa (er : EnvR K F σ H ρ) {b : Addr} (h : OA σ ρ b) : ¬ F.h b ∧ ∃ o, H b = some o := by
  obtain ⟨i, t, lk, c, h1, h2⟩ := h
  obtain ⟨q, o, e1, e2, _, e3, _⟩ := er.own i t lk c h1
  rw [h2] at e1
  cases e1
  exact ⟨e3, o, e2⟩
theorem EnvR.fresh (er : EnvR K F σ H ρ) (hp : H p = none) : ¬ F.h p ∧ ¬ OA σ ρ p := by
  refine ⟨fun z => ?_, fun z => ?_⟩
  · obtain ⟨o, e⟩ := er.hid p z
    rw [hp] at e; cases e
  · obtain ⟨_, o, e⟩ := er.oa z
    rw [hp] at e; cases e
theorem EnvR.h0 (er : EnvR K F σ H ρ) (hp : H p = none) : F.H0 p = none := by
  cases e : F.H0 p with
  | none => rfl
  | some o =>
    rw [er.keep p o e fun j hj z => by obtain ⟨o, q⟩ := er.inn j hj; rw [← z, hp] at q; cases q] at hp; cases hp
/-- a new object, hidden: nothing else sees it -/
theorem vis_hide (hp : H p = none) : vis (F.hide p) σ ρ (upd H p o) = vis F σ ρ H := by
  funext b
  by_cases hb : b = p
  · subst hb
    unfold vis
    rw [if_pos (.inl (.inr rfl)), hp]
    split <;> rfl
  · unfold vis
    rw [upd_ne hb]
    by_cases z : F.h b ∨ OA σ ρ b
    · rw [if_pos z, if_pos (z.elim (fun q => .inl (.inl q)) .inr)]
    · rw [if_neg z, if_neg (fun q => z (q.elim (fun r => r.elim .inl fun e => absurd e hb) .inr))]
theorem EnvR.newH (er : EnvR K F σ H ρ) (hp : H p = none) : EnvR K (F.hide p) σ (upd H p o) ρ := by
  have f := er.fresh hp
  refine ⟨er.len, fun i d e => ?_, fun i t lk c e => ?_, er.uniq, fun b hb => ?_, fun b ob e hI => ?_, fun j hj => ?_⟩
  · rw [vis_hide hp]; exact er.val i d e
  · obtain ⟨q, ob, e1, e2, e3, e4, e5, e6⟩ := er.own i t lk c e
    have hq : q ≠ p := fun z => by rw [z, hp] at e2; cases e2
    refine ⟨q, ob, e1, by rw [upd_ne hq]; exact e2, by rw [vis_hide hp]; exact e3, fun z => z.elim e4 hq, e5, e6⟩
  · rcases hb with hb | hb
    · obtain ⟨ob, e⟩ := er.hid b hb
      exact ⟨ob, by rw [upd_ne (ne_of_none e hp)]; exact e⟩
    · subst hb; exact ⟨_, upd_same⟩
  · have e' := er.keep b ob e hI
    rw [upd_ne (ne_of_none e' hp)]; exact e'
  · obtain ⟨ob, e⟩ := er.inn j hj
    exact ⟨ob, by show upd H p o (F.I j) = _; rw [upd_ne (ne_of_none e hp)]; exact e⟩
theorem vis_unhide : Same (vis (F.hide p) σ ρ H) (vis F σ ρ H) := fun b ob e => by
  obtain ⟨h1, h2, h3⟩ := vis_some e
  rw [vis_of (fun z => h2 (.inl z)) h3]; exact h1
theorem EnvR.unhide (er : EnvR K (F.hide p) σ H ρ) : EnvR K F σ H ρ := by
  refine ⟨er.len, fun i d e => ?_, fun i t lk c e => ?_, er.uniq, fun b hb => er.hid b (.inl hb), er.keep, er.inn⟩
  · obtain ⟨v, h1, h2⟩ := er.val i d e
    exact ⟨v, h1, h2.mono vis_unhide⟩
  · obtain ⟨q, ob, e1, e2, e3, e4, e5, e6⟩ := er.own i t lk c e
    exact ⟨q, ob, e1, e2, e3.mono vis_unhide, fun z => e4 (.inl z), e5, e6⟩
theorem EnvR.hidden (er : EnvR K (F.hide p) σ H ρ) : ¬ OA σ ρ p := fun z => (er.oa z).1 (.inr rfl)
/-- a new object that all may see -/
theorem vis_new (hp : H p = none) : Same (vis F σ ρ H) (vis F σ ρ (upd H p o)) := fun b ob e => by
  obtain ⟨h1, h2, h3⟩ := vis_some e
  rw [vis_of h2 h3, upd_ne (ne_of_none h1 hp)]; exact h1
theorem EnvR.newV (er : EnvR K F σ H ρ) (hp : H p = none) : EnvR K F σ (upd H p o) ρ := (er.newH hp).unhide
theorem EnvR.newAt (er : EnvR K F σ H ρ) (hp : H p = none) : vis F σ ρ (upd H p o) p = some o := by
  have f := er.fresh hp
  rw [vis_of f.1 f.2, upd_same]
theorem Stp.new (er : EnvR K F σ H ρ) (hp : H p = none) : Stp F σ H ρ (upd H p o) ρ := by
  refine ⟨vis_new hp, fun b hb => ?_, fun b ob e => ⟨ob, by rw [upd_ne (ne_of_none e hp)]; exact e⟩⟩
  obtain ⟨ob, e⟩ := er.hid b hb
  rw [upd_ne (ne_of_none e hp)]

/-! ### results -/
def RVR (K : PySem.W.Frag) (F : Fr) (σ : L2.St) (ρ : Env) (H : Hp) (v : V) : RV → Prop
  | .v d => Rp K (vis F σ ρ H) v d
  | .slot i => σ[i]? = some (some v)
  | .fresh _ => False
/-- what is wanted behind an expression -/
def Post (K : PySem.W.Frag) (F : Fr) (XR : Exc → Value → Option Addr → Hp → Prop) (W : WX) (σ : L2.St) (H : Hp) (ρ : Env) : R RV → VK → Prop
  | .ok (.fresh c) ρ', Q => ∀ p o H', H p = none → H' p = some o → EnvR K (F.hide p) σ H' ρ' → Stp F σ H ρ H' ρ' → F.H0 p = none → CellR K (vis (F.hide p) σ ρ' H') c o → Q (.ref p) H'
  | .ok rv ρ', Q => ∀ v H', EnvR K F σ H' ρ' → Stp F σ H ρ H' ρ' → RVR K F σ ρ' H' v rv → Q v H'
  | .exc x ρ', _ => ∀ cls d H', EnvR K F σ H' ρ' → Stp F σ H ρ H' ρ' → XR x cls d (vis F σ ρ' H') → W cls d σ H'
  | .bad, _ => False
/-- .. the value taken as it is read -/
def PostG {α : Type} (K : PySem.W.Frag) (F : Fr) (XR : Exc → Value → Option Addr → Hp → Prop) (W : WX) (σ : L2.St) (H : Hp) (ρ : Env) (r : R α) (G : α → Env → Hp → Prop) : Prop :=
  match r with
  | .ok a ρ' => ∀ H', EnvR K F σ H' ρ' → Stp F σ H ρ H' ρ' → G a ρ' H'
  | .exc x ρ' => ∀ cls d H', EnvR K F σ H' ρ' → Stp F σ H ρ H' ρ' → XR x cls d (vis F σ ρ' H') → W cls d σ H'
  | .bad => False
end
end M

set_option Elab.async false
set_option linter.all false
set_option maxRecDepth 100000
set_option maxHeartbeats 4000000
/-! M: what is wanted behind expressions; readings -/
namespace M
open PySem PySem.Spec PyProof.Rows L2
abbrev XRel := Exc → Value → Option Addr → Hp → Prop
section
variable {K : PySem.W.Frag} {F : Fr} {XR : XRel} {W : WX} {σ : L2.St} {H H1 H' : Hp} {ρ ρ1 ρ' : Env}
theorem Stp.none_of (st : Stp F σ H ρ H' ρ') {p : Addr} (h : H' p = none) : H p = none := by
  cases e : H p with
  | none => rfl
  | some o => obtain ⟨o', e'⟩ := st.dom p o e; rw [h] at e'; cases e'
theorem Post.shift {r : R RV} {Q : VK} (h : Post K F XR W σ H ρ r Q) (st : Stp F σ H ρ H1 ρ1) : Post K F XR W σ H1 ρ1 r Q := by
  match r, h with
  | .ok (.fresh c) ρ', h => exact fun p o H' hp ho er st' h0 c => h p o H' (st.none_of hp) ho er (st.trans st') h0 c
  | .ok (.v d) ρ', h => exact fun v H' er st' r => h v H' er (st.trans st') r
  | .ok (.slot i) ρ', h => exact fun v H' er st' r => h v H' er (st.trans st') r
  | .exc x ρ', h => exact fun cls d H' er st' r => h cls d H' er (st.trans st') r
  | .bad, h => exact h
theorem PostG.shift {α : Type} {r : R α} {G : α → Env → Hp → Prop} (h : PostG K F XR W σ H ρ r G) (st : Stp F σ H ρ H1 ρ1) : PostG K F XR W σ H1 ρ1 r G := by
  match r, h with
  | .ok a ρ', h => exact fun H' er st' => h H' er (st.trans st')
  | .exc x ρ', h => exact fun cls d H' er st' r => h cls d H' er (st.trans st') r
  | .bad, h => exact h
theorem Post.mono {r : R RV} {Q Q' : VK} (h : Post K F XR W σ H ρ r Q) (hq : ∀ v H', Q v H' → Q' v H') : Post K F XR W σ H ρ r Q' := by
  match r, h with
  | .ok (.fresh c) ρ', h => exact fun p o H' hp ho er st' h0 c => hq _ _ (h p o H' hp ho er st' h0 c)
  | .ok (.v d) ρ', h => exact fun v H' er st' r => hq _ _ (h v H' er st' r)
  | .ok (.slot i) ρ', h => exact fun v H' er st' r => hq _ _ (h v H' er st' r)
  | .exc x ρ', h => exact h
  | .bad, h => exact h
/-- a fresh cell, read as data -/
theorem fresh_read {p : Addr} {o : HO} {c : Cell} (er0 : EnvR K F σ H ρ) (hp : H p = none) (ho : H' p = some o) (er : EnvR K (F.hide p) σ H' ρ') (st : Stp F σ H ρ H' ρ') (hc : CellR K (vis (F.hide p) σ ρ' H') c o) :
    EnvR K F σ H' ρ' ∧ Rp K (vis F σ ρ' H') (.ref p) c.toD := by
  have f := er0.fresh hp
  have e : vis F σ ρ' H' p = some o := by rw [vis_of f.1 er.hidden]; exact ho
  exact ⟨er.unhide, (hc.mono vis_unhide).rp e⟩
theorem Post.read {r : R RV} {G : VK} (er0 : EnvR K F σ H ρ) (h : PostG K F XR W σ H ρ r fun rv ρ' H' => ∀ v, RVR K F σ ρ' H' v (settle rv) → G v H') : Post K F XR W σ H ρ r G := by
  match r, h with
  | .ok (.fresh c) ρ', h =>
    intro p o H' hp ho er st' h0 hc
    obtain ⟨e1, e2⟩ := fresh_read er0 hp ho er st' hc
    exact h H' e1 st' (.ref p) e2
  | .ok (.v d) ρ', h => exact fun v H' er st' r => h H' er st' v r
  | .ok (.slot i) ρ', h => exact fun v H' er st' r => h H' er st' v r
  | .exc x ρ', h => exact h
  | .bad, h => exact h
theorem Post.bind {m : R RV} {f : RV → Env → R RV} {Q : VK} {G : VK} (er0 : EnvR K F σ H ρ) (h : Post K F XR W σ H ρ (m.bind f) Q)
    (k : ∀ rv ρ' v H', m = .ok rv ρ' → EnvR K F σ H' ρ' → Stp F σ H ρ H' ρ' → RVR K F σ ρ' H' v (settle rv) → Post K F XR W σ H' ρ' (f rv ρ') Q → G v H') : Post K F XR W σ H ρ m G := by
  refine Post.read er0 ?_
  cases m with
  | ok rv ρ' => exact fun H' er st v r => k rv ρ' v H' rfl er st r (Post.shift h st)
  | exc x ρ' => exact h
  | bad => exact h
theorem Post.bindT {α : Type} {m : R RV} {f : RV → Env → R α} {Q : α → Env → Hp → Prop} {G : VK} (er0 : EnvR K F σ H ρ) (h : PostG K F XR W σ H ρ (m.bind f) Q)
    (k : ∀ rv ρ' v H', m = .ok rv ρ' → EnvR K F σ H' ρ' → Stp F σ H ρ H' ρ' → RVR K F σ ρ' H' v (settle rv) → PostG K F XR W σ H' ρ' (f rv ρ') Q → G v H') : Post K F XR W σ H ρ m G := by
  refine Post.read er0 ?_
  cases m with
  | ok rv ρ' => exact fun H' er st v r => k rv ρ' v H' rfl er st r (PostG.shift h st)
  | exc x ρ' => exact h
  | bad => exact h
theorem PostG.bind {α : Type} {m : R α} {f : α → Env → R RV} {Q : VK} {G : α → Env → Hp → Prop} (h : Post K F XR W σ H ρ (m.bind f) Q)
    (k : ∀ a ρ' H', m = .ok a ρ' → EnvR K F σ H' ρ' → Stp F σ H ρ H' ρ' → Post K F XR W σ H' ρ' (f a ρ') Q → G a ρ' H') : PostG K F XR W σ H ρ m G := by
  cases m with
  | ok a ρ' => exact fun H' er st => k a ρ' H' rfl er st (Post.shift h st)
  | exc x ρ' => exact h
  | bad => exact h
theorem PostG.bindG {α β : Type} {m : R α} {f : α → Env → R β} {Q : β → Env → Hp → Prop} {G : α → Env → Hp → Prop} (h : PostG K F XR W σ H ρ (m.bind f) Q)
    (k : ∀ a ρ' H', m = .ok a ρ' → EnvR K F σ H' ρ' → Stp F σ H ρ H' ρ' → PostG K F XR W σ H' ρ' (f a ρ') Q → G a ρ' H') : PostG K F XR W σ H ρ m G := by
  cases m with
  | ok a ρ' => exact fun H' er st => k a ρ' H' rfl er st (PostG.shift h st)
  | exc x ρ' => exact h
  | bad => exact h

/-! ### what a read value is -/
/-- data whose top may be hidden -/
inductive PkR (K : PySem.W.Frag) (Vi H : Hp) : V → D → Prop
  | vis {v : V} {d : D} : Rp K Vi v d → PkR K Vi H v d
  | cell {p : Addr} {o : HO} {c : Cell} : H p = some o → CellR K Vi c o → PkR K Vi H (.ref p) c.toD
theorem PkR.rp {Vi : Hp} {v : V} {d : D} (s : Same Vi H) (h : PkR K Vi H v d) : Rp K H v d := by
  cases h with
  | vis h => exact h.mono s
  | cell h c => exact (c.mono s).rp h
theorem pk_rel {v : V} {rv : RV} {d : D} (er : EnvR K F σ H ρ) (r : RVR K F σ ρ H v (settle rv)) (e : pk ρ rv = some d) : PkR K (vis F σ ρ H) H v d := by
  cases rv with
  | v d' => cases (Option.some.inj e); exact .vis r
  | fresh c => cases (Option.some.inj e); exact .vis r
  | slot i =>
    have r : σ[i]? = some (some v) := r
    simp only [pk] at e
    cases h : ρ[i]? with
    | none => rw [h] at e; cases e
    | some s =>
      rw [h] at e
      cases s with
      | un => cases e
      | val d' =>
        cases (Option.some.inj e)
        obtain ⟨w, h1, h2⟩ := er.val i _ h
        rw [r] at h1; cases h1
        exact .vis h2
      | own t lk c =>
        cases (Option.some.inj e)
        obtain ⟨p, o, h1, h2, h3, _⟩ := er.own i t lk c h
        rw [r] at h1; cases h1
        exact .cell h2 h3
theorem RVR.stp {v : V} {rv : RV} (r : RVR K F σ ρ H v rv) (st : Stp F σ H ρ H' ρ') : RVR K F σ ρ' H' v rv := by
  cases rv with
  | v d => exact Rp.mono st.same r
  | fresh c => exact r
  | slot i => exact r
theorem RVR.settle2 {v : V} {rv : RV} (r : RVR K F σ ρ H v (settle rv)) : RVR K F σ ρ H v (settle (settle rv)) := by
  cases rv <;> exact r
theorem PkR.int {Vi : Hp} {v : V} {i : Int} (h : PkR K Vi H v (.int i)) : v = .int i := by
  generalize e : (PyData.int i : D) = d at h
  cases h with
  | vis h => subst e; cases h; rfl
  | cell h c => rename_i c'; cases c' <;> cases e
theorem PkR.str {Vi : Hp} {v : V} {i : Str} (h : PkR K Vi H v (.str i)) : v = .str i := by
  generalize e : (PyData.str i : D) = d at h
  cases h with
  | vis h => subst e; cases h; rfl
  | cell h c => rename_i c'; cases c' <;> cases e
theorem PkR.bool {Vi : Hp} {v : V} {i : Bool} (h : PkR K Vi H v (.bool i)) : v = .bl i := by
  generalize e : (PyData.bool i : D) = d at h
  cases h with
  | vis h => subst e; cases h; rfl
  | cell h c => rename_i c'; cases c' <;> cases e
theorem PkR.none {Vi : Hp} {v : V} (h : PkR K Vi H v .none) : v = .non := by
  generalize e : (PyData.none : D) = d at h
  cases h with
  | vis h => subst e; cases h; rfl
  | cell h c => rename_i c'; cases c' <;> cases e
theorem PkR.list {Vi : Hp} {v : V} {ds : List D} (s : Same Vi H) (h : PkR K Vi H v (.list ds)) : ∃ a xs, v = .ref a ∧ SqL K H a xs ∧ Rps K Vi xs ds := by
  generalize e : (PyData.list ds : D) = d at h
  cases h with
  | vis h => subst e; cases h with | lst h1 h2 => exact ⟨_, _, rfl, s.seq h1, h2⟩
  | cell h c =>
    rename_i p o c'
    cases c' with
    | l es =>
      cases e
      obtain ⟨vs, rfl, r⟩ := c.lst
      exact ⟨_, _, rfl, .inl (.inl h), r⟩
    | d ps => cases e
theorem PkR.tuple {Vi : Hp} {v : V} {ds : List D} (s : Same Vi H) (h : PkR K Vi H v (.tuple ds)) : ∃ a xs, v = .ref a ∧ SqT K H a xs ∧ SqT K Vi a xs ∧ Rps K Vi xs ds := by
  generalize e : (PyData.tuple ds : D) = d at h
  cases h with
  | vis h => subst e; cases h with | tup h1 h2 => exact ⟨_, _, rfl, sqT_mono s h1, h1, h2⟩
  | cell h c => rename_i c'; cases c' <;> cases e
theorem PkR.items {Vi : Hp} {v : V} {d : D} {ds : List D} (s : Same Vi H) (h : PkR K Vi H v d) (e : items? d = some ds) : ∃ a xs, v = .ref a ∧ (SqL K H a xs ∨ SqT K H a xs) ∧ Rps K Vi xs ds := by
  cases d with
  | list xs =>
    cases (Option.some.inj e)
    obtain ⟨a, ys, h1, h2, h3⟩ := h.list s
    exact ⟨a, ys, h1, .inl h2, h3⟩
  | tuple xs =>
    cases (Option.some.inj e)
    obtain ⟨a, ys, h1, h2, _, h3⟩ := h.tuple s
    exact ⟨a, ys, h1, .inr h2, h3⟩
  | _ => cases e

/-! ### ends of expressions -/
theorem Post.val {d : D} {v : V} {Q : VK} (h : Post K F XR W σ H ρ (.ok (.v d) ρ) Q) (er : EnvR K F σ H ρ) (r : Rp K (vis F σ ρ H) v d) : Q v H := h v H er .refl r
theorem Post.newT {ds : List D} {vs : List V} {Q : VK} {p : Addr} (h : Post K F XR W σ H ρ (.ok (.v (.tuple ds)) ρ) Q) (er : EnvR K F σ H ρ) (hp : H p = none) (r : Rps K (vis F σ ρ H) vs ds) : Q (.ref p) (upd H p (.tup vs)) :=
  h (.ref p) _ (er.newV hp) (.new er hp) (.tup (.inl (.inl (er.newAt hp))) (r.mono (vis_new hp)))
theorem Post.newC {c : Cell} {o : HO} {Q : VK} {p : Addr} (h : Post K F XR W σ H ρ (.ok (.fresh c) ρ) Q) (er : EnvR K F σ H ρ) (hp : H p = none) (r : CellR K (vis F σ ρ H) c o) : Q (.ref p) (upd H p o) :=
  h p o _ hp upd_same (er.newH hp) (.new er hp) (er.h0 hp) (by rw [vis_hide hp]; exact r)
theorem Post.slot {i : Nat} {v : V} {Q : VK} (h : Post K F XR W σ H ρ (.ok (.slot i) ρ) Q) (er : EnvR K F σ H ρ) (r : σ[i]? = some (some v)) : Q v H := h v H er .refl r
end

/-! ### readings -/
section
variable (Φ : Phi) (K : PySem.W.Frag) (F : Fr) (XR : XRel) (W : WX)
def rdE (e : E) : TE := fun σ H Q => ∃ ρ, EnvR K F σ H ρ ∧ Post K F XR W σ H ρ (ev Φ false e ρ) Q
/-- a test's end -/
def PostT (σ : L2.St) (H : Hp) (ρ : Env) (r : R RV) (Q : Bool → Hp → Prop) : Prop := PostG K F XR W σ H ρ r fun rv _ H' => ∃ b, rv = .v (.bool b) ∧ Q b H'
def rdT (e : E) : TT := fun σ H Q => ∃ ρ, EnvR K F σ H ρ ∧ PostT K F XR W σ H ρ (ev Φ true e ρ) Q
def RVRs (σ : L2.St) (ρ : Env) (H : Hp) (vs : List V) (rs : List RV) : Prop := Paired (fun v r => RVR K F σ ρ H v (settle r)) vs rs
def rdA (es : Es) : TA := fun σ H Q => ∃ ρ, EnvR K F σ H ρ ∧ PostG K F XR W σ H ρ (evs Φ es ρ) fun rs ρ' H' => ∀ vs, RVRs K F σ ρ' H' vs rs → Q vs H'
def rdD (es : Es) : TA := fun σ H Q => ∃ ρ, EnvR K F σ H ρ ∧ PostG K F XR W σ H ρ (evd Φ es ρ) fun ds ρ' H' => ∀ vs, Rps K (vis F σ ρ' H') vs ds → Q vs H'
end
theorem PE_imp {X : Cx} {e : Expr} {t t' : TE} (h : PE X e t) (i : ∀ σ H Q, t' σ H Q → t σ H Q) : PE X e t' := ⟨fun pins s σ H Q I q => h.run pins s σ H Q I (i σ H Q q)⟩
theorem PT_imp {X : Cx} {e : Expr} {t t' : TT} (h : PT X e t) (i : ∀ σ H Q, t' σ H Q → t σ H Q) : PT X e t' := ⟨fun pins s σ H Q I q => h.run pins s σ H Q I (i σ H Q q)⟩
theorem PW_imp {X : Cx} {e : Expr} {t t' : TT} (h : PW X e t) (i : ∀ σ H Q, t' σ H Q → t σ H Q) : PW X e t' := ⟨fun wh pins s σ H Q I q => h.run wh pins s σ H Q I (i σ H Q q)⟩
theorem PA_imp {X : Cx} {e : List Expr} {t t' : TA} (h : PA X e t) (i : ∀ σ H Q, t' σ H Q → t σ H Q) : PA X e t' := ⟨fun pos pins s σ H Q I q => h.run pos pins s σ H Q I (i σ H Q q)⟩
theorem PI_imp {X : Cx} {g e : Expr} {t t' : TI} (h : PI X g e t) (i : ∀ σ H Q, t' σ H Q → t σ H Q) : PI X g e t' := ⟨fun pins s σ H Q I q => h.run pins s σ H Q I (i σ H Q q)⟩
theorem PS_imp {X : Cx} {e : Stmt} {t t' : TS} (h : PS X e t) (i : ∀ D σ H, t' D σ H → t D σ H) : PS X e t' := ⟨fun pins s σ H D I q => h.run pins s σ H D I (i D σ H q)⟩
theorem PSs_imp {X : Cx} {e : List Stmt} {t t' : TS} (h : PSs X e t) (i : ∀ D σ H, t' D σ H → t D σ H) : PSs X e t' := ⟨fun pins s σ H D I q => h.run pins s σ H D I (i D σ H q)⟩
end M

set_option Elab.async false
set_option linter.all false
set_option maxRecDepth 100000
set_option maxHeartbeats 4000000
/-! M: operations by values -/
namespace M
open PySem PySem.Spec PyProof.Rows L2
/-- the ways an operation's result may come -/
def Fin (K : PySem.W.Frag) (Vi H : Hp) : RV → VK → Prop
  | .v d, Q => (∀ v, Rp K Vi v d → Q v H) ∧ ∀ p vs ds, d = .tuple ds → H p = none → Rps K Vi vs ds → Q (.ref p) (upd H p (.tup vs))
  | .fresh c, Q => ∀ p o, H p = none → CellR K Vi c o → Q (.ref p) (upd H p o)
  | .slot _, _ => False
section
variable {K : PySem.W.Frag} {F : Fr} {XR : XRel} {W : WX} {σ : L2.St} {H Vi : Hp} {ρ : Env}
theorem Post.fin {r : RV} {Q : VK} (h : Post K F XR W σ H ρ (.ok r ρ) Q) (er : EnvR K F σ H ρ) (hs : ∀ i, r ≠ .slot i) : Fin K (vis F σ ρ H) H r Q := by
  cases r with
  | v d => exact ⟨fun v r => h.val er r, fun p vs ds e hp r => by subst e; exact h.newT er hp r⟩
  | fresh c => exact fun p o hp r => h.newC er hp r
  | slot i => exact absurd rfl (hs i)
def rOp (K : PySem.W.Frag) (f : D → D → Option RV) : R2 := fun x y H Q => ∃ Vi dx dy r, Same Vi H ∧ PkR K Vi H x dx ∧ PkR K Vi H y dy ∧ f dx dy = some r ∧ Fin K Vi H r Q
theorem binD_slot {o : Bop} {a b : D} {r : RV} (h : binD o a b = some r) (i : Nat) : r ≠ .slot i := by
  unfold binD at h
  split at h <;> (try split at h) <;> cases h <;> intro z <;> cases z
end
section
variable {X : Cx}
theorem op_catL : OpR X (binaryOp .Add) (fun x y H Q => ∃ l b xs zs, x = .ref l ∧ y = .ref b ∧ SqL X.K H l xs ∧ SqL X.K H b zs ∧ xs.length + zs.length ≤ sizeLine ∧ ∀ p, H p = none → Q (.ref p) (upd H p (.lst (xs ++ zs)))) := by
  intro pins s σ H x y v u Q I rx ry h
  obtain ⟨l, b, xs, zs, rfl, rfl, hH, hB, hz, q⟩ := h
  cases rx
  cases ry
  obtain ⟨its, r, ⟨⟨c1, d1, dt1, s1⟩, n, e, hc, hd, hdt⟩, _⟩ := I.list hH
  obtain ⟨its2, r2, ⟨⟨c2, d2, dt2, s2⟩, n2, e2, hc2, hd2, hdt2⟩, _⟩ := I.list hB
  simp only at hc hd hdt hc2 hd2 hdt2
  subst hc hd hdt hc2 hd2 hdt2
  refine concat_meets ⟨_, e, rfl⟩ ⟨_, e2, rfl⟩ noFill_list_add seq_list_add PySem.F.slot_list_add PySem.F.entry_list_add (PySem.F.args_list_add_2 _ _)
    (list_addW l b its.toArray its2.toArray n n2 none none s1 s2 (by rw [List.size_toArray, List.size_toArray, ← r.length, ← r2.length]; exact hz)) ⟨e, e2, ?_⟩
  have ea : its.toArray ++ its2.toArray = (its ++ its2).toArray := by simp
  rw [ea]
  exact ⟨.ref _, _, I.lnew (t' := s.toks) (r.append r2) (by rw [List.length_append]; exact hz), rfl, q _ I.fresh⟩
theorem op_mulM : OpR X (binaryOp .Mult) (rI (fun i j => mulOk i j = true) fun i j => .int (i * j)) := opI fun i j _ _ _ _ _ hc q => mul_int q (by
  unfold IntMulOk
  have hc : mulOk i j = true := hc
  unfold mulOk at hc
  intro z
  rw [z] at hc
  cases hc)
theorem op_divM : OpR X (binaryOp .FloorDiv) (rI (fun i j => j ≠ 0 ∧ Builtin.divisionGoesByPylong i j = false) fun i j => .int (i.fdiv j)) := opI fun _ _ _ _ _ _ _ hc q => floordiv_int hc.1 q (.inl hc.2)
theorem op_powM : OpR X (binaryOp .Pow) (rI (fun i j => powOk i j = true) fun i j => .int (i ^ j.toNat)) := opI fun _ _ _ _ _ _ _ hc q => by
  have h := of_decide_eq_true hc
  exact pow_int h.1 h.2 q
def bop : Bop → Operator
  | .add => .Add
  | .sub => .Sub
  | .mul => .Mult
  | .fdiv => .FloorDiv
  | .mod => .Mod
  | .pow => .Pow
theorem opR_imp {f : Value → Value → PySem.Sem Value} {r r' : R2} (h : OpR X f r) (i : ∀ x y H Q, r' x y H Q → r x y H Q) : OpR X f r' :=
  fun pins s σ H x y v u Q I rx ry q => h pins s σ H x y v u Q I rx ry (i x y H Q q)
theorem Rps.repT {K : PySem.W.Frag} {H : Hp} {vs : List V} {ds : List D} (r : Rps K H vs ds) : ∀ n : Nat, Rps K H (List.replicate n vs).flatten (List.replicate n ds).flatten
  | 0 => .nil
  | n + 1 => by
    rw [List.replicate_succ, List.replicate_succ, List.flatten_cons, List.flatten_cons]
    exact r.app (Rps.repT r n)
theorem tuple_mul1 (l : Addr) (items : Array Value) (n : Nat) (dd : Option Addr) (sl : Array (Option Value)) (u : Tok) :
    Meets (Builtin.«tuple.__mul__» ⟨[.ref l, .int 1 u], []⟩) (fun _ R s => s.heap.get? l = some { cls := .type "tuple", dict := dd, data := .seq items n, slots := sl } ∧ R (.ok (.ret (Value.ref l))) s) :=
  .of_wp fun prog w A R s h => by
    obtain ⟨hp, g, d, tk, os⟩ := s
    obtain ⟨hl, h⟩ := h
    have f1 := AutoSeq1.idx_int
    wp_walk using PySem.AutoSeq1.wpAny_loadPart' hl
    exact ⟨_, rfl, h⟩
theorem op_repT1 : OpR X (binaryOp .Mult) (fun x y H Q => ∃ l xs, x = .ref l ∧ y = .int 1 ∧ SqT X.K H l xs ∧ xs ≠ [] ∧ Q (.ref l) H) := by
  intro pins s σ H x y v u Q I rx ry h
  obtain ⟨l, xs, rfl, rfl, hT, hne, q⟩ := h
  cases rx
  obtain ⟨t, rfl⟩ := ry
  obtain ⟨its, r, ⟨⟨cls, dd, data, sl⟩, ho, hc, n, hd⟩, hs⟩ := I.tuple hT
  simp only at hc hd
  subst hc hd
  refine PySem.wpAny_binaryOp_repeat_ref (T := "tuple") (U := "int") (by decide) ⟨_, ho, rfl⟩ (fun s' => typeIs_int s' 1 t) noFill_tuple_mul PySem.F.fills_int_mul PySem.F.slot_int_rmul repeat_tuple PySem.F.slot_int_index.lookup
    (call_meets PySem.F.slot_int_rmul (typeIs_int s 1 t) PySem.F.entry_int_rmul (PySem.F.args_int_rmul_2 _ _) (int_rmul_tuple 1 t l its.toArray n dd sl)
      ⟨ho, rfl, ⟨_, ho, rfl⟩, call_meets PySem.F.slot_tuple_mul ⟨_, ho, rfl⟩ PySem.F.entry_tuple_mul (PySem.F.args_tuple_mul_2 _ _) (tuple_mul1 l its.toArray n dd sl t) ⟨ho, ?_⟩⟩)
  exact ⟨.ref l, H, I, rfl, q⟩
theorem tuple_mul0 (l : Addr) (items : Array Value) (n : Nat) (dd : Option Addr) (sl : Array (Option Value)) (x : Int) (u : Tok) (c0 : (decide (x < -(2 ^ 63)) || decide (x ≥ 2 ^ 63)) = false) (c1 : (items.isEmpty || x == 1) = false) (c2 : (decide (x ≤ 0) || items.isEmpty) = true) :
    Meets (Builtin.«tuple.__mul__» ⟨[.ref l, .int x u], []⟩) (fun _ R s => s.heap.get? l = some { cls := .type "tuple", dict := dd, data := .seq items n, slots := sl } ∧
      R (.ok (.ret (Value.ref s.heap.objs.size))) { s with heap := s.heap.push { cls := Value.type "tuple", data := Data.seq #[] }, toks := s.toks }) :=
  .of_wp fun prog w A R s h => by
    obtain ⟨hp, g, d, tk, os⟩ := s
    obtain ⟨hl, h⟩ := h
    have f1 := AutoSeq1.idx_int
    wp_walk using PySem.AutoSeq1.wpAny_loadPart' hl
    repeat (first
      | (refine wpAny_ite_false (decide_eq_false (by rw [c0]; exact Bool.false_ne_true)) ?_; wp_walk using PySem.AutoSeq1.wpAny_loadPart' hl)
      | (refine wpAny_ite_false (decide_eq_false (by rw [c1]; exact Bool.false_ne_true)) ?_; wp_walk using PySem.AutoSeq1.wpAny_loadPart' hl)
      | (refine wpAny_ite_true (decide_eq_true (by rw [c2])) ?_; wp_walk using PySem.AutoSeq1.wpAny_loadPart' hl))
    exact ⟨_, rfl, h⟩
theorem op_repT0 : OpR X (binaryOp .Mult) (fun x y H Q => ∃ l k xs, x = .ref l ∧ y = .int k ∧ SqT X.K H l xs ∧ xs ≠ [] ∧ -1000 ≤ k ∧ k ≤ 0 ∧ ∀ p, H p = none → Q (.ref p) (L2.upd H p (.tup []))) := by
  intro pins s σ H x y v u Q I rx ry h
  obtain ⟨l, k, xs, rfl, rfl, hT, hne, h1, h2, q⟩ := h
  cases rx
  obtain ⟨t, rfl⟩ := ry
  obtain ⟨its, r, ⟨⟨cls, dd, data, sl⟩, ho, hc, n, hd⟩, hs⟩ := I.tuple hT
  simp only at hc hd
  subst hc hd
  have hle : its.length = xs.length := r.length.symm
  have hn : its ≠ [] := fun e => hne (by
    rw [e] at hle
    exact List.eq_nil_of_length_eq_zero hle.symm)
  have hi : its.toArray.isEmpty = false := by
    cases its with
    | nil => exact absurd rfl hn
    | cons a b => rfl
  have c0 : (decide (k < -(2 ^ 63)) || decide (k ≥ 2 ^ 63)) = false := by
    rw [decide_eq_false (by omega), decide_eq_false (by omega)] <;> rfl
  have c1 : (its.toArray.isEmpty || k == 1) = false := by
    rw [hi, Bool.false_or]
    exact beq_eq_false_iff_ne.mpr (by omega)
  have c2 : (decide (k ≤ 0) || its.toArray.isEmpty) = true := by
    rw [decide_eq_true h2]; rfl
  refine PySem.wpAny_binaryOp_repeat_ref (T := "tuple") (U := "int") (by decide) ⟨_, ho, rfl⟩ (fun s' => typeIs_int s' k t) noFill_tuple_mul PySem.F.fills_int_mul PySem.F.slot_int_rmul repeat_tuple PySem.F.slot_int_index.lookup
    (call_meets PySem.F.slot_int_rmul (typeIs_int s k t) PySem.F.entry_int_rmul (PySem.F.args_int_rmul_2 _ _) (int_rmul_tuple k t l its.toArray n dd sl)
      ⟨ho, rfl, ⟨_, ho, rfl⟩, call_meets PySem.F.slot_tuple_mul ⟨_, ho, rfl⟩ PySem.F.entry_tuple_mul (PySem.F.args_tuple_mul_2 _ _) (tuple_mul0 l its.toArray n dd sl k t c0 c1 c2) ⟨ho, ?_⟩⟩)
  refine ⟨.ref s.heap.objs.size, _, I.laid (t' := s.toks) (o := .tup []) (fun b ob q => Heap.get?_push_of_some _ q) (Nat.le_refl _) ?_, rfl, q _ (I.hok.fresh (Nat.le_refl _))⟩
  exact ⟨by rw [sizeLine_eq]; decide, [], .nil, IsTup.new _ _⟩
theorem op_addBI : OpR X (binaryOp .Add) (fun x y H Q => ∃ (k : Bool) (i : Int), x = .bl k ∧ y = .int i ∧ Q (.int ((if k = true then 1 else 0) + i)) H) := by
  intro pins s σ H x y v u Q I rx ry h
  obtain ⟨k, i, rfl, rfl, q⟩ := h
  obtain ⟨t, rfl⟩ := ry
  cases rx
  exact PySem.IntBool.add_bool_int ⟨.int _, H, I.tok _, ⟨_, rfl⟩, q⟩
theorem opBin (o : Bop) : OpR X (binaryOp (bop o)) (rOp X.K (binD o)) := by
  cases o with
  | add =>
    refine opR_imp ((op_add.or (op_add_str.or (op_catL.or op_catA))).or op_addBI) ?_
    rintro x y H Q ⟨Vi, dx, dy, r, s, hx, hy, e, q⟩
    unfold binD at e
    split at e
    case h_1 => cases hx.int; cases hy.int; cases e; exact .inl (.inl ⟨_, _, rfl, rfl, q.1 _ (.int _)⟩)
    case h_2 => cases hx.str; cases hy.str; split at e <;> cases e; exact .inl (.inr (.inl ⟨_, _, rfl, rfl, by assumption, q.1 _ (.str _)⟩))
    case h_3 =>
      split at e <;> cases e
      obtain ⟨a, xs, rfl, h1, h2⟩ := hx.list s
      obtain ⟨b, ys, rfl, h3, h4⟩ := hy.list s
      exact .inl (.inr (.inr (.inl ⟨a, b, xs, ys, rfl, rfl, h1, h3, by rw [h2.len, h4.len]; assumption, fun p hp => q p _ hp (h2.app h4)⟩)))
    case h_4 =>
      split at e <;> cases e
      obtain ⟨a, xs, rfl, h1, h1', h2⟩ := hx.tuple s
      obtain ⟨b, ys, rfl, h3, h3', h4⟩ := hy.tuple s
      refine .inl (.inr (.inr (.inr ⟨a, b, xs, ys, rfl, rfl, h1, h3, by rw [h2.len, h4.len]; assumption, fun z => ?_, fun _ z => ?_, fun _ _ p hp => q.2 p _ _ rfl hp (h2.app h4)⟩)))
      · subst z
        cases h2
        exact q.1 _ (.tup h3' h4)
      · subst z
        cases h4
        refine q.1 _ ?_
        rw [List.append_nil]
        exact .tup h1' h2
    case h_11 => cases hx.bool; cases hy.int; cases e; exact .inr ⟨_, _, rfl, rfl, q.1 _ (.int _)⟩
    all_goals (first | (exfalso; rename_i z; cases z; done) | cases e)
  | sub =>
    refine opR_imp op_sub ?_
    rintro x y H Q ⟨Vi, dx, dy, r, s, hx, hy, e, q⟩
    unfold binD at e
    split at e
    case h_5 => cases hx.int; cases hy.int; cases e; exact ⟨_, _, rfl, rfl, q.1 _ (.int _)⟩
    all_goals (first | (exfalso; rename_i z; cases z; done) | cases e)
  | mul =>
    refine opR_imp (op_mulM.or (op_repT.or (op_repT1.or op_repT0))) ?_
    rintro x y H Q ⟨Vi, dx, dy, r, s, hx, hy, e, q⟩
    unfold binD at e
    split at e
    case h_6 => cases hx.int; cases hy.int; split at e <;> cases e; exact .inl ⟨_, _, rfl, rfl, by assumption, q.1 _ (.int _)⟩
    case h_7 =>
      rename_i _ _ a k _
      split at e <;> cases e
      rename_i hc
      obtain ⟨z1, z2, z3, z4⟩ := hc
      obtain ⟨l, xs, rfl, h1, h1', h2⟩ := hx.tuple s
      cases hy.int
      have hne : xs ≠ [] := fun z => z1 (by subst z; cases h2; rfl)
      by_cases hk : k = 1
      · subst hk
        refine .inr (.inr (.inl ⟨l, xs, rfl, rfl, h1, hne, q.1 _ ?_⟩))
        have : (List.replicate (1 : Int).toNat a).flatten = a := by
          show (List.replicate 1 a).flatten = a
          simp
        rw [this]
        exact .tup h1' h2
      · by_cases hk0 : k ≤ 0
        · refine .inr (.inr (.inr ⟨l, k, xs, rfl, rfl, h1, hne, z3, hk0, fun p hp => ?_⟩))
          have hk' : k.toNat = 0 := by omega
          rw [hk'] at q
          exact q.2 p _ _ rfl hp .nil
        · refine .inr (.inl ⟨l, k, xs, rfl, rfl, h1, hne, by omega, z4, by rw [h2.len]; exact z2, fun p hp => q.2 p _ _ rfl hp (h2.repT _)⟩)
    all_goals (first | (exfalso; rename_i z; cases z; done) | cases e)
  | fdiv =>
    refine opR_imp op_divM ?_
    rintro x y H Q ⟨Vi, dx, dy, r, s, hx, hy, e, q⟩
    unfold binD at e
    split at e
    case h_8 => cases hx.int; cases hy.int; split at e <;> cases e; exact ⟨_, _, rfl, rfl, by assumption, q.1 _ (.int _)⟩
    all_goals (first | (exfalso; rename_i z; cases z; done) | cases e)
  | mod =>
    refine opR_imp op_modN ?_
    rintro x y H Q ⟨Vi, dx, dy, r, s, hx, hy, e, q⟩
    unfold binD at e
    split at e
    case h_9 => cases hx.int; cases hy.int; split at e <;> cases e; exact ⟨_, _, rfl, rfl, by assumption, q.1 _ (.int _)⟩
    all_goals (first | (exfalso; rename_i z; cases z; done) | cases e)
  | pow =>
    refine opR_imp op_powM ?_
    rintro x y H Q ⟨Vi, dx, dy, r, s, hx, hy, e, q⟩
    unfold binD at e
    split at e
    case h_10 => cases hx.int; cases hy.int; split at e <;> cases e; exact ⟨_, _, rfl, rfl, by assumption, q.1 _ (.int _)⟩
    all_goals (first | (exfalso; rename_i z; cases z; done) | cases e)
end
end M

set_option Elab.async false
set_option linter.all false
set_option maxRecDepth 100000
set_option maxHeartbeats 4000000
/-! M: comparisons, subscripts, built-in functions, kinds -/
namespace M
open PySem PySem.Spec PyProof.Rows L2
section
variable {X : Cx} {pins : List (Addr × Obj)} {σ : L2.St} {H : Hp} {s : Shared}
mutual
theorem Rp.reads (I : Inv X pins σ H s) : ∀ (d : D) (v : V) (u : Value), d.hasDict = false → Rp X.K H v d → RelV v u → ∃ as, Reads s.heap u d as
  | .none, _, _, _, h, r => by cases h; cases r; exact ⟨_, Reads.none⟩
  | .bool b, _, _, _, h, r => by cases h; cases r; exact ⟨_, Reads.bool b⟩
  | .int i, _, _, _, h, r => by cases h; obtain ⟨t, rfl⟩ := r; exact ⟨_, Reads.int i t⟩
  | .str x, _, _, _, h, r => by cases h; obtain ⟨t, rfl⟩ := r; exact ⟨_, Reads.str x t⟩
  | .list ds, _, _, n, h, r => by
    cases h with
    | lst hs ha =>
      cases r
      obtain ⟨its, rv, ⟨o, n', ho, hc, _, hd⟩, _⟩ := I.list hs
      obtain ⟨as, hr⟩ := Rps.reads I ds _ its (by simpa [PyData.hasDict] using n) ha rv
      exact ⟨_, Reads.list ho hc hd hr⟩
  | .tuple ds, _, _, n, h, r => by
    cases h with
    | tup hs ha =>
      cases r
      obtain ⟨its, rv, ⟨o, ho, hc, n', hd⟩, _⟩ := I.tuple hs
      obtain ⟨as, hr⟩ := Rps.reads I ds _ its (by simpa [PyData.hasDict] using n) ha rv
      exact ⟨_, Reads.tuple ho hc hd hr⟩
  | .dict _, _, _, n, _, _ => by simp [PyData.hasDict] at n
theorem Rps.reads (I : Inv X pins σ H s) : ∀ (ds : List D) (vs : List V) (us : List Value), PyData.hasDictAll ds = false → Rps X.K H vs ds → Vals vs us → ∃ as, ReadsAll s.heap us ds as
  | [], _, _, _, h, r => by cases h; cases r; exact ⟨_, ReadsAll.nil⟩
  | d :: ds, _, _, n, h, r => by
    cases h with
    | cons h1 h2 =>
      cases r with
      | cons r1 r2 =>
        have n' : d.hasDict = false ∧ PyData.hasDictAll ds = false := by simpa [PyData.hasDictAll] using n
        obtain ⟨as, q1⟩ := Rp.reads I d _ _ n'.1 h1 r1
        obtain ⟨bs, q2⟩ := Rps.reads I ds _ _ n'.2 h2 r2
        exact ⟨_, ReadsAll.cons q1 q2⟩
end
theorem noDict_shaped {d : D} (h : SeqAt.shaped d = true) : d.hasDict = false := PyData.hasDict_of_canLay d (SeqAt.canLay_of_shaped h)
end
section
variable {X : Cx}
def rCmp (K : PySem.W.Frag) (f : D → D → Option Bool) : R2 := fun x y H Q => ∃ Vi dx dy k, Same Vi H ∧ PkR K Vi H x dx ∧ PkR K Vi H y dy ∧ f dx dy = some k ∧ Q (.bl k) H
def cop : Cop → CmpOp
  | .lt => .Lt
  | .le => .LtE
  | .gt => .Gt
  | .ge => .GtE
  | .eq => .Eq
  | .ne => .NotEq
  | .is_ => .Is
  | .isnot => .IsNot
  | .in_ => .In
  | .notin => .NotIn
theorem op_eqM (hu : X.A.units + 64 < cLine) : OpR X (compareOp .Eq) (fun x y H Q => (∃ a b, x = .str a ∧ y = .str b ∧ Q (.bl (decide (a = b))) H) ∨ ∃ d e, Rp X.K H x d ∧ Rp X.K H y e ∧ SeqAt.shaped d = true ∧ SeqAt.shaped e = true ∧ Q (.bl (PyData.eqv d e)) H) := by
  intro pins s σ H x y v u Q I rx ry h
  rcases h with ⟨a, b, rfl, rfl, q⟩ | ⟨d, e, hd, he, sd, se, q⟩
  · exact op_eq pins s σ H _ _ v u Q I rx ry ⟨rfl, by
      have : decide (V.str a = V.str b) = decide (a = b) := by simp
      rw [this]; exact q⟩
  obtain ⟨as, r1⟩ := Rp.reads I d x v (noDict_shaped sd) hd rx
  obtain ⟨bs, r2⟩ := Rp.reads I e y u (noDict_shaped se) he ry
  exact SeqAt.compareEq_shaped r1 r2 sd se hu ⟨.bl _, H, I, rfl, q⟩
theorem op_neM (hu : X.A.units + 64 < cLine) : OpR X (compareOp .NotEq) (fun x y H Q => (∃ a b, x = .str a ∧ y = .str b ∧ Q (.bl (!decide (a = b))) H) ∨ ∃ d e, Rp X.K H x d ∧ Rp X.K H y e ∧ SeqAt.shaped d = true ∧ SeqAt.shaped e = true ∧ Q (.bl (!PyData.eqv d e)) H) := by
  intro pins s σ H x y v u Q I rx ry h
  rcases h with ⟨a, b, rfl, rfl, q⟩ | ⟨d, e, hd, he, sd, se, q⟩
  · exact op_ne pins s σ H _ _ v u Q I rx ry ⟨rfl, by
      have : decide (V.str a = V.str b) = decide (a = b) := by simp
      rw [this]; exact q⟩
  obtain ⟨as, r1⟩ := Rp.reads I d x v (noDict_shaped sd) hd rx
  obtain ⟨bs, r2⟩ := Rp.reads I e y u (noDict_shaped se) he ry
  exact SeqAt.compareNe_shaped r1 r2 sd se hu ⟨.bl _, H, I, rfl, q⟩
theorem flat_rel {K : PySem.W.Frag} {H : Hp} {v : V} {d : D} (r : Rp K H v d) (f : flat d = true) : flatV v = true := by
  cases r <;> first | rfl | (exfalso; simp [flat] at f)
theorem PkR.flatV {K : PySem.W.Frag} {Vi H : Hp} {v : V} {d : D} (r : PkR K Vi H v d) (f : flat d = true) : flatV v = true := by
  cases r with
  | vis r => exact flat_rel r f
  | cell h c => rename_i c'; cases c' <;> (exfalso; simp [Cell.toD, flat] at f)
theorem PkR.flatRp {K : PySem.W.Frag} {Vi H : Hp} {v : V} {d : D} (r : PkR K Vi H v d) (f : flat d = true) : Rp K Vi v d := by
  cases r with
  | vis r => exact r
  | cell h c => rename_i c'; cases c' <;> (exfalso; simp [Cell.toD, flat] at f)
theorem flat_all {K : PySem.W.Frag} {H : Hp} : ∀ {vs : List V} {ds : List D}, Rps K H vs ds → ds.all flat = true → vs.all flatV = true
  | _, _, .nil, _ => rfl
  | _, _, .cons h r, f => by
    rw [List.all_cons, Bool.and_eq_true] at f
    rw [List.all_cons, flat_rel h f.1, flat_all r f.2]; rfl
theorem eqV_eqv {K : PySem.W.Frag} {H H' : Hp} {v w : V} {d e : D} (r : Rp K H v d) (q : Rp K H' w e) (f : flat d = true) (g : flat e = true) : eqV v w = PyData.eqv d e := by
  cases r <;> cases q <;> first | rfl | (exfalso; first | (simp [flat] at f; done) | (simp [flat] at g; done)) | (simp [eqV, PyData.eqv]; done) | skip
theorem inV_isIn {K : PySem.W.Frag} {H H' : Hp} {x : V} {dx : D} (q : Rp K H' x dx) (g : flat dx = true) : ∀ {vs : List V} {ds : List D}, Rps K H vs ds → ds.all flat = true → inV x vs = isIn dx ds
  | _, _, .nil, _ => rfl
  | _, _, .cons h r, f => by
    rw [List.all_cons, Bool.and_eq_true] at f
    have ih := inV_isIn q g r f.2
    unfold inV isIn at ih ⊢
    rw [List.any_cons, List.any_cons, eqV_eqv h q f.1 g, ih]
theorem rp_non {K : PySem.W.Frag} {Vi H : Hp} {x : V} {d : D} (h : PkR K Vi H x d) : decide (x = .non) = (match d with | .none => true | _ => false) := by
  cases h with
  | vis h => cases h <;> simp
  | cell h c => rename_i c'; cases c' <;> simp [Cell.toD]
theorem rp_bl {K : PySem.W.Frag} {Vi H : Hp} {x : V} {d : D} {b : Bool} (h : PkR K Vi H x d) : decide (x = .bl b) = (match d with | .bool a => decide (a = b) | _ => false) := by
  cases h with
  | vis h => cases h <;> simp
  | cell h c => rename_i c'; cases c' <;> simp [Cell.toD]
theorem op_isX {X : Cx} : OpR X (compareOp .Is) (fun x y H Q => ∃ b : Bool, y = .bl b ∧ Q (.bl (decide (x = .bl b))) H) := by
  intro pins s σ H x y v u Q I rx ry h
  obtain ⟨b, rfl, q⟩ := h
  cases (show u = Value.bool b from ry)
  cases x with
  | bl a => exact op_isBl pins s σ H (.bl a) (.bl b) v (.bool b) Q I rx rfl ⟨a, b, rfl, rfl, by simpa using q⟩
  | int i => obtain ⟨t, rfl⟩ := rx; exact wpAny_is_plain rfl ⟨.bl false, H, I, rfl, by simpa using q⟩
  | str i => obtain ⟨t, rfl⟩ := rx; exact wpAny_is_plain rfl ⟨.bl false, H, I, rfl, by simpa using q⟩
  | byt i => obtain ⟨t, rfl⟩ := rx; exact wpAny_is_plain rfl ⟨.bl false, H, I, rfl, by simpa using q⟩
  | flt i => obtain ⟨t, rfl⟩ := rx; exact wpAny_is_plain rfl ⟨.bl false, H, I, rfl, by simpa using q⟩
  | non => cases rx; exact wpAny_is_plain rfl ⟨.bl false, H, I, rfl, by simpa using q⟩
  | ref a => cases rx; exact wpAny_is_plain rfl ⟨.bl false, H, I, rfl, by simpa using q⟩
  | ty a => cases rx; exact wpAny_is_plain rfl ⟨.bl false, H, I, rfl, by simpa using q⟩
theorem op_notX {X : Cx} : OpR X (compareOp .IsNot) (fun x y H Q => ∃ b : Bool, y = .bl b ∧ Q (.bl (!decide (x = .bl b))) H) := by
  intro pins s σ H x y v u Q I rx ry h
  obtain ⟨b, rfl, q⟩ := h
  cases (show u = Value.bool b from ry)
  cases x with
  | bl a => exact op_notBl pins s σ H (.bl a) (.bl b) v (.bool b) Q I rx rfl ⟨a, b, rfl, rfl, by simpa using q⟩
  | int i => obtain ⟨t, rfl⟩ := rx; exact wpAny_isNot_plain rfl ⟨.bl true, H, I, rfl, by simpa using q⟩
  | str i => obtain ⟨t, rfl⟩ := rx; exact wpAny_isNot_plain rfl ⟨.bl true, H, I, rfl, by simpa using q⟩
  | byt i => obtain ⟨t, rfl⟩ := rx; exact wpAny_isNot_plain rfl ⟨.bl true, H, I, rfl, by simpa using q⟩
  | flt i => obtain ⟨t, rfl⟩ := rx; exact wpAny_isNot_plain rfl ⟨.bl true, H, I, rfl, by simpa using q⟩
  | non => cases rx; exact wpAny_isNot_plain rfl ⟨.bl true, H, I, rfl, by simpa using q⟩
  | ref a => cases rx; exact wpAny_isNot_plain rfl ⟨.bl true, H, I, rfl, by simpa using q⟩
  | ty a => cases rx; exact wpAny_isNot_plain rfl ⟨.bl true, H, I, rfl, by simpa using q⟩
theorem cmpD_eq {a b : D} {k : Bool} (h : cmpD .eq a b = some k) : (∃ x y, a = .str x ∧ b = .str y ∧ k = decide (x = y)) ∨ (SeqAt.shaped a = true ∧ SeqAt.shaped b = true ∧ k = PyData.eqv a b) ∨ nilE a b = some k := by
  unfold cmpD at h
  split at h
  all_goals first
    | contradiction
    | (cases h; exact .inl ⟨_, _, rfl, rfl, rfl⟩)
    | (split at h
       · rename_i q; cases h; exact .inr (.inl ⟨q.1, q.2, rfl⟩)
       · exact .inr (.inr h))
theorem cmpD_ne {a b : D} {k : Bool} (h : cmpD .ne a b = some k) : (∃ x y, a = .str x ∧ b = .str y ∧ k = !decide (x = y)) ∨ (SeqAt.shaped a = true ∧ SeqAt.shaped b = true ∧ k = !PyData.eqv a b) ∨ nilE a b = some (!k) := by
  unfold cmpD at h
  split at h
  all_goals first
    | contradiction
    | (cases h; exact .inl ⟨_, _, rfl, rfl, rfl⟩)
    | (split at h
       · rename_i q; cases h; exact .inr (.inl ⟨q.1, q.2, rfl⟩)
       · obtain ⟨b, h1, h2⟩ := Option.map_eq_some_iff.mp h
         subst h2
         exact .inr (.inr (by rw [h1, Bool.not_not])))
theorem cmpD_in (a b : D) : cmpD .in_ a b = match items? b with
    | some xs => if flat a ∧ xs.all flat then some (isIn a xs) else if SeqAt.shaped a ∧ SeqAt.shaped b then some (isIn a xs) else none
    | none => none := by cases a <;> rfl
theorem cmpD_notin (a b : D) : cmpD .notin a b = match items? b with
    | some xs => if flat a ∧ xs.all flat then some (!isIn a xs) else if SeqAt.shaped a ∧ SeqAt.shaped b then some (!isIn a xs) else none
    | none => none := by cases a <;> rfl
def rInM (K : PySem.W.Frag) (neg : Bool) : R2 := fun x y H Q => ∃ d e xs, Rp K H x d ∧ Rp K H y e ∧ items? e = some xs ∧ SeqAt.shaped d = true ∧ SeqAt.shaped e = true ∧ Q (.bl (if neg = true then !isIn d xs else isIn d xs)) H
theorem op_inM (hu : X.A.units + 65 < cLine) : OpR X (compareOp .In) (rInM X.K false) := by
  intro pins s σ H x y v u Q I rx ry h
  obtain ⟨d, e, xs, hd, he, hi, sd, se, q⟩ := h
  obtain ⟨as, r1⟩ := Rp.reads I d x v (noDict_shaped sd) hd rx
  obtain ⟨bs, r2⟩ := Rp.reads I e y u (noDict_shaped se) he ry
  cases e with
  | list ys => cases hi; exact SeqAt.in_list_reads r2 r1 (SeqAt.canLay_of_shaped se) (SeqAt.canLay_of_shaped sd) (room_in_shaped sd hu) ⟨.bl _, H, I, rfl, q⟩
  | tuple ys => cases hi; exact SeqAt.in_tuple_reads r2 r1 (SeqAt.canLay_of_shaped se) (SeqAt.canLay_of_shaped sd) (room_in_shaped sd hu) ⟨.bl _, H, I, rfl, q⟩
  | _ => cases hi
theorem op_notInM (hu : X.A.units + 65 < cLine) : OpR X (compareOp .NotIn) (rInM X.K true) := by
  intro pins s σ H x y v u Q I rx ry h
  obtain ⟨d, e, xs, hd, he, hi, sd, se, q⟩ := h
  obtain ⟨as, r1⟩ := Rp.reads I d x v (noDict_shaped sd) hd rx
  obtain ⟨bs, r2⟩ := Rp.reads I e y u (noDict_shaped se) he ry
  cases e with
  | list ys => cases hi; exact SeqAt.notIn_list_reads r2 r1 (SeqAt.canLay_of_shaped se) (SeqAt.canLay_of_shaped sd) (room_in_shaped sd hu) ⟨.bl _, H, I, rfl, q⟩
  | tuple ys => cases hi; exact SeqAt.notIn_tuple_reads r2 r1 (SeqAt.canLay_of_shaped se) (SeqAt.canLay_of_shaped sd) (room_in_shaped sd hu) ⟨.bl _, H, I, rfl, q⟩
  | _ => cases hi
def rNil (K : PySem.W.Frag) (neg : Bool) : R2 := fun x y H Q => ∃ d e k, Rp K H x d ∧ Rp K H y e ∧ nilE d e = some k ∧ Q (.bl (if neg = true then !k else k)) H
theorem vals_nil {us : List Value} (r : Vals [] us) : us = [] := by cases r; rfl
theorem rps_nil {K : PySem.W.Frag} {H : Hp} {vs : List V} (r : Rps K H vs []) : vs = [] := by cases r; rfl
theorem op_nil (hu : X.A.units + 64 < cLine) : OpR X (compareOp .Eq) (rNil X.K false) := by
  intro pins s σ H x y v u Q I rx ry h
  obtain ⟨d, e, k, hd, he, hk, q⟩ := h
  unfold nilE at hk
  split at hk
  · rename_i xs
    cases hk
    cases hd with | tup h1 h2 =>
    cases he with | tup h3 h4 =>
    cases rx; cases ry
    cases rps_nil h4
    obtain ⟨its, rv, hl, _⟩ := I.tuple h1
    obtain ⟨its2, rv2, hl2, _⟩ := I.tuple h3
    cases vals_nil rv2
    have hlen : its.length = xs.length := rv.length.symm.trans h2.len
    refine SeqAt.RcAt.tuples (e := fun _ => true) hl hl2 (by omega) (fun j h1 h2 => absurd h2 (by simp)) _ _ _ _ ?_
    refine ⟨.bl xs.isEmpty, H, I, ?_, q⟩
    show Value.bool _ = Value.bool _
    cases xs with
    | nil => cases its with
      | nil => rfl
      | cons a b => simp at hlen
    | cons c d => cases its with
      | nil => simp at hlen
      | cons a b => simp
  · rename_i xs
    cases hk
    cases hd with | lst h1 h2 =>
    cases he with | lst h3 h4 =>
    cases rx; cases ry
    cases rps_nil h4
    obtain ⟨its, rv, hl, _⟩ := I.list h1
    obtain ⟨its2, rv2, hl2, _⟩ := I.list h3
    cases vals_nil rv2
    have hlen : its.length = xs.length := rv.length.symm.trans h2.len
    cases xs with
    | nil =>
      cases its with
      | cons a b => simp at hlen
      | nil =>
        exact SeqAt.RcAt.lists (e := fun _ => true) hl.isList hl2.isList rfl (by omega) (fun j h1 h2 => absurd h2 (by simp)) _ _ _ _ ⟨.bl true, H, I, rfl, q⟩
    | cons c d =>
      cases its with
      | nil => simp at hlen
      | cons a b => exact SeqAt.RcAt.lists_lengths hl.isList hl2.isList (by simp) (by omega) _ _ _ _ ⟨.bl false, H, I, rfl, q⟩
  · cases hk
theorem op_nnil (hu : X.A.units + 64 < cLine) : OpR X (compareOp .NotEq) (rNil X.K true) := by
  intro pins s σ H x y v u Q I rx ry h
  obtain ⟨d, e, k, hd, he, hk, q⟩ := h
  unfold nilE at hk
  split at hk
  · rename_i xs
    cases hk
    cases hd with | tup h1 h2 =>
    cases he with | tup h3 h4 =>
    cases rx; cases ry
    cases rps_nil h4
    obtain ⟨its, rv, hl, _⟩ := I.tuple h1
    obtain ⟨its2, rv2, hl2, _⟩ := I.tuple h3
    cases vals_nil rv2
    have hlen : its.length = xs.length := rv.length.symm.trans h2.len
    refine SeqAt.RcNeAt.tuples (e := fun _ => true) hl hl2 (by omega) (fun j h1 h2 => absurd h2 (by simp)) _ _ _ _ ?_
    refine ⟨.bl (!xs.isEmpty), H, I, ?_, q⟩
    show Value.bool _ = Value.bool _
    cases xs with
    | nil => cases its with
      | nil => rfl
      | cons a b => simp at hlen
    | cons c d => cases its with
      | nil => simp at hlen
      | cons a b => simp
  · rename_i xs
    cases hk
    cases hd with | lst h1 h2 =>
    cases he with | lst h3 h4 =>
    cases rx; cases ry
    cases rps_nil h4
    obtain ⟨its, rv, hl, _⟩ := I.list h1
    obtain ⟨its2, rv2, hl2, _⟩ := I.list h3
    cases vals_nil rv2
    have hlen : its.length = xs.length := rv.length.symm.trans h2.len
    cases xs with
    | nil =>
      cases its with
      | cons a b => simp at hlen
      | nil =>
        exact SeqAt.RcNeAt.lists (e := fun _ => true) hl.isList hl2.isList rfl (by omega) (fun j h1 h2 => absurd h2 (by simp)) _ _ _ _ ⟨.bl false, H, I, rfl, q⟩
    | cons c d =>
      cases its with
      | nil => simp at hlen
      | cons a b => exact SeqAt.RcNeAt.lists_lengths hl.isList hl2.isList (by simp) (by omega) _ _ _ _ ⟨.bl true, H, I, rfl, q⟩
  · cases hk
theorem opCmp (hu : X.A.units + 65 < cLine) (o : Cop) : OpR X (compareOp (cop o)) (rCmp X.K (cmpD o)) := by
  cases o with
  | lt =>
    refine opR_imp op_lt ?_
    rintro x y H Q ⟨Vi, dx, dy, k, s, hx, hy, e, q⟩
    cases dx <;> cases dy <;> simp [cmpD] at e
    subst e
    cases hx.int; cases hy.int
    exact ⟨_, _, rfl, rfl, q⟩
  | le =>
    refine opR_imp op_le ?_
    rintro x y H Q ⟨Vi, dx, dy, k, s, hx, hy, e, q⟩
    cases dx <;> cases dy <;> simp [cmpD] at e
    subst e
    cases hx.int; cases hy.int
    exact ⟨_, _, rfl, rfl, q⟩
  | gt =>
    refine opR_imp op_gt ?_
    rintro x y H Q ⟨Vi, dx, dy, k, s, hx, hy, e, q⟩
    cases dx <;> cases dy <;> simp [cmpD] at e
    subst e
    cases hx.int; cases hy.int
    exact ⟨_, _, rfl, rfl, q⟩
  | ge =>
    refine opR_imp op_ge ?_
    rintro x y H Q ⟨Vi, dx, dy, k, s, hx, hy, e, q⟩
    cases dx <;> cases dy <;> simp [cmpD] at e
    subst e
    cases hx.int; cases hy.int
    exact ⟨_, _, rfl, rfl, q⟩
  | eq =>
    refine opR_imp ((op_eqM (by omega)).or (op_nil (by omega))) ?_
    rintro x y H Q ⟨Vi, dx, dy, k, s, hx, hy, e, q⟩
    rcases cmpD_eq e with ⟨a, b, rfl, rfl, rfl⟩ | ⟨h1, h2, rfl⟩ | h
    · cases hx.str; cases hy.str
      exact .inl <| .inl ⟨_, _, rfl, rfl, q⟩
    · exact .inl <| .inr ⟨_, _, hx.rp s, hy.rp s, h1, h2, q⟩
    · exact .inr ⟨_, _, _, hx.rp s, hy.rp s, h, q⟩
  | ne =>
    refine opR_imp ((op_neM (by omega)).or (op_nnil (by omega))) ?_
    rintro x y H Q ⟨Vi, dx, dy, k, s, hx, hy, e, q⟩
    rcases cmpD_ne e with ⟨a, b, rfl, rfl, rfl⟩ | ⟨h1, h2, rfl⟩ | h
    · cases hx.str; cases hy.str
      exact .inl <| .inl ⟨_, _, rfl, rfl, q⟩
    · exact .inl <| .inr ⟨_, _, hx.rp s, hy.rp s, h1, h2, q⟩
    · exact .inr ⟨_, _, _, hx.rp s, hy.rp s, h, by rw [if_pos rfl, Bool.not_not]; exact q⟩
  | is_ =>
    refine opR_imp (op_isN.or op_isX) ?_
    rintro x y H Q ⟨Vi, dx, dy, k, s, hx, hy, e, q⟩
    have hn := rp_non hx
    cases dy <;> first | (cases dx <;> cases e; done) | skip
    · have := hy.none
      subst this
      refine .inl ⟨rfl, ?_⟩
      rw [hn]
      cases dx <;> cases e <;> exact q
    · refine .inr ⟨_, hy.bool, ?_⟩
      rw [rp_bl hx]
      cases dx <;> cases e <;> exact q
  | isnot =>
    refine opR_imp (op_notN.or op_notX) ?_
    rintro x y H Q ⟨Vi, dx, dy, k, s, hx, hy, e, q⟩
    have hn := rp_non hx
    cases dy <;> first | (cases dx <;> cases e; done) | skip
    · have := hy.none
      subst this
      refine .inl ⟨rfl, ?_⟩
      rw [hn]
      cases dx <;> cases e <;> exact q
    · refine .inr ⟨_, hy.bool, ?_⟩
      rw [rp_bl hx]
      cases dx <;> cases e <;> exact q
  | in_ =>
    refine opR_imp (op_in_seq.or (op_inM hu)) ?_
    rintro x y H Q ⟨Vi, dx, dy, k, s, hx, hy, e, q⟩
    rw [cmpD_in] at e
    split at e
    · rename_i xs hi
      split at e
      · rename_i h
        cases e
        obtain ⟨p, vs, rfl, h1, h2⟩ := hy.items s hi
        refine .inl ⟨p, vs, rfl, h1, hx.flatV h.1, flat_all h2 h.2, ?_⟩
        have z := inV_isIn (hx.flatRp h.1) h.1 h2 h.2
        rw [if_neg Bool.false_ne_true, z]
        exact q
      · split at e
        · rename_i h
          cases e
          exact .inr ⟨_, _, xs, hx.rp s, hy.rp s, hi, h.1, h.2, by rw [if_neg Bool.false_ne_true]; exact q⟩
        · cases e
    · cases e
  | notin =>
    refine opR_imp (op_notIn_seq.or (op_notInM hu)) ?_
    rintro x y H Q ⟨Vi, dx, dy, k, s, hx, hy, e, q⟩
    rw [cmpD_notin] at e
    split at e
    · rename_i xs hi
      split at e
      · rename_i h
        cases e
        obtain ⟨p, vs, rfl, h1, h2⟩ := hy.items s hi
        refine .inl ⟨p, vs, rfl, h1, hx.flatV h.1, flat_all h2 h.2, ?_⟩
        have z := inV_isIn (hx.flatRp h.1) h.1 h2 h.2
        rw [if_pos rfl, z]
        exact q
      · split at e
        · rename_i h
          cases e
          exact .inr ⟨_, _, xs, hx.rp s, hy.rp s, hi, h.1, h.2, by rw [if_pos rfl]; exact q⟩
        · cases e
    · cases e
/-! ### subscripts -/
theorem look_rel {K : PySem.W.Frag} {H : Hp} {k : Key} {d : D} : ∀ {ks : List Key} {xs : List V} {ds : List D}, ks.length = xs.length → Rps K H xs ds → lookD (keyD k) ((ks.map keyD).zip ds) = some d → ∃ v, valV (ks.zip xs) k = some v ∧ Rp K H v d
  | [], _, _, _, _, e => by simp [lookD] at e
  | j :: ks, [], _, l, _, _ => by simp at l
  | j :: ks, x :: xs, [], _, r, _ => by cases r
  | j :: ks, x :: xs, d' :: ds, l, .cons h r, e => by
    rw [List.map_cons, List.zip_cons_cons] at e
    unfold lookD at e
    rw [List.zip_cons_cons]
    by_cases z : j = k
    · subst z
      have : same (keyD j) (keyD j) = true := by cases j <;> simp [keyD, same]
      rw [this, if_pos rfl] at e
      cases e
      exact ⟨x, valV_pos rfl, h⟩
    · have : same (keyD j) (keyD k) = false := by
        cases j <;> cases k <;> simp [keyD, same] <;> intro q <;> exact z (by rw [q])
      rw [this, if_neg Bool.false_ne_true] at e
      obtain ⟨v, h1, h2⟩ := look_rel (by simpa using l) r e
      exact ⟨v, by rw [valV_neg (by exact z)]; exact h1, h2⟩
theorem PkR.dict {K : PySem.W.Frag} {Vi H : Hp} {v : V} {ps : List (D × D)} (s : Same Vi H) (h : PkR K Vi H v (.dict ps)) : (∃ a ks xs ds, v = .ref a ∧ H a = some (.dK (List.zip ks xs)) ∧ ks.length = xs.length ∧ Rps K Vi xs ds ∧ ps = (ks.map keyD).zip ds) ∨ ∃ b c, ps = [(.bool b, .bool c)] := by
  generalize e : (PyData.dict ps : D) = d at h
  cases h with
  | vis h =>
    subst e
    cases h with
    | dct h1 h2 h3 => exact .inl ⟨_, _, _, _, rfl, s _ _ h1, h2, h3, rfl⟩
    | dcb h1 h2 => exact .inr ⟨_, _, rfl⟩
  | cell h c =>
    rename_i p o c'
    cases c' with
    | l es => cases e
    | d qs =>
      cases e
      obtain ⟨kvs, rfl, e1, r⟩ := c.dct
      refine .inl ⟨p, kvs.map (·.1), kvs.map (·.2), qs.map (·.2), rfl, by rw [zip_maps]; exact h, by simp, r, ?_⟩
      rw [e1]
      clear h c e1 r
      induction qs with
      | nil => rfl
      | cons x r ih => simp only [List.map_cons, List.zip_cons_cons, ih]
def rIxD (K : PySem.W.Frag) : R2 := fun x y H Q => ∃ Vi dx dy d, Same Vi H ∧ PkR K Vi H x dx ∧ PkR K Vi H y dy ∧ ixD dx dy = some d ∧ ∀ v, Rp K Vi v d → Q v H
theorem ix_dctM (hu : X.A.units + 1 < cLine) : IxR X (fun x y H Q => ∃ a v, x = .ref a ∧ DGet H a y (some v) ∧ Q v H) := by
  intro value slice pins s σ H x y v u Q I rx ry h hs
  obtain ⟨a, w, rfl, g, q⟩ := h
  cases rx
  exact tail_any (dict_typeIs I g) PySem.F.slot_dict_getitem.lookup (d_getItem hu I g ry fun w' s3 I3 rw' => ⟨w, H, I3, rw', q⟩) hs
theorem ixR_imp {r r' : R2} (h : IxR X r) (i : ∀ x y H Q, r' x y H Q → r x y H Q) : IxR X r' :=
  fun a b pins s σ H x y v u Q I rx ry q hs => h a b pins s σ H x y v u Q I rx ry (i x y H Q q) hs
theorem atI_rel {K : PySem.W.Frag} {H : Hp} {xs : List V} {ds : List D} {i : Int} {d : D} (r : Rps K H xs ds) (e : atI ds i = some d) : ∃ v, atI xs i = some v ∧ Rp K H v d := by
  unfold atI at e ⊢
  rw [r.len]
  cases h : ixN ds.length i with
  | none => rw [h] at e; cases e
  | some j =>
    rw [h] at e
    exact r.get e
theorem ixM (hu : X.A.units + 1 < cLine) : IxR X (rIxD X.K) := by
  refine ixR_imp (ix_seq.or (ix_dctM hu)) ?_
  rintro x y H Q ⟨Vi, dx, dy, d, s, hx, hy, e, q⟩
  unfold ixD at e
  split at e
  · cases hy.int
    obtain ⟨a, xs, rfl, h1, h2⟩ := hx.list s
    obtain ⟨v, h3, h4⟩ := atI_rel h2 e
    exact .inl (.inl ⟨a, xs, _, v, rfl, rfl, h1, h3, q v h4⟩)
  · cases hy.int
    obtain ⟨a, xs, rfl, h1, _, h2⟩ := hx.tuple s
    obtain ⟨v, h3, h4⟩ := atI_rel h2 e
    exact .inl (.inr (.inl ⟨a, xs, _, v, rfl, rfl, h1, h3, q v h4⟩))
  · split at e
    · cases hy.int
      cases hx.str
      obtain ⟨c, h1, h2⟩ := Option.map_eq_some_iff.mp e
      subst h2
      exact .inl (.inr (.inr ⟨_, _, c, rfl, rfl, by assumption, h1, q _ (.str _)⟩))
    · cases e
  · cases hy.int
    rcases hx.dict s with ⟨a, ks, xs, ds, rfl, h1, h2, h3, h4⟩ | ⟨b, c, h4⟩
    case inr => subst h4; simp [lookD, same] at e
    subst h4
    rename_i i
    obtain ⟨v, h5, h6⟩ := look_rel (k := .inl i) h2 h3 e
    exact .inr ⟨a, v, rfl, by rw [← h5]; exact DGet.k (k := .inl i) h1, q v h6⟩
  · cases hy.str
    rcases hx.dict s with ⟨a, ks, xs, ds, rfl, h1, h2, h3, h4⟩ | ⟨b, c, h4⟩
    case inr => subst h4; simp [lookD, same] at e
    subst h4
    rename_i i
    obtain ⟨v, h5, h6⟩ := look_rel (k := .inr i) h2 h3 e
    exact .inr ⟨a, v, rfl, by rw [← h5]; exact DGet.k (k := .inr i) h1, q v h6⟩
  · cases e
/-! ### slices -/
def rSlD (K : PySem.W.Frag) : V → Option Int → Option Int → Hp → VK → Prop := fun x lo hi H Q => ∃ Vi dx r, Same Vi H ∧ PkR K Vi H x dx ∧ slD dx lo hi = some r ∧ Fin K Vi H r Q
theorem slR_imp {r r' : V → Option Int → Option Int → Hp → VK → Prop} (h : SlR X r) (i : ∀ x lo hi H Q, r' x lo hi H Q → r x lo hi H Q) : SlR X r' :=
  fun pins s σ H x v vl vu lo hi sl Q I rx hs pl pu q => h pins s σ H x v vl vu lo hi sl Q I rx hs pl pu (i x lo hi H Q q)
theorem slM : SlR X (rSlD X.K) := by
  refine slR_imp (sl_list.or sl_tupA) ?_
  rintro x lo hi H Q ⟨Vi, dx, r, s, hx, e, q⟩
  cases dx <;> cases e
  · obtain ⟨a, xs, rfl, h1, h2⟩ := hx.list s
    refine .inl ⟨a, xs, rfl, h1, fun p hp => q p _ hp ?_⟩
    show Rps X.K Vi (cutV xs lo hi) (cutD _ lo hi)
    unfold cutV cutD
    rw [h2.len]
    exact (h2.drop _).take _
  · obtain ⟨a, xs, rfl, h1, h1', h2⟩ := hx.tuple s
    refine .inr ⟨a, xs, rfl, h1, fun z => ?_, fun _ p hp => q.2 p _ _ rfl hp ?_⟩
    · refine q.1 _ ?_
      unfold cutD
      rw [← h2.len, z.1, z.2]
      rw [List.drop_zero, Nat.sub_zero, h2.len, List.take_length]
      exact .tup h1' h2
    · unfold cutV cutD
      rw [h2.len]
      exact (h2.drop _).take _
end
end M

set_option Elab.async false
set_option linter.all false
set_option maxRecDepth 100000
set_option maxHeartbeats 4000000
/-! M: repr of data with dicts and with whole numbers to 2^12900 -/
namespace M
open PySem PySem.Spec PyProof.Rows L2
/-- nobody has turned the limit on figures -/
def digK (K : PySem.W.Frag) : Prop := PySem.W.nsIn K cStatics "sys.int_max_str_digits" = some none
def NoDig (h : Heap) : Prop := ∃ K : PySem.W.Frag, K.In h ∧ digK K
theorem NoDig.keeps {h h' : Heap} (x : NoDig h) (k : ∀ b o, h.get? b = some o → h'.get? b = some o) : NoDig h' := let ⟨K, a, b⟩ := x; ⟨K, a.keeps k, b⟩
theorem over_none {M' : Model} {A : Around} {E : Value → Shared → Prop} {s : Shared} {a : Int} {Q : Option Nat → Shared → Prop} (hd : NoDig s.heap) (h : a.natAbs.log2 < 12900) (q : Q none s) : wpAny M' A (Builtin.overDigitLimit? a) Q E s := by
  unfold Builtin.overDigitLimit?
  by_cases h1 : a.natAbs.log2 < 1920
  · rw [if_pos h1]; exact wpAny_pure q
  · rw [if_neg h1]
    obtain ⟨K, n1, n2⟩ := hd
    have e1 : ¬ (a.natAbs.log2 / 30 + 1 > 1000) := by omega
    have e2 : ((4300 : Nat) == 0 || decide (a.natAbs.log2 < 3 * 4300)) = true := by
      rw [Bool.or_eq_true]; exact .inr (decide_eq_true (by omega))
    refine wpAny_bind (m := Builtin.intMaxStrDigits) ?_
    unfold Builtin.intMaxStrDigits
    refine wpAny_bind ((PySem.W.looks_nsIn n1 n2).at ?_)
    refine wpAny_pure ?_
    simp only [if_neg e1, e2, if_true]
    exact wpAny_pure q
theorem int_fitsB {a : Int} (h : a.natAbs.log2 < 12900) : (Str.ofString (toString a)).length ≤ sizeLine := by
  have e := int_text_length_le (k := 12900) (by decide) h
  rw [PySem.ofString_length, sizeLine_eq]; omega
theorem gives_int_reprB (a : Int) (t : Tok) (h : a.natAbs.log2 < 12900) : GivesAt (fun s => NoDig s.heap) (Builtin.«int.__repr__» ⟨[.int a t], []⟩) (.str (toString a)) := by
  intro prog w A R s hd hq
  unfold Builtin.«int.__repr__»
  show wpAny _ _ (do let r ← Builtin.overDigitLimit? a; _) _ _ _
  refine wpAny_bind (over_none hd h ?_)
  exact (Gives.of_eq (m := .str (toString a)) rfl) prog w A R s hq
section
variable {prog : Program} {w : World} {A : Around} {E : Value → Shared → Prop} {s : Shared}
theorem reprObj_intB {a : Int} {t : Tok} {Q : Value → Shared → Prop} (hd : NoDig s.heap) (ha : a.natAbs.log2 < 12900) (h : Q (.str (toString a) s.toks) { s with toks := s.toks + 1 }) : wpAny (model prog w) A (pyReprObj (.int a t)) Q E s := by
  have hv : [Value.int a t].any Value.onHeap = false := rfl
  unfold pyReprObj
  simp only [cRoomFor, hv, Bool.false_eq_true, if_false, pure_bind]
  refine wpAny_bind (wpAny_specialOf (name := Str.ofString "__repr__") (typeIs_int s a t) F.slot_int_repr.lookup ?_)
  refine wpAny_bind (m := callSpecialIfBound? (.int a t) (Str.ofString "__repr__")) (wpAny_callSpecialIfBound?_slot (name := Str.ofString "__repr__") (typeIs_int s a t) F.slot_int_repr (call_givesAt F.slot_int_repr (typeIs_int s a t) F.entry_int_repr (F.args_int_repr_1 _) (gives_int_reprB a t ha) hd ⟨int_fitsB ha, ?_⟩))
  exact wpAny_bind (wpAny_isInstance (T := "str") (b := true) rfl isSubtype_str_str (wpAny_pure h))
theorem repr_of_intB {a : Int} {t : Tok} {Q : Value → Shared → Prop} (hd : NoDig s.heap) (ha : a.natAbs.log2 < 12900) (h : Q (.str (toString a) s.toks) { s with toks := s.toks + 1 }) : wpAny (model prog w) A (call (.builtin "repr") [.int a t]) Q E s := by
  have hv : [Value.int a t].any Value.onHeap = false := rfl
  refine Calls.call_function_entry F.kind_repr F.plain_repr F.entry_repr (F.args_repr1 _) ?_
  unfold Builtin.«repr»
  refine wpAny_bind (m := oneArg "repr" _) (wpAny_pure ?_)
  simp only [cRoomFor, hv, Bool.false_eq_true, if_false, pure_bind]
  refine wpAny_bind (wpAny_specialOf (name := Str.ofString "__repr__") (typeIs_int s a t) F.slot_int_repr.lookup ?_)
  refine wpAny_bind (m := callSpecialIfBound? (.int a t) (Str.ofString "__repr__")) (wpAny_callSpecialIfBound?_slot (name := Str.ofString "__repr__") (typeIs_int s a t) F.slot_int_repr (call_givesAt F.slot_int_repr (typeIs_int s a t) F.entry_int_repr (F.args_int_repr_1 _) (gives_int_reprB a t ha) hd ⟨int_fitsB ha, ?_⟩))
  exact wpAny_bind (wpAny_isInstance (T := "str") (b := true) rfl isSubtype_str_str (wpAny_pure ⟨_, rfl, h⟩))
end
theorem shwKv_split : ∀ kvs : List (D × D), shwKv kvs = true → shws (kvs.map (·.1)) = true ∧ shws (kvs.map (·.2)) = true
  | [], _ => by simp only [List.map_nil, shws, and_self]
  | (k, v) :: r, h => by
    have h' : (shw k = true ∧ shw v = true) ∧ shwKv r = true := by simpa [shwKv] using h
    obtain ⟨h1, h2⟩ := shwKv_split r h'.2
    simp only [List.map_cons, shws, h'.1.1, h'.1.2, h1, h2, Bool.and_self, and_self]
/-- none of the dicts there is the modules' own -/
def NoSys (h₀ : Heap) (as : List Addr) : Prop := ∀ o, h₀.get? sysModules = some o → o.cls = .type "dict" → sysModules ∉ as
theorem NoSys.sub {h₀ : Heap} {as bs : List Addr} (h : NoSys h₀ as) (s : ∀ b ∈ bs, b ∈ as) : NoSys h₀ bs := fun o e c m => h o e c (s _ m)
section
variable {prog : Program} {w : World} {h₀ : Heap}
theorem reprK_int (nd : NoDig h₀) {a : Int} (t : Tok) (ha : a.natAbs.log2 < 12900) (as : List Addr) (d : Nat) : ReprK prog w as h₀ d (.int a t) (toString a) := fun base hb A g E s Q _ _ _ hk hQ => by
  have hn' : base ≤ sizeLine := by omega
  rw [pyReprUnder_leaf (v := .int a t) hn' (fun _ e => nomatch e)]
  unfold pyRepr
  exact wpAny_bind (reprObj_intB (nd.keeps hk) ha (wpAny_pure (hQ _ _ fun _ _ e => e)))
mutual
theorem reprK_of (nd : NoDig h₀) : ∀ {v : Value} {d : D} {as : List Addr}, Reads h₀ v d as → shw d = true → NoSys h₀ as → d.shown.length ≤ sizeLine → ∃ bs, ReadAtMost h₀ d.depth bs ∧ ReprK prog w bs h₀ d.depth v d.shown
  | _, _, _, .none, _, _, _ => ⟨[], (fun _ h => nomatch h), by simp only [PyData.shown]; exact .of_is ReprIs.none _ _ _⟩
  | _, _, _, .bool b, _, _, _ => ⟨[], (fun _ h => nomatch h), by simp only [PyData.shown]; exact .of_is (ReprIs.bool b) _ _ _⟩
  | _, _, _, .int i t, hs, _, _ => ⟨[], (fun _ h => nomatch h), by simp only [PyData.shown]; exact reprK_int nd t (by simpa [shw] using hs) _ _⟩
  | _, _, _, .str x t, _, _, hz => ⟨[], (fun _ h => nomatch h), by simp only [PyData.shown]; exact .of_is (ReprIs.str x t (by simpa only [PyData.shown] using hz)) _ _ _⟩
  | _, _, _, .list (a := a) (vs := vs) (xs := xs) h1 h2 h3 h4, hs, hsm, hz => by
    have hz' : (listText (PyData.shownAll xs)).length ≤ sizeLine := by simpa only [PyData.shown] using hz
    obtain ⟨bs, hb, hk⟩ := reprAllK_of nd h4 (by simpa [shw] using hs) (hsm.sub fun _ m => List.mem_cons_of_mem _ m) (fun t ht => Nat.le_trans (listText_mem_le ht) hz')
    have r : Reads h₀ (.ref a) (.list xs) _ := .list h1 h2 h3 h4
    have hna : a ∉ bs := not_mem_of_deeper r (by simp only [PyData.depth]; omega) hb
    refine ⟨a :: bs, ReadAtMost.cons r (by simp only [PyData.depth]; omega) hb, ?_⟩
    simp only [PyData.depth, PyData.shown]
    obtain ⟨l⟩ := vs
    cases l with
    | nil =>
      have h4' : ReadsAll h₀ [] xs _ := h4
      cases h4'
      simp only [PyData.shownAll, listText_nil]
      exact ReprK.listEmpty h1 h2 h3
    | cons x l => exact ReprK.list h1 h2 h3 hna (by simpa using hk.length_eq) (fun i y e => hk.item i y (by simpa using e))
  | _, _, _, .tuple (a := a) (xs := xs) h1 h2 h3 h4, hs, hsm, hz => by
    have hz' : (tupleText (PyData.shownAll xs)).length ≤ sizeLine := by simpa only [PyData.shown] using hz
    obtain ⟨bs, hb, hk⟩ := reprAllK_of nd h4 (by simpa [shw] using hs) hsm (fun t ht => Nat.le_trans (tupleText_mem_le ht) hz')
    have r : Reads h₀ (.ref a) (.tuple xs) _ := .tuple h1 h2 h3 h4
    have hna : a ∉ bs := not_mem_of_deeper r (by simp only [PyData.depth]; omega) hb
    refine ⟨a :: bs, ReadAtMost.cons r (by simp only [PyData.depth]; omega) hb, ?_⟩
    simp only [PyData.depth, PyData.shown]
    exact ReprK.tuple h1 h2 h3 hna hk
  | _, _, _, .dict (a := a) (es := es) (kvs := kvs) (as := as₁) (bs := bs₁) h1 h2 h3 h4 h5, hs, hsm, hz => by
    have hz' : (dictText (PyData.shownKv kvs)).length ≤ sizeLine := by simpa only [PyData.shown] using hz
    obtain ⟨hs1, hs2⟩ := shwKv_split kvs (by simpa [shw] using hs)
    obtain ⟨b1, hb1, k1⟩ := reprAllK_of nd h4 hs1 (hsm.sub fun _ m => List.mem_cons_of_mem _ (List.mem_append_left _ m)) (fun t ht => let ⟨p, hp, hl⟩ := PyData.shownKv_key_le kvs t ht; Nat.le_trans hl (Nat.le_trans (dictText_mem_le hp) hz'))
    obtain ⟨b2, hb2, k2⟩ := reprAllK_of nd h5 hs2 (hsm.sub fun _ m => List.mem_cons_of_mem _ (List.mem_append_right _ m)) (fun t ht => let ⟨p, hp, hl⟩ := PyData.shownKv_val_le kvs t ht; Nat.le_trans hl (Nat.le_trans (dictText_mem_le hp) hz'))
    have r : Reads h₀ (.ref a) (.dict kvs) _ := .dict h1 h2 h3 h4 h5
    have hb : ReadAtMost h₀ (PyData.depthKv kvs) (b1 ++ b2) := (hb1.mono (PyData.depthAll_keys_le kvs)).append (hb2.mono (PyData.depthAll_vals_le kvs))
    have hna : a ∉ b1 ++ b2 := not_mem_of_deeper r (by simp only [PyData.depth]; omega) hb
    have hsys : (a == sysModules) = false := beq_eq_false_iff_ne.mpr fun e => hsm _ (e ▸ h1) h2 (e ▸ List.mem_cons_self ..)
    refine ⟨a :: (b1 ++ b2), ReadAtMost.cons r (by simp only [PyData.depth]; omega) hb, ?_⟩
    simp only [PyData.depth, PyData.shown, PyData.shownKv_eq]
    exact ReprK.dict h1 h2 h3 hsys hna (ReprEntriesK.of_two es.toList _ _
      (k1.more_le (fun b hb => List.mem_append_left _ hb) (PyData.depthAll_keys_le kvs)) (k2.more_le (fun b hb => List.mem_append_right _ hb) (PyData.depthAll_vals_le kvs)))
theorem reprAllK_of (nd : NoDig h₀) : ∀ {vs : List Value} {ds : List D} {as : List Addr}, ReadsAll h₀ vs ds as → shws ds = true → NoSys h₀ as → (∀ t ∈ PyData.shownAll ds, t.length ≤ sizeLine) →
    ∃ bs, ReadAtMost h₀ (PyData.depthAll ds) bs ∧ ReprAllK prog w bs h₀ (PyData.depthAll ds) vs (PyData.shownAll ds)
  | _, _, _, .nil, _, _, _ => ⟨[], (fun _ h => nomatch h), by simp only [PyData.shownAll]; exact .nil⟩
  | _, _, _, .cons (d := d) (ds := ds) r rs, hs, hsm, hz => by
    have hs' : shw d = true ∧ shws ds = true := by simpa [shws] using hs
    obtain ⟨b1, hb1, k1⟩ := reprK_of nd r hs'.1 (hsm.sub fun _ m => List.mem_append_left _ m) (hz _ (by simp only [PyData.shownAll]; exact List.mem_cons_self ..))
    obtain ⟨b2, hb2, k2⟩ := reprAllK_of nd rs hs'.2 (hsm.sub fun _ m => List.mem_append_right _ m) (fun t ht => hz t (by simp only [PyData.shownAll]; exact List.mem_cons_of_mem _ ht))
    refine ⟨b1 ++ b2, ?_, ?_⟩
    · intro b hm
      simp only [PyData.depthAll]
      rcases List.mem_append.mp hm with hm | hm
      · obtain ⟨d', as', r', hd'⟩ := hb1 b hm
        exact ⟨d', as', r', Nat.le_trans hd' (Nat.le_max_left _ _)⟩
      · obtain ⟨d', as', r', hd'⟩ := hb2 b hm
        exact ⟨d', as', r', Nat.le_trans hd' (Nat.le_max_right _ _)⟩
    · simp only [PyData.depthAll, PyData.shownAll]
      exact .cons ((k1.more fun b hb => List.mem_append_left _ hb).level_le (Nat.le_max_left _ _)) (k2.more_le (fun b hb => List.mem_append_right _ hb) (Nat.le_max_right _ _))
end
theorem showsByB (nd : NoDig h₀) {a : Addr} {d : D} {as : List Addr} (r : Reads h₀ (.ref a) d as) (hs : shw d = true) (hsm : NoSys h₀ as) (hsz : d.shown.length ≤ sizeLine) : ∃ T idr, ShowsBy prog w h₀ a d T idr := by
  cases r with
  | list h1 h2 h3 h4 =>
    rename_i o vs n xs bs₀
    have hz' : (listText (PyData.shownAll xs)).length ≤ sizeLine := by simpa only [PyData.shown] using hsz
    obtain ⟨bs, hb, hk⟩ := reprAllK_of (prog := prog) (w := w) nd h4 (by simpa [shw] using hs) (hsm.sub fun _ m => List.mem_cons_of_mem _ m) (fun t ht => Nat.le_trans (listText_mem_le ht) hz')
    have hna : a ∉ bs := not_mem_of_deeper (.list h1 h2 h3 h4) (by simp only [PyData.depth]; omega) hb
    refine ⟨"list", "list.__repr__", F.slot_list_repr.toG, F.slot_list_str, F.slot_list_format, fun s hk0 => ⟨o, hk0 _ _ h1, h2⟩, fun A E s Q hg hu hk0 hQ => ?_⟩
    simp only [PyData.depth] at hu
    simp only [PyData.shown] at hQ
    obtain ⟨l⟩ := vs
    cases l with
    | nil =>
      have h4' : ReadsAll h₀ [] xs _ := h4
      cases h4'
      simp only [PyData.shownAll, listText_nil] at hQ
      exact call_list_repr_empty ⟨o, hk0 _ _ h1, h2⟩ (hk0 _ _ h1) h3 (hQ s.heap _ _ fun _ _ e => e)
    | cons x l =>
      exact call_list_reprK h1 h2 h3 hna (by simpa using hk.length_eq) (fun i y e => hk.item i y (by simpa using e)) hg (fun b _ => Clear.nil b) hu hk0 hQ hz'
  | tuple h1 h2 h3 h4 =>
    rename_i o vs n xs
    have hz' : (tupleText (PyData.shownAll xs)).length ≤ sizeLine := by simpa only [PyData.shown] using hsz
    obtain ⟨bs, hb, hk⟩ := reprAllK_of (prog := prog) (w := w) nd h4 (by simpa [shw] using hs) hsm (fun t ht => Nat.le_trans (tupleText_mem_le ht) hz')
    have hna : a ∉ bs := not_mem_of_deeper (.tuple h1 h2 h3 h4) (by simp only [PyData.depth]; omega) hb
    refine ⟨"tuple", "tuple.__repr__", F.slot_tuple_repr, F.slot_tuple_str, F.slot_tuple_format, fun s hk0 => ⟨o, hk0 _ _ h1, h2⟩, fun A E s Q hg hu hk0 hQ => ?_⟩
    simp only [PyData.depth] at hu
    simp only [PyData.shown] at hQ
    exact call_tuple_reprK h1 h2 h3 hna hk hg (fun b _ => Clear.nil b) hu hk0 hQ hz'
  | dict h1 h2 h3 h4 h5 =>
    rename_i o es n kvs as₁ bs₁
    have hz' : (dictText (PyData.shownKv kvs)).length ≤ sizeLine := by simpa only [PyData.shown] using hsz
    obtain ⟨hs1, hs2⟩ := shwKv_split kvs (by simpa [shw] using hs)
    obtain ⟨b1, hb1, k1⟩ := reprAllK_of (prog := prog) (w := w) nd h4 hs1 (hsm.sub fun _ m => List.mem_cons_of_mem _ (List.mem_append_left _ m)) (fun t ht => let ⟨p, hp, hl⟩ := PyData.shownKv_key_le kvs t ht; Nat.le_trans hl (Nat.le_trans (dictText_mem_le hp) hz'))
    obtain ⟨b2, hb2, k2⟩ := reprAllK_of (prog := prog) (w := w) nd h5 hs2 (hsm.sub fun _ m => List.mem_cons_of_mem _ (List.mem_append_right _ m)) (fun t ht => let ⟨p, hp, hl⟩ := PyData.shownKv_val_le kvs t ht; Nat.le_trans hl (Nat.le_trans (dictText_mem_le hp) hz'))
    have hb : ReadAtMost h₀ (PyData.depthKv kvs) (b1 ++ b2) := (hb1.mono (PyData.depthAll_keys_le kvs)).append (hb2.mono (PyData.depthAll_vals_le kvs))
    have hna : a ∉ b1 ++ b2 := not_mem_of_deeper (.dict h1 h2 h3 h4 h5) (by simp only [PyData.depth]; omega) hb
    have hsys : (a == sysModules) = false := beq_eq_false_iff_ne.mpr fun e => hsm _ (e ▸ h1) h2 (e ▸ List.mem_cons_self ..)
    refine ⟨"dict", "dict.__repr__", F.slot_dict_repr, F.slot_dict_str, F.slot_dict_format, fun s hk0 => ⟨o, hk0 _ _ h1, h2⟩, fun A E s Q hg hu hk0 hQ => ?_⟩
    simp only [PyData.depth] at hu
    simp only [PyData.shown, PyData.shownKv_eq] at hQ
    exact call_dict_reprK h1 h2 h3 hsys hna (ReprEntriesK.of_two es.toList _ _
      (k1.more_le (fun b hb => List.mem_append_left _ hb) (PyData.depthAll_keys_le kvs)) (k2.more_le (fun b hb => List.mem_append_right _ hb) (PyData.depthAll_vals_le kvs))) hg (fun b _ => Clear.nil b) hu hk0 hQ (by rw [← PyData.shownKv_eq]; exact hz')
theorem repr_of_readsB (nd : NoDig h₀) {a : Addr} {d : D} {as : List Addr} {A : Around} {E : Value → Shared → Prop} {s : Shared} {Q : Value → Shared → Prop} (r : Reads h₀ (.ref a) d as) (hs : shw d = true) (hsm : NoSys h₀ as) (hg : A.guards = some []) (hu : A.units + (d.depth + 1) < cLine) (hk0 : ∀ b o, h₀.get? b = some o → s.heap.get? b = some o)
    (hQ : ∀ h' u tk, (∀ b o, s.heap.get? b = some o → h'.get? b = some o) → Q (.str d.shown u) { s with heap := h', toks := tk }) (hsz : d.shown.length ≤ sizeLine) : wpAny (model prog w) A (call (.builtin "repr") [.ref a]) Q E s := by
  obtain ⟨T, idr, S⟩ := showsByB (prog := prog) (w := w) nd r hs hsm hsz
  exact call_repr_slot (by omega) (S.typeIs s hk0) S.slotRepr (S.call A.in1 E s _ hg (by show A.units + 1 + d.depth < cLine; omega) hk0 fun h' u tk hk => ⟨_, _, rfl, hQ h' u tk hk⟩)
end
section
variable {prog : Program} {w : World} {A : Around} {E : Value → Shared → Prop} {s : Shared}
theorem object_str_intB {a : Int} {t : Tok} {Q : Value → Shared → Prop} (hd : NoDig s.heap) (ha : a.natAbs.log2 < 12900) (h : Q (.str (toString a) s.toks) { s with toks := s.toks + 1 }) : wpAny (model prog w) A (call (.builtin "object.__str__") [.int a t]) Q E s := by
  have hv : [Value.int a t].any Value.onHeap = false := rfl
  refine wpAny_call_entry F.slot_int_str (typeIs_int s a t) F.entry_object_str ?_ (args_object_str _)
  unfold Builtin.«object.__str__»
  refine wpAny_bind (m := slotArgs "__str__" 0 _) (wpAny_pure ?_)
  simp only [cRoomFor, hv, Bool.false_eq_true, if_false, pure_bind]
  refine wpAny_bind (m := callSpecialIfBound? (.int a t) (Str.ofString "__repr__")) (wpAny_callSpecialIfBound?_slot (name := Str.ofString "__repr__") (typeIs_int s a t) F.slot_int_repr (call_givesAt F.slot_int_repr (typeIs_int s a t) F.entry_int_repr (F.args_int_repr_1 _) (gives_int_reprB a t ha) hd ⟨int_fitsB ha, ?_⟩))
  exact wpAny_pure ⟨_, rfl, h⟩
theorem str_of_intB {a : Int} {t : Tok} {Q : Value → Shared → Prop} (hd : NoDig s.heap) (ha : a.natAbs.log2 < 12900) (h : Q (.str (toString a) s.toks) { s with toks := s.toks + 1 }) : wpAny (model prog w) A (call (.type "str") [.int a t]) Q E s :=
  callType_new F.called_str (by decide) (F.typeCall_str_1 _) (F.newCall_str_1 _) (fun obj => F.args_object_init_2 obj _) F.entry_str_new
    (meets_str_new (S := fun _ R s => NoDig s.heap ∧ R (.ok (.ret (.str (toString a) s.toks))) { s with toks := s.toks + 1 }) fun prog w A R s hq => by
      have hv : [Value.int a t].any Value.onHeap = false := rfl
      unfold Builtin.Str.strOf
      rw [show Builtin.Str.isExactStr (.int a t) = false from rfl]
      simp only [cRoomFor, hv, Bool.false_eq_true, if_false, pure_bind]
      refine wpAny_bind (m := callSpecial? (.int a t) (Str.ofString "__str__")) (wpAny_callSpecial?_slot (name := Str.ofString "__str__") (typeIs_int s a t) F.slot_int_str (object_str_intB hq.1 ha ?_))
      exact wpAny_pure hq.2) ⟨hd, typeIs_str _ _ _, h⟩
theorem str_of_readsB {h₀ : Heap} (nd : NoDig h₀) {a : Addr} {d : D} {as : List Addr} {Q : Value → Shared → Prop} (r : Reads h₀ (.ref a) d as) (hs : shw d = true) (hsm : NoSys h₀ as) (hg : A.guards = some []) (hu : A.units + (d.depth + 3) < cLine) (hk0 : ∀ b o, h₀.get? b = some o → s.heap.get? b = some o)
    (hQ : ∀ h' u tk, (∀ b o, s.heap.get? b = some o → h'.get? b = some o) → Q (.str d.shown u) { s with heap := h', toks := tk }) (hsz : d.shown.length ≤ sizeLine) : wpAny (model prog w) A (call (.type "str") [.ref a]) Q E s :=
  callType_new F.called_str (by decide) (F.typeCall_str_1 _) (F.newCall_str_1 _) (fun obj => F.args_object_init_2 obj _) F.entry_str_new
    (meets_str_new (S := fun A' R s' => A'.guards = some [] ∧ A'.units + (d.depth + 2) < cLine ∧ (∀ b o, h₀.get? b = some o → s'.heap.get? b = some o) ∧
        ∀ h' u tk, (∀ b o, s'.heap.get? b = some o → h'.get? b = some o) → R (.ok (.ret (.str d.shown u))) { s' with heap := h', toks := tk })
      fun prog' w' A' R s' h => by
        obtain ⟨T, idr, S⟩ := showsByB (prog := prog') (w := w') nd r hs hsm hsz
        exact wpAny_strOf_slot rfl (by show A'.units + 1 + 1 < cLine; have := h.2.1; omega) (S.typeIs s' h.2.2.1) S.slotStr S.slotRepr (S.call A'.in1.in1 _ s' _ h.1 (by show A'.units + 1 + 1 + d.depth < cLine; have := h.2.1; omega) h.2.2.1 fun h' u tk hk => ⟨_, _, rfl, h.2.2.2 h' u tk hk⟩))
    ⟨hg, by show A.units + 1 + (d.depth + 2) < cLine; omega, hk0, fun h' u tk hk => ⟨typeIs_str _ _ _, hQ h' u tk hk⟩⟩
end
/-! ### data with dicts, read off the heap -/
section
variable {X : Cx} {pins : List (Addr × Obj)} {σ : L2.St} {H : Hp} {s : Shared}
theorem key_reads {k : Key} {v : Value} {h : Heap} (e : keyIs k v = true) : ∃ as, Reads h v (keyD k) as ∧ as = [] := by
  rcases keyIs_shape e with ⟨i, t, rfl, rfl⟩ | ⟨x, t, rfl, rfl⟩
  · exact ⟨_, Reads.int i t, rfl⟩
  · exact ⟨_, Reads.str x t, rfl⟩
theorem pairs_keys {P : Program} {w : World} {h : Heap} {es : List DictEntry} {kvs : List (Key × Value)} (p : Pairs (mixKind P w) es kvs) : ∃ as, ReadsAll h (es.map (·.key)) (kvs.map fun q => keyD q.1) as ∧ as = [] := by
  induction p with
  | nil => exact ⟨_, ReadsAll.nil, rfl⟩
  | cons h1 h2 _ ih =>
    obtain ⟨as, q1, rfl⟩ := ih
    obtain ⟨bs, q2, rfl⟩ := key_reads (h := h) h1
    exact ⟨_, ReadsAll.cons q2 q1, rfl⟩
theorem pairs_vals {P : Program} {w : World} {es : List DictEntry} {kvs : List (Key × Value)} (p : Pairs (mixKind P w) es kvs) : es.map (·.val) = kvs.map (·.2) := by
  induction p with
  | nil => rfl
  | cons h1 h2 _ ih => rw [List.map_cons, List.map_cons, h2, ih]
theorem kv_split : ∀ {ks : List Key} {xs : List V} {vs : List (Key × Value)}, ks.length = xs.length → KV (ks.zip xs) vs → (vs.map fun q => keyD q.1) = ks.map keyD ∧ Vals xs (vs.map (·.2))
  | [], [], _, _, h => by cases h; exact ⟨rfl, .nil⟩
  | k :: ks, x :: xs, _, l, h => by
    cases h with
    | cons h1 h2 =>
      obtain ⟨e1, e2⟩ := kv_split (by simpa using l) h2
      refine ⟨?_, .cons h1.2 e2⟩
      rw [List.map_cons, List.map_cons, e1, ← h1.1]
  | [], _ :: _, _, l, _ => by simp at l
  | _ :: _, [], _, l, _ => by simp at l
theorem zip_two {α β : Type} : ∀ {a : List α} {b : List β}, a.length = b.length → (a.zip b).map (·.1) = a ∧ (a.zip b).map (·.2) = b
  | [], [], _ => ⟨rfl, rfl⟩
  | x :: a, y :: b, l => by
    obtain ⟨h1, h2⟩ := zip_two (a := a) (b := b) (by simpa using l)
    exact ⟨by simp [h1], by simp [h2]⟩
  | [], _ :: _, l => by simp at l
  | _ :: _, [], l => by simp at l
mutual
theorem Rp.readsB (I : Inv X pins σ H s) : ∀ {v : V} {d : D}, Rp X.K H v d → ∀ u : Value, RelV v u → ∃ as, Reads s.heap u d as ∧ NoSys s.heap as
  | _, _, .non, u, r => by cases r; exact ⟨_, Reads.none, fun _ _ _ m => nomatch m⟩
  | _, _, .bl b, u, r => by cases r; exact ⟨_, Reads.bool b, fun _ _ _ m => nomatch m⟩
  | _, _, .int i, u, r => by obtain ⟨t, rfl⟩ := r; exact ⟨_, Reads.int i t, fun _ _ _ m => nomatch m⟩
  | _, _, .str x, u, r => by obtain ⟨t, rfl⟩ := r; exact ⟨_, Reads.str x t, fun _ _ _ m => nomatch m⟩
  | _, _, .lst (ds := ds) hs ha, u, r => by
    cases r
    obtain ⟨its, rv, ⟨o, n', ho, hc, _, hd⟩, _⟩ := I.list hs
    obtain ⟨as, hr, ns⟩ := Rps.readsB I ha its rv
    refine ⟨_, Reads.list ho hc hd hr, fun o' e c m => ?_⟩
    rcases List.mem_cons.mp m with z | z
    · rw [z, ho] at e
      cases e
      rw [hc] at c
      exact absurd c (by decide)
    · exact ns o' e c z
  | _, _, .tup (ds := ds) hs ha, u, r => by
    cases r
    obtain ⟨its, rv, ⟨o, ho, hc, n', hd⟩, _⟩ := I.tuple hs
    obtain ⟨as, hr, ns⟩ := Rps.readsB I ha its rv
    exact ⟨_, Reads.tuple ho hc hd hr, ns⟩
  | _, _, .dct (ks := ks) (xs := xs) (ds := ds) ha hl hr, u, r => by
    cases r
    obtain ⟨z, sm, vs, rel, o, es, ep, ho, ex, hd, _, pr, _⟩ := dk_of I.hok ha
    obtain ⟨e1, rv⟩ := kv_split hl rel
    obtain ⟨as, hk, rfl⟩ := pairs_keys (h := s.heap) pr
    have hl2 : (ks.map keyD).length = ds.length := by rw [List.length_map, hl, hr.len]
    obtain ⟨z1, z2⟩ := zip_two hl2
    obtain ⟨bs, hv, ns⟩ := Rps.readsB I hr _ rv
    refine ⟨_, Reads.dict ho ex.1 hd (by rw [z1, ← e1]; exact hk) (by rw [z2, pairs_vals pr]; exact hv), fun o' e c m => ?_⟩
    rcases List.mem_cons.mp m with z | z
    · rw [z] at sm
      simp at sm
    · exact ns o' e c (by simpa using z)
  | _, _, .dcb (a := a) (b := b) (c := c) ha hφ, u, r => by
    cases r
    obtain ⟨hp, _, _⟩ := I.hok _ _ ha
    obtain ⟨P, w, z, o, es, ep, ho, ex, hd, _, pr, _⟩ := hφ _ hp
    obtain ⟨e1, e2⟩ := pairs_b pr
    have sm : (a == sysModules) = false := z
    refine ⟨_, Reads.dict ho ex.1 hd (by rw [e1]; exact ReadsAll.cons (Reads.bool b) ReadsAll.nil) (by rw [e2]; exact ReadsAll.cons (Reads.bool c) ReadsAll.nil), fun o' e c m => ?_⟩
    rcases List.mem_cons.mp m with z | z
    · rw [z] at sm
      simp at sm
    · exact absurd z (by simp)
theorem Rps.readsB (I : Inv X pins σ H s) : ∀ {vs : List V} {ds : List D}, Rps X.K H vs ds → ∀ us : List Value, Vals vs us → ∃ as, ReadsAll s.heap us ds as ∧ NoSys s.heap as
  | _, _, .nil, us, r => by cases r; exact ⟨_, ReadsAll.nil, fun _ _ _ m => nomatch m⟩
  | _, _, .cons h1 h2, us, r => by
    cases r with
    | cons r1 r2 =>
      obtain ⟨as, q1, n1⟩ := Rp.readsB I h1 _ r1
      obtain ⟨bs, q2, n2⟩ := Rps.readsB I h2 _ r2
      refine ⟨_, ReadsAll.cons q1 q2, fun o e c m => ?_⟩
      rcases List.mem_append.mp m with z | z
      · exact n1 o e c z
      · exact n2 o e c z
end
end
end M

set_option Elab.async false
set_option linter.all false
set_option maxRecDepth 100000
set_option maxHeartbeats 4000000
/-! M: sorted of a tuple of ints -/
namespace M
open PySem PySem.Spec PyProof.Rows L2
section
variable {prog : Program} {w : World} {A : Around} {E : Value → Shared → Prop} {s : Shared}
theorem collect_tup {l : Addr} {vs : List Value} {Q : List Value → Shared → Prop} (hl : ∃ o, s.heap.get? l = some o ∧ o.cls = .type "tuple" ∧ ∃ n, o.data = .seq vs.toArray n)
    (h : Q vs { s with heap := (s.heap.push (seqObj "list" #[] 0)).update s.heap.objs.size (Obj.mapSeq (· ++ vs.toArray)) }) (hsz : vs.length ≤ sizeLine) :
    wpAny (model prog w) A (collect (.ref l)) Q E s := by
  obtain ⟨o, ho, hc, n, hd⟩ := id hl
  unfold collect
  refine wpAny_bind (wpAny_runValue (codeAny_builtin entry_proto_collect' ?_))
  show wpAny _ _ (do again (.builtin "list.__iadd__" ⟨[← newList [], .ref l], []⟩)) _ _ s
  refine wpAny_bind (wpAny_newList (wpAny_pure ⟨Code.quiet_builtin _ (by decide +kernel), codeAny_builtin entry_list_iadd' ?_⟩))
  show wpAny _ _ (Builtin.List.listExtendWith (.ref s.heap.objs.size) (.ref l) (.ref s.heap.objs.size)) _ _ { s with heap := s.heap.push (seqObj "list" #[] 0) }
  unfold Builtin.List.listExtendWith
  have ho' : (s.heap.push (seqObj "list" #[] 0)).get? l = some o := Heap.get?_push_of_some _ ho
  refine wpAny_bind (wpAny_typeOf (T := "tuple") ⟨o, ho', hc⟩ ?_)
  have ht : (Value.type "tuple" == Value.type "tuple") = true := by rfl
  rw [if_pos (by rw [ht]; simp)]
  refine wpAny_bind (listItems_at ho' hd ?_)
  refine wpAny_bind (listItems_at (xs := #[]) (n := 0) (Heap.get?_push_size _ rfl) rfl ?_)
  rw [if_neg (by simp)]
  refine wpAny_bind (listUpdate_at (xs := #[]) (n := 0) (Heap.get?_push_size _ rfl) rfl ?_ (Nat.zero_le _) (by show (#[] ++ vs.toArray).size ≤ sizeLine + 1; simp only [Array.size_append, List.size_toArray, List.length_nil]; omega))
  refine wpAny_pure ?_
  show wpAny (model prog w) A (do
      let o ← load s.heap.objs.size
      match o.data with
      | .seq xs _ => pure xs.toList
      | _ => unsupported "internal:collect") Q E { s with heap := (s.heap.push (seqObj "list" #[] 0)).update s.heap.objs.size (Obj.mapSeq (· ++ vs.toArray)) }
  refine wpAny_bind (wpAny_load (get?_update_seq (Heap.get?_push_size _ rfl) _) ?_)
  show wpAny _ _ (pure ((#[] : Array Value) ++ vs.toArray).toList) Q E _
  rw [show ((#[] : Array Value) ++ vs.toArray).toList = vs by simp]
  exact wpAny_pure h
theorem sorted_intsT {l : Addr} {vs : List Value} {ns : List Int} {Q : Value → Shared → Prop} (hl : ∃ o, s.heap.get? l = some o ∧ o.cls = .type "tuple" ∧ ∃ n, o.data = .seq vs.toArray n) (hI : IntsAre vs ns) (hz : vs.length ≤ sizeLine)
    (h : ∀ (out : Array Value) (ns' : List Int), IntsAre out.toList ns' → ns'.Perm ns → ns'.Pairwise (· ≤ ·) → Q (.ref (s.heap.objs.size + 1)) { s with heap := sortedAll s.heap vs out }) :
    wpAny (model prog w) A (call (.builtin "sorted") [.ref l]) Q E s := by
  refine Calls.call_function_entry kind_sorted plain_sorted entry_sorted (args_sorted1 _) ?_
  unfold Builtin.«sorted»
  refine wpAny_bind (m := checkCount "sorted" 1 1 _) (wpAny_pure ?_)
  refine wpAny_bind (collect_tup hl ?_ hz)
  refine wpAny_bind (wpAny_newList ?_ hz)
  have hsz : ((s.heap.push (seqObj "list" #[] 0)).update s.heap.objs.size (Obj.mapSeq (· ++ vs.toArray))).objs.size = s.heap.objs.size + 1 := by
    rw [Heap.size_update, size_push']
  have hoL : (((s.heap.push (seqObj "list" #[] 0)).update s.heap.objs.size (Obj.mapSeq (· ++ vs.toArray))).push (seqObj "list" vs.toArray 0)).get? (s.heap.objs.size + 1) = some (seqObj "list" vs.toArray 0) := by
    rw [← hsz]; exact Heap.get?_push_size _ rfl
  show wpAny _ _ _ _ _ { s with heap := ((s.heap.push (seqObj "list" #[] 0)).update s.heap.objs.size (Obj.mapSeq (· ++ vs.toArray))).push (seqObj "list" vs.toArray 0) }
  rw [hsz]
  refine wpAny_bind (wpAny_holding (wpAny_call_entry slot_list_sort ⟨_, hoL, rfl⟩ entry_list_sort (SrtO.list_sort_ord SrtO.swo_int hoL hz (fun h2 => SrtO.ints_sortable hI h2) fun out hs hb => ⟨_, rfl, ?_⟩) (args_list_sort _)))
  obtain ⟨k1, k2, k3⟩ := SrtO.ints_out hI hs hb
  exact wpAny_pure ⟨_, rfl, h out.toArray _ k1 k2 k3⟩
end
section
variable {X : Cx}
def rSortedM (K : PySem.W.Frag) : List V → Hp → VK → Prop := fun vs H Q => ∃ (a : Addr) (ns : List Int), vs = [V.ref a] ∧ (SqL K H a (ns.map V.int) ∨ SqT K H a (ns.map V.int)) ∧
  ∀ (ns' : List Int) (p : Addr), ns'.Perm ns → ns'.Pairwise (· ≤ ·) → H p = none → Q (.ref p) (upd H p (.lst (ns'.map V.int)))
theorem cr_sortedT : CallR X (.builtin "sorted") (fun vs H Q => ∃ (a : Addr) (ns : List Int), vs = [V.ref a] ∧ SqT X.K H a (ns.map V.int) ∧
  ∀ (ns' : List Int) (p : Addr), ns'.Perm ns → ns'.Pairwise (· ≤ ·) → H p = none → Q (.ref p) (upd H p (.lst (ns'.map V.int)))) := by
  intro pins s σ H vs us Q I r h
  obtain ⟨a, ns, rfl, hs, q⟩ := h
  obtain ⟨its, rv, hl, hz⟩ := I.tuple hs
  rw [Vals.ref1 r]
  have hi := rv.ints
  refine sorted_intsT hl hi (by rw [hi.length]; simpa using hz) fun out ns' h1 h2 h3 => ?_
  obtain ⟨ep, he'⟩ := PyProof.Rows.sortedAll_at s.heap its out
  have hlen : (ns'.map V.int).length ≤ sizeLine := by rw [List.length_map, h2.length_eq]; simpa using hz
  exact ⟨.ref _, upd H (s.heap.objs.size + 1) (.lst (ns'.map V.int)), I.laid (t' := s.toks) (fun _ _ => PyProof.Rows.sortedAll_old) (Nat.le_succ _) ⟨hlen, out.toList, ep, vals_of_ints h1, he'⟩, rfl, q ns' _ h2 h3 (I.hok.fresh (Nat.le_succ _))⟩
theorem cr_sortedM : CallR X (.builtin "sorted") (rSortedM X.K) := by
  have c := CallR.or (X := X) cr_sortedI cr_sortedT
  intro pins s σ H vs us Q I r h
  obtain ⟨a, ns, h1, h2, h4⟩ := h
  exact c _ _ _ _ _ _ _ I r (h2.elim (fun h => .inl ⟨a, ns, h1, h, h4⟩) fun h => .inr ⟨a, ns, h1, h, h4⟩)
end
end M

set_option Elab.async false
set_option linter.all false
set_option maxRecDepth 100000
set_option maxHeartbeats 4000000
/-! M: sorted of a list of rows of ints -/
namespace M
open PySem PySem.Spec PyProof.Rows L2
/-! ### their order -/
theorem lexF_nil (f : Bool) (ys : List Int) : lexF f [] ys = f := by cases ys <;> rfl
theorem lexI_nil (ys : List Int) : lexI [] ys = decide (0 < ys.length) := by cases ys <;> rfl
theorem lexI_cons (x y : Int) (xs ys : List Int) : lexI (x :: xs) (y :: ys) = if x = y then lexI xs ys else decide (x < y) := by
  show (if x = y then lexF (decide ((x :: xs).length < (y :: ys).length)) xs ys else decide (x < y)) = _
  have e : decide ((x :: xs).length < (y :: ys).length) = decide (xs.length < ys.length) := by
    rw [decide_eq_decide, List.length_cons, List.length_cons]; omega
  rw [e]; rfl
theorem lexI_asym : ∀ (x y : List Int), lexI x y = true → lexI y x = false
  | [], [], h => by cases h
  | [], y :: ys, _ => rfl
  | x :: xs, [], h => by cases h
  | x :: xs, y :: ys, h => by
    rw [lexI_cons] at h ⊢
    by_cases e : x = y
    · rw [if_pos e] at h
      rw [if_pos e.symm]; exact lexI_asym xs ys h
    · rw [if_neg e] at h
      rw [if_neg (fun z => e z.symm)]
      have := of_decide_eq_true h
      exact decide_eq_false (by omega)
theorem lexI_tr : ∀ (x y z : List Int), lexI y x = false → lexI z y = false → lexI z x = false
  | [], _, z, _, _ => by cases z <;> rfl
  | x :: xs, [], z, h1, _ => by rw [lexI_nil] at h1; exact absurd h1 (by simp)
  | x :: xs, y :: ys, [], _, h2 => by rw [lexI_nil] at h2; exact absurd h2 (by simp)
  | x :: xs, y :: ys, z :: zs, h1, h2 => by
    rw [lexI_cons] at h1 h2 ⊢
    by_cases e1 : y = x
    · by_cases e2 : z = y
      · rw [if_pos e1] at h1
        rw [if_pos e2] at h2
        rw [if_pos (e2.trans e1)]
        exact lexI_tr xs ys zs h1 h2
      · rw [if_neg e2] at h2
        rw [if_neg (fun q => e2 (q.trans e1.symm))]
        have := of_decide_eq_false h2
        exact decide_eq_false (by omega)
    · rw [if_neg e1] at h1
      have l1 := of_decide_eq_false h1
      by_cases e2 : z = y
      · rw [if_neg (fun q => e1 (e2.symm.trans q))]
        exact decide_eq_false (by omega)
      · rw [if_neg e2] at h2
        have l2 := of_decide_eq_false h2
        rw [if_neg (by omega)]
        exact decide_eq_false (by omega)
theorem lexI_anti : ∀ (x y : List Int), lexI x y = false → lexI y x = false → x = y
  | [], [], _, _ => rfl
  | [], y :: ys, h, _ => by rw [lexI_nil] at h; exact absurd h (by simp)
  | x :: xs, [], _, h => by rw [lexI_nil] at h; exact absurd h (by simp)
  | x :: xs, y :: ys, h1, h2 => by
    rw [lexI_cons] at h1 h2
    by_cases e : x = y
    · rw [if_pos e] at h1
      rw [if_pos e.symm] at h2
      rw [e, lexI_anti xs ys h1 h2]
    · rw [if_neg e] at h1
      rw [if_neg (fun z => e z.symm)] at h2
      have := of_decide_eq_false h1
      have := of_decide_eq_false h2
      omega
theorem swo_lexI : SrtO.Swo lexI := ⟨lexI_asym, lexI_tr⟩
abbrev SrtdR (l : List (List Int)) : Prop := SrtO.Srtd lexI l
theorem insR_perm (x : List Int) : ∀ l : List (List Int), (insR x l).Perm (x :: l)
  | [] => .refl _
  | y :: l => by
    unfold insR
    split
    · exact ((insR_perm x l).cons y).trans (.swap x y l)
    · exact .refl _
theorem sortR_perm : ∀ ns : List (List Int), (sortR ns).Perm ns
  | [] => .refl _
  | x :: l => (insR_perm x (sortR l)).trans ((sortR_perm l).cons x)
theorem insR_pw (x : List Int) : ∀ {l : List (List Int)}, SrtdR l → SrtdR (insR x l)
  | [], _ => List.pairwise_singleton _ _
  | y :: l, h => by
    have h' := List.pairwise_cons.mp h
    unfold insR
    split
    · rename_i z
      refine List.pairwise_cons.mpr ⟨fun a ha => ?_, insR_pw x h'.2⟩
      rcases List.mem_cons.mp ((insR_perm x l).mem_iff.mp ha) with e | ha
      · rw [e]; exact lexI_asym _ _ z
      · exact h'.1 a ha
    · rename_i z
      have z : lexI y x = false := by simpa using z
      refine List.pairwise_cons.mpr ⟨fun a ha => ?_, h⟩
      rcases List.mem_cons.mp ha with e | ha
      · rw [e]; exact z
      · exact lexI_tr x y a z (h'.1 a ha)
theorem sortR_pw : ∀ ns : List (List Int), SrtdR (sortR ns)
  | [] => .nil
  | x :: l => insR_pw x (sortR_pw l)
theorem perm_oneR : ∀ a b : List (List Int), a.Perm b → SrtdR a → SrtdR b → a = b
  | [], b, h, _, _ => by rw [List.nil_perm.mp h]
  | x :: r, [], h, _, _ => by have := h.length_eq; simp at this
  | x :: r, y :: t, h, ha, hb => by
    have hx : x ∈ y :: t := h.mem_iff.mp List.mem_cons_self
    have hy : y ∈ x :: r := h.mem_iff.mpr List.mem_cons_self
    have h1 : lexI y x = false := by
      rcases List.mem_cons.mp hy with e | m
      · rw [e]; exact swo_lexI.refl x
      · exact (List.pairwise_cons.mp ha).1 y m
    have h2 : lexI x y = false := by
      rcases List.mem_cons.mp hx with e | m
      · rw [e]; exact swo_lexI.refl y
      · exact (List.pairwise_cons.mp hb).1 x m
    have e : x = y := lexI_anti x y h2 h1
    subst e
    rw [perm_oneR r t h.cons_inv (List.pairwise_cons.mp ha).2 (List.pairwise_cons.mp hb).2]
theorem sortR_one {a b : List (List Int)} (h : a.Perm b) (ha : SrtdR a) : a = sortR b := perm_oneR _ _ (h.trans (sortR_perm b).symm) ha (sortR_pw b)
/-! ### on the heap -/
def IsRow (h : Heap) (v : Value) (ns : List Int) : Prop := ∃ a o its n, v = .ref a ∧ h.get? a = some o ∧ o.cls = .type "tuple" ∧ o.data = .seq its n ∧ IntsAre its.toList ns
theorem IsRow.keeps {h h' : Heap} {v : Value} {ns : List Int} (p : IsRow h v ns) (k : ∀ b o, h.get? b = some o → o.cls = .type "tuple" → h'.get? b = some o) : IsRow h' v ns := by
  obtain ⟨a, o, its, n, e, ho, hc, hd, hi⟩ := p
  exact ⟨a, o, its, n, e, k a o ho hc, hc, hd, hi⟩
section
variable {prog : Program} {w : World} {A : Around} {E : Value → Shared → Prop} {s : Shared}
theorem kat_rows {fin : Bool} {Q : Bool → Shared → Prop} : ∀ {xs ys : List Value} {ns ms : List Int} (i : Nat), IntsAre xs ns → IntsAre ys ms → Q (lexF fin ns ms) s → PySem.W.KatLex prog w A true fin Q (xs.zip ys) i s
  | _, _, _, _, i, .nil, _, h => by rw [List.zip_nil_left]; rw [lexF_nil] at h; exact PySem.W.kat_nil h
  | _, _, _, _, i, .cons x t rx, .nil, h => by rw [List.zip_nil_right]; exact PySem.W.kat_nil h
  | _, _, _, _, i, .cons x t rx, .cons y u ry, h => by
    rw [List.zip_cons_cons]
    refine PySem.W.kat_cons (SeqAt.EqAt.int_int x t y u prog w _ _ ?_)
    refine PySem.W.kat_go (fun e1 => ?_) (fun e1 => ?_)
    · have ex : x = y := by simpa using e1
      rw [lexF, if_pos ex] at h
      exact PySem.W.kat_yes (kat_rows (i + 1) rx ry h)
    · have ex : ¬ x = y := by simpa using e1
      rw [lexF, if_neg ex] at h
      exact PySem.W.kat_no (TS.oneLt_ints _ h)
theorem row_cmp {vs : List Value} {k : Value → List Int} (hp : ∀ v ∈ vs, IsRow s.heap v (k v)) : SrtO.Cmp prog w A s (tuples' true) (fun p => p.1 ∈ vs) (SrtO.lt2 fun v u => lexI (k v) (k u)) := by
  intro p q hm hm'
  have h1 := hp _ hm
  have h2 := hp _ hm'
  show wpAny (model prog w) A (keyLt' (tuples' true) p.1 q.1) (fun r s' => s' = s ∧ r = lexI (k p.1) (k q.1)) (fun _ _ => False) s
  generalize k p.1 = x at h1 ⊢
  generalize k q.1 = x' at h2 ⊢
  obtain ⟨a, o, its, n, e, ho, hc, hd, hi⟩ := h1
  obtain ⟨a', o', its', n', e', ho', hc', hd', hi'⟩ := h2
  rw [e, e']
  refine PySem.W.kat_lt ho hd ho' hd' (kat_rows 0 hi hi' ⟨rfl, ?_⟩)
  unfold lexI
  have l1 : its.size = x.length := hi.length
  have l2 : its'.size = x'.length := hi'.length
  rw [l1, l2]
theorem firsts_rows {h : Heap} : ∀ {vs : List Value}, (∀ v ∈ vs, ∃ x xs, IsRow h v (x :: xs)) → ∃ fs : List Value, PySem.W.KatTups h vs fs ∧ fs.length = vs.length ∧ ∀ f ∈ fs, ∃ x t, f = Value.int x t
  | [], _ => ⟨[], PySem.W.KatTups.nil, rfl, fun _ hm => by simp at hm⟩
  | v :: vs, hp => by
    obtain ⟨fs, h1, h2, h3⟩ := firsts_rows (vs := vs) fun v' hm => hp v' (List.mem_cons_of_mem _ hm)
    obtain ⟨x, xs, a, o, ⟨its⟩, n, e, ho, hc, hd, hi⟩ := hp v (List.mem_cons_self ..)
    subst e
    cases hi with
    | @cons _ t vs' ns' hi =>
    refine ⟨.int x t :: fs, PySem.W.KatTups.cons ho hc hd rfl h1, by rw [List.length_cons, List.length_cons, h2], fun f hm => ?_⟩
    rcases List.mem_cons.mp hm with rfl | hm
    · exact ⟨x, t, rfl⟩
    · exact h3 f hm
theorem rows_sortableO {a : Addr} {vs : List Value} {k : Value → List Int} (h0 : 0 < vs.length) (hp : ∀ v ∈ vs, IsRow s.heap v (k v)) (hne : ∀ v ∈ vs, k v ≠ []) (ha : ∀ o, s.heap.get? a = some o → o.cls ≠ .type "tuple") : SrtO.SortableO prog w A s a vs fun v u => lexI (k v) (k u) := by
  intro h' keep
  have hp' : ∀ v ∈ vs, IsRow h' v (k v) := fun v hm => (hp v hm).keeps fun b o e c => keep b o (fun z => by subst z; exact ha o e c) e
  obtain ⟨fs, h1, h2, h3⟩ := firsts_rows fun v hm => by
    have := hp' v hm
    cases e : k v with
    | nil => exact absurd e (hne v hm)
    | cons x xs => rw [e] at this; exact ⟨x, xs, this⟩
  refine ⟨tuples' true, fun Q E hq => ?_, row_cmp hp'⟩
  refine PySem.W.kat_kind (T := .type "int") h1 (by omega) (fun f hm => ?_) (by rfl) ?_
  · obtain ⟨x, t, rfl⟩ := h3 f hm
    exact PySem.W.Looks.now
  · have e : (Value.type "int" != Value.type "tuple") = true := by first | decide +kernel | rfl | decide
    rw [e]
    exact hq
end
/-- a tuple's ints, off the heap -/
def kH (h : Heap) : Value → List Int
  | .ref t => match h.get? t with
    | some o => (match o.data with
      | .seq its _ => its.toList.map SrtO.iv
      | _ => [])
    | none => []
  | _ => []
theorem kH_row {h : Heap} {v : Value} {ns : List Int} (p : IsRow h v ns) : kH h v = ns := by
  obtain ⟨a, o, its, n, rfl, ho, hc, hd, hi⟩ := p
  unfold kH
  simp only [ho, hd]
  exact SrtO.iv_ints hi
section
variable {X : Cx}
def rSortedR (K : PySem.W.Frag) : List V → Hp → VK → Prop := fun vs H Q => ∃ (Vi : Hp) (a : Addr) (xs : List V) (rs : List (List Int)), Same Vi H ∧ vs = [V.ref a] ∧ SqL K H a xs ∧ Rps K Vi xs (rs.map tupI) ∧ ((rs.all fun r => !r.isEmpty) = true ∨ rs.length < 2) ∧
  ∀ out p, H p = none → Rps K Vi out ((sortR rs).map tupI) → Q (.ref p) (upd H p (.lst out))
theorem row_of {pins : List (Addr × Obj)} {σ : L2.St} {H Vi : Hp} {s : Shared} {x : V} {u : Value} {r : List Int} (I : Inv X pins σ H s) (sm : Same Vi H) (h : Rp X.K Vi x (tupI r)) (rx : RelV x u) : IsRow s.heap u r ∧ ∃ t, x = .ref t := by
  cases h with
  | tup h1 h2 =>
    obtain ⟨its, rv, ⟨o, ho, hc, n, hd⟩, _⟩ := I.tuple (sqT_mono sm h1)
    have e := h2.ints (ns := r) (by
      clear h1 h2 rv hd
      induction r with
      | nil => rfl
      | cons a l ih => rw [List.map_cons, ints?, ih]; rfl)
    subst e
    cases rx
    exact ⟨⟨_, o, _, n, rfl, ho, hc, hd, rv.ints⟩, _, rfl⟩
theorem rows_all {pins : List (Addr × Obj)} {σ : L2.St} {H Vi : Hp} {s : Shared} (I : Inv X pins σ H s) (sm : Same Vi H) : ∀ {xs : List V} {us : List Value} {rs : List (List Int)}, Vals xs us → Rps X.K Vi xs (rs.map tupI) →
    us.map (kH s.heap) = rs ∧ (∀ u ∈ us, IsRow s.heap u (kH s.heap u) ∧ Rp X.K Vi (backV u) (tupI (kH s.heap u))) ∧ ∀ x ∈ xs, ∃ t, x = .ref t
  | _, _, [], .nil, .nil => ⟨rfl, fun _ h => absurd h (by simp), fun _ h => absurd h (by simp)⟩
  | x :: _, u :: _, r :: rs, .cons rx rv, .cons h hs => by
    obtain ⟨g1, g2, g3⟩ := rows_all I sm rv hs
    obtain ⟨p, t, rfl⟩ := row_of I sm h rx
    cases rx
    have e := kH_row p
    refine ⟨by rw [List.map_cons, e, g1], fun v hv => ?_, fun x hx => ?_⟩
    · rcases List.mem_cons.mp hv with rfl | hv
      · rw [e]; exact ⟨p, h⟩
      · exact g2 v hv
    · rcases List.mem_cons.mp hx with rfl | hx
      · exact ⟨t, rfl⟩
      · exact g3 x hx
theorem rps_back {K : PySem.W.Frag} {Vi : Hp} {k : Value → List Int} : ∀ {us : List Value}, (∀ u ∈ us, Rp K Vi (backV u) (tupI (k u))) → Rps K Vi (us.map backV) ((us.map k).map tupI)
  | [], _ => .nil
  | u :: us, h => .cons (h u List.mem_cons_self) (rps_back fun v hv => h v (List.mem_cons_of_mem _ hv))
theorem cr_sortedR : CallR X (.builtin "sorted") (rSortedR X.K) := by
  intro pins s σ H vs us Q I r h
  obtain ⟨Vi, a, xs, rs, sm, rfl, hs, hrs, hne, q⟩ := h
  obtain ⟨its, rv, hl, hz⟩ := I.list hs
  rw [Vals.ref1 r]
  obtain ⟨g1, g2, g3⟩ := rows_all I sm rv hrs
  obtain ⟨e1, e2⟩ := refs_back rv g3
  have swo : SrtO.Swo fun v u => lexI (kH s.heap v) (kH s.heap u) := ⟨fun x y => lexI_asym _ _, fun x y z => lexI_tr _ _ _⟩
  refine SrtO.sorted_ord swo hl.isList (by rw [← rv.length]; exact hz) (fun h2 h₁ a' ha kk => ?_) fun out h1 h2 => ?_
  · have hrl : rs.length = its.length := by rw [← g1, List.length_map]
    have hne : (rs.all fun r => !r.isEmpty) = true := hne.resolve_right (by omega)
    refine rows_sortableO (s := { s with heap := h₁ }) (by omega) (fun v hv => ((g2 v hv).1).keeps fun b o e _ => (kk b o e).2) (fun v hv e => ?_) fun o e => ?_
    · have hm : kH s.heap v ∈ rs := by rw [← g1]; exact List.mem_map.mpr ⟨v, hv, rfl⟩
      have := List.all_eq_true.mp hne _ hm
      rw [e] at this
      exact absurd this (by simp)
    · have e' : some o = some (seqObj "list" its.toArray 0) := e.symm.trans ha
      cases e'
      intro c
      exact absurd (Value.type.inj c) (by decide)
  · have h3 : ∀ u ∈ out, ∃ a, u = Value.ref a := fun u hu => e2 u (h2.perm.mem_iff.mp hu)
    obtain ⟨ep, he'⟩ := PyProof.Rows.sortedAll_at s.heap its out.toArray
    have hlen : (out.map backV).length ≤ sizeLine := by
      rw [List.length_map, h2.perm.length_eq, ← rv.length]; exact hz
    have es : out.map (kH s.heap) = sortR rs := sortR_one (by rw [← g1]; exact h2.perm.map _) (SrtO.srtd_map h1)
    refine ⟨.ref _, upd H (s.heap.objs.size + 1) (.lst (out.map backV)), I.laid (t' := s.toks) (fun _ _ => PyProof.Rows.sortedAll_old) (Nat.le_succ _) ⟨hlen, out, ep, vals_back h3, he'⟩, rfl, q _ _ (I.hok.fresh (Nat.le_succ _)) ?_⟩
    rw [← es]
    exact rps_back fun u hu => (g2 u (h2.perm.mem_iff.mp hu)).2
theorem rows_map : ∀ {ds : List D} {rs : List (List Int)}, rows? ds = some rs → ds = rs.map tupI
  | [], rs, h => by cases h; rfl
  | d :: ds, rs, h => by
    cases d with
    | tuple ys =>
      simp only [rows?, Option.bind_eq_some_iff, Option.map_eq_some_iff] at h
      obtain ⟨r, h1, l, h2, rfl⟩ := h
      rw [List.map_cons, ← rows_map h2]
      congr 1
      show PyData.tuple ys = .tuple (r.map .int)
      congr 1
      clear h2
      induction ys generalizing r with
      | nil => cases h1; rfl
      | cons y ys ih =>
        cases y with
        | int i =>
          simp only [ints?, Option.map_eq_some_iff] at h1
          obtain ⟨m, h3, rfl⟩ := h1
          rw [ih m h3]; rfl
        | _ => simp [ints?] at h1
    | _ => simp [rows?] at h
end
end M

set_option Elab.async false
set_option linter.all false
set_option maxRecDepth 100000
set_option maxHeartbeats 4000000
/-! M: built-in functions, kinds, methods -/
namespace M
open PySem PySem.Spec PyProof.Rows L2
inductive PkRs (K : PySem.W.Frag) (Vi H : Hp) : List V → List D → Prop
  | nil : PkRs K Vi H [] []
  | cons {v : V} {d : D} {vs : List V} {ds : List D} : PkR K Vi H v d → PkRs K Vi H vs ds → PkRs K Vi H (v :: vs) (d :: ds)
theorem PkRs.one {K : PySem.W.Frag} {Vi H : Hp} {vs : List V} {d : D} (h : PkRs K Vi H vs [d]) : ∃ v, vs = [v] ∧ PkR K Vi H v d := by
  cases h with | cons a b => cases b; exact ⟨_, rfl, a⟩
theorem PkRs.two {K : PySem.W.Frag} {Vi H : Hp} {vs : List V} {d e : D} (h : PkRs K Vi H vs [d, e]) : ∃ v w, vs = [v, w] ∧ PkR K Vi H v d ∧ PkR K Vi H w e := by
  cases h with | cons a b => cases b with | cons c r => cases r; exact ⟨_, _, rfl, a, c⟩
def rFn (K : PySem.W.Frag) (f : Fn) : List V → Hp → VK → Prop := fun vs H Q => ∃ Vi ds r, Same Vi H ∧ PkRs K Vi H vs ds ∧ fnD f ds = some r ∧ Fin K Vi H r Q
def fnName : Fn → Str
  | .len => "len"
  | .abs => "abs"
  | .max2 => "max"
  | .min2 => "min"
  | .sum => "sum"
  | .tuple => "tuple"
  | .list => "list"
  | .repr => "repr"
  | .str => "str"
  | .int => "int"
  | .all => "all"
  | .any => "any"
  | .sorted => "sorted"
def fnVal : Fn → Value
  | .tuple => .type "tuple"
  | .list => .type "list"
  | .str => .type "str"
  | .int => .type "int"
  | .len => .builtin "len"
  | .abs => .builtin "abs"
  | .max2 => .builtin "max"
  | .min2 => .builtin "min"
  | .sum => .builtin "sum"
  | .repr => .builtin "repr"
  | .all => .builtin "all"
  | .any => .builtin "any"
  | .sorted => .builtin "sorted"
def tyName : Ty → String
  | .int => "int"
  | .bool => "bool"
  | .str => "str"
  | .tuple => "tuple"
  | .list => "list"
  | .dict => "dict"
def dTy : D → String
  | .none => "NoneType"
  | .bool _ => "bool"
  | .int _ => "int"
  | .str _ => "str"
  | .list _ => "list"
  | .tuple _ => "tuple"
  | .dict _ => "dict"
section
variable {X : Cx}
theorem callR_imp {f : Value} {r r' : List V → Hp → VK → Prop} (h : CallR X f r) (i : ∀ xs H Q, r' xs H Q → r xs H Q) : CallR X f r' :=
  fun pins s σ H xs us Q I rs q => h pins s σ H xs us Q I rs (i xs H Q q)
theorem shown_of (d : D) : d.shown = match d with
  | .none => "None"
  | .bool b => (if b then "True" else "False")
  | .int i => toString i
  | .str x => reprText x
  | d => d.shown := by cases d <;> first | rfl | simp only [PyData.shown]
theorem cr_sumM (hc : X.calm = true) : CallR X (.builtin "sum") (fun vs H Q => ∃ (a : Addr) (ns : List Int), vs = [V.ref a] ∧ (SqL X.K H a (ns.map V.int) ∨ SqT X.K H a (ns.map V.int)) ∧ Q (.int ns.sum) H) := by
  intro pins s σ H vs us Q I r h
  obtain ⟨a, ns, rfl, hs, q⟩ := h
  rcases hs with hs | hs
  · exact cr_sum hc pins s σ H _ us Q I r ⟨a, ns, rfl, hs, q⟩
  · obtain ⟨its, rv, hl, _⟩ := I.tuple hs
    rw [Vals.ref1 r]
    have hi := rv.ints
    obtain ⟨xs, e⟩ := hi.allInts.items
    have hn : numsOf (intItems xs).toList = ns := by rw [← e]; exact hi.numsOf
    rw [nums_intItems] at hn
    rw [e] at hl
    refine PySem.W.ktm_sumG (I.ok.hd hc) hl fun h' tk t' hk => ?_
    rw [preSum_eq, List.take_of_length_le (by simp), hn]
    exact ⟨.int _, H, I.kept hk, ⟨_, rfl⟩, q⟩
theorem call_reprM (hg : X.A.guards = some []) (hu : X.A.units + 66 < cLine) (dg : digK X.K) : CallR X (.builtin "repr") (fun xs H Q => ∃ x d, xs = [x] ∧ Rp X.K H x d ∧ shw d = true ∧ d.depth ≤ 64 ∧ d.shown.length ≤ sizeLine ∧ Q (.str d.shown) H) := by
  intro pins s σ H xs us Q I r h
  obtain ⟨x, d, rfl, hx, sh, dp, sz, q⟩ := h
  obtain ⟨u, rfl, rx⟩ := vals1 r
  have nd : NoDig s.heap := ⟨X.K, I.kIn, dg⟩
  obtain ⟨as, hr, ns⟩ := Rp.readsB I hx u rx
  cases hx with
  | non => cases rx; rw [shown_of] at q; exact PySem.P.repr_of_none ⟨.str _, H, I.tok _, ⟨_, rfl⟩, q⟩
  | bl b =>
    cases rx
    rw [shown_of] at q
    refine PySem.P.repr_of_bool ⟨.str _, H, I.tok _, ⟨s.toks, rfl⟩, ?_⟩
    cases b <;> exact q
  | int i =>
    obtain ⟨t, rfl⟩ := rx
    rw [shown_of] at q
    exact repr_of_intB nd (by simpa [shw] using sh) ⟨.str _, H, I.tok _, ⟨_, rfl⟩, q⟩
  | str z =>
    obtain ⟨t, rfl⟩ := rx
    rw [shown_of] at q
    rw [shown_of] at sz
    exact PySem.P.repr_of_str ⟨.str _, H, I.tok _, ⟨_, rfl⟩, q⟩ sz
  | lst h1 h2 =>
    cases rx
    exact repr_of_readsB nd hr sh ns hg (by omega) (fun _ _ e => e) (fun h' u tk hk => ⟨.str _, H, I.kept hk, ⟨_, rfl⟩, q⟩) sz
  | tup h1 h2 =>
    cases rx
    exact repr_of_readsB nd hr sh ns hg (by omega) (fun _ _ e => e) (fun h' u tk hk => ⟨.str _, H, I.kept hk, ⟨_, rfl⟩, q⟩) sz
  | dct h1 h2 h3 =>
    cases rx
    exact repr_of_readsB nd hr sh ns hg (by omega) (fun _ _ e => e) (fun h' u tk hk => ⟨.str _, H, I.kept hk, ⟨_, rfl⟩, q⟩) sz
  | dcb h1 h2 =>
    cases rx
    exact repr_of_readsB nd hr sh ns hg (by omega) (fun _ _ e => e) (fun h' u tk hk => ⟨.str _, H, I.kept hk, ⟨_, rfl⟩, q⟩) sz
theorem call_strM (hg : X.A.guards = some []) (hu : X.A.units + 70 < cLine) (dg : digK X.K) : CallR X (.type "str") (fun xs H Q => ∃ x d, xs = [x] ∧ Rp X.K H x d ∧ ((∃ i, d = .int i ∧ i.natAbs.log2 < 12900 ∧ Q (.str (toString i)) H) ∨ ∃ ys, d = .tuple ys ∧ shw d = true ∧ d.depth ≤ 64 ∧ d.shown.length ≤ sizeLine ∧ Q (.str d.shown) H)) := by
  intro pins s σ H xs us Q I r h
  obtain ⟨x, d, rfl, hx, h⟩ := h
  obtain ⟨u, rfl, rx⟩ := vals1 r
  have nd : NoDig s.heap := ⟨X.K, I.kIn, dg⟩
  obtain ⟨as, hr, ns⟩ := Rp.readsB I hx u rx
  rcases h with ⟨i, rfl, hz, q⟩ | ⟨ys, rfl, sh, dp, sz, q⟩
  · cases hx
    obtain ⟨t, rfl⟩ := rx
    exact str_of_intB nd hz ⟨.str _, H, I.tok _, ⟨_, rfl⟩, q⟩
  · cases hx
    cases rx
    exact str_of_readsB nd hr sh ns hg (by omega) (fun _ _ e => e) (fun h' u tk hk => ⟨.str _, H, I.kept hk, ⟨_, rfl⟩, q⟩) sz
theorem call_strS : CallR X (.type "str") (fun xs H Q => ∃ a, xs = [.str a] ∧ Q (.str a) H) := by
  intro pins s σ H xs us Q I r h
  obtain ⟨a, rfl, q⟩ := h
  obtain ⟨u, rfl, t, rfl⟩ := vals1 r
  exact PySem.P.str_of_str ⟨.str a, H, I, ⟨t, rfl⟩, q⟩
theorem call_strBl : CallR X (.type "str") (fun xs H Q => ∃ a : Bool, xs = [.bl a] ∧ Q (.str (if a then "True" else "False")) H) := by
  intro pins s σ H xs us Q I r h
  obtain ⟨a, rfl, q⟩ := h
  obtain ⟨u, rfl, rfl⟩ := vals1 r
  exact PySem.P.str_of_bool ⟨.str _, H, I.tok _, ⟨_, rfl⟩, q⟩
theorem opFn (hc : X.calm = true) (hg : X.A.guards = some []) (hu : X.A.units + 70 < cLine) (dg : digK X.K) (f : Fn) : CallR X (fnVal f) (rFn X.K f) := by
  cases f with
  | len =>
    refine callR_imp (call_len_seq.or call_len_str) ?_
    rintro xs H Q ⟨Vi, ds, r, s, hx, e, q⟩
    unfold fnD at e
    split at e <;> (try contradiction) <;> (try cases e)
    · obtain ⟨v, rfl, h⟩ := hx.one
      obtain ⟨a, ys, rfl, h1, h2⟩ := h.list s
      exact .inl ⟨a, ys, rfl, .inl h1, by rw [h2.len]; exact q.1 _ (.int _)⟩
    · obtain ⟨v, rfl, h⟩ := hx.one
      obtain ⟨a, ys, rfl, h1, _, h2⟩ := h.tuple s
      exact .inl ⟨a, ys, rfl, .inr h1, by rw [h2.len]; exact q.1 _ (.int _)⟩
    · split at e <;> cases e
      obtain ⟨v, rfl, h⟩ := hx.one
      cases h.str
      exact .inr ⟨_, rfl, by assumption, q.1 _ (.int _)⟩
  | abs =>
    refine callR_imp call_abs ?_
    rintro xs H Q ⟨Vi, ds, r, s, hx, e, q⟩
    unfold fnD at e
    split at e <;> (try contradiction) <;> (try cases e)
    obtain ⟨v, rfl, h⟩ := hx.one
    cases h.int
    exact ⟨_, rfl, q.1 _ (.int _)⟩
  | max2 =>
    refine callR_imp (call_max2 hc) ?_
    rintro xs H Q ⟨Vi, ds, r, s, hx, e, q⟩
    unfold fnD at e
    split at e <;> (try contradiction) <;> (try cases e)
    obtain ⟨v, w, rfl, h, h'⟩ := hx.two
    cases h.int; cases h'.int
    exact ⟨_, _, rfl, q.1 _ (.int _)⟩
  | min2 =>
    refine callR_imp (call_min2 hc) ?_
    rintro xs H Q ⟨Vi, ds, r, s, hx, e, q⟩
    unfold fnD at e
    split at e <;> (try contradiction) <;> (try cases e)
    obtain ⟨v, w, rfl, h, h'⟩ := hx.two
    cases h.int; cases h'.int
    exact ⟨_, _, rfl, q.1 _ (.int _)⟩
  | sum =>
    refine callR_imp (cr_sumM hc) ?_
    rintro xs H Q ⟨Vi, ds, r, s, hx, e, q⟩
    unfold fnD at e
    split at e <;> (try contradiction) <;> (try cases e)
    · obtain ⟨v, rfl, h⟩ := hx.one
      obtain ⟨ns, e1, e2⟩ := Option.map_eq_some_iff.mp e
      subst e2
      obtain ⟨a, ys, rfl, h1, h2⟩ := h.list s
      refine ⟨a, ns, rfl, .inl ?_, q.1 _ (.int _)⟩
      rw [← h2.ints e1]; exact h1
    · obtain ⟨v, rfl, h⟩ := hx.one
      obtain ⟨ns, e1, e2⟩ := Option.map_eq_some_iff.mp e
      subst e2
      obtain ⟨a, ys, rfl, h1, _, h2⟩ := h.tuple s
      refine ⟨a, ns, rfl, .inr ?_, q.1 _ (.int _)⟩
      rw [← h2.ints e1]; exact h1
  | tuple =>
    refine callR_imp call_tuple_of ?_
    rintro xs H Q ⟨Vi, ds, r, s, hx, e, q⟩
    unfold fnD at e
    split at e <;> (try contradiction) <;> (try cases e)
    · obtain ⟨v, rfl, h⟩ := hx.one
      obtain ⟨a, ys, rfl, h1, h2⟩ := h.list s
      exact ⟨a, ys, rfl, .inl ⟨h1, fun l hl => q.2 l _ _ rfl hl h2⟩⟩
    · obtain ⟨v, rfl, h⟩ := hx.one
      obtain ⟨a, ys, rfl, h1, h1', h2⟩ := h.tuple s
      exact ⟨a, ys, rfl, .inr ⟨h1, q.1 _ (.tup h1' h2)⟩⟩
  | list =>
    refine callR_imp call_list_of ?_
    rintro xs H Q ⟨Vi, ds, r, s, hx, e, q⟩
    unfold fnD at e
    split at e <;> (try contradiction) <;> (try cases e)
    · obtain ⟨v, rfl, h⟩ := hx.one
      obtain ⟨a, ys, rfl, h1, h2⟩ := h.list s
      exact ⟨a, ys, rfl, .inl h1, fun l hl => q l _ hl h2⟩
    · obtain ⟨v, rfl, h⟩ := hx.one
      obtain ⟨a, ys, rfl, h1, _, h2⟩ := h.tuple s
      exact ⟨a, ys, rfl, .inr h1, fun l hl => q l _ hl h2⟩
  | repr =>
    refine callR_imp (call_reprM hg (by omega) dg) ?_
    rintro xs H Q ⟨Vi, ds, r, s, hx, e, q⟩
    unfold fnD at e
    split at e <;> (try contradiction) <;> (try cases e)
    split at e <;> (try contradiction) <;> cases e
    rename_i h0
    obtain ⟨v, rfl, h⟩ := hx.one
    exact ⟨v, _, rfl, h.rp s, h0.1, h0.2.1, h0.2.2, q.1 _ (.str _)⟩
  | str =>
    refine callR_imp (((call_strM hg (by omega) dg).or call_strS).or call_strBl) ?_
    rintro xs H Q ⟨Vi, ds, r, s, hx, e, q⟩
    unfold fnD at e
    split at e <;> (try contradiction) <;> (try cases e)
    · split at e <;> (try contradiction) <;> cases e
      obtain ⟨v, rfl, h⟩ := hx.one
      exact .inl (.inl ⟨_, _, rfl, h.rp s, .inl ⟨_, rfl, by assumption, q.1 _ (.str _)⟩⟩)
    · obtain ⟨v, rfl, h⟩ := hx.one
      cases h.str
      exact .inl (.inr ⟨_, rfl, q.1 _ (.str _)⟩)
    · obtain ⟨v, rfl, h⟩ := hx.one
      cases h.bool
      exact .inr ⟨_, rfl, q.1 _ (.str _)⟩
    · split at e <;> (try contradiction) <;> cases e
      rename_i h0
      obtain ⟨v, rfl, h⟩ := hx.one
      exact .inl (.inl ⟨_, _, rfl, h.rp s, .inr ⟨_, rfl, h0.1, h0.2.1, h0.2.2, q.1 _ (.str _)⟩⟩)
  | int =>
    refine callR_imp call_int1 ?_
    rintro xs H Q ⟨Vi, ds, r, s, hx, e, q⟩
    unfold fnD at e
    split at e <;> (try contradiction) <;> (try cases e)
    · obtain ⟨v, rfl, h⟩ := hx.one
      cases h.int
      exact .inl ⟨_, rfl, q.1 _ (.int _)⟩
    · obtain ⟨v, rfl, h⟩ := hx.one
      cases h.bool
      exact .inr ⟨_, rfl, q.1 _ (.int _)⟩
  | all =>
    refine callR_imp (cr_all hc) ?_
    rintro xs H Q ⟨Vi, ds, r, s, hx, e, q⟩
    unfold fnD at e
    split at e <;> (try contradiction) <;> (try cases e)
    obtain ⟨v, rfl, h⟩ := hx.one
    obtain ⟨ns, e1, e2⟩ := Option.map_eq_some_iff.mp e
    subst e2
    obtain ⟨a, ys, rfl, h1, h2⟩ := h.list s
    refine ⟨a, ns, rfl, ?_, q.1 _ (.bl _)⟩
    rw [← h2.bools e1]; exact h1
  | any =>
    refine callR_imp (cr_any hc) ?_
    rintro xs H Q ⟨Vi, ds, r, s, hx, e, q⟩
    unfold fnD at e
    split at e <;> (try contradiction) <;> (try cases e)
    obtain ⟨v, rfl, h⟩ := hx.one
    obtain ⟨ns, e1, e2⟩ := Option.map_eq_some_iff.mp e
    subst e2
    obtain ⟨a, ys, rfl, h1, h2⟩ := h.list s
    refine ⟨a, ns, rfl, ?_, q.1 _ (.bl _)⟩
    rw [← h2.bools e1]; exact h1
  | sorted =>
    refine callR_imp (CallR.or cr_sortedM cr_sortedR) ?_
    rintro xs H Q ⟨Vi, ds, r, s, hx, e, q⟩
    unfold fnD at e
    split at e <;> (try contradiction) <;> (try cases e)
    · obtain ⟨v, rfl, h⟩ := hx.one
      obtain ⟨a, ys, rfl, h1, h2⟩ := h.list s
      split at e
      · rename_i ns e1
        cases e
        refine .inl ⟨a, ns, rfl, .inl (h2.ints e1 ▸ h1), fun ns' p g1 g2 hp => ?_⟩
        rw [sortI_one g1 g2]
        exact q p _ hp (Rps.ofInts _)
      · obtain ⟨rs, e1, e2⟩ := Option.bind_eq_some_iff.mp e
        split at e2
        · rename_i hne
          cases e2
          refine .inr ⟨Vi, a, ys, rs, s, rfl, h1, by rw [← rows_map e1]; exact h2, hne, fun out p hp hr => q p _ hp hr⟩
        · cases e2
    · obtain ⟨v, rfl, h⟩ := hx.one
      obtain ⟨ns, e1, e2⟩ := Option.map_eq_some_iff.mp e
      subst e2
      obtain ⟨a, ys, rfl, h1, _, h2⟩ := h.tuple s
      refine .inl ⟨a, ns, rfl, .inr (h2.ints e1 ▸ h1), fun ns' p g1 g2 hp => ?_⟩
      rw [sortI_one g1 g2]
      exact q p _ hp (Rps.ofInts _)
/-! ### isinstance -/
theorem rp_tyx {K : PySem.W.Frag} {H : Hp} {v : V} {d : D} (r : Rp K H v d) : TyX K H v (.type (dTy d)) ∨ ∃ a b c φ, v = .ref a ∧ d = .dict [(.bool b, .bool c)] ∧ H a = some (.ext φ) ∧ ∀ h, φ h → ∃ P w, DcB P w h a b c := by
  cases r with
  | non => exact .inl <| .base .non
  | bl b => exact .inl <| .base (.bl b)
  | int i => exact .inl <| .base (.int i)
  | str x => exact .inl <| .base (.str x)
  | lst h _ =>
    rcases h with (h | ⟨o, h⟩) | ⟨o, its, n, h, c, _⟩
    · exact .inl <| .base (.lst h)
    · exact .inl <| .base (.frz h)
    · exact .inl <| .kList h c
  | tup h _ =>
    rcases h with (h | ⟨o, h⟩) | ⟨o, its, n, h, c, _⟩
    · exact .inl <| .base (.tup h)
    · exact .inl <| .fTuple h
    · exact .inl <| .kTuple h c
  | dct h _ _ => exact .inl <| .base (.dK h)
  | dcb h k => exact .inr ⟨_, _, _, _, rfl, rfl, h, k⟩
theorem ty_one (K : PySem.W.Frag) (d : D) (t : Ty) : PySem.W.kitOne K (.type (dTy d)) (.type (tyName t)) = some (tyIs t d) := by
  cases d <;> cases t <;> refine kit_ty ?_ <;> dsimp only [dTy, tyName, tyIs] <;> decide +kernel
def rIsiM (K : PySem.W.Frag) (t : Ty) : List V → Hp → VK → Prop := fun vs H Q => ∃ Vi x d, Same Vi H ∧ vs = [x, .ty (tyName t)] ∧ PkR K Vi H x d ∧ Q (.bl (tyIs t d)) H
theorem opIsi (t : Ty) : CallR X (.builtin "isinstance") (rIsiM X.K t) := by
  rintro pins s σ H xs us Q I r ⟨Vi, x, d, sm, rfl, h, q⟩
  rcases rp_tyx (h.rp sm) with ty | ⟨a, b, c, φ, rfl, rfl, ha, hφ⟩
  · exact call_isi pins s σ H _ us Q I r ⟨x, _, _, _, _, rfl, .ty _, ty, ty_one _ _ _, q⟩
  · obtain ⟨u1, u2, rfl, r1, r2⟩ := vals2 r
    have e2 := (ClsV.ty (tyName t)).eq r2
    subst e2
    cases (show u1 = Value.ref a from r1)
    obtain ⟨hp, _, _⟩ := I.hok _ _ ha
    obtain ⟨P, w, z, o, es, ep, ho, ex, _⟩ := hφ _ hp
    exact PySem.W.kia_one PySem.W.kitx_dict I.kIn ⟨o, ho, ex.1⟩ (ty_one X.K (.dict [(.bool b, .bool c)]) t) (fun z => nomatch z) fun tk => ⟨.bl _, H, I.tok tk, rfl, q⟩
end
end M

set_option Elab.async false
set_option linter.all false
set_option maxRecDepth 100000
set_option maxHeartbeats 4000000
/-! M: a def's promise by its meaning; calls -/
namespace M
open PySem PySem.Spec PyProof.Rows L2
/-- a def of the text: what it promises where nothing is being written out -/
structure FnM (P : Program) (w : World) (K : PySem.W.Frag) (mg : Str → Option Value) (base : Heap) (k : Nat) (f : Addr) (fd : FuncData) (ps : List Str) (sp : Sp) : Prop where
  len : ∀ vs H Q E, sp vs H Q E → vs.length = ps.length
  run : ∀ (A : Around) (fr : List PySem.Env) (s : Shared) (H : Hp) (as : Args) (us : List Value) (vs : List V) (Q : VK) (E : XK), Room k A → A.guards = some [] → Env0 P w K mg base A fr s H →
    BindsTo s fd as (ps.zip us) → Vals vs us → sp vs H Q E → codeAny (model P w) A (.call (.ref f) as) (CR (L2.CX P w) fr P w H s Q E) s
theorem FnM.lift {P : Program} {w : World} {K : PySem.W.Frag} {mg : Str → Option Value} {base : Heap} {j k : Nat} {f : Addr} {fd : FuncData} {ps : List Str} {sp : Sp} (F : FnM P w K mg base j f fd ps sp) (h : j ≤ k) : FnM P w K mg base k f fd ps sp :=
  ⟨F.len, fun A fr s H as us vs Q E hr => F.run A fr s H as us vs Q E (hr.mono h)⟩
section
variable {X : Cx} {k : Nat} {f : Addr} {fd : FuncData} {ps : List Str} {sp : Sp} {W : WX}
theorem run_fnM {pins : List (Addr × Obj)} {σ : L2.St} {H : Hp} {s : Shared} {Q : VK} {us : List Value} {vs : List V} (F : FnM X.prog X.w X.K X.mg X.base k f fd ps sp) (hr : Room k X.A) (hg : X.A.guards = some []) (hb : Binds X.K fd ps [])
    (tk : Takes X W) (I : Inv X pins σ H s) (r : Vals vs us) (h : sp vs H Q fun cls d H' => W cls d σ H') : wpAny (model X.prog X.w) X.A (call (.ref f) us) (EP X pins σ Q) X.xe s := by
  have e1 : us.length = ps.length := r.length.symm.trans (F.len _ _ _ _ h)
  have e2 := hb s us I.kIn (by simpa using e1)
  rw [List.append_nil] at e2
  refine wpAny_call (codeAny_mono (F.run X.A X.stack s H ⟨us, []⟩ us vs Q _ hr hg I.env0 e2 r h) fun a s' z => ?_)
  match a, z with
  | .error e, z => exact tk e s' (XE.of_call I (fun _ _ _ y => y) z)
  | .ok (.ret u), z => exact I.after z
def tCallM (sp : Sp) (W : WX) (t : TA) : TE := fun σ H Q => t σ H fun vs H1 => sp vs H1 Q fun cls d H' => W cls d σ H'
theorem pe_callM {x : Str} {p pos : Pos} {e : Expr} {es : List Expr} {t : TA} (F : FnM X.prog X.w X.K X.mg X.base k f fd ps sp) (hr : Room k X.A) (hg : X.A.guards = some []) (gl : Gl X x) (hm : X.mg x = some (.ref f)) (hk : PySem.W.keepIn X.K (.ref f) = true)
    (hb : Binds X.K fd ps []) (tk : Takes X W) (ha : PA X (e :: es) t) (hdb : (x == ("__debug__" : Str)) = false) (he : starEach (e :: es) X.env = (false, eval e X.env) :: starEach es X.env)
    (hpl : (backTo pos (starEach es X.env)).any (·.1) = false) : PE X (.Call (.Name x p) (e :: es) [] pos) (tCallM sp W t) := by
  refine ⟨fun pins s σ H Q I h => wpAny_Call_Name_kw (ld_glob I gl hm ?_ hdb)⟩
  exact PySem.W.callWith_K (h₀ := X.base) I.ok.mod.kin hk (thn (ha.run pos pins s σ H _ I h) fun us s1 z => (by
    obtain ⟨vs, H1, I1, r, q⟩ := z
    exact ⟨I1.kIn, run_fnM F hr hg hb tk I1 r q⟩)) he hpl
theorem pe_callM0 {x : Str} {p pos : Pos} (F : FnM X.prog X.w X.K X.mg X.base k f fd ps sp) (hr : Room k X.A) (hg : X.A.guards = some []) (gl : Gl X x) (hm : X.mg x = some (.ref f)) (hk : PySem.W.keepIn X.K (.ref f) = true)
    (hb : Binds X.K fd ps []) (tk : Takes X W) (hdb : (x == ("__debug__" : Str)) = false) : PE X (.Call (.Name x p) [] [] pos) (tCallM sp W tNil) :=
  ⟨fun pins s σ H Q I h => wpAny_Call_Name_kw (ld_glob I gl hm (PySem.W.callWith_K0 I.kIn hk (run_fnM (us := []) F hr hg hb tk I .nil h)) hdb)⟩
end
/-- THE RULE of a def, by its body -/
theorem fnM_of {P : Program} {w : World} {K : PySem.W.Frag} {mg : Str → Option Value} {base : Heap} {k : Nat} {x qual : Str} {st : Stmt} {f : Addr} {fd : FuncData} {N ps : List Str} {sp : Sp} (F : Fun K x qual st f fd) (S : FnScope N ps (defScope st))
    (len : ∀ vs H Q E, sp vs H Q E → vs.length = ps.length)
    (hbody : ∀ (cdv : Value) (A : Around) (fr : List PySem.Env) (s : Shared) (H : Hp) (vs : List V) (Q : VK) (E : XK), Room k (A.deeper (envOfC qual (defScope st) s.heap.objs.size f cdv)) → A.guards = some [] → sp vs H Q E →
      ∃ t, PSs (cxOf (L2.CX P w) P w K mg base N qual (defScope st) f cdv A fr s H E) (defBody st) t ∧ t { nx := fun _ H' => Q .non H', rt := Q } (start N vs) H) : FnM P w K mg base (k + 1) f fd ps sp := by
  obtain ⟨oc, od, kV, doc, pm, an, cdv, ct, osl, rfl, lk, hcd⟩ := F.ex
  refine ⟨len, fun A fr s H as us vs Q E hr hg e0 hb r hsp => ?_⟩
  have kx : K.In s.heap := e0.mod.kin.keeps fun b o e => (e0.bs b o e).1
  have nl : s.heap.NoLimit := e0.mod.nolimit.keeps fun b o e => (e0.bs b o e).1
  refine codeAny_call_function hr.depth (kx _ _ lk) rfl S.co S.gen rfl (PySem.W.codeRec_of kx hcd) (hb _ _ _ _ ?_)
  refine wpAny_newFunctionEnv_cells S.kind (fun y hy => ?_) fun env he s1 z => ?_
  · obtain ⟨n, v⟩ := y
    exact (S.par n (List.of_mem_zip hy).1).elim .inl fun q => .inr ⟨q, PySem.W.cellsFrom_some _ _ _ (.inl q)⟩
  subst he
  refine ⟨nl.keeps z.toInCall.keep, codeAny_func ?_⟩
  obtain ⟨t, ht, hq⟩ := hbody cdv A fr s H vs Q E (hr.deeper _) hg hsp
  have I : Inv (cxOf (L2.CX P w) P w K mg base N qual (defScope st) f cdv A fr s H E) [] (start N vs) H s1 := inv_start S hr.hd e0 (len _ _ _ _ hsp) r z
  refine wpAny_mono (ht.run [] s1 (start N vs) H _ I hq) (fun fl s' hs => ?_) fun _ _ y => y
  match fl, hs with
  | .ret u, ⟨v, σ', H', J, rv, q⟩ => exact ⟨v, H', J.os, J.bare, J.base, J.hok, rv, q⟩
  | .next, ⟨σ', H', J, q⟩ => exact ⟨V.non, H', J.os, J.bare, J.base, J.hok, rfl, q⟩
  | .brk, ⟨_, _, _, q⟩ => exact q.elim
  | .cont, ⟨_, _, _, q⟩ => exact q.elim

/-! ### the promise by the meaning -/
open Classical in
noncomputable def visH (h : Addr → Prop) (ps : List Addr) (H : Hp) : Hp := fun b => if h b ∨ b ∈ ps then none else H b
/-- the arguments; ps: the owned ones' addresses, in order -/
inductive ArgsR (K : PySem.W.Frag) (Vi H : Hp) : List V → List Arg → List Addr → Prop
  | nil : ArgsR K Vi H [] [] []
  | val {v : V} {d : D} {vs : List V} {as : List Arg} {ps : List Addr} : Rp K Vi v d → ArgsR K Vi H vs as ps → ArgsR K Vi H (v :: vs) (.val d :: as) ps
  | own {p : Addr} {o : HO} {c : Cell} {vs : List V} {as : List Arg} {ps : List Addr} : H p = some o → CellR K Vi c o → ArgsR K Vi H vs as ps → ArgsR K Vi H (.ref p :: vs) (.own c :: as) (p :: ps)
inductive OutsR (K : PySem.W.Frag) (Vi H : Hp) : List Addr → List Cell → Prop
  | nil : OutsR K Vi H [] []
  | cons {p : Addr} {o : HO} {c : Cell} {ps : List Addr} {cs : List Cell} : H p = some o → CellR K Vi c o → OutsR K Vi H ps cs → OutsR K Vi H (p :: ps) (c :: cs)
theorem ArgsR.len {K : PySem.W.Frag} {Vi H : Hp} {vs : List V} {as : List Arg} {ps : List Addr} (h : ArgsR K Vi H vs as ps) : vs.length = as.length := by
  induction h with
  | nil => rfl
  | val _ _ ih => simp [ih]
  | own _ _ _ ih => simp [ih]
/-- a call's way out: what was there and is not lent stays -/
def Keeps (ps : List Addr) (H H' : Hp) : Prop := (∀ b o, H b = some o → b ∉ ps → H' b = some o) ∧ ∀ b o, H b = some o → ∃ o', H' b = some o'
def spOf (K : PySem.W.Frag) (XR : XRel) (f : Sem) : Sp := fun vs H Q E => ∃ (as : List Arg) (h : Addr → Prop) (ps : List Addr), ArgsR K (visH h ps H) H vs as ps ∧ ps.Nodup ∧ (∀ p ∈ ps, ¬ h p) ∧ (∀ b, h b → ∃ o, H b = some o) ∧
  match f as with
  | .ok (.v d) cs => ∀ v H', Keeps ps H H' → OutsR K (visH h ps H') H' ps cs → Rp K (visH h ps H') v d → Q v H'
  | .ok (.fresh c) cs => ∀ p o H', Keeps ps H H' → H p = none → H' p = some o → OutsR K (visH (fun b => h b ∨ b = p) ps H') H' ps cs → CellR K (visH (fun b => h b ∨ b = p) ps H') c o → Q (.ref p) H'
  | .ok (.slot _) _ => False
  | .exc x cs => ∀ cls d H', Keeps ps H H' → OutsR K (visH h ps H') H' ps cs → XR x cls d (visH h ps H') → E cls d H'
  | .bad => False
end M

set_option Elab.async false
set_option linter.all false
set_option maxRecDepth 100000
set_option maxHeartbeats 4000000
/-! M: a call, seen from the caller -/
namespace M
open PySem PySem.Spec PyProof.Rows L2
def SlotAt (σ : L2.St) (ρ : Env) (i : Nat) (p : Addr) : Prop := σ[i]? = some (some (.ref p)) ∧ ∃ t c, ρ[i]? = some (.own t false c)
theorem pmR {α β : Type} {R : α → β → Prop} : ∀ {l : List α} {m : List β} {b : β}, Paired R l m → b ∈ m → ∃ a, a ∈ l ∧ R a b
  | _, _, _, .nil, h => by cases h
  | _, _, _, .cons r t, h => by
    rcases List.mem_cons.mp h with rfl | h
    · exact ⟨_, List.mem_cons_self, r⟩
    · obtain ⟨a, h1, h2⟩ := pmR t h
      exact ⟨a, List.mem_cons_of_mem _ h1, h2⟩
theorem pmL {α β : Type} {R : α → β → Prop} : ∀ {l : List α} {m : List β} {a : α}, Paired R l m → a ∈ l → ∃ b, b ∈ m ∧ R a b
  | _, _, _, .nil, h => by cases h
  | _, _, _, .cons r t, h => by
    rcases List.mem_cons.mp h with rfl | h
    · exact ⟨_, List.mem_cons_self, r⟩
    · obtain ⟨a, h1, h2⟩ := pmL t h
      exact ⟨a, List.mem_cons_of_mem _ h1, h2⟩
section
variable {K : PySem.W.Frag} {F : Fr} {XR : XRel} {W : WX} {σ : L2.St} {H H' : Hp} {ρ ρ' : Env}
theorem args_rel (er : EnvR K F σ H ρ) : ∀ {vs : List V} {rs : List RV} {as : List Arg}, RVRs K F σ ρ H vs rs → argsOf ρ rs = some as → ∃ ps, ArgsR K (vis F σ ρ H) H vs as ps ∧ Paired (SlotAt σ ρ) (slotsOf rs) ps
  | _, _, _, .nil, e => by cases (Option.some.inj e); exact ⟨[], .nil, .nil⟩
  | _, _, _, .cons (a := v) (b := r) (l₁ := vs) (l₂ := rs) h t, e => by
    unfold argsOf at e
    cases e1 : argOf ρ r with
    | none => rw [e1] at e; cases e
    | some a =>
      cases e2 : argsOf ρ rs with
      | none => rw [e1, e2] at e; cases e
      | some as =>
        rw [e1, e2] at e
        cases e
        obtain ⟨ps, h1, h2⟩ := args_rel er t e2
        cases r with
        | v d => cases e1; exact ⟨ps, .val h h1, h2⟩
        | fresh c => cases e1; exact ⟨ps, .val h h1, h2⟩
        | slot i =>
          have h : σ[i]? = some (some v) := h
          unfold argOf at e1
          cases e3 : ρ[i]? with
          | none => simp only [e3] at e1; cases e1
          | some s =>
            simp only [e3] at e1
            cases s with
            | un => cases e1
            | val d => cases e1
            | own t lk c =>
              cases lk with
              | true => cases e1
              | false =>
                cases e1
                obtain ⟨p, o, q1, q2, q3, _⟩ := er.own i t false c e3
                rw [h] at q1
                cases q1
                exact ⟨p :: ps, .own q2 q3 h1, .cons ⟨h, t, c, e3⟩ h2⟩
theorem slotAt_oa {i : Nat} {p : Addr} (h : SlotAt σ ρ i p) : OA σ ρ p := by
  obtain ⟨h1, t, c, h2⟩ := h
  exact ⟨i, t, false, c, h2, h1⟩
theorem slots_nodup (er : EnvR K F σ H ρ) : ∀ {is : List Nat} {ps : List Addr}, Paired (SlotAt σ ρ) is ps → is.Nodup → ps.Nodup
  | _, _, .nil, _ => .nil
  | _, _, .cons (a := i) (b := p) (l₁ := is) (l₂ := ps) h t, nd => by
    rw [List.nodup_cons] at nd ⊢
    refine ⟨fun hm => ?_, slots_nodup er t nd.2⟩
    obtain ⟨j, h1, h2⟩ := pmR t hm
    obtain ⟨a1, t1, c1, a2⟩ := h
    obtain ⟨b1, t2, c2, b2⟩ := h2
    have := er.uniq i j _ _ _ _ _ _ p a2 b2 a1 b1
    subst this
    exact nd.1 h1
/-- what putBack leaves -/
theorem putBack_len : ∀ {is : List Nat} {cs : List Cell} {ρ ρ' : Env}, putBack ρ is cs = some ρ' → ρ'.length = ρ.length
  | [], [], _, _, e => by cases (Option.some.inj e); rfl
  | [], _ :: _, _, _, e => by simp [putBack] at e
  | _ :: _, [], _, _, e => by simp [putBack] at e
  | i :: is, c :: cs, ρ, ρ', e => by
    unfold putBack at e
    split at e
    · rw [putBack_len e, List.length_set]
    · cases e
theorem putBack_out : ∀ {is : List Nat} {cs : List Cell} {ρ ρ' : Env} {j : Nat}, putBack ρ is cs = some ρ' → j ∉ is → ρ'[j]? = ρ[j]?
  | [], [], _, _, _, e, _ => by cases (Option.some.inj e); rfl
  | [], _ :: _, _, _, _, e, _ => by simp [putBack] at e
  | _ :: _, [], _, _, _, e, _ => by simp [putBack] at e
  | i :: is, c :: cs, ρ, ρ', j, e, h => by
    unfold putBack at e
    split at e
    · rw [putBack_out e (fun z => h (List.mem_cons_of_mem _ z)), List.getElem?_set_ne (fun z => h (by rw [z]; exact List.mem_cons_self))]
    · cases e
theorem putBack_in : ∀ {is : List Nat} {cs : List Cell} {ρ ρ' : Env}, putBack ρ is cs = some ρ' → is.Nodup → Paired (fun i c => ∃ t c0, ρ[i]? = some (.own t false c0) ∧ ρ'[i]? = some (.own t false c)) is cs
  | [], [], _, _, _, _ => .nil
  | [], _ :: _, _, _, e, _ => by simp [putBack] at e
  | _ :: _, [], _, _, e, _ => by simp [putBack] at e
  | i :: is, c :: cs, ρ, ρ', e, nd => by
    rw [List.nodup_cons] at nd
    unfold putBack at e
    split at e
    · rename_i t c0 h0
      have hi : i < ρ.length := (List.getElem?_eq_some_iff.mp h0).1
      refine .cons ⟨t, c0, h0, ?_⟩ ?_
      · rw [putBack_out e nd.1, List.getElem?_set_self hi]
      · have ih := putBack_in e nd.2
        have go : ∀ {js : List Nat} {ds : List Cell}, i ∉ js → Paired (fun i' e' => ∃ t' c0, (ρ.set i (.own t false c))[i']? = some (.own t' false c0) ∧ ρ'[i']? = some (.own t' false e')) js ds →
            Paired (fun i c => ∃ t c0, ρ[i]? = some (.own t false c0) ∧ ρ'[i]? = some (.own t false c)) js ds := by
          intro js ds hj q
          induction q with
          | nil => exact .nil
          | cons r _ ih2 =>
            obtain ⟨t', c1, r1, r2⟩ := r
            refine .cons ⟨t', c1, ?_, r2⟩ (ih2 fun z => hj (List.mem_cons_of_mem _ z))
            rw [List.getElem?_set_ne (fun z => hj (by rw [z]; exact List.mem_cons_self))] at r1
            exact r1
        exact go nd.1 ih
    · cases e
/-- the owned slots stay owned, with their tags -/
theorem putBack_own {is : List Nat} {cs : List Cell} (e : putBack ρ is cs = some ρ') (nd : is.Nodup) {j : Nat} {t : Option Nat} {lk : Bool} : (∃ c, ρ'[j]? = some (.own t lk c)) ↔ ∃ c, ρ[j]? = some (.own t lk c) := by
  by_cases hj : j ∈ is
  · obtain ⟨c, _, t', c0, h1, h2⟩ := pmL (putBack_in e nd) hj
    constructor
    · rintro ⟨c', q⟩; rw [h2] at q; cases q; exact ⟨_, h1⟩
    · rintro ⟨c', q⟩; rw [h1] at q; cases q; exact ⟨_, h2⟩
  · rw [putBack_out e hj]
theorem putBack_oa {is : List Nat} {cs : List Cell} (e : putBack ρ is cs = some ρ') (nd : is.Nodup) (b : Addr) : OA σ ρ' b ↔ OA σ ρ b := by
  constructor
  · rintro ⟨i, t, lk, c, h1, h2⟩
    obtain ⟨c', h⟩ := (putBack_own e nd).mp ⟨c, h1⟩
    exact ⟨i, t, lk, c', h, h2⟩
  · rintro ⟨i, t, lk, c, h1, h2⟩
    obtain ⟨c', h⟩ := (putBack_own e nd).mpr ⟨c, h1⟩
    exact ⟨i, t, lk, c', h, h2⟩
def Fr.more (F : Fr) (e : Addr → Prop) : Fr := { F with h := fun b => F.h b ∨ e b }
/-- what the callee sees as hidden -/
def hOf (F : Fr) (σ : L2.St) (ρ : Env) (ps : List Addr) : Addr → Prop := fun b => F.h b ∨ (OA σ ρ b ∧ b ∉ ps)
theorem vis_visH {ps : List Addr} {e : Addr → Prop} (hp : ∀ p ∈ ps, OA σ ρ p) : visH (fun b => hOf F σ ρ ps b ∨ e b) ps H = vis (F.more e) σ ρ H := by
  funext b
  have q : ((hOf F σ ρ ps b ∨ e b) ∨ b ∈ ps) ↔ ((F.more e).h b ∨ OA σ ρ b) := by
    constructor
    · rintro ((h | h) | h)
      · rcases h with h | h
        · exact .inl (.inl h)
        · exact .inr h.1
      · exact .inl (.inr h)
      · exact .inr (hp b h)
    · rintro ((h | h) | h)
      · exact .inl (.inl (.inl h))
      · exact .inl (.inr h)
      · by_cases hb : b ∈ ps
        · exact .inr hb
        · exact .inl (.inl (.inr ⟨h, hb⟩))
  unfold visH vis
  by_cases z : (hOf F σ ρ ps b ∨ e b) ∨ b ∈ ps
  · rw [if_pos z, if_pos (q.mp z)]
  · rw [if_neg z, if_neg (fun y => z (q.mpr y))]
theorem outs_at {Vi : Hp} : ∀ {is : List Nat} {ps : List Addr} {cs : List Cell}, Paired (SlotAt σ ρ) is ps → OutsR K Vi H' ps cs →
    Paired (fun i c => ∃ t c0, ρ[i]? = some (.own t false c0) ∧ ρ'[i]? = some (.own t false c)) is cs → ∀ i ∈ is, ∃ p o c t, σ[i]? = some (some (.ref p)) ∧ H' p = some o ∧ CellR K Vi c o ∧ ρ'[i]? = some (.own t false c)
  | _, _, _, .nil, _, _ => fun _ h => by cases h
  | _, _, _, .cons s1 s2, .cons h1 h2 h3, .cons r1 r2 => fun i hi => by
    rcases List.mem_cons.mp hi with rfl | hi
    · obtain ⟨t, c0, _, q⟩ := r1
      exact ⟨_, _, _, t, s1.1, h1, h2, q⟩
    · exact outs_at s2 h3 r2 i hi
/-- behind a call -/
theorem after_call {is : List Nat} {ps : List Addr} {cs : List Cell} {e : Addr → Prop} (er : EnvR K F σ H ρ) (hs : Paired (SlotAt σ ρ) is ps) (nd : is.Nodup) (pb : putBack ρ is cs = some ρ') (kp : Keeps ps H H')
    (he : ∀ b, e b → H b = none ∧ ∃ o, H' b = some o) (ho : OutsR K (vis (F.more e) σ ρ H') H' ps cs) :
    EnvR K (F.more e) σ H' ρ' ∧ Stp F σ H ρ H' ρ' ∧ vis (F.more e) σ ρ H' = vis (F.more e) σ ρ' H' := by
  have pO : ∀ p ∈ ps, OA σ ρ p := fun p hp => by
    obtain ⟨i, _, h⟩ := pmR hs hp
    exact slotAt_oa h
  have hv : vis (F.more e) σ ρ H' = vis (F.more e) σ ρ' H' := by
    funext b
    unfold vis
    have := putBack_oa (σ := σ) pb nd b
    by_cases z : (F.more e).h b ∨ OA σ ρ b
    · rw [if_pos z, if_pos (Or.elim z .inl fun y => .inr (this.mpr y))]
    · rw [if_neg z, if_neg (fun y => z (Or.elim y .inl fun x => .inr (this.mp x)))]
  have sm : Same (vis F σ ρ H) (vis (F.more e) σ ρ' H') := fun b o q => by
    obtain ⟨h1, h2, h3⟩ := vis_some q
    rw [← hv, vis_of (fun z => Or.elim z h2 fun y => by rw [(he b y).1] at h1; cases h1) h3]
    exact kp.1 b o h1 fun z => h3 (pO b z)
  have sm2 : Same (vis F σ ρ H) (vis F σ ρ' H') := fun b o q => by
    obtain ⟨h1, h2, h3⟩ := vis_some (sm b o q)
    rw [vis_of (fun z => h2 (.inl z)) h3]; exact h1
  refine ⟨⟨er.len.trans (putBack_len pb).symm, fun i d q => ?_, fun i t lk c q => ?_, fun i j t lk c t' lk' c' p q1 q2 q3 q4 => ?_, fun b hb => ?_, fun b o q hI => ?_, fun j hj => ?_⟩, ⟨sm2, fun b hb => ?_, kp.2⟩, hv⟩
  · have hi : i ∉ is := fun hm => by
      obtain ⟨c, _, t, c0, _, h⟩ := pmL (putBack_in pb nd) hm
      rw [q] at h; cases h
    rw [putBack_out pb hi] at q
    obtain ⟨v, h1, h2⟩ := er.val i d q
    exact ⟨v, h1, h2.mono sm⟩
  · by_cases hi : i ∈ is
    · obtain ⟨p, o, c', t', h1, h2, h3, h4⟩ := outs_at hs ho (putBack_in pb nd) i hi
      rw [q] at h4
      cases h4
      obtain ⟨c0, h0⟩ := (putBack_own pb nd).mp ⟨c, q⟩
      obtain ⟨p', o', g1, g2, g3, g4, g5⟩ := er.own i t false c0 h0
      rw [h1] at g1
      cases g1
      exact ⟨p, o, h1, h2, by rw [← hv]; exact h3, fun z => Or.elim z g4 fun y => (by rw [(he p y).1] at g2; cases g2), g5⟩
    · have q' := q
      rw [putBack_out pb hi] at q'
      obtain ⟨p, o, g1, g2, g3, g4, g5⟩ := er.own i t lk c q'
      have hp : p ∉ ps := fun z => by
        obtain ⟨j, hj, a1, t1, c1, a2⟩ := pmR hs z
        have := er.uniq i j _ _ _ _ _ _ p q' a2 g1 a1
        subst this
        exact hi hj
      exact ⟨p, o, g1, kp.1 p o g2 hp, g3.mono sm, fun z => Or.elim z g4 fun y => (by rw [(he p y).1] at g2; cases g2), g5⟩
  · obtain ⟨c1, z1⟩ := (putBack_own pb nd).mp ⟨c, q1⟩
    obtain ⟨c2, z2⟩ := (putBack_own pb nd).mp ⟨c', q2⟩
    exact er.uniq i j _ _ _ _ _ _ p z1 z2 q3 q4
  · rcases hb with hb | hb
    · obtain ⟨o, h⟩ := er.hid b hb
      exact kp.2 b o h
    · exact (he b hb).2
  · refine kp.1 b o (er.keep b o q hI) fun z => ?_
    obtain ⟨j, _, a1, t1, c1, a2⟩ := pmR hs z
    obtain ⟨p', o', g1, _, _, _, g5, g6⟩ := er.own j t1 false c1 a2
    rw [a1] at g1
    cases g1
    cases t1 with
    | none =>
      have q : F.H0 b = some o := q
      rw [g6 rfl] at q; cases q
    | some m => exact hI m (g5 m rfl).1 (g5 m rfl).2
  · obtain ⟨o, h⟩ := er.inn j hj
    exact kp.2 _ o h
  · obtain ⟨o, h⟩ := er.hid b hb
    rw [h]
    refine kp.1 b o h fun z => ?_
    exact (er.oa (pO b z)).1 hb
theorem more_none : F.more (fun _ => False) = F := by
  unfold Fr.more
  have : (fun b => F.h b ∨ False) = F.h := by funext b; simp
  rw [this]
theorem call_post {f : Sem} {vs : List V} {rs : List RV} {Q : VK} (er : EnvR K F σ H ρ) (r : RVRs K F σ ρ H vs rs) (h : Post K F XR W σ H ρ (callR f ρ rs) Q) : spOf K XR f vs H Q fun cls d H' => W cls d σ H' := by
  unfold callR at h
  by_cases nd : (slotsOf rs).Nodup
  · rw [if_pos nd] at h
    cases ea : argsOf ρ rs with
    | none => rw [ea] at h; exact False.elim h
    | some as =>
      rw [ea] at h
      obtain ⟨ps, h1, h2⟩ := args_rel er r ea
      have pO : ∀ p ∈ ps, OA σ ρ p := fun p hp => by
        obtain ⟨i, _, z⟩ := pmR h2 hp
        exact slotAt_oa z
      have hv : ∀ H, visH (hOf F σ ρ ps) ps H = vis F σ ρ H := fun H => by
        have := vis_visH (F := F) (H := H) (e := fun _ => False) pO
        rw [more_none] at this
        rw [← this]
        congr 1
        funext b; simp
      refine ⟨as, hOf F σ ρ ps, ps, by rw [hv]; exact h1, slots_nodup er h2 nd, fun p hp z => z.elim (er.oa (pO p hp)).1 fun y => y.2 hp, fun b z => z.elim (er.hid b) fun y => (er.oa y.1).2, ?_⟩
      revert h
      cases hf : f as with
      | bad => exact fun h => by simp only [hf] at h; exact False.elim h
      | exc x cs =>
        intro h
        simp only [hf] at h
        dsimp only
        cases pb : putBack ρ (slotsOf rs) cs with
        | none => simp only [pb] at h; exact False.elim h
        | some ρ' =>
          simp only [pb] at h
          intro cls d H' kp ho hx
          have z := after_call (e := fun _ => False) er h2 nd pb kp (fun _ z => z.elim) (by rw [more_none, ← hv]; exact ho)
          rw [more_none] at z
          exact h cls d H' z.1 z.2.1 (by rw [← z.2.2, ← hv]; exact hx)
      | ok rv cs =>
        intro h
        simp only [hf] at h
        cases pb : putBack ρ (slotsOf rs) cs with
        | none => simp only [pb] at h; exact False.elim h
        | some ρ' =>
          simp only [pb] at h
          cases rv with
          | slot i => exact False.elim h
          | v d =>
            intro v H' kp ho hr
            have z := after_call (e := fun _ => False) er h2 nd pb kp (fun _ z => z.elim) (by rw [more_none, ← hv]; exact ho)
            rw [more_none] at z
            exact h v H' z.1 z.2.1 (by show Rp K (vis F σ ρ' H') v d; rw [← z.2.2, ← hv]; exact hr)
          | fresh c =>
            intro p o H' kp hp hp' ho hc
            have hv2 := vis_visH (F := F) (H := H') (e := fun b => b = p) pO
            have z := after_call (e := fun b => b = p) er h2 nd pb kp (fun b z => by subst z; exact ⟨hp, _, hp'⟩) (by rw [← hv2]; exact ho)
            have h0 : F.H0 p = none := er.h0 hp
            exact h p o H' hp hp' z.1 z.2.1 h0 (by show CellR K (vis (F.more fun b => b = p) σ ρ' H') c o; rw [← z.2.2, ← hv2]; exact hc)
  · rw [if_neg nd] at h; exact False.elim h
end
end M

set_option Elab.async false
set_option linter.all false
set_option maxRecDepth 100000
set_option maxHeartbeats 4000000
/-! M: is a piece of the text this piece of M? -/
namespace M
open PySem PySem.Spec PyProof.Rows L2
abbrev PE' := PySem.Expr
theorem same_eq : ∀ {a b : D}, same a b = true → a = b := by
  intro a
  exact PyData.rec (motive_1 := fun a => ∀ {b}, same a b = true → a = b) (motive_2 := fun xs => ∀ {ys}, sames xs ys = true → xs = ys) (motive_3 := fun xs => ∀ {ys}, samekv xs ys = true → xs = ys)
    (motive_4 := fun p => ∀ {q : D × D}, same p.1 q.1 = true → same p.2 q.2 = true → p = q)
    (fun {b} h => by cases b <;> simp [same] at h; rfl)
    (fun x {b} h => by cases b <;> simp [same] at h; rw [h])
    (fun x {b} h => by cases b <;> simp [same] at h; rw [h])
    (fun x {b} h => by cases b <;> simp [same] at h; rw [h])
    (fun x ih {b} h => by cases b <;> simp [same] at h; rw [ih h])
    (fun x ih {b} h => by cases b <;> simp [same] at h; rw [ih h])
    (fun x ih {b} h => by cases b <;> simp [same] at h; rw [ih h])
    (fun {ys} h => by cases ys <;> simp [sames] at h; rfl)
    (fun x xs ih1 ih2 {ys} h => by cases ys <;> simp [sames] at h; rw [ih1 h.1, ih2 h.2])
    (fun {ys} h => by cases ys <;> simp [samekv] at h; rfl)
    (fun p xs ih1 ih2 {ys} h => by
      obtain ⟨k, v⟩ := p
      cases ys with
      | nil => simp [samekv] at h
      | cons q ys =>
        obtain ⟨k', v'⟩ := q
        simp [samekv] at h
        rw [ih1 (q := (k', v')) h.1.1 h.1.2, ih2 h.2])
    (fun k v ih1 ih2 {q} h1 h2 => by obtain ⟨k', v'⟩ := q; rw [ih1 h1, ih2 h2]) a
def nmVis (sc : Scope) (x : Str) : Bool := match sc.names.lookup x with
  | some .local => true
  | some .cell => true
  | some .free => true
  | _ => false
def nmLoc (sc : Scope) (x : Str) : Bool := match sc.names.lookup x with
  | some .local => true
  | some .cell => true
  | _ => false
def nmGl (sc : Scope) (x : Str) : Bool := match sc.names.lookup x with
  | some .globalImplicit => true
  | _ => false
def dbg (x : Str) : Bool := !(x == ("__debug__" : Str)) && !(x == ("__classdict__" : Str))
def bltNames : List Str := ["len", "abs", "max", "min", "sum", "tuple", "list", "repr", "str", "int", "bool", "dict", "all", "any", "sorted", "range", "zip", "enumerate", "reversed", "isinstance"]
def notStar : PE' → Bool
  | .Starred _ _ => false
  | _ => true
def notSl : PE' → Bool
  | .Slice _ _ _ _ => false
  | _ => true
def notComp : PE' → Bool
  | .ListComp _ _ _ _ => false
  | .SetComp _ _ _ _ => false
  | .DictComp _ _ _ _ _ => false
  | _ => true
def notIf : PE' → Bool
  | .IfExp _ _ _ _ => false
  | _ => true
def notSet : PE' → Bool
  | .Set _ _ _ => false
  | _ => true
/-- its test is its value's truth -/
def plainT : PE' → Bool
  | .BoolOp _ _ _ => false
  | .UnaryOp .Not _ _ => false
  | .IfExp _ _ _ _ => false
  | .Compare _ _ _ _ => false
  | _ => true
theorem star_ok {e : PE'} {es : List PE'} {env : PySem.Env} (h : notStar e = true) : starEach (e :: es) env = (false, eval e env) :: starEach es env := by
  cases e <;> first | rfl | (simp [notStar] at h)
theorem stars_any {pos : Pos} {env : PySem.Env} : ∀ {es : List PE'}, es.all notStar = true → (backTo pos (starEach es env)).any (·.1) = false
  | [], _ => rfl
  | e :: es, h => by
    rw [List.all_cons, Bool.and_eq_true] at h
    rw [star_ok h.1]
    have ih := stars_any (pos := pos) (env := env) h.2
    unfold backTo at ih ⊢
    rw [List.map_cons, List.any_cons, ih]
    rfl
theorem plainT_ok {e : PE'} {env : PySem.Env} (h : plainT e = true) (wh : PySem.Sem Value) : isTrue e env wh = (do let v ← wh; standAt e.pos; holding [v] (truthy v)) := by
  cases e with
  | UnaryOp o a p => cases o <;> first | rfl | (simp [plainT] at h)
  | _ => first | rfl | (simp [plainT] at h)
theorem notSl_ok {e : PE'} (h : notSl e = true) : PlainIx e := by
  intro o i
  cases e <;> first | rfl | (simp [notSl] at h)
theorem swaps_ok {e : PE'} {t : Option PE'} {l : Nat} {env : PySem.Env} (h : notComp e = true) : swapsWith e t l env = pure false := by
  cases e <;> first | rfl | (simp [notComp] at h)
theorem notSet_ok {e : PE'} {env : PySem.Env} (h : notSet e = true) (x : Value) : foldedSetIterable e env x = pure x := by
  cases e <;> first | rfl | (simp [notSet] at h)

structure Ctx (X : Cx) (Φ : Phi) (XR : XRel) (fn : Nat → Option Str) (N : List Str) (cs : List (Str × D)) (sc : Scope) : Prop where
  hN : X.N = N
  nd : N.Nodup
  vis : ∀ x, nmVis sc x = true → Vis X.env.scope x
  loc : ∀ x, nmLoc sc x = true → Loc X.env.scope x ∧ (X.fn x = true ∨ X.env.scope.names.lookup x = some .local)
  gl : ∀ x, nmGl sc x = true → Gl X x
  kindF : X.env.scope.kind = .function
  lcl : ∀ x, sc.names.lookup x = some .local → X.env.scope.names.lookup x = some .local
  cell : ∀ x, sc.names.lookup x = some .cell → X.env.scope.names.lookup x = some .cell
  cf : ∀ x, (sc.names.lookup x = some .cell ∨ sc.names.lookup x = some .free) → (X.env.scope.names.lookup x = some .cell ∨ X.env.scope.names.lookup x = some .free)
  calm : X.calm = true
  blt : ∀ x, x ∈ bltNames → X.mg x = none
  guards : X.A.guards = some []
  units : X.A.units + 200 < cLine
  fns : ∀ f x, fn f = some x → ∃ a k fd ps, X.mg x = some (.ref a) ∧ PySem.W.keepIn X.K (.ref a) = true ∧ Binds X.K fd ps [] ∧ Room k X.A ∧ FnM X.prog X.w X.K X.mg X.base k a fd ps (spOf X.K XR (Φ f))
  cst : ∀ x d, (x, d) ∈ cs → ∃ u v, X.mg x = some u ∧ RelV v u ∧ ∀ H, Rp X.K H v d
  dig : digK X.K

def chkC : D → Const → Bool
  | .int i, .int j => i == j
  | .bool b, .bool c => b == c
  | .none, .none => true
  | .str s, .str t => decide (s = t)
  | _, _ => false
def chkK : Key → Option PE' → Bool
  | .inl i, some (.Constant (.int j) _ _) => i == j
  | .inr s, some (.Constant (.str t) _ _) => decide (s = t)
  | _, _ => false
def chkKs : List Key → List (Option PE') → Bool
  | [], [] => true
  | k :: ks, e :: es => chkK k e && chkKs ks es
  | _, _ => false
def mthName : Mth → Str
  | .append => "append"
  | .pop => "pop"
  | .popAt => "pop"
  | .remove => "remove"
  | .reverse => "reverse"
  | .clear => "clear"
  | .count => "count"
  | .index => "index"
section
variable (fn : Nat → Option Str) (N : List Str) (cs : List (Str × D))
def chkN (sc : Scope) (i : Nat) (x : Str) : Bool := decide (N[i]? = some x) && nmVis sc x && dbg x
def chkT1 (sc : Scope) : Nat → PE' → Bool
  | i, .Name x _ => decide (N[i]? = some x) && nmLoc sc x
  | _, _ => false
def chkTs (sc : Scope) : List Nat → List PE' → Bool
  | [], [] => true
  | i :: is, e :: es => chkT1 N sc i e && chkTs sc is es
  | _, _ => false
def chkTg (sc : Scope) : Tg → PE' → Bool
  | .n i, e => chkT1 N sc i e
  | .t is, .Tuple es _ _ => chkTs N sc is es
  | _, _ => false
def isTup : PE' → Bool
  | .Tuple _ _ _ => true
  | _ => false
def glb (sc : Scope) (x : Str) : Bool := nmGl sc x && dbg x
mutual
def chkE : Scope → E → PE' → Bool
  | _, .c d, .Constant k _ _ => chkC d k
  | sc, .v i, .Name x _ => chkN N sc i x
  | sc, .g x d, .Name y _ => decide (x = y) && glb sc y && cs.any fun p => decide (p.1 = x) && same p.2 d
  | sc, .bin o a b, .BinOp a' o' b' _ => decide (o' = bop o) && chkE sc a a' && chkE sc b b'
  | sc, .neg a, .UnaryOp .USub a' _ => chkE sc a a'
  | sc, .cmp o a b, .Compare a' [o'] [b'] _ => decide (o' = cop o) && !behindInMarks o' b' && chkE sc a a' && chkE sc b b'
  | sc, .chain o p a b c, .Compare a' [o', p'] [b', c'] _ => decide (o' = cop o) && decide (p' = cop p) && !lastMarks [o', p'] [b', c'] && chkE sc a a' && chkE sc b b' && chkE sc c c'
  | sc, .and_ a b, .BoolOp .And (a' :: b' :: r) pos => notIf a' && chkE sc a a' && (match r with
      | [] => notIf b' && chkE sc b b'
      | c' :: r => chkE sc b (.BoolOp .And (b' :: c' :: r) pos))
  | sc, .or_ a b, .BoolOp .Or (a' :: b' :: r) pos => notIf a' && chkE sc a a' && (match r with
      | [] => notIf b' && chkE sc b b'
      | c' :: r => chkE sc b (.BoolOp .Or (b' :: c' :: r) pos))
  | sc, .not_ a, .UnaryOp .Not a' _ => notIf a' && chkE sc a a'
  | sc, .ite c a b, .IfExp c' a' b' _ => notIf c' && chkE sc c c' && chkE sc a a' && chkE sc b b'
  | sc, .tup es, .Tuple es' _ _ => chkEs sc es es'
  | sc, .lst es, .List es' _ => chkEs sc es es'
  | sc, .dct ks es, .Dict keys vals _ => chkKs ks keys && decide (keys.length ≤ 15) && decide (keys.length = vals.length) && chkEs sc es vals
  | sc, .dc1 es, .Dict [some k'] [v'] _ => chkEs sc es [k', v']
  | sc, .dget a k d, .Call (.Attribute (.Dict ks vs p) mn ap) [k', d'] [] cp => (ap.endLine == cp.line) && decide (mn = ("get" : Str)) && notStar k' && notStar d' && chkE sc a (.Dict ks vs p) && chkE sc k k' && chkE sc d d'
  | sc, .rep es b, .BinOp (.List es' _) .Mult b' _ => chkEs sc es es' && chkE sc b b'
  | sc, .ix a b, .Subscript a' b' _ => notSl b' && chkE sc a a' && chkE sc b b'
  | sc, .sl a lo hi, .Subscript a' (.Slice l h none _) _ => chkE sc a a' && (match lo, l with
      | .no, none => true
      | lo, some l => chkE sc lo l
      | _, _ => false) && (match hi, h with
      | .no, none => true
      | hi, some h => chkE sc hi h
      | _, _ => false)
  | sc, .rev a, .Subscript a' (.Slice none none (some (.UnaryOp .USub (.Constant (.int j) _ _) _)) _) _ => decide (j = 1) && chkE sc a a'
  | sc, .call f es, .Call (.Name x _) es' [] _ => decide (fn f = some x) && glb sc x && chkEs sc es es'
  | sc, .callp f es, .Call (.Name x _) es' [] _ => decide (fn f = some x) && glb sc x && chkEs sc es es'
  | sc, .blt f es, .Call (.Name x _) (e' :: es') [] _ => decide (x = fnName f) && glb sc x && chkEs sc es (e' :: es')
  | sc, .lrng a b, .Call (.Name x _) [.Call (.Name y _) [a', b'] [] _] [] _ => decide (x = ("list" : Str)) && decide (y = ("range" : Str)) && glb sc x && glb sc y && notStar a' && notStar b' && chkE sc a a' && chkE sc b b'
  | sc, .lrng (.c (.int z)) b, .Call (.Name x _) [.Call (.Name y _) [b'] [] _] [] _ => decide (z = 0) && decide (x = ("list" : Str)) && decide (y = ("range" : Str)) && glb sc x && glb sc y && notStar b' && chkE sc b b'
  | sc, .isi a [t], .Call (.Name x _) [a', .Name y _] [] _ => decide (x = ("isinstance" : Str)) && decide (y = (tyName t : Str)) && glb sc x && glb sc y && notStar a' && chkE sc a a'
  | sc, .meth m i es, .Call (.Attribute (.Name x _) mn ap) es' [] cp => (ap.endLine == cp.line) && decide (mn = mthName m) && chkN N sc i x && decide (es'.length ≤ 1) && chkEs sc es es'
  | sc, .ext i e, .Call (.Attribute (.Name x _) mn ap) [e'] [] cp => (ap.endLine == cp.line) && decide (mn = ("extend" : Str)) && chkN N sc i x && notStar e' && chkE sc e e'
  | sc, .comp e tg s cnd, .ListComp e' [⟨t', it', ifs, n⟩] sc' _ => decide (n = 0) && blkC N sc sc' (tg.is.filterMap fun i => (N[i]?).map fun x => (x, i)) && chkTg N sc' tg t' && chkSrc sc s t' it' && notSet it' && chkE sc' e e' && (match ifs with
      | [] => (match cnd with | .c (.bool true) => true | _ => false)
      | [c'] => notIf c' && chkE sc' cnd c'
      | _ => false)
  | _, _, _ => false
def chkEs : Scope → Es → List PE' → Bool
  | _, .nil, [] => true
  | sc, .cons e es, e' :: es' => notStar e' && chkE sc e e' && chkEs sc es es'
  | _, _, _ => false
def chkSrc : Scope → Src → PE' → PE' → Bool
  | sc, .of e, _, e' => chkE sc e e'
  | sc, .rng1 a, _, .Call (.Name x _) [a'] [] _ => decide (x = ("range" : Str)) && glb sc x && notStar a' && chkE sc a a'
  | sc, .rng2 a b, _, .Call (.Name x _) [a', b'] [] _ => decide (x = ("range" : Str)) && glb sc x && notStar a' && notStar b' && chkE sc a a' && chkE sc b b'
  | sc, .rng3 a b c, _, .Call (.Name x _) [a', b', c'] [] _ => decide (x = ("range" : Str)) && glb sc x && notStar a' && notStar b' && notStar c' && chkE sc a a' && chkE sc b b' && chkE sc c c'
  | sc, .enum a, t, .Call (.Name x _) [a'] [] _ => isTup t && decide (x = ("enumerate" : Str)) && glb sc x && notStar a' && chkE sc a a'
  | sc, .zip a b, t, .Call (.Name x _) [a', b'] [] _ => isTup t && decide (x = ("zip" : Str)) && glb sc x && notStar a' && notStar b' && chkE sc a a' && chkE sc b b'
  | sc, .rev a, _, .Call (.Name x _) [a'] [] _ => decide (x = ("reversed" : Str)) && glb sc x && notStar a' && chkE sc a a'
  | _, _, _, _ => false
end
end
end M

set_option Elab.async false
set_option linter.all false
set_option maxRecDepth 100000
set_option maxHeartbeats 4000000
/-! M: the meaning of an expression is what its evaluation does -/
namespace M
open PySem PySem.Spec PyProof.Rows L2
section
variable (X : Cx) (Φ : Phi) (XR : XRel)
def SndV (e' : PE') (e : E) : Prop := ∀ F W, Takes X W → PE X e' (rdE Φ X.K F XR W e)
def SndT (e' : PE') (e : E) : Prop := ∀ F W, Takes X W → PT X e' (rdT Φ X.K F XR W e)
def SndW (e' : PE') (e : E) : Prop := ∀ F W, Takes X W → PW X e' (rdT Φ X.K F XR W e)
def SndA (es' : List PE') (es : Es) : Prop := ∀ F W, Takes X W → PA X es' (rdA Φ X.K F XR W es)
def SndD (es' : List PE') (es : Es) : Prop := ∀ F W, Takes X W → PA X es' (rdD Φ X.K F XR W es)
end
section
variable {X : Cx} {Φ : Phi} {XR : XRel} {a' b' c' : PE'} {a b c : E} {pos : Pos}
theorem snd_bin (o : Bop) (ha : SndV X Φ XR a' a) (hb : SndV X Φ XR b' b) : SndV X Φ XR (.BinOp a' (bop o) b' pos) (.bin o a b) := fun F W tk => by
  refine PE_imp (pe_op (opBin o) (ha F W tk) (hb F W tk)) ?_
  rintro σ H Q ⟨ρ, er, h⟩
  simp only [ev, tst_false] at h
  refine ⟨ρ, er, Post.bind er h fun ra ρ1 v1 H1 e1 er1 st1 r1 h1 => ?_⟩
  refine ⟨ρ1, er1, Post.bind er1 h1 fun rb ρ2 v2 H2 e2 er2 st2 r2 h2 => ?_⟩
  have r1' := r1.stp st2
  cases ea : pk ρ2 ra with
  | none => simp only [ea] at h2; exact False.elim h2
  | some x =>
    cases eb : pk ρ2 rb with
    | none => simp only [ea, eb] at h2; exact False.elim h2
    | some y =>
      simp only [ea, eb] at h2
      cases eo : binD o x y with
      | none => simp only [eo, R.of_none] at h2; exact False.elim h2
      | some r =>
        simp only [eo, R.of_some] at h2
        exact ⟨_, x, y, r, vis_le, pk_rel er2 r1' ea, pk_rel er2 r2 eb, eo, h2.fin er2 (binD_slot eo)⟩
theorem snd_neg (ha : SndV X Φ XR a' a) : SndV X Φ XR (.UnaryOp .USub a' pos) (.neg a) := fun F W tk => by
  refine PE_imp (pe_un un_neg (ha F W tk)) ?_
  rintro σ H Q ⟨ρ, er, h⟩
  simp only [ev, tst_false] at h
  refine ⟨ρ, er, Post.bind er h fun ra ρ1 v1 H1 e1 er1 st1 r1 h1 => ?_⟩
  cases ra with
  | v d =>
    cases d with
    | int i =>
      have r1 : Rp X.K _ v1 (.int i) := r1
      cases r1
      exact ⟨i, rfl, h1.val er1 (.int _)⟩
    | _ => exact False.elim h1
  | fresh c => exact False.elim h1
  | slot i => exact False.elim h1
/-- two operands and their comparison, up to the answer -/
theorem cmp_go {F : Fr} {W : WX} {σ : L2.St} {H : Hp} {ρ : Env} {o : Cop} {G : Bool → Env → Hp → Prop} {Q : VK} (er : EnvR X.K F σ H ρ)
    (h : PostG X.K F XR W σ H ρ ((ev Φ false a ρ).bind fun ra ρ => (ev Φ false b ρ).bind fun rb ρ =>
      match pk ρ ra, pk ρ rb with
      | some x, some y => (.of ρ ((cmpD o x y).map fun k => .v (.bool k)) : R RV)
      | _, _ => .bad) fun rv ρ' H' => ∃ k, rv = .v (.bool k) ∧ G k ρ' H') (hq : ∀ k ρ' H', G k ρ' H' → Q (.bl k) H') :
    rdE Φ X.K F XR W a σ H fun x H1 => rdE Φ X.K F XR W b σ H1 fun y H2 => rCmp X.K (cmpD o) x y H2 Q := by
  refine ⟨ρ, er, Post.bindT er h fun ra ρ1 v1 H1 e1 er1 st1 r1 h1 => ?_⟩
  refine ⟨ρ1, er1, Post.bindT er1 h1 fun rb ρ2 v2 H2 e2 er2 st2 r2 h2 => ?_⟩
  have r1' := r1.stp st2
  cases ea : pk ρ2 ra with
  | none => simp only [ea] at h2; exact False.elim h2
  | some x =>
    cases eb : pk ρ2 rb with
    | none => simp only [ea, eb] at h2; exact False.elim h2
    | some y =>
      simp only [ea, eb] at h2
      cases eo : cmpD o x y with
      | none => simp only [eo, Option.map_none, R.of_none] at h2; exact False.elim h2
      | some k =>
        simp only [eo, Option.map_some, R.of_some] at h2
        obtain ⟨k', e, g⟩ := h2 H2 er2 .refl
        cases e
        exact ⟨_, x, y, k, vis_le, pk_rel er2 r1' ea, pk_rel er2 r2 eb, eo, hq _ _ _ g⟩
theorem Post.boolG {K : PySem.W.Frag} {F : Fr} {W : WX} {σ : L2.St} {H : Hp} {ρ : Env} {r : R RV} {Q : VK} (hb : ∀ rv ρ', r = .ok rv ρ' → ∃ k, rv = .v (.bool k)) (h : Post K F XR W σ H ρ r Q) :
    PostG K F XR W σ H ρ r fun rv _ H' => ∃ k, rv = .v (.bool k) ∧ Q (.bl k) H' := by
  cases r with
  | ok rv ρ' =>
    obtain ⟨k, rfl⟩ := hb _ _ rfl
    exact fun H' er st => ⟨k, rfl, h (.bl k) H' er st (.bl k)⟩
  | exc x ρ' => exact h
  | bad => exact h
theorem bind_ok_inv {α β : Type} {m : R α} {f : α → Env → R β} {b : β} {ρ : Env} (h : m.bind f = .ok b ρ) : ∃ a ρ', m = .ok a ρ' ∧ f a ρ' = .ok b ρ := by
  cases m with
  | ok a ρ' => exact ⟨a, ρ', rfl, h⟩
  | exc x ρ' => cases h
  | bad => cases h
theorem cmp_bool {o : Cop} {t : Bool} {ρ ρ' : Env} {rv : RV} (h : ev Φ t (.cmp o a b) ρ = .ok rv ρ') : ∃ k, rv = .v (.bool k) := by
  simp only [ev] at h
  obtain ⟨ra, ρ1, _, h⟩ := bind_ok_inv h
  obtain ⟨rb, ρ2, _, h⟩ := bind_ok_inv h
  split at h
  · rename_i x y _ _
    cases e : cmpD o x y with
    | none => rw [e] at h; cases h
    | some k => rw [e] at h; cases h; exact ⟨k, rfl⟩
  · cases h
theorem snd_cmp (hu : X.A.units + 65 < cLine) (o : Cop) (hm : behindInMarks (cop o) b' = false) (ha : SndV X Φ XR a' a) (hb : SndV X Φ XR b' b) : SndV X Φ XR (.Compare a' [cop o] [b'] pos) (.cmp o a b) := fun F W tk => by
  refine PE_imp (pe_cmpR (opCmp hu o) (ha F W tk) (hb F W tk) hm) ?_
  rintro σ H Q ⟨ρ, er, h⟩
  have h' := Post.boolG (fun rv ρ' e => cmp_bool e) h
  simp only [ev] at h'
  exact cmp_go (G := fun k _ H' => Q (.bl k) H') er h' fun _ _ _ g => g
theorem sndT_cmp (hu : X.A.units + 65 < cLine) (o : Cop) (hm : behindInMarks (cop o) b' = false) (ha : SndV X Φ XR a' a) (hb : SndV X Φ XR b' b) : SndT X Φ XR (.Compare a' [cop o] [b'] pos) (.cmp o a b) := fun F W tk => by
  refine PT_imp (pt_cmpR (opCmp hu o) (ha F W tk) (hb F W tk) hm) ?_
  rintro σ H Q ⟨ρ, er, h⟩
  unfold PostT at h
  simp only [ev] at h
  exact cmp_go (G := fun k _ H' => Q k H') er h fun k _ _ g => ⟨k, rfl, g⟩
/-- a chain of two -/
theorem chain_go {F : Fr} {W : WX} {σ : L2.St} {H : Hp} {ρ : Env} {o p : Cop} {Q : VK} {t : Bool} (er : EnvR X.K F σ H ρ)
    (h : PostG X.K F XR W σ H ρ (ev Φ t (.chain o p a b c) ρ) fun rv ρ' H' => ∃ k, rv = .v (.bool k) ∧ Q (.bl k) H') :
    tChain (rCmp X.K (cmpD o)) (rCmp X.K (cmpD p)) (rdE Φ X.K F XR W a) (rdE Φ X.K F XR W b) (rdE Φ X.K F XR W c) σ H Q := by
  simp only [ev] at h
  refine ⟨ρ, er, Post.bindT er h fun ra ρ1 v1 H1 e1 er1 st1 r1 h1 => ?_⟩
  refine ⟨ρ1, er1, Post.bindT er1 h1 fun rb ρ2 v2 H2 e2 er2 st2 r2 h2 => ?_⟩
  have r1' := r1.stp st2
  cases ea : pk ρ2 ra with
  | none => simp only [ea] at h2; exact False.elim h2
  | some x =>
    cases eb : pk ρ2 rb with
    | none => simp only [ea, eb] at h2; exact False.elim h2
    | some y =>
      simp only [ea, eb] at h2
      cases eo : cmpD o x y with
      | none => simp only [eo] at h2; exact False.elim h2
      | some k =>
        refine ⟨_, x, y, k, vis_le, pk_rel er2 r1' ea, pk_rel er2 r2 eb, eo, k, rfl, ?_⟩
        cases k with
        | false =>
          simp only [eo] at h2
          obtain ⟨k', e, g⟩ := h2 H2 er2 .refl
          cases e
          rw [if_neg Bool.false_ne_true]
          exact g
        | true =>
          rw [if_pos rfl]
          simp only [eo] at h2
          refine ⟨ρ2, er2, Post.bindT er2 h2 fun rc ρ3 v3 H3 e3 er3 st3 r3 h3 => ?_⟩
          have r2' := r2.stp st3
          cases eb' : pk ρ3 rb with
          | none => simp only [eb'] at h3; exact False.elim h3
          | some y' =>
            cases ec : pk ρ3 rc with
            | none => simp only [eb', ec] at h3; exact False.elim h3
            | some z =>
              simp only [eb', ec] at h3
              cases eo' : cmpD p y' z with
              | none => simp only [eo', Option.map_none, R.of_none] at h3; exact False.elim h3
              | some k =>
                simp only [eo', Option.map_some, R.of_some] at h3
                obtain ⟨k', e, g⟩ := h3 H3 er3 .refl
                cases e
                exact ⟨_, y', z, k, vis_le, pk_rel er3 r2' eb', pk_rel er3 r3 ec, eo', g⟩
theorem chain_bool {o p : Cop} {t : Bool} {ρ ρ' : Env} {rv : RV} (h : ev Φ t (.chain o p a b c) ρ = .ok rv ρ') : ∃ k, rv = .v (.bool k) := by
  simp only [ev] at h
  obtain ⟨ra, ρ1, _, h⟩ := bind_ok_inv h
  obtain ⟨rb, ρ2, _, h⟩ := bind_ok_inv h
  split at h
  · split at h
    · obtain ⟨rc, ρ3, _, h⟩ := bind_ok_inv h
      split at h
      · rename_i x y _ _
        cases e : cmpD p x y with
        | none => rw [e] at h; cases h
        | some k => rw [e] at h; cases h; exact ⟨k, rfl⟩
      · cases h
    · cases h; exact ⟨_, rfl⟩
    · cases h
  · cases h
theorem snd_chain (hu : X.A.units + 65 < cLine) (o p : Cop) (hm : lastMarks [cop o, cop p] [b', c'] = false) (ha : SndV X Φ XR a' a) (hb : SndV X Φ XR b' b) (hc : SndV X Φ XR c' c) : SndV X Φ XR (.Compare a' [cop o, cop p] [b', c'] pos) (.chain o p a b c) := fun F W tk => by
  refine PE_imp (pe_chain (opCmp hu o) (opCmp hu p) (ha F W tk) (hb F W tk) (hc F W tk) hm) ?_
  rintro σ H Q ⟨ρ, er, h⟩
  exact chain_go er (Post.boolG (fun rv ρ' e => chain_bool e) h)
theorem sndT_chain (hu : X.A.units + 65 < cLine) (o p : Cop) (hm : lastMarks [cop o, cop p] [b', c'] = false) (ha : SndV X Φ XR a' a) (hb : SndV X Φ XR b' b) (hc : SndV X Φ XR c' c) : SndT X Φ XR (.Compare a' [cop o, cop p] [b', c'] pos) (.chain o p a b c) := fun F W tk => by
  refine PT_imp (pt_chain (opCmp hu o) (opCmp hu p) (ha F W tk) (hb F W tk) (hc F W tk) hm) ?_
  rintro σ H Q ⟨ρ, er, h⟩
  refine chain_go (t := true) er (?_ : PostG X.K F XR W σ H ρ _ _)
  unfold PostT at h
  cases e : ev Φ true (.chain o p a b c) ρ with
  | ok rv ρ' =>
    rw [e] at h
    intro H' er' st'
    obtain ⟨k, e1, e2⟩ := h H' er' st'
    exact ⟨k, e1, k, rfl, e2⟩
  | exc x ρ' => rw [e] at h; exact h
  | bad => rw [e] at h; exact h
/-! ### and, or, not, if -/
theorem snd_and {r : List PE'} (ha : SndV X Φ XR a' a) (hb : SndV X Φ XR (.BoolOp .And (b' :: r) pos) b) : SndV X Φ XR (.BoolOp .And (a' :: b' :: r) pos) (.and_ a b) := fun F W tk => by
  refine PE_imp (pe_and (ha F W tk) (hb F W tk)) ?_
  rintro σ H Q ⟨ρ, er, h⟩
  simp only [ev] at h
  refine ⟨ρ, er, Post.bind er h fun ra ρ1 v1 H1 e1 er1 st1 r1 h1 => ?_⟩
  cases ra with
  | v d =>
    cases d with
    | bool k =>
      have r1 : Rp X.K _ v1 (.bool k) := r1
      cases r1
      refine ⟨k, rfl, ?_⟩
      cases k with
      | true => rw [if_pos rfl]; exact ⟨ρ1, er1, h1⟩
      | false => rw [if_neg Bool.false_ne_true]; exact h1.val er1 (.bl _)
    | _ => exact False.elim h1
  | fresh c => exact False.elim h1
  | slot i => exact False.elim h1
theorem snd_or {r : List PE'} (ha : SndV X Φ XR a' a) (hb : SndV X Φ XR (.BoolOp .Or (b' :: r) pos) b) : SndV X Φ XR (.BoolOp .Or (a' :: b' :: r) pos) (.or_ a b) := fun F W tk => by
  refine PE_imp (pe_or (ha F W tk) (hb F W tk)) ?_
  rintro σ H Q ⟨ρ, er, h⟩
  simp only [ev] at h
  refine ⟨ρ, er, Post.bind er h fun ra ρ1 v1 H1 e1 er1 st1 r1 h1 => ?_⟩
  cases ra with
  | v d =>
    cases d with
    | bool k =>
      have r1 : Rp X.K _ v1 (.bool k) := r1
      cases r1
      refine ⟨k, rfl, ?_⟩
      cases k with
      | true => rw [if_pos rfl]; exact h1.val er1 (.bl _)
      | false => rw [if_neg Bool.false_ne_true]; exact ⟨ρ1, er1, h1⟩
    | _ => exact False.elim h1
  | fresh c => exact False.elim h1
  | slot i => exact False.elim h1
theorem snd_one {o : PySem.BoolOp} (hb : SndV X Φ XR b' b) : SndV X Φ XR (.BoolOp o [b'] pos) b := fun F W tk => pe_one (hb F W tk)
/-- the first of and, or as a test -/
theorem test_go {F : Fr} {W : WX} {σ : L2.St} {H : Hp} {ρ : Env} {f : RV → Env → R RV} {G : RV → Env → Hp → Prop} {Q : Bool → Hp → Prop} 
    (h : PostG X.K F XR W σ H ρ ((ev Φ true a ρ).bind f) G) (hf : ∀ rv ρ, (∀ k, rv ≠ .v (.bool k)) → f rv ρ = .bad)
    (k : ∀ b ρ' H', EnvR X.K F σ H' ρ' → PostG X.K F XR W σ H' ρ' (f (.v (.bool b)) ρ') G → Q b H') : PostT X.K F XR W σ H ρ (ev Φ true a ρ) Q := by
  unfold PostT
  refine PostG.bindG h fun rv ρ1 H1 e er st h1 => ?_
  by_cases hb : ∃ k, rv = .v (.bool k)
  · obtain ⟨b, rfl⟩ := hb
    exact ⟨b, rfl, k b ρ1 H1 er h1⟩
  · rw [hf rv ρ1 (fun k e => hb ⟨k, e⟩)] at h1
    exact False.elim h1
theorem sndW_and {r : List PE'} (ha : SndT X Φ XR a' a) (hb : SndW X Φ XR (.BoolOp .And (b' :: r) pos) b) : SndW X Φ XR (.BoolOp .And (a' :: b' :: r) pos) (.and_ a b) := fun F W tk => by
  refine PW_imp (pw_and (ha F W tk) (hb F W tk)) ?_
  rintro σ H Q ⟨ρ, er, h⟩
  unfold PostT at h
  simp only [ev] at h
  refine ⟨ρ, er, test_go h (fun rv ρ hn => ?_) fun b ρ1 H1 er1 h1 => ?_⟩
  · split
    · rename_i z; exact absurd rfl (hn true)
    · rename_i z; exact absurd rfl (hn false)
    · rfl
  · cases b with
    | true => rw [if_pos rfl]; exact ⟨ρ1, er1, h1⟩
    | false =>
      rw [if_neg Bool.false_ne_true]
      obtain ⟨k, e, q⟩ := h1 H1 er1 .refl
      cases e
      exact q
theorem sndW_or {r : List PE'} (ha : SndT X Φ XR a' a) (hb : SndW X Φ XR (.BoolOp .Or (b' :: r) pos) b) : SndW X Φ XR (.BoolOp .Or (a' :: b' :: r) pos) (.or_ a b) := fun F W tk => by
  refine PW_imp (pw_or (ha F W tk) (hb F W tk)) ?_
  rintro σ H Q ⟨ρ, er, h⟩
  unfold PostT at h
  simp only [ev] at h
  refine ⟨ρ, er, test_go h (fun rv ρ hn => ?_) fun b ρ1 H1 er1 h1 => ?_⟩
  · split
    · rename_i z; exact absurd rfl (hn true)
    · rename_i z; exact absurd rfl (hn false)
    · rfl
  · cases b with
    | true =>
      rw [if_pos rfl]
      obtain ⟨k, e, q⟩ := h1 H1 er1 .refl
      cases e
      exact q
    | false => rw [if_neg Bool.false_ne_true]; exact ⟨ρ1, er1, h1⟩
theorem sndW_one {o : PySem.BoolOp} (hb : SndT X Φ XR b' b) : SndW X Φ XR (.BoolOp o [b'] pos) b := fun F W tk => by
  cases o with
  | And => exact pw_and1 (hb F W tk)
  | Or => exact pw_or1 (hb F W tk)
theorem snd_not (ha : SndV X Φ XR a' a) : SndV X Φ XR (.UnaryOp .Not a' pos) (.not_ a) := fun F W tk => by
  refine PE_imp (pe_not (ha F W tk)) ?_
  rintro σ H Q ⟨ρ, er, h⟩
  simp only [ev] at h
  refine ⟨ρ, er, Post.bind er h fun ra ρ1 v1 H1 e1 er1 st1 r1 h1 => ?_⟩
  cases ra with
  | v d =>
    cases d with
    | bool k =>
      have r1 : Rp X.K _ v1 (.bool k) := r1
      cases r1
      exact ⟨k, rfl, h1.val er1 (.bl _)⟩
    | _ => exact False.elim h1
  | fresh c => exact False.elim h1
  | slot i => exact False.elim h1
theorem sndT_not (ha : SndT X Φ XR a' a) : SndT X Φ XR (.UnaryOp .Not a' pos) (.not_ a) := fun F W tk => by
  refine PT_imp (pt_not (ha F W tk)) ?_
  rintro σ H Q ⟨ρ, er, h⟩
  unfold PostT at h
  simp only [ev] at h
  refine ⟨ρ, er, test_go h (fun rv ρ hn => ?_) fun b ρ1 H1 er1 h1 => ?_⟩
  · split
    · exact absurd rfl (hn _)
    · rfl
  · obtain ⟨k, e, q⟩ := h1 H1 er1 .refl
    cases e
    exact q
theorem snd_ite (hc : SndT X Φ XR c' c) (ha : SndV X Φ XR a' a) (hb : SndV X Φ XR b' b) : SndV X Φ XR (.IfExp c' a' b' pos) (.ite c a b) := fun F W tk => by
  refine PE_imp (pe_ifExp (hc F W tk) (ha F W tk) (hb F W tk)) ?_
  rintro σ H Q ⟨ρ, er, h⟩
  simp only [ev, tst_false] at h
  refine ⟨ρ, er, ?_⟩
  unfold PostT
  refine PostG.bind h fun rv ρ1 H1 e er1 st h1 => ?_
  cases rv with
  | v d =>
    cases d with
    | bool k =>
      refine ⟨k, rfl, ?_⟩
      cases k with
      | true => rw [if_pos rfl]; exact ⟨ρ1, er1, h1⟩
      | false => rw [if_neg Bool.false_ne_true]; exact ⟨ρ1, er1, h1⟩
    | _ => exact False.elim h1
  | fresh c => exact False.elim h1
  | slot i => exact False.elim h1
/-- a test that is its value's truth -/
theorem sndT_plain (hp : plainT a' = true) (ht : ∀ ρ, ev Φ true a ρ = tst true (ev Φ false a ρ)) (h : SndV X Φ XR a' a) : SndT X Φ XR a' a := fun F W tk => by
  refine PT_imp (pt_truth (h F W tk) fun wh => plainT_ok hp wh) ?_
  rintro σ H Q ⟨ρ, er, h⟩
  unfold PostT at h
  rw [ht ρ] at h
  unfold tst at h
  rw [if_pos rfl] at h
  refine ⟨ρ, er, Post.bindT er h fun rv ρ1 v1 H1 e1 er1 st1 r1 h1 => ?_⟩
  cases e : pk ρ1 rv with
  | none => simp only [e] at h1; exact False.elim h1
  | some d =>
    simp only [e, Option.bind_some] at h1
    cases et : truth d with
    | none => simp only [et] at h1; exact False.elim h1
    | some k =>
      simp only [et] at h1
      obtain ⟨k', e', q⟩ := h1 H1 er1 .refl
      cases e'
      refine ⟨k, ?_, q⟩
      have pr := pk_rel er1 r1 e
      cases d with
      | none => cases et; cases pr.none; exact rfl
      | bool x => cases et; cases pr.bool; exact rfl
      | int x => cases et; cases pr.int; exact rfl
      | list xs =>
        cases et
        obtain ⟨p, vs, rfl, g1, g2⟩ := pr.list vis_le
        refine .inl ⟨vs, g1, ?_⟩
        cases g2 <;> rfl
      | tuple xs =>
        cases et
        obtain ⟨p, vs, rfl, g1, _, g2⟩ := pr.tuple vis_le
        refine .inr (.inl ⟨vs, g1, ?_⟩)
        cases g2 <;> rfl
      | str x => cases et
      | dict x => cases et
end
end M

set_option Elab.async false
set_option linter.all false
set_option maxRecDepth 100000
set_option maxHeartbeats 4000000
/-! M: a sequence turned about -/
namespace M
open PySem PySem.Spec PyProof.Rows L2
section
variable {prog : Program} {w : World} {A : Around} {E : Value → Shared → Prop} {s : Shared}
theorem places_rev (n : Nat) : Builtin.Slice.slicePlaces ((n : Int) - 1) (-1) (-1) = n := by
  unfold Builtin.Slice.slicePlaces
  rw [if_neg (by decide)]
  by_cases h : (n : Int) - 1 > -1
  · rw [if_pos h]
    have : (-(-1 : Int)) = 1 := by decide
    rw [this, Int.ediv_one]
    omega
  · rw [if_neg h]; omega
theorem applied_rev {sl : Addr} {vl vu vs : Value} {n : Nat} {Q : Int × Int × Nat → Shared → Prop} (hs : s.heap.IsSliceOf sl vl vu vs) (pl : IsPart vl none) (pu : IsPart vu none) (ps : IsPart vs (some (-1)))
    (h : Q ((n : Int) - 1, -1, n) s) : wpAny (model prog w) A (Builtin.Slice.sliceApplied (.ref sl) (pure (n : Int))) Q E s := by
  obtain ⟨os, hos, hcs, hds⟩ := id hs
  unfold Builtin.Slice.sliceApplied Builtin.Slice.sliceFields
  refine wpAny_bind (wpAny_bind (wpAny_field hos hds (x := vl) rfl (wpAny_bind (wpAny_field hos hds (x := vu) rfl (wpAny_bind (wpAny_field hos hds (x := vs) rfl (wpAny_pure ?_)))))))
  refine wpAny_bind (HT.slicePart_ ps ?_)
  show wpAny _ _ (if ((-1 : Int) == 0) = true then _ else _) _ _ s
  rw [if_neg (by decide)]
  refine wpAny_bind (HT.slicePart_ pl (wpAny_bind (HT.slicePart_ pu (wpAny_bind (wpAny_pure ?_)))))
  show wpAny _ _ (match Builtin.Slice.sliceAdjust none none (-1) (n : Int) with | (lo, hi) => pure (lo, (-1 : Int), Builtin.Slice.slicePlaces lo hi (-1))) _ _ s
  have e : Builtin.Slice.sliceAdjust none none (-1) (n : Int) = ((n : Int) - 1, -1) := by
    simp [Builtin.Slice.sliceAdjust]
  rw [e]
  show wpAny _ _ (pure ((n : Int) - 1, (-1 : Int), Builtin.Slice.slicePlaces ((n : Int) - 1) (-1) (-1))) _ _ s
  rw [places_rev]
  exact wpAny_pure h
theorem fm_eq {α β : Type} {f : α → Option β} {g : α → β} : ∀ {l : List α}, (∀ k ∈ l, f k = some (g k)) → l.filterMap f = l.map g
  | [], _ => rfl
  | x :: l, h => by
    rw [List.filterMap_cons, h x List.mem_cons_self, List.map_cons, fm_eq fun k hk => h k (List.mem_cons_of_mem _ hk)]
theorem pick_rev (xs : Array Value) : ((List.range xs.size).filterMap fun (k : Nat) => xs[((xs.size : Int) - 1 + (k : Int) * (-1)).toNat]?).toArray = xs.toList.reverse.toArray := by
  congr 1
  apply List.ext_getElem?
  intro i
  have e1 : ∀ k : Nat, k < xs.size → xs[((xs.size : Int) - 1 + (k : Int) * (-1)).toNat]? = some (xs.toList.reverse[k]?.getD .none) := fun k hk => by
    have : ((xs.size : Int) - 1 + (k : Int) * (-1)).toNat = xs.size - 1 - k := by omega
    rw [this]
    have h2 : xs.size - 1 - k < xs.size := by omega
    rw [Array.getElem?_eq_getElem h2]
    rw [List.getElem?_reverse (by simpa using hk)]
    simp [h2]
  have e2 : (List.range xs.size).filterMap (fun (k : Nat) => xs[((xs.size : Int) - 1 + (k : Int) * (-1)).toNat]?) = (List.range xs.size).map fun k => xs.toList.reverse[k]?.getD .none := by
    exact fm_eq fun k hk => e1 k (List.mem_range.mp hk)
  rw [e2]
  by_cases hi : i < xs.size
  · rw [List.getElem?_map, List.getElem?_range hi]
    have : i < xs.toList.reverse.length := by simpa using hi
    show some (xs.toList.reverse[i]?.getD .none) = _
    rw [List.getElem?_eq_getElem this]
    rfl
  · rw [List.getElem?_eq_none (by simpa using hi), List.getElem?_eq_none (by simpa using hi)]
theorem getItem_tup_rev {t sl : Addr} {items : Array Value} {vl vu vs : Value} {Q : Value → Shared → Prop} (ht : IsTup s.heap t items) (hs : s.heap.IsSliceOf sl vl vu vs) (pl : IsPart vl none) (pu : IsPart vu none) (ps : IsPart vs (some (-1)))
    (h : Q (.ref s.heap.objs.size) { s with heap := s.heap.push { cls := .type "tuple", data := .seq items.toList.reverse.toArray } }) (hsz : items.size ≤ sizeLine) : wpAny (model prog w) A (getItem (.ref t) (.ref sl)) Q E s := by
  have hsz' : sizeOk (.seq items.toList.reverse.toArray) := by
    show items.toList.reverse.toArray.size ≤ sizeLine
    simpa using hsz
  obtain ⟨os, hos, hcs, hds⟩ := id hs
  have ts : s.TypeIs (.ref sl) "slice" := ⟨os, hos, hcs⟩
  unfold getItem
  try with_reducible refine wpAny_holding ?_
  first | refine wpAny_bind (wpAny_pure ?_) | skip
  refine wpAny_bind (wpAny_sequenceKey ht.typeIs (by decide) ?_)
  refine wpAny_bind (wpAny_callSpecial?_slot (name := Str.ofString "__getitem__") ht.typeIs PyProof.Rows.slot_tuple_getitem (wpAny_call_entry PyProof.Rows.slot_tuple_getitem ht.typeIs entry_tuple_getitem ?_ (args_tuple_getitem _ _)))
  show wpAny _ _ (Builtin.Tuple.tupleItemsOf (.ref t) >>= _) _ _ s
  refine wpAny_bind (tupleItemsOf_ ht (wpAny_bind (wpAny_typeOf ts ?_)))
  rw [if_pos (by decide)]
  refine wpAny_bind (applied_rev hs pl pu ps ?_)
  show wpAny _ _ (if (((items.size : Int) - 1) == 0 && (-1 : Int) == 1 && items.size == items.size) = true then _ else _) _ _ s
  rw [if_neg (by simp), pick_rev]
  first
    | exact wpAny_bind (m := Builtin.Tuple.tupleExact _) (wpAny_newObj_type (wpAny_pure ⟨_, rfl, wpAny_pure h⟩) hsz')
    | exact wpAny_bind (m := Builtin.Tuple.tupleExact _) (wpAny_newObj_type (wpAny_bind (wpAny_pure (wpAny_pure ⟨_, rfl, wpAny_pure h⟩))) hsz')
    | exact wpAny_bind (wpAny_bind (m := Builtin.Tuple.tupleExact _) (wpAny_newObj_type (wpAny_pure (wpAny_pure ⟨_, rfl, wpAny_pure h⟩)) hsz'))
    | exact wpAny_bind (wpAny_bind (m := Builtin.Tuple.tupleExact _) (wpAny_newObj_type (wpAny_pure ⟨_, rfl, wpAny_pure h⟩) hsz'))
end
section
variable {X : Cx}
def tRevM (K : PySem.W.Frag) (te : TE) : TE := fun σ H Q => te σ H fun x H1 => ∃ Vi d r, Same Vi H1 ∧ PkR K Vi H1 x d ∧ revD d = some r ∧ Fin K Vi H1 r Q
theorem pe_revM {e : PE'} {te : TE} {k : Nat} {p1 p2 p3 pos : Pos} (he : PE X e te) : PE X (.Subscript e (.Slice none none (some (.UnaryOp .USub (.Constant (.int 1) k p1) p2)) p3) pos) (tRevM X.K te) := by
  refine ⟨fun pins s σ H Q I h => Subscript_ (thn (he.run pins s σ H _ I h) fun v s1 z => ?_)⟩
  obtain ⟨x, H1, I1, r1, Vi, d, r, sm, pr, er, q⟩ := z
  have hst : PO X (some (.UnaryOp .USub (.Constant (.int 1) k p1) p2)) (tPart (tUn (rU fun i => .int (-i)) (tC (.int 1)))) := po_some (pe_un un_neg pe_int)
  refine wpAny_Slice (thn (po_none.run pins s1 σ H1 (fun o H2 => o = none ∧ H2 = H1) I1 ⟨rfl, rfl⟩) fun vl s2 z => ?_)
  obtain ⟨l, H2, I2, pl, rfl, rfl⟩ := z
  refine thn (po_none.run pins s2 σ H2 (fun o H3 => o = none ∧ H3 = H2) I2 ⟨rfl, rfl⟩) fun vu s3 z => ?_
  obtain ⟨u, H3, I3, pu, rfl, rfl⟩ := z
  refine thn (hst.run pins s3 σ H3 (fun o H4 => o = some (-1) ∧ H4 = H3) I3 ⟨1, rfl, -1, rfl, rfl, rfl⟩) fun vs s4 z => ?_
  obtain ⟨o, H4, I4, ps, rfl, rfl⟩ := z
  have I5 : Inv X pins σ H4 { s4 with heap := s4.heap.push { cls := .type "slice", data := .fields #[vl, vu, vs] } } := I4.kept (t' := s4.toks) fun b ob y => Heap.get?_push_of_some _ y
  cases d with
  | list ds =>
    cases er
    obtain ⟨a, xs, rfl, hx, rps⟩ := pr.list sm
    cases r1
    obtain ⟨its, rv, ht, hz⟩ := I5.list hx
    have hlen := rv.length
    refine tail_any (ops := [.ref a, .ref s4.heap.objs.size]) ht.isList.typeIs PySem.slot_list_getitem.lookup ?_ (by with_unfolding_all rfl)
    refine wpAny_getItem_list_slice ht.isList (Heap.IsSliceOf.new _ vl vu vs) pl pu ps (by decide) ?_ (by rw [List.size_toArray]; omega)
    rw [PySem.W.krv_pick]
    refine ⟨.ref _, _, I5.laid (t' := s4.toks) (o := .lst xs.reverse) (fun b ob y => Heap.get?_push_of_some _ y) (Nat.le_refl _) ?_, rfl, q _ (.lst xs.reverse) (I5.hok.fresh (Nat.le_refl _)) (Rps.rev rps)⟩
    exact ⟨by rw [List.length_reverse]; exact hz, its.reverse, 0, rv.reverse, Heap.get?_push_size _ rfl⟩
  | tuple ds =>
    cases er
    obtain ⟨a, xs, rfl, hx, _, rps⟩ := pr.tuple sm
    cases r1
    obtain ⟨its, rv, ht, hz⟩ := I5.tuple hx
    have hlen := rv.length
    refine tail_any (ops := [.ref a, .ref s4.heap.objs.size]) ht.typeIs PyProof.Rows.slot_tuple_getitem.lookup ?_ (by with_unfolding_all rfl)
    refine getItem_tup_rev ht (Heap.IsSliceOf.new _ vl vu vs) pl pu ps ?_ (by rw [List.size_toArray]; omega)
    refine ⟨.ref _, _, I5.laid (t' := s4.toks) (o := .tup xs.reverse) (fun b ob y => Heap.get?_push_of_some _ y) (Nat.le_refl _) ?_, rfl, q.2 _ xs.reverse _ rfl (I5.hok.fresh (Nat.le_refl _)) (Rps.rev rps)⟩
    exact ⟨by rw [List.length_reverse]; exact hz, its.reverse, rv.reverse, IsTup.new _ _⟩
  | _ => cases er
end
end M

set_option Elab.async false
set_option linter.all false
set_option maxRecDepth 100000
set_option maxHeartbeats 4000000
/-! M: the meaning of an expression, part 2 -/
namespace M
open PySem PySem.Spec PyProof.Rows L2
section
variable {X : Cx} {Φ : Phi} {XR : XRel} {a' b' c' : PE'} {a b c : E} {pos : Pos}
theorem snd_const {d : D} {k : Const} {j : Nat} (h : chkC d k = true) : SndV X Φ XR (.Constant k j pos) (.c d) := fun F W tk => by
  cases d <;> cases k <;> simp [chkC] at h <;> try (exact absurd h Bool.false_ne_true)
  · refine PE_imp pe_non ?_
    rintro σ H Q ⟨ρ, er, h⟩
    exact Post.val h er .non
  · subst h
    refine PE_imp pe_bl ?_
    rintro σ H Q ⟨ρ, er, h⟩
    exact Post.val h er (.bl _)
  · subst h
    refine PE_imp pe_int ?_
    rintro σ H Q ⟨ρ, er, h⟩
    exact Post.val h er (.int _)
  · subst h
    refine PE_imp pe_str ?_
    rintro σ H Q ⟨ρ, er, h⟩
    exact Post.val h er (.str _)
theorem snd_var {i : Nat} {x : Str} (hN : X.N[i]? = some x) (hv : Vis X.env.scope x) (hd : dbg x = true) : SndV X Φ XR (.Name x pos) (.v i) := fun F W tk => by
  unfold dbg at hd
  simp only [Bool.and_eq_true, Bool.not_eq_true'] at hd
  refine PE_imp (pe_var hN hv hd.1 hd.2) ?_
  rintro σ H Q ⟨ρ, er, h⟩
  simp only [ev, tst_false, nameV] at h
  cases e : ρ[i]? with
  | none => simp only [e] at h; exact False.elim h
  | some s =>
    simp only [e] at h
    cases s with
    | un => exact False.elim h
    | val d =>
      obtain ⟨v, h1, h2⟩ := er.val i d e
      exact ⟨v, h1, Post.val h er h2⟩
    | own t lk c =>
      obtain ⟨p, o, h1, _⟩ := er.own i t lk c e
      exact ⟨_, h1, Post.slot h er h1⟩
theorem snd_glob {x : Str} {d : D} {u : Value} {v : V} (hg : Gl X x) (hm : X.mg x = some u) (r : RelV v u) (hr : ∀ H, Rp X.K H v d) (hd : dbg x = true) : SndV X Φ XR (.Name x pos) (.g x d) := fun F W tk => by
  unfold dbg at hd
  simp only [Bool.and_eq_true, Bool.not_eq_true'] at hd
  refine PE_imp (pe_glob hg hm r hd.1) ?_
  rintro σ H Q ⟨ρ, er, h⟩
  exact Post.val h er (hr _)
theorem snd_ix (hu : X.A.units + 1 < cLine) (hs : notSl b' = true) (ha : SndV X Φ XR a' a) (hb : SndV X Φ XR b' b) : SndV X Φ XR (.Subscript a' b' pos) (.ix a b) := fun F W tk => by
  refine PE_imp (pe_ix (ixM hu) (ha F W tk) (hb F W tk) (notSl_ok hs)) ?_
  rintro σ H Q ⟨ρ, er, h⟩
  simp only [ev, tst_false] at h
  refine ⟨ρ, er, Post.bind er h fun ra ρ1 v1 H1 e1 er1 st1 r1 h1 => ?_⟩
  refine ⟨ρ1, er1, Post.bind er1 h1 fun rb ρ2 v2 H2 e2 er2 st2 r2 h2 => ?_⟩
  have r1' := r1.stp st2
  cases ea : pk ρ2 ra with
  | none => simp only [ea] at h2; exact False.elim h2
  | some x =>
    cases eb : pk ρ2 rb with
    | none => simp only [ea, eb] at h2; exact False.elim h2
    | some y =>
      simp only [ea, eb] at h2
      cases eo : ixD x y with
      | none => simp only [eo, Option.map_none, R.of_none] at h2; exact False.elim h2
      | some d =>
        simp only [eo, Option.map_some, R.of_some] at h2
        exact ⟨_, x, y, d, vis_le, pk_rel er2 r1' ea, pk_rel er2 r2 eb, eo, fun v r => Post.val h2 er2 r⟩
/-! ### slices -/
def rdP (Φ : Phi) (K : PySem.W.Frag) (F : Fr) (XR : XRel) (W : WX) (lo : E) : TO := fun σ H Q => ∃ ρ, EnvR K F σ H ρ ∧ PostG K F XR W σ H ρ (ev Φ false lo ρ) fun rv ρ' H' => ∃ o, partE lo rv = some o ∧ Q o H'
def SndP (X : Cx) (Φ : Phi) (XR : XRel) (l : Option PE') (lo : E) : Prop := ∀ F W, Takes X W → PO X l (rdP Φ X.K F XR W lo)
theorem PO_imp {X : Cx} {e : Option PE'} {t t' : TO} (h : PO X e t) (i : ∀ σ H Q, t' σ H Q → t σ H Q) : PO X e t' := ⟨fun pins s σ H Q I q => h.run pins s σ H Q I (i σ H Q q)⟩
theorem sndP_none : SndP X Φ XR none .no := fun F W tk => by
  refine PO_imp po_none ?_
  rintro σ H Q ⟨ρ, er, h⟩
  simp only [ev] at h
  obtain ⟨o, e, q⟩ := h H er .refl
  cases e
  exact q
theorem sndP_some {lo : E} (hn : lo ≠ .no) (ha : SndV X Φ XR a' lo) : SndP X Φ XR (some a') lo := fun F W tk => by
  refine PO_imp (po_some (ha F W tk)) ?_
  rintro σ H Q ⟨ρ, er, h⟩
  refine ⟨ρ, er, Post.read er ?_⟩
  cases e : ev Φ false lo ρ with
  | ok rv ρ' =>
    rw [e] at h
    intro H' er' st v r
    obtain ⟨o, e1, q⟩ := h H' er' st
    cases rv with
    | v d =>
      cases d with
      | int i =>
        have r : Rp X.K _ v (.int i) := r
        cases r
        have : partE lo (.v (.int i)) = some (some i) := by cases lo <;> first | rfl | exact absurd rfl hn
        rw [this] at e1
        cases e1
        exact ⟨i, rfl, q⟩
      | _ => exfalso; cases lo <;> first | (cases e1; done) | exact absurd rfl hn
    | fresh c => exfalso; cases lo <;> first | (cases e1; done) | exact absurd rfl hn
    | slot i => exfalso; cases lo <;> first | (cases e1; done) | exact absurd rfl hn
  | exc x ρ' => rw [e] at h; exact h
  | bad => rw [e] at h; exact h
theorem slD_slot {d : D} {l h : Option Int} {r : RV} (e : slD d l h = some r) (i : Nat) : r ≠ .slot i := by
  cases d <;> cases e <;> intro z <;> cases z
theorem revD_slot {d : D} {r : RV} (e : revD d = some r) (i : Nat) : r ≠ .slot i := by
  cases d <;> cases e <;> intro z <;> cases z
theorem snd_sl {lo hi : E} {l h' : Option PE'} {p2 : Pos} (ha : SndV X Φ XR a' a) (hl : SndP X Φ XR l lo) (hh : SndP X Φ XR h' hi) : SndV X Φ XR (.Subscript a' (.Slice l h' none p2) pos) (.sl a lo hi) := fun F W tk => by
  refine PE_imp (pe_slice slM (ha F W tk) (hl F W tk) (hh F W tk)) ?_
  rintro σ H Q ⟨ρ, er, h⟩
  simp only [ev, tst_false] at h
  refine ⟨ρ, er, Post.bind er h fun ra ρ1 v1 H1 e1 er1 st1 r1 h1 => ?_⟩
  refine ⟨ρ1, er1, PostG.bind h1 fun rl ρ2 H2 e2 er2 st2 h2 => ?_⟩
  cases el : partE lo rl with
  | none => simp only [el] at h2; exact False.elim h2
  | some l =>
    simp only [el] at h2
    refine ⟨l, rfl, ρ2, er2, PostG.bind h2 fun rh ρ3 H3 e3 er3 st3 h3 => ?_⟩
    have r1' := (r1.stp st2).stp st3
    cases ea : pk ρ3 ra with
    | none => simp only [ea] at h3; exact False.elim h3
    | some x =>
      cases eh : partE hi rh with
      | none => simp only [ea, eh] at h3; exact False.elim h3
      | some u =>
        simp only [ea, eh] at h3
        cases eo : slD x l u with
        | none => simp only [eo, R.of_none] at h3; exact False.elim h3
        | some r =>
          simp only [eo, R.of_some] at h3
          exact ⟨u, rfl, _, x, r, vis_le, pk_rel er3 r1' ea, eo, h3.fin er3 (slD_slot eo)⟩
theorem snd_rev {k : Nat} {p1 p2 p3 : Pos} (ha : SndV X Φ XR a' a) : SndV X Φ XR (.Subscript a' (.Slice none none (some (.UnaryOp .USub (.Constant (.int 1) k p1) p2)) p3) pos) (.rev a) := fun F W tk => by
  refine PE_imp (pe_revM (ha F W tk)) ?_
  rintro σ H Q ⟨ρ, er, h⟩
  simp only [ev, tst_false] at h
  refine ⟨ρ, er, Post.bind er h fun ra ρ1 v1 H1 e1 er1 st1 r1 h1 => ?_⟩
  cases ea : pk ρ1 ra with
  | none => simp only [ea] at h1; exact False.elim h1
  | some x =>
    simp only [ea] at h1
    cases eo : revD x with
    | none => simp only [eo, R.of_none] at h1; exact False.elim h1
    | some r =>
      simp only [eo, R.of_some] at h1
      exact ⟨_, x, r, vis_le, pk_rel er1 r1 ea, eo, h1.fin er1 (revD_slot eo)⟩
/-! ### argument lists, displays -/
theorem sndA_nil : SndA X Φ XR [] .nil := fun F W tk => by
  refine PA_imp pa_nil ?_
  rintro σ H Q ⟨ρ, er, h⟩
  simp only [evs] at h
  exact h H er .refl [] .nil
theorem RVRs.stp {K : PySem.W.Frag} {F : Fr} {σ : L2.St} {H H' : Hp} {ρ ρ' : Env} {vs : List V} {rs : List RV} (r : RVRs K F σ ρ H vs rs) (st : Stp F σ H ρ H' ρ') : RVRs K F σ ρ' H' vs rs := by
  induction r with
  | nil => exact .nil
  | cons h _ ih => exact .cons (h.stp st) ih
theorem sndA_cons {e' : PE'} {es' : List PE'} {e : E} {es : Es} (hs : notStar e' = true) (he : SndV X Φ XR e' e) (hes : SndA X Φ XR es' es) : SndA X Φ XR (e' :: es') (.cons e es) := fun F W tk => by
  refine PA_imp (pa_cons (he F W tk) (hes F W tk) (star_ok hs)) ?_
  rintro σ H Q ⟨ρ, er, h⟩
  simp only [evs] at h
  refine ⟨ρ, er, Post.bindT er h fun ra ρ1 v1 H1 e1 er1 st1 r1 h1 => ?_⟩
  refine ⟨ρ1, er1, PostG.bindG h1 fun rs ρ2 H2 e2 er2 st2 h2 => ?_⟩
  intro vs rv
  have r1' := r1.stp st2
  exact h2 H2 er2 .refl (v1 :: vs) (.cons (RVR.settle2 r1') rv)
/-- a slot's list becomes data -/
theorem frz_ok {K : PySem.W.Frag} {F : Fr} {σ : L2.St} {H : Hp} {ρ ρ' : Env} {rv : RV} {d : D} {v : V} (er : EnvR K F σ H ρ) (r : RVR K F σ ρ H v (settle rv)) (e : frz ρ rv = .ok d ρ') :
    EnvR K F σ H ρ' ∧ Stp F σ H ρ H ρ' ∧ Rp K (vis F σ ρ' H) v d := by
  cases rv with
  | v d' => cases e; exact ⟨er, .refl, r⟩
  | fresh c => cases e; exact ⟨er, .refl, r⟩
  | slot i =>
    have r : σ[i]? = some (some v) := r
    simp only [frz] at e
    cases es : ρ[i]? with
    | none => simp only [es] at e; cases e
    | some s =>
      simp only [es] at e
      cases s with
      | un => cases e
      | val d' =>
        cases e
        obtain ⟨w, h1, h2⟩ := er.val i _ es
        rw [r] at h1; cases h1
        exact ⟨er, .refl, h2⟩
      | own t lk c =>
        cases t with
        | some t => cases e
        | none =>
          cases lk with
          | true => cases e
          | false =>
            cases e
            obtain ⟨p, o, h1, h2, h3, h4, h5, h6⟩ := er.own i none false c es
            rw [r] at h1
            cases h1
            have hi : i < ρ.length := (List.getElem?_eq_some_iff.mp es).1
            have oa : ∀ b, OA σ (ρ.set i (.val c.toD)) b → OA σ ρ b ∧ b ≠ p := fun b z => by
              obtain ⟨j, t, lk, c', z1, z2⟩ := z
              have hj : j ≠ i := fun q => by
                rw [q, List.getElem?_set_self hi] at z1; cases z1
              rw [List.getElem?_set_ne (Ne.symm hj)] at z1
              refine ⟨⟨j, t, lk, c', z1, z2⟩, fun q => ?_⟩
              subst q
              exact hj (er.uniq j i _ _ _ _ _ _ b z1 es z2 r)
            have le : Same (vis F σ ρ H) (vis F σ (ρ.set i (.val c.toD)) H) := fun b ob z => by
              obtain ⟨z1, z2, z3⟩ := vis_some z
              rw [vis_of z2 (fun y => z3 (oa b y).1)]; exact z1
            have hp : vis F σ (ρ.set i (.val c.toD)) H p = some o := by rw [vis_of h4 (fun y => (oa p y).2 rfl)]; exact h2
            have rp : Rp K (vis F σ (ρ.set i (.val c.toD)) H) (.ref p) c.toD := (h3.mono le).rp hp
            refine ⟨⟨by rw [List.length_set]; exact er.len, fun j d' z => ?_, fun j t lk c' z => ?_, fun j k t lk c' t' lk' c2 q z1 z2 z3 z4 => ?_, er.hid, er.keep, er.inn⟩, ⟨le, fun _ _ => rfl, fun b o z => ⟨o, z⟩⟩, rp⟩
            · by_cases hj : j = i
              · subst hj
                rw [List.getElem?_set_self hi] at z
                cases z
                exact ⟨_, r, rp⟩
              · rw [List.getElem?_set_ne (Ne.symm hj)] at z
                obtain ⟨w, g1, g2⟩ := er.val j d' z
                exact ⟨w, g1, g2.mono le⟩
            · have hj : j ≠ i := fun q => by
                rw [q, List.getElem?_set_self hi] at z; cases z
              rw [List.getElem?_set_ne (Ne.symm hj)] at z
              obtain ⟨q, o', g1, g2, g3, g4⟩ := er.own j t lk c' z
              exact ⟨q, o', g1, g2, g3.mono le, g4⟩
            · have hj : j ≠ i := fun q => by
                rw [q, List.getElem?_set_self hi] at z1; cases z1
              have hk : k ≠ i := fun q => by
                rw [q, List.getElem?_set_self hi] at z2; cases z2
              rw [List.getElem?_set_ne (Ne.symm hj)] at z1
              rw [List.getElem?_set_ne (Ne.symm hk)] at z2
              exact er.uniq j k _ _ _ _ _ _ q z1 z2 z3 z4
theorem frz_noexc {ρ ρ' : Env} {rv : RV} {x : Exc} (e : frz ρ rv = .exc x ρ') : False := by
  cases rv with
  | slot i =>
    simp only [frz] at e
    split at e <;> cases e
  | _ => cases e
theorem sndD_nil : SndD X Φ XR [] .nil := fun F W tk => by
  refine PA_imp pa_nil ?_
  rintro σ H Q ⟨ρ, er, h⟩
  simp only [evd] at h
  exact h H er .refl [] .nil
theorem sndD_cons {e' : PE'} {es' : List PE'} {e : E} {es : Es} (hs : notStar e' = true) (he : SndV X Φ XR e' e) (hes : SndD X Φ XR es' es) : SndD X Φ XR (e' :: es') (.cons e es) := fun F W tk => by
  refine PA_imp (pa_cons (he F W tk) (hes F W tk) (star_ok hs)) ?_
  rintro σ H Q ⟨ρ, er, h⟩
  simp only [evd] at h
  refine ⟨ρ, er, Post.bindT er h fun ra ρ1 v1 H1 e1 er1 st1 r1 h1 => ?_⟩
  cases ef : frz ρ1 ra with
  | bad => rw [ef] at h1; exact False.elim h1
  | exc x ρ' => exact (frz_noexc ef).elim
  | ok d ρ2 =>
    rw [ef] at h1
    simp only [R.bind_ok] at h1
    obtain ⟨er2, st2, rp2⟩ := frz_ok er1 r1 ef
    refine ⟨ρ2, er2, PostG.bindG (PostG.shift h1 st2) fun rs ρ3 H3 e3 er3 st3 h3 => ?_⟩
    intro vs rv
    exact h3 H3 er3 .refl (v1 :: vs) (.cons (Rp.mono st3.same rp2) rv)
theorem snd_tup {es' : List PE'} {es : Es} {k : Nat} (h : SndD X Φ XR es' es) : SndV X Φ XR (.Tuple es' k pos) (.tup es) := fun F W tk => by
  refine PE_imp (pe_tup (h F W tk)) ?_
  rintro σ H Q ⟨ρ, er, h⟩
  simp only [ev, tst_false] at h
  refine ⟨ρ, er, PostG.bind h fun ds ρ1 H1 e1 er1 st1 h1 => ?_⟩
  intro vs rv
  by_cases z : ds.length ≤ sizeLine
  · rw [if_pos z] at h1
    exact ⟨by rw [rv.len]; exact z, fun p hp => Post.newT h1 er1 hp rv⟩
  · rw [if_neg z] at h1; exact False.elim h1
theorem snd_lst {es' : List PE'} {es : Es} (h : SndD X Φ XR es' es) : SndV X Φ XR (.List es' pos) (.lst es) := fun F W tk => by
  refine PE_imp (pe_lst (h F W tk)) ?_
  rintro σ H Q ⟨ρ, er, h⟩
  simp only [ev, tst_false] at h
  refine ⟨ρ, er, PostG.bind h fun ds ρ1 H1 e1 er1 st1 h1 => ?_⟩
  intro vs rv
  by_cases z : ds.length ≤ sizeLine
  · rw [if_pos z] at h1
    exact ⟨by rw [rv.len]; exact z, fun p hp => Post.newC (o := .lst vs) h1 er1 hp rv⟩
  · rw [if_neg z] at h1; exact False.elim h1
/-! ### calls -/
theorem snd_call {f : Nat} {x : Str} {p : Pos} {es' : List PE'} {es : Es} (hf : ∃ a k fd ps, X.mg x = some (.ref a) ∧ PySem.W.keepIn X.K (.ref a) = true ∧ Binds X.K fd ps [] ∧ Room k X.A ∧ FnM X.prog X.w X.K X.mg X.base k a fd ps (spOf X.K XR (Φ f)))
    (hg : X.A.guards = some []) (gl : Gl X x) (hd : dbg x = true) (hs : es'.all notStar = true) (hn : es' = [] → es = .nil) (h : SndA X Φ XR es' es) : SndV X Φ XR (.Call (.Name x p) es' [] pos) (.call f es) := fun F W tk => by
  obtain ⟨a, k, fd, ps, hm, hk, hb, hr, FM⟩ := hf
  unfold dbg at hd
  simp only [Bool.and_eq_true, Bool.not_eq_true'] at hd
  have imp : ∀ σ H Q, rdE Φ X.K F XR W (.call f es) σ H Q → tCallM (spOf X.K XR (Φ f)) W (rdA Φ X.K F XR W es) σ H Q := by
    rintro σ H Q ⟨ρ, er, h⟩
    simp only [ev, tst_false] at h
    refine ⟨ρ, er, PostG.bind h fun rs ρ1 H1 e1 er1 st1 h1 => ?_⟩
    intro vs rv
    exact call_post er1 rv h1
  cases es' with
  | nil =>
    refine PE_imp (pe_callM0 FM hr hg gl hm hk hb tk hd.1) ?_
    intro σ H Q q
    have q := imp σ H Q q
    obtain ⟨ρ, er, q⟩ := q
    have hA := h F W tk
    cases es with
    | nil => simp only [evs] at q; exact q H er .refl [] .nil
    | cons e es => exact absurd (hn rfl) (by intro z; cases z)
  | cons e' es' =>
    rw [List.all_cons, Bool.and_eq_true] at hs
    exact PE_imp (pe_callM FM hr hg gl hm hk hb tk (h F W tk) hd.1 (star_ok hs.1) (stars_any hs.2)) imp
end
end M

set_option Elab.async false
set_option linter.all false
set_option maxRecDepth 100000
set_option maxHeartbeats 4000000
/-! M: calls that only read what they are lent -/
namespace M
open PySem PySem.Spec PyProof.Rows L2
section
variable {K : PySem.W.Frag} {F : Fr} {XR : XRel} {W : WX} {σ : L2.St} {H H' : Hp} {ρ : Env}
/-- a tuple's place -/
def tupO : HO → Bool
  | .lst _ => false
  | .dK _ => false
  | _ => true
theorem sqT_to {V1 V2 : Hp} {a : Addr} {xs : List V} (h : SqT K V1 a xs) (m : ∀ b o, V1 b = some o → tupO o = true → V2 b = some o) : SqT K V2 a xs := by
  rcases h with (h | ⟨o, h⟩) | h
  · exact .inl (.inl (m _ _ h rfl))
  · exact .inl (.inr ⟨o, m _ _ h rfl⟩)
  · exact .inr h
mutual
theorem rp_noL {V1 V2 : Hp} (m : ∀ b o, V1 b = some o → tupO o = true → V2 b = some o) : ∀ (d : D) (v : L2.V), noL d = true → Rp K V1 v d → Rp K V2 v d
  | .none, _, _, h => by cases h; exact .non
  | .bool b, _, _, h => by cases h; exact .bl b
  | .int b, _, _, h => by cases h; exact .int b
  | .str b, _, _, h => by cases h; exact .str b
  | .list _, _, n, _ => by simp [noL] at n
  | .dict _, _, n, _ => by simp [noL] at n
  | .tuple ds, _, n, h => by
    cases h with
    | tup h1 h2 => exact .tup (sqT_to h1 m) (rps_noL m ds _ (by simpa [noL] using n) h2)
theorem rps_noL {V1 V2 : Hp} (m : ∀ b o, V1 b = some o → tupO o = true → V2 b = some o) : ∀ (ds : List D) (vs : List L2.V), noLs ds = true → Rps K V1 vs ds → Rps K V2 vs ds
  | [], _, _, h => by cases h; exact .nil
  | d :: ds, _, n, h => by
    cases h with
    | cons h1 h2 =>
      have n' : noL d = true ∧ noLs ds = true := by simpa [noLs] using n
      exact .cons (rp_noL m d _ n'.1 h1) (rps_noL m ds _ n'.2 h2)
end
/-- what is lent -/
def Pk (σ : L2.St) (ρ : Env) (rs : List RV) (b : Addr) : Prop := ∃ (i : Nat) (t : Option Nat) (lk : Bool) (c : Cell), RV.slot i ∈ rs ∧ ρ[i]? = some (.own t lk c) ∧ σ[i]? = some (some (.ref b))
def hP (F : Fr) (σ : L2.St) (ρ : Env) (rs : List RV) : Addr → Prop := fun b => (F.h b ∨ OA σ ρ b) ∧ ¬ Pk σ ρ rs b
theorem vis_hP {rs : List RV} : Same (vis F σ ρ H) (visH (hP F σ ρ rs) [] H) := fun b o e => by
  obtain ⟨h1, h2, h3⟩ := vis_some e
  unfold visH
  rw [if_neg]
  · exact h1
  rintro (⟨z | z, _⟩ | z)
  · exact h2 z
  · exact h3 z
  · cases z
theorem at_hP {rs : List RV} {b : Addr} (h : Pk σ ρ rs b) : visH (hP F σ ρ rs) [] H b = H b := by
  unfold visH
  rw [if_neg]
  rintro (z | z)
  · exact z.2 h
  · cases z
theorem peek_args (er : EnvR K F σ H ρ) {all : List RV} : ∀ {vs : List V} {rs : List RV} {ds : List D}, RVRs K F σ ρ H vs rs → pks ρ rs = some ds → (∀ r ∈ rs, r ∈ all) → ArgsR K (visH (hP F σ ρ all) [] H) H vs (ds.map .val) []
  | _, _, _, .nil, e, _ => by cases (Option.some.inj e); exact .nil
  | _, _, _, .cons (a := v) (b := r) (l₂ := rs) h t, e, hm => by
    unfold pks at e
    cases e1 : pk ρ r with
    | none => rw [e1] at e; cases e
    | some d =>
      cases e2 : pks ρ rs with
      | none => rw [e1, e2] at e; cases e
      | some ds =>
        rw [e1, e2] at e
        cases e
        refine .val ?_ (peek_args er t e2 fun r hr => hm r (List.mem_cons_of_mem _ hr))
        cases r with
        | v d' => cases (Option.some.inj e1); exact Rp.mono vis_hP h
        | fresh c => cases (Option.some.inj e1); exact Rp.mono vis_hP h
        | slot i =>
          have h : σ[i]? = some (some v) := h
          simp only [pk] at e1
          cases es : ρ[i]? with
          | none => rw [es] at e1; cases e1
          | some s =>
            rw [es] at e1
            cases s with
            | un => cases e1
            | val d' =>
              cases (Option.some.inj e1)
              obtain ⟨w, g1, g2⟩ := er.val i _ es
              rw [h] at g1; cases g1
              exact Rp.mono vis_hP g2
            | own t lk c =>
              cases (Option.some.inj e1)
              obtain ⟨p, o, g1, g2, g3, _⟩ := er.own i t lk c es
              rw [h] at g1; cases g1
              have hp : Pk σ ρ all p := ⟨i, t, lk, c, hm _ List.mem_cons_self, es, h⟩
              exact (CellR.mono vis_hP g3).rp (by rw [at_hP hp]; exact g2)
theorem callP_post {f : Sem} {vs : List V} {rs : List RV} {Q : VK} (er : EnvR K F σ H ρ) (r : RVRs K F σ ρ H vs rs) (h : Post K F XR W σ H ρ (callPR f ρ rs) Q) : spOf K XR f vs H Q fun cls d H' => W cls d σ H' := by
  unfold callPR at h
  cases ep : pks ρ rs with
  | none => rw [ep] at h; exact False.elim h
  | some ds =>
    rw [ep] at h
    simp only at h
    refine ⟨ds.map .val, hP F σ ρ rs, [], peek_args er r ep fun r hr => hr, List.nodup_nil, fun p hp => (by cases hp), fun b hb => ?_, ?_⟩
    · rcases hb.1 with z | z
      · exact er.hid b z
      · exact (er.oa z).2
    cases ef : f (ds.map .val) with
    | bad => rw [ef] at h; exact False.elim h
    | exc x cs => rw [ef] at h; exact False.elim h
    | ok rv cs =>
      rw [ef] at h
      cases cs with
      | cons c cs => cases rv <;> exact False.elim h
      | nil =>
        cases rv with
        | slot i => exact False.elim h
        | fresh c => exact False.elim h
        | v d =>
          simp only at h
          by_cases hn : noL d = true
          case neg => rw [if_neg hn] at h; exact False.elim h
          rw [if_pos hn] at h
          intro v H' kp _ hr
          have z := after_call (e := fun _ => False) (is := []) (ps := []) (cs := []) (ρ' := ρ) er .nil List.nodup_nil (by simp [putBack]) kp (fun _ z => z.elim) .nil
          rw [more_none] at z
          refine h v H' z.1 z.2.1 (rp_noL (fun b o e ht => ?_) d v hn hr)
          unfold visH at e
          split at e
          · cases e
          · rename_i hb
            have hnp : ¬ Pk σ ρ rs b := by
              rintro ⟨i, t, lk, c, _, g1, g2⟩
              obtain ⟨p, o2, k1, k2, k3, _⟩ := er.own i t lk c g1
              rw [g2] at k1; cases k1
              have e2 := kp.1 b o2 k2 (by simp)
              rw [e] at e2
              cases e2
              cases c with
              | l xs => obtain ⟨ys, rfl, _⟩ := k3.lst; cases ht
              | d kv => obtain ⟨ys, rfl, _⟩ := k3.dct; cases ht
            have h1 : ¬ (F.h b ∨ OA σ ρ b) := fun y => hb (.inl ⟨y, hnp⟩)
            rw [vis_of (fun y => h1 (.inl y)) (fun y => h1 (.inr y))]
            exact e
end
section
variable {X : Cx} {Φ : Phi} {XR : XRel} {pos : Pos}
theorem snd_callp {f : Nat} {x : Str} {p : Pos} {es' : List PE'} {es : Es} (hf : ∃ a k fd ps, X.mg x = some (.ref a) ∧ PySem.W.keepIn X.K (.ref a) = true ∧ Binds X.K fd ps [] ∧ Room k X.A ∧ FnM X.prog X.w X.K X.mg X.base k a fd ps (spOf X.K XR (Φ f)))
    (hg : X.A.guards = some []) (gl : Gl X x) (hd : dbg x = true) (hs : es'.all notStar = true) (hn : es' = [] → es = .nil) (h : SndA X Φ XR es' es) : SndV X Φ XR (.Call (.Name x p) es' [] pos) (.callp f es) := fun F W tk => by
  obtain ⟨a, k, fd, ps, hm, hk, hb, hr, FM⟩ := hf
  unfold dbg at hd
  simp only [Bool.and_eq_true, Bool.not_eq_true'] at hd
  have imp : ∀ σ H Q, rdE Φ X.K F XR W (.callp f es) σ H Q → tCallM (spOf X.K XR (Φ f)) W (rdA Φ X.K F XR W es) σ H Q := by
    rintro σ H Q ⟨ρ, er, h⟩
    simp only [ev, tst_false] at h
    refine ⟨ρ, er, PostG.bind h fun rs ρ1 H1 e1 er1 st1 h1 => ?_⟩
    intro vs rv
    exact callP_post er1 rv h1
  cases es' with
  | nil =>
    cases (hn rfl)
    refine PE_imp (pe_callM0 FM hr hg gl hm hk hb tk hd.1) ?_
    intro σ H Q h
    obtain ⟨ρ, er, h⟩ := imp σ H Q h
    simp only [evs] at h
    exact h H er .refl [] .nil
  | cons e' es' =>
    rw [List.all_cons, Bool.and_eq_true] at hs
    exact PE_imp (pe_callM FM hr hg gl hm hk hb tk (h F W tk) hd.1 (star_ok hs.1) (stars_any hs.2)) imp
end
end M

set_option Elab.async false
set_option linter.all false
set_option maxRecDepth 100000
set_option maxHeartbeats 4000000
/-! M: the meaning of an expression, part 3: built-ins, methods -/
namespace M
open PySem PySem.Spec PyProof.Rows L2
section
variable {X : Cx} {Φ : Phi} {XR : XRel} {a' b' c' : PE'} {a b c : E} {pos : Pos}
theorem pks_rel {K : PySem.W.Frag} {F : Fr} {σ : L2.St} {H : Hp} {ρ : Env} (er : EnvR K F σ H ρ) : ∀ {vs : List V} {rs : List RV} {ds : List D}, RVRs K F σ ρ H vs rs → pks ρ rs = some ds → PkRs K (vis F σ ρ H) H vs ds
  | _, _, _, .nil, e => by cases (Option.some.inj e); exact .nil
  | _, _, _, .cons (b := r) (l₂ := rs) h t, e => by
    unfold pks at e
    cases e1 : pk ρ r with
    | none => rw [e1] at e; cases e
    | some d =>
      cases e2 : pks ρ rs with
      | none => rw [e1, e2] at e; cases e
      | some ds => rw [e1, e2] at e; cases e; exact .cons (pk_rel er h e1) (pks_rel er t e2)
theorem fnD_slot {f : Fn} {ds : List D} {r : RV} (e : fnD f ds = some r) (i : Nat) : r ≠ .slot i := by
  unfold fnD at e
  split at e <;> (try split at e) <;> first
    | (cases e; done)
    | (cases e; intro z; cases z; done)
    | (obtain ⟨_, _, rfl⟩ := Option.map_eq_some_iff.mp e; intro z; cases z; done)
    | (obtain ⟨_, _, e2⟩ := Option.bind_eq_some_iff.mp e
       split at e2
       · cases e2; intro z; cases z
       · cases e2)
theorem fn_boot (f : Fn) : bootBuiltins (fnName f) = some (fnVal f) := by cases f <;> decide +kernel
theorem fn_blt (f : Fn) : fnName f ∈ bltNames := by cases f <;> decide +kernel
theorem fn_nm (f : Fn) : fnName f ≠ "__name__" := by cases f <;> decide +kernel
theorem fn_kind (f : Fn) : (∃ id, fnVal f = .builtin id) ∨ ∃ T, fnVal f = .type T := by
  cases f <;> first | exact .inl ⟨_, rfl⟩ | exact .inr ⟨_, rfl⟩
theorem snd_blt {f : Fn} {p : Pos} {e' : PE'} {es' : List PE'} {es : Es} (hc : X.calm = true) (hg : X.A.guards = some []) (hu : X.A.units + 70 < cLine) (dg : digK X.K) (hm : X.mg (fnName f) = none) (gl : Gl X (fnName f)) (hd : dbg (fnName f) = true)
    (hs : (e' :: es').all notStar = true) (h : SndA X Φ XR (e' :: es') es) : SndV X Φ XR (.Call (.Name (fnName f) p) (e' :: es') [] pos) (.blt f es) := fun F W tk => by
  unfold dbg at hd
  simp only [Bool.and_eq_true, Bool.not_eq_true'] at hd
  rw [List.all_cons, Bool.and_eq_true] at hs
  have imp : ∀ σ H Q, rdE Φ X.K F XR W (.blt f es) σ H Q → tCB (rFn X.K f) (rdA Φ X.K F XR W es) σ H Q := by
    rintro σ H Q ⟨ρ, er, h⟩
    simp only [ev, tst_false] at h
    refine ⟨ρ, er, PostG.bind h fun rs ρ1 H1 e1 er1 st1 h1 => ?_⟩
    intro vs rv
    cases ep : pks ρ1 rs with
    | none => simp only [ep] at h1; exact False.elim h1
    | some ds =>
      simp only [ep] at h1
      cases ef : fnD f ds with
      | none => simp only [ef, R.of_none] at h1; exact False.elim h1
      | some r =>
        simp only [ef, R.of_some] at h1
        exact ⟨_, ds, r, vis_le, pks_rel er1 rv ep, ef, h1.fin er1 (fnD_slot ef)⟩
  have op := opFn (X := X) hc hg hu dg f
  have hb := fn_boot f
  rcases fn_kind f with ⟨id, e⟩ | ⟨T, e⟩
  · rw [e] at op hb
    exact PE_imp (pe_callB op gl hm hb (h F W tk) (fn_nm f) hd.1 (star_ok hs.1) (stars_any hs.2)) imp
  · rw [e] at op hb
    exact PE_imp (pe_callTy op gl hm hb (h F W tk) (fn_nm f) hd.1 (star_ok hs.1) (stars_any hs.2)) imp
theorem rgV_rngI {K : PySem.W.Frag} {H : Hp} (i j : Int) : Rps K H (rgV i j) (rngI i (j - i).toNat) := by
  unfold rgV rngI
  generalize List.range (j - i).toNat = l
  induction l with
  | nil => exact .nil
  | cons x l ih => exact .cons (.int _) ih
theorem snd_lrng {p p2 pos2 : Pos} (hc : X.calm = true) (h1 : X.mg "list" = none) (h2 : X.mg "range" = none) (g1 : Gl X "list") (g2 : Gl X "range") (sa : notStar a' = true) (sb : notStar b' = true) (ha : SndV X Φ XR a' a) (hb : SndV X Φ XR b' b) :
    SndV X Φ XR (.Call (.Name "list" p) [.Call (.Name "range" p2) [a', b'] [] pos2] [] pos) (.lrng a b) := fun F W tk => by
  have r := prg_2 (X := X) (p := p2) (pos := pos2) g2 h2 (ha F W tk) (hb F W tk) (by rw [star_ok sa]) (by rw [star_ok sb]) (stars_any (by simp [sb]))
  refine PE_imp (pe_listRg hc g1 h1 r) ?_
  rintro σ H Q ⟨ρ, er, h⟩
  simp only [ev, tst_false] at h
  refine ⟨ρ, er, Post.bind er h fun ra ρ1 v1 H1 e1 er1 st1 r1 h1 => ?_⟩
  refine ⟨ρ1, er1, Post.bind er1 h1 fun rb ρ2 v2 H2 e2 er2 st2 r2 h2 => ?_⟩
  split at h2
  · rename_i i j
    split at h2
    · rename_i hz
      have r1 : Rp X.K _ v1 (.int i) := r1
      have r2 : Rp X.K _ v2 (.int j) := r2
      cases r1; cases r2
      have z1 := of_decide_eq_true hz.1
      have z2 := of_decide_eq_true hz.2.1
      refine ⟨i, j, rfl, rfl, ?_, fun q hq => Post.newC (o := .lst (rgV i j)) h2 er2 hq (rgV_rngI i j)⟩
      have z3 := hz.2.2
      unfold RgOk
      refine ⟨by omega, by omega, by omega, by omega, by omega⟩
    · exact False.elim h2
  · exact False.elim h2
theorem snd_lrng1 {p p2 pos2 : Pos} (hc : X.calm = true) (h1 : X.mg "list" = none) (h2 : X.mg "range" = none) (g1 : Gl X "list") (g2 : Gl X "range") (sb : notStar b' = true) (hb : SndV X Φ XR b' b) :
    SndV X Φ XR (.Call (.Name "list" p) [.Call (.Name "range" p2) [b'] [] pos2] [] pos) (.lrng (.c (.int 0)) b) := fun F W tk => by
  have r := prg_1 (X := X) (p := p2) (pos := pos2) g2 h2 (hb F W tk) (by rw [star_ok sb])
  refine PE_imp (pe_listRg hc g1 h1 r) ?_
  rintro σ H Q ⟨ρ, er, h⟩
  simp only [ev, tst_false, R.bind_ok] at h
  refine ⟨ρ, er, Post.bind er h fun rb ρ2 v2 H2 e2 er2 st2 r2 h2 => ?_⟩
  split at h2
  · rename_i i j hi
    cases hi
    split at h2
    · rename_i hz
      have r2 : Rp X.K _ v2 (.int j) := r2
      cases r2
      have z1 := of_decide_eq_true hz.1
      have z2 := of_decide_eq_true hz.2.1
      refine ⟨j, rfl, ?_, fun q hq => Post.newC (o := .lst (rgV 0 j)) h2 er2 hq (rgV_rngI 0 j)⟩
      have z3 := hz.2.2
      unfold RgOk
      refine ⟨by omega, by omega, by omega, by omega, by omega⟩
    · exact False.elim h2
  · exact False.elim h2
theorem ty_boot (t : Ty) : bootBuiltins (tyName t : Str) = some (.type (tyName t)) := by cases t <;> decide +kernel
theorem ty_nm (t : Ty) : (tyName t : Str) ≠ "__name__" := by cases t <;> decide +kernel
theorem ty_blt (t : Ty) : (tyName t : Str) ∈ bltNames := by cases t <;> decide +kernel
theorem snd_isi {t : Ty} {p p2 : Pos} (h1 : X.mg "isinstance" = none) (h2 : X.mg (tyName t : Str) = none) (g1 : Gl X "isinstance") (g2 : Gl X (tyName t : Str)) (hd : dbg (tyName t : Str) = true) (sa : notStar a' = true) (ha : SndV X Φ XR a' a) :
    SndV X Φ XR (.Call (.Name "isinstance" p) [a', .Name (tyName t : Str) p2] [] pos) (.isi a [t]) := fun F W tk => by
  unfold dbg at hd
  simp only [Bool.and_eq_true, Bool.not_eq_true'] at hd
  have pn : PE X (.Name (tyName t : Str) p2) (tC (.ty (tyName t))) := pe_bltn g2 h2 (ty_boot t) rfl (ty_nm t) hd.1
  refine PE_imp (pe_callB (opIsi t) g1 h1 (by decide +kernel) (pa_cons (ha F W tk) (pa_cons pn pa_nil) (star_ok sa)) (by decide) (by decide) (star_ok sa)) ?_
  rintro σ H Q ⟨ρ, er, h⟩
  simp only [ev] at h
  refine ⟨ρ, er, Post.bind er h fun ra ρ1 v1 H1 e1 er1 st1 r1 h1 => ?_⟩
  cases ea : pk ρ1 ra with
  | none => simp only [ea] at h1; exact False.elim h1
  | some x =>
    simp only [ea] at h1
    refine ⟨_, v1, x, vis_le, rfl, pk_rel er1 r1 ea, ?_⟩
    have : ([t].any fun t => tyIs t x) = tyIs t x := by simp
    rw [this] at h1
    exact Post.val h1 er1 (.bl _)
/-! ### methods of an owned list -/
/-- an owned cell is written -/
theorem own_write {K : PySem.W.Frag} {F : Fr} {σ : L2.St} {H : Hp} {ρ : Env} {i : Nat} {t : Option Nat} {lk : Bool} {c c' : Cell} {p : Addr} {o' : HO} (er : EnvR K F σ H ρ) (e : ρ[i]? = some (.own t lk c)) (es : σ[i]? = some (some (.ref p)))
    (hc : CellR K (vis F σ ρ H) c' o') : EnvR K F σ (upd H p o') (ρ.set i (.own t lk c')) ∧ Stp F σ H ρ (upd H p o') (ρ.set i (.own t lk c')) ∧ vis F σ (ρ.set i (.own t lk c')) (upd H p o') = vis F σ ρ H := by
  obtain ⟨q, o, g1, g2, g3, g4, g5, g6⟩ := er.own i t lk c e
  rw [es] at g1
  cases g1
  have hi : i < ρ.length := (List.getElem?_eq_some_iff.mp e).1
  have ow : ∀ {j : Nat} {t' lk' c2}, (ρ.set i (.own t lk c'))[j]? = some (.own t' lk' c2) → ∃ c3, ρ[j]? = some (.own t' lk' c3) ∧ (j ≠ i → c3 = c2) := fun {j t' lk' c2} z => by
    by_cases hj : j = i
    · subst hj
      rw [List.getElem?_set_self hi] at z
      cases z
      exact ⟨c, e, fun y => absurd rfl y⟩
    · rw [List.getElem?_set_ne (Ne.symm hj)] at z
      exact ⟨c2, z, fun _ => rfl⟩
  have wo : ∀ {j : Nat} {t' lk' c2}, ρ[j]? = some (.own t' lk' c2) → ∃ c3, (ρ.set i (.own t lk c'))[j]? = some (.own t' lk' c3) := fun {j t' lk' c2} z => by
    by_cases hj : j = i
    · subst hj
      rw [e] at z
      cases z
      exact ⟨c', List.getElem?_set_self hi⟩
    · exact ⟨c2, by rw [List.getElem?_set_ne (Ne.symm hj)]; exact z⟩
  have oa : ∀ b, OA σ (ρ.set i (.own t lk c')) b ↔ OA σ ρ b := fun b => by
    constructor
    · rintro ⟨j, t', lk', c2, z1, z2⟩
      obtain ⟨c3, z3, _⟩ := ow z1
      exact ⟨j, t', lk', c3, z3, z2⟩
    · rintro ⟨j, t', lk', c2, z1, z2⟩
      obtain ⟨c3, z3⟩ := wo z1
      exact ⟨j, t', lk', c3, z3, z2⟩
  have hp : OA σ ρ p := ⟨i, t, lk, c, e, es⟩
  have hv : vis F σ (ρ.set i (.own t lk c')) (upd H p o') = vis F σ ρ H := by
    funext b
    unfold vis
    by_cases z : F.h b ∨ OA σ ρ b
    · rw [if_pos z, if_pos (Or.elim z .inl fun y => .inr ((oa b).mpr y))]
    · rw [if_neg z, if_neg (fun y => z (Or.elim y .inl fun x => .inr ((oa b).mp x))), upd_ne]
      intro y
      exact z (.inr (y ▸ hp))
  refine ⟨⟨by rw [List.length_set]; exact er.len, fun j d z => ?_, fun j t' lk' c2 z => ?_, fun j k t1 lk1 c1 t2 lk2 c2 r z1 z2 z3 z4 => ?_, fun b hb => ?_, fun b ob z hI => ?_, fun j hj => ?_⟩, ⟨?_, fun b hb => ?_, fun b ob z => ?_⟩, hv⟩
  · have hj : j ≠ i := fun y => by rw [y, List.getElem?_set_self hi] at z; cases z
    rw [List.getElem?_set_ne (Ne.symm hj)] at z
    rw [hv]
    exact er.val j d z
  · rw [hv]
    by_cases hj : j = i
    · subst hj
      rw [List.getElem?_set_self hi] at z
      cases z
      exact ⟨p, o', es, upd_same, hc, g4, g5, g6⟩
    · rw [List.getElem?_set_ne (Ne.symm hj)] at z
      obtain ⟨r, ob, y1, y2, y3⟩ := er.own j t' lk' c2 z
      have hr : r ≠ p := fun y => by
        subst y
        exact hj (er.uniq j i _ _ _ _ _ _ r z e y1 es)
      exact ⟨r, ob, y1, by rw [upd_ne hr]; exact y2, y3⟩
  · obtain ⟨c3, y1, _⟩ := ow z1
    obtain ⟨c4, y2, _⟩ := ow z2
    exact er.uniq j k _ _ _ _ _ _ r y1 y2 z3 z4
  · obtain ⟨ob, z⟩ := er.hid b hb
    have : b ≠ p := fun y => g4 (y ▸ hb)
    exact ⟨ob, by rw [upd_ne this]; exact z⟩
  · have y := er.keep b ob z hI
    have : b ≠ p := fun x => by
      subst x
      cases t with
      | none => rw [g6 rfl] at z; cases z
      | some m => exact hI m (g5 m rfl).1 (g5 m rfl).2
    rw [upd_ne this]; exact y
  · by_cases y : F.I j = p
    · exact ⟨o', by rw [y, upd_same]⟩
    · obtain ⟨ob, z⟩ := er.inn j hj
      exact ⟨ob, by rw [upd_ne y]; exact z⟩
  · rw [hv]; exact Same.refl _
  · have : b ≠ p := fun y => g4 (y ▸ hb)
    rw [upd_ne this]
  · by_cases y : b = p
    · exact ⟨o', by rw [y, upd_same]⟩
    · exact ⟨ob, by rw [upd_ne y]; exact z⟩
end
end M

set_option Elab.async false
set_option linter.all false
set_option maxRecDepth 100000
set_option maxHeartbeats 4000000
/-! M: methods of an owned list -/
namespace M
open PySem PySem.Spec PyProof.Rows L2
section
variable {X : Cx} {Φ : Phi} {XR : XRel} {a' b' c' : PE'} {a b c : E} {pos : Pos}
theorem Rps.dropLast {K : PySem.W.Frag} {H : Hp} {vs : List V} {ds : List D} (r : Rps K H vs ds) : Rps K H vs.dropLast ds.dropLast := by
  rw [List.dropLast_eq_take, List.dropLast_eq_take, r.len]
  exact r.take _
theorem Rps.erase {K : PySem.W.Frag} {H : Hp} : ∀ {vs : List V} {ds : List D} (i : Nat), Rps K H vs ds → Rps K H (vs.eraseIdx i) (ds.eraseIdx i)
  | _, _, _, .nil => .nil
  | _, _, 0, .cons _ r => r
  | _, _, i + 1, .cons h r => .cons h (Rps.erase i r)
def rMeth (K : PySem.W.Frag) (m : Mth) : V → List V → Hp → VK → Prop := fun x xs H Q => ∃ (Vi : Hp) (p : Addr) (vs : List V) (ds as : List D) (y : D) (ys : List D), Same Vi H ∧ x = .ref p ∧ H p = some (.lst vs) ∧ Rps K Vi vs ds ∧ Rps K Vi xs as ∧ methL m ds as = some (y, ys) ∧
  ∀ v vs', Rp K Vi v y → Rps K Vi vs' ys → Q v (upd H p (.lst vs'))
def mthId : Mth → String
  | .append => "list.append"
  | .pop => "list.pop"
  | .popAt => "list.pop"
  | .remove => "list.remove"
  | .reverse => "list.reverse"
  | .clear => "list.clear"
  | .count => "list.count"
  | .index => "list.index"
theorem ixN_key {n k : Nat} {i : Int} (h : ixN n i = some k) (hn : n ≤ sizeLine) : seqIndex? i n = some k ∧ -(2 ^ 63) ≤ i ∧ i < 2 ^ 63 := by
  obtain ⟨h1, h2, h3, h4⟩ := ixN_seq h
  have := line63
  exact ⟨h1, by omega, by omega⟩
theorem mtM (m : Mth) : MtR X (mthId m) (rMeth X.K m) := by
  intro pins s σ H x xs v us Q I rx rv h
  obtain ⟨Vi, p, vs, ds, as, y, ys, sm, rfl, hp, r1, r2, e, q⟩ := h
  have hl := r1.len
  cases m with
  | append =>
    cases r2 with
    | nil => cases e
    | cons h1 r2 =>
      cases r2 with
      | cons _ _ => cases e
      | nil =>
        simp only [methL] at e
        split at e
        · rename_i hz
          cases e
          exact mt_append pins s σ H _ _ v us Q I rx rv ⟨p, vs, _, rfl, rfl, hp, by omega, q _ _ .non (r1.app (.cons h1 .nil))⟩
        · cases e
  | pop =>
    cases r2 with
    | cons _ _ => cases e
    | nil =>
      simp only [methL, Option.map_eq_some_iff] at e
      obtain ⟨d, e1, e2⟩ := e
      cases e2
      obtain ⟨w, g1, g2⟩ := r1.get e1
      exact mt_pop pins s σ H _ _ v us Q I rx rv ⟨p, vs, w, rfl, rfl, hp, by rw [hl]; exact g1, q _ _ g2 r1.dropLast⟩
  | popAt =>
    cases r2 with
    | nil => cases e
    | cons h1 r2 =>
      cases r2 with
      | cons _ _ => simp [methL] at e
      | nil =>
        cases h1 with
        | int i =>
          simp only [methL] at e
          cases ek : ixN ds.length i with
          | none => rw [ek] at e; cases e
          | some k =>
            rw [ek] at e
            simp only [Option.map_eq_some_iff] at e
            obtain ⟨d, e1, e2⟩ := e
            cases e2
            obtain ⟨w, g1, g2⟩ := r1.get e1
            obtain ⟨_, _, _, _, hz⟩ := I.lst hp
            obtain ⟨z1, z2, z3⟩ := ixN_key ek (by rw [← hl]; exact hz)
            exact mt_popAt pins s σ H _ _ v us Q I rx rv ⟨p, vs, i, k, w, rfl, rfl, hp, z2, z3, by rw [hl]; exact z1, g1, q _ _ g2 (r1.erase k)⟩
        | _ => simp [methL] at e
  | remove => cases e
  | reverse =>
    cases r2 with
    | cons _ _ => cases e
    | nil =>
      cases e
      exact mt_reverse pins s σ H _ _ v us Q I rx rv ⟨p, vs, rfl, rfl, hp, q _ _ .non r1.rev⟩
  | clear =>
    cases r2 with
    | cons _ _ => cases e
    | nil =>
      cases e
      exact mt_clear pins s σ H _ _ v us Q I rx rv ⟨p, vs, rfl, rfl, hp, q _ _ .non .nil⟩
  | count =>
    cases r2 with
    | nil => cases e
    | cons h1 r2 =>
      cases r2 with
      | cons _ _ => simp [methL] at e
      | nil =>
        cases h1 with
        | int i =>
          simp only [methL, Option.map_eq_some_iff] at e
          obtain ⟨ns, e1, e2⟩ := e
          cases e2
          have := r1.ints e1
          have e3 : upd H p (.lst vs) = H := by
            funext b
            unfold upd
            split
            · rename_i z; rw [z]; exact hp.symm
            · rfl
          refine mt_lcount pins s σ H _ _ v us Q I rx rv ⟨p, ns, i, rfl, rfl, .inl (.inl (this ▸ hp)), ?_⟩
          have q := q (.int (ns.count i : Nat)) vs (.int _) r1
          rw [e3] at q
          exact q
        | _ => simp [methL] at e
  | index =>
    cases r2 with
    | nil => cases e
    | cons h1 r2 =>
      cases r2 with
      | cons _ _ => simp [methL] at e
      | nil =>
        cases h1 with
        | int i =>
          simp only [methL, Option.bind_eq_some_iff] at e
          obtain ⟨ns, e1, e2⟩ := e
          split at e2
          case isFalse => cases e2
          rename_i hi
          cases e2
          have hv := r1.ints e1
          subst hv
          have e3 : upd H p (.lst (ns.map V.int)) = H := by
            funext b
            unfold upd
            split
            · rename_i z; rw [z]; exact hp.symm
            · rfl
          have hj : ns.idxOf i < ns.length := List.idxOf_lt_length_iff.mpr hi
          have q := q (.int (ns.idxOf i : Nat)) _ (.int _) r1
          rw [e3] at q
          refine mt_index pins s σ H _ _ v us Q I rx rv ⟨p, ns.map V.int, .int i, ns.idxOf i, .int i, rfl, rfl, .inl (.inl hp), rfl, ?_, ?_, ?_, fun m z' hm hz => ?_, q⟩
          · rw [List.all_map]
            exact List.all_eq_true.mpr fun _ _ => rfl
          · rw [List.getElem?_map, List.getElem?_eq_getElem hj, List.getElem_idxOf]; rfl
          · show (i == i) = true
            simp
          · obtain ⟨x, hx, rfl⟩ := Option.map_eq_some_iff.mp ((List.getElem?_map ..).symm.trans hz)
            obtain ⟨hl2, hx2⟩ := List.getElem?_eq_some_iff.mp hx
            have hne := List.not_of_lt_findIdx (p := fun y : Int => y == i) (xs := ns) (i := m) hm
            show (x == i) = false
            rw [← hx2]
            simpa using hne
        | _ => simp [methL] at e
theorem tyV_own {K : PySem.W.Frag} {H : Hp} {p : Addr} {vs : List V} (h : H p = some (.lst vs)) : tyV K "list" (.ref p) H := .inl ⟨rfl, vs, .inl (.inl h)⟩
theorem meth_go {F : Fr} {W : WX} {m : Mth} {i : Nat} {es : Es} {σ : L2.St} {H : Hp} {Q : VK} {x : Str} (h : rdE Φ X.K F XR W (.meth m i es) σ H Q) :
    ∃ ρ, EnvR X.K F σ H ρ ∧ ∃ p, σ[i]? = some (some (.ref p)) ∧ tyV X.K "list" (.ref p) H ∧ PostG X.K F XR W σ H ρ (evd Φ es ρ) fun ds ρ' H' => ∀ vs, Rps X.K (vis F σ ρ' H') vs ds → rMeth X.K m (.ref p) vs H' Q := by
  obtain ⟨ρ, er, h⟩ := h
  simp only [ev, tst_false] at h
  refine ⟨ρ, er, ?_⟩
  cases e : ρ[i]? with
  | none => simp only [e] at h; exact False.elim h
  | some s =>
    cases s with
    | un => simp only [e] at h; exact False.elim h
    | val d => simp only [e] at h; exact False.elim h
    | own t lk c =>
      cases c with
      | d kvs => simp only [e] at h; exact False.elim h
      | l xs =>
        simp only [e] at h
        obtain ⟨p, o, h1, h2, h3, _⟩ := er.own i t lk _ e
        obtain ⟨vs, rfl, r⟩ := h3.lst
        refine ⟨p, h1, tyV_own h2, PostG.bind h fun ds ρ1 H1 e1 er1 st1 h1' => ?_⟩
        intro vs1 rv1
        cases e2 : ρ1[i]? with
        | none => simp only [e2] at h1'; exact False.elim h1'
        | some s =>
          cases s with
          | un => simp only [e2] at h1'; exact False.elim h1'
          | val d => simp only [e2] at h1'; exact False.elim h1'
          | own t lk c =>
            cases c with
            | d kvs => cases lk <;> (simp only [e2] at h1'; exact False.elim h1')
            | l xs =>
              cases lk with
              | true => simp only [e2] at h1'; exact False.elim h1'
              | false =>
                simp only [e2] at h1'
                obtain ⟨p', o, g1, g2, g3, g4⟩ := er1.own i t false _ e2
                rw [h1] at g1
                cases g1
                obtain ⟨vs2, rfl, r2⟩ := g3.lst
                cases em : methL m xs ds with
                | none => simp only [em] at h1'; exact False.elim h1'
                | some z =>
                  obtain ⟨y, ys⟩ := z
                  simp only [em] at h1'
                  refine ⟨_, p, vs2, xs, ds, y, ys, vis_le, rfl, g2, r2, rv1, em, fun v vs' rv rvs => ?_⟩
                  obtain ⟨w1, w2, w3⟩ := own_write (c' := .l ys) (o' := .lst vs') er1 e2 h1 rvs
                  exact Post.val (Post.shift h1' w2) w1 (by rw [w3]; exact rv)
theorem mth_slot (m : Mth) : PySem.Slot "list" (mthName m) (mthId m) := by
  cases m
  · exact PySem.F.slot_list_append
  · exact PySem.F.slot_list_pop
  · exact PySem.F.slot_list_pop
  · exact PySem.F.slot_list_remove
  · exact PySem.F.slot_list_reverse
  · exact PySem.F.slot_list_clear
  · exact PySem.F.slot_list_count
  · exact PySem.F.slot_list_index
theorem mth_type (m : Mth) : typeOf (.builtin (mthId m)) = pure (.type "method_descriptor") := by
  cases m
  · exact PySem.F.type_list_append
  · exact PySem.F.type_list_pop
  · exact PySem.F.type_list_pop
  · exact PySem.F.type_list_remove
  · exact PySem.F.type_list_reverse
  · exact PySem.F.type_list_clear
  · exact PySem.F.type_list_count
  · exact PySem.F.type_list_index
theorem snd_meth0 {m : Mth} {i : Nat} {x : Str} {p ap : Pos} (hl : (ap.endLine == pos.line) = true) (hN : X.N[i]? = some x) (hv : Vis X.env.scope x) (hd : dbg x = true) : SndV X Φ XR (.Call (.Attribute (.Name x p) (mthName m) ap) [] [] pos) (.meth m i .nil) := fun F W tk => by
  unfold dbg at hd
  simp only [Bool.and_eq_true, Bool.not_eq_true'] at hd
  refine PE_imp (pe_bm0 PySem.F.plainAttrs_list (mth_slot m) (mth_type m) (mtM m) (pe_var (pos := p) hN hv hd.1 hd.2) (by rfl) hl) ?_
  intro σ H Q h
  obtain ⟨ρ, er, q, h1, ty, h2⟩ := meth_go (x := x) h
  simp only [evd] at h2
  exact ⟨_, h1, ty, h2 H er .refl [] .nil⟩
theorem snd_meth1 {m : Mth} {i : Nat} {x : Str} {p ap : Pos} {e : E} (hl : (ap.endLine == pos.line) = true) (hN : X.N[i]? = some x) (hv : Vis X.env.scope x) (hd : dbg x = true) (sa : notStar a' = true) {es : Es} (ha : SndD X Φ XR [a'] es) :
    SndV X Φ XR (.Call (.Attribute (.Name x p) (mthName m) ap) [a'] [] pos) (.meth m i es) := fun F W tk => by
  unfold dbg at hd
  simp only [Bool.and_eq_true, Bool.not_eq_true'] at hd
  have st := star_ok (es := []) (env := X.env) sa
  refine PE_imp (pe_bm PySem.F.plainAttrs_list (mth_slot m) (mth_type m) (mtM m) (pe_var (pos := p) hN hv hd.1 hd.2) (ha F W tk) (by rfl) (by rw [st]; rfl) hl st (by rfl)) ?_
  intro σ H Q h
  obtain ⟨ρ, er, q, h1, ty, h2⟩ := meth_go (x := x) h
  exact ⟨_, h1, ty, ρ, er, h2⟩
theorem snd_ext {i : Nat} {x : Str} {p ap : Pos} (hl : (ap.endLine == pos.line) = true) (hN : X.N[i]? = some x) (hv : Vis X.env.scope x) (hd : dbg x = true) (sa : notStar a' = true) (ha : SndV X Φ XR a' a) :
    SndV X Φ XR (.Call (.Attribute (.Name x p) "extend" ap) [a'] [] pos) (.ext i a) := fun F W tk => by
  unfold dbg at hd
  simp only [Bool.and_eq_true, Bool.not_eq_true'] at hd
  have st := star_ok (es := []) (env := X.env) sa
  refine PE_imp (pe_bm PySem.F.plainAttrs_list PySem.F.slot_list_extend PySem.F.type_list_extend mt_extend (pe_var (pos := p) hN hv hd.1 hd.2) (pa_cons (ha F W tk) pa_nil st) (by rfl) (by rw [st]; rfl) hl st (by rfl)) ?_
  rintro σ H Q ⟨ρ, er, h⟩
  simp only [ev, tst_false] at h
  cases e : ρ[i]? with
  | none => simp only [e] at h; exact False.elim h
  | some s =>
    cases s with
    | un => simp only [e] at h; exact False.elim h
    | val d => simp only [e] at h; exact False.elim h
    | own t lk c =>
      cases c with
      | d kvs => simp only [e] at h; exact False.elim h
      | l xs =>
        simp only [e] at h
        obtain ⟨q, o, h1, h2, h3, _⟩ := er.own i t lk _ e
        obtain ⟨vs, rfl, r⟩ := h3.lst
        refine ⟨_, h1, tyV_own h2, ρ, er, ?_⟩
        cases ee : ev Φ false a ρ with
        | bad => rw [ee] at h; exact h
        | exc x ρ' => rw [ee] at h; exact h
        | ok rv ρ' =>
          rw [ee] at h
          simp only [R.bind_ok] at h
          cases rv with
          | v d => exact False.elim h
          | slot j => exact False.elim h
          | fresh c =>
            cases c with
            | d kvs => exact False.elim h
            | l ys =>
              cases e2 : ρ'[i]? with
              | none => simp only [e2] at h; exact False.elim h
              | some s =>
                cases s with
                | un => simp only [e2] at h; exact False.elim h
                | val d => simp only [e2] at h; exact False.elim h
                | own t lk c =>
                  cases c with
                  | d kvs => cases lk <;> (simp only [e2] at h; exact False.elim h)
                  | l xs =>
                    cases lk with
                    | true => simp only [e2] at h; exact False.elim h
                    | false =>
                      simp only [e2] at h
                      intro pn on H' hp ho er' st' h0 hc
                      have er1 := er'.unhide
                      obtain ⟨q', o, g1, g2, g3, g4⟩ := er1.own i t false _ e2
                      rw [h1] at g1
                      cases g1
                      obtain ⟨vs2, rfl, r2⟩ := g3.lst
                      obtain ⟨vs3, rfl, r3⟩ := hc.lst
                      have r3 := Rps.mono vis_unhide r3
                      by_cases hz : xs.length + ys.length ≤ sizeLine
                      · rw [if_pos hz] at h
                        obtain ⟨w1, w2, w3⟩ := own_write (c' := .l (xs ++ ys)) (o' := .lst (vs2 ++ vs3)) er1 e2 h1 (r2.app r3)
                        exact ⟨q, pn, vs2, vs3, rfl, rfl, g2, ho, by rw [r2.len, r3.len]; exact hz, Post.val (Post.shift h (st'.trans w2)) w1 .non⟩
                      · rw [if_neg hz] at h; exact False.elim h
end
end M

set_option Elab.async false
set_option linter.all false
set_option maxRecDepth 100000
set_option maxHeartbeats 4000000
/-! ranges with ends of any size -/
namespace M
open PySem PySem.Spec PyProof.Rows L2
theorem turn_long {P : Program} {w : World} {K : PySem.W.Frag} {tg : Expr} (it : Addr) (lo : Int) (n : Nat) : Turn P w K tg (Itr lo n) [it] it (fun i h => IsLongIter h it (lo + (i : Nat) * 1) ((n : Int) - (i : Nat)) 1) where
  mem := by simp
  obj := fun i h st b hb => by
    have e : b = it := by simpa using hb
    subst e
    exact ⟨_, st, fun v z => by
      have z' : Data.fields _ = Data.cell v := z
      cases z'⟩
  keep := fun i h h' st k => k it (by simp) _ st
  item := by
    intro X hP hw hK hc i pins s σ H E I hf st hg
    subst hP hw hK
    obtain ⟨f0, f1, f2, f3, f4, f5⟩ := hf it (by simp)
    have W := Walks.longrange (prog := X.prog) (w := X.w) (I.ok.hd hc) it lo 1 n
    refine W.item i s _ _ hg st fun v h' tk hv st' kk => ?_
    obtain ⟨t, rfl⟩ := hv
    have I1 : Inv X pins σ H { s with heap := h', toks := tk } := I.turned (fun b o hb e => kk b o (by simpa using hb) e) f0 f1 f3 f4 f5
    refine ⟨_, rfl, go_of (s := { s with heap := h', toks := tk }) (n := "longrange_iterator") st' rfl rfl (by decide) ⟨.int (lo + i), H, I1, ⟨t, ?_⟩, ⟨rfl, rfl⟩, st', fun b hb => (hf b hb).1⟩⟩
    rw [Int.mul_one]
  done := by
    intro X hP hw hK hc i pins s σ H E I hf st hg
    subst hP hw hK
    obtain ⟨f0, f1, f2, f3, f4, f5⟩ := hf it (by simp)
    exact wpAny_pyNext_long_end (I.ok.hd hc) st (by have : n ≤ i := hg; omega) fun h' eb => ⟨rfl, I.turned (t' := s.toks) (fun b o hb e => eb b o hb e) f0 f1 f3 f4 f5⟩
  self := fun _ _ _ _ _ st h => wpAny_pyIter_longiter st h
section
variable {X : Cx} {tg : Expr}
theorem range_itL {pins : List (Addr × Obj)} {σ : L2.St} {H : Hp} {s : Shared} {R : It → Hp → Prop} {E : Value → Shared → Prop} {lo hi : Int} {t u v : Tok} {tk : Nat} (I : Inv X pins σ H s) (hbig : Builtin.Range.small lo hi 1 = false)
    (q : R (Itr lo (hi - lo).toNat) H) : wpAny (model X.prog X.w) X.A (pyIter (.ref s.heap.objs.size)) (PIE X pins σ tg R) E { s with heap := s.heap.push { cls := .type "range", data := .fields #[.int lo t, .int hi u, .int 1 v] }, toks := tk } := by
  refine wpAny_pyIter_longrange (IsRange.new ..) hbig ?_
  have I1 : Inv X pins σ H { s with heap := s.heap.push { cls := .type "range", data := .fields #[.int lo t, .int hi u, .int 1 v] }, toks := tk } := I.kept fun b o e => Heap.get?_push_of_some _ e
  refine ⟨(s.heap.push { cls := .type "range", data := .fields #[.int lo t, .int hi u, .int 1 v] }).objs.size, [(s.heap.push { cls := .type "range", data := .fields #[.int lo t, .int hi u, .int 1 v] }).objs.size], _, _, H, rfl,
    I1.kept (t' := tk) fun b o e => Heap.get?_push_of_some _ e, turn_long _ lo (hi - lo).toNat, ?_, fun b hb => ?_, q⟩
  · have e1 : lo + ((0 : Nat) : Int) * 1 = lo := by simp
    have e2 : (((hi - lo).toNat : Nat) : Int) - ((0 : Nat) : Int) = Builtin.Range.rangeSize lo hi 1 := by rw [rangeSize_one]; split <;> omega
    show IsLongIter _ _ (lo + ((0 : Nat) : Int) * 1) ((((hi - lo).toNat : Nat) : Int) - ((0 : Nat) : Int)) 1
    rw [e1, e2]
    exact Heap.get?_push_size _ rfl
  · have e : b = (s.heap.push { cls := .type "range", data := .fields #[.int lo t, .int hi u, .int 1 v] }).objs.size := by simpa using hb
    subst e
    exact I1.fpOk (Nat.le_refl _) (I1.hok.fresh (Nat.le_refl _))
theorem range_itS {pins : List (Addr × Obj)} {σ : L2.St} {H : Hp} {s : Shared} {R : It → Hp → Prop} {E : Value → Shared → Prop} {lo hi : Int} {t u v : Tok} {tk : Nat} (I : Inv X pins σ H s) (hs : Builtin.Range.small lo hi 1 = true)
    (q : R (Itr lo (hi - lo).toNat) H) : wpAny (model X.prog X.w) X.A (pyIter (.ref s.heap.objs.size)) (PIE X pins σ tg R) E { s with heap := s.heap.push { cls := .type "range", data := .fields #[.int lo t, .int hi u, .int 1 v] }, toks := tk } := by
  refine wpAny_pyIter_range (IsRange.new ..) hs ?_
  have I1 : Inv X pins σ H { s with heap := s.heap.push { cls := .type "range", data := .fields #[.int lo t, .int hi u, .int 1 v] }, toks := tk } := I.kept fun b o e => Heap.get?_push_of_some _ e
  refine ⟨(s.heap.push { cls := .type "range", data := .fields #[.int lo t, .int hi u, .int 1 v] }).objs.size, [(s.heap.push { cls := .type "range", data := .fields #[.int lo t, .int hi u, .int 1 v] }).objs.size], _, _, H, rfl,
    I1.kept (t' := tk) fun b o e => Heap.get?_push_of_some _ e, turn_range _ lo (hi - lo).toNat, ?_, fun b hb => ?_, q⟩
  · have e1 : lo + ((0 : Nat) : Int) * 1 = lo := by simp
    have e2 : (((hi - lo).toNat : Nat) : Int) - ((0 : Nat) : Int) = Builtin.Range.rangeSize lo hi 1 := by rw [rangeSize_one]; split <;> omega
    show IsRangeIter _ _ (lo + ((0 : Nat) : Int) * 1) ((((hi - lo).toNat : Nat) : Int) - ((0 : Nat) : Int)) 1
    rw [e1, e2]
    exact Heap.get?_push_size _ rfl
  · have e : b = (s.heap.push { cls := .type "range", data := .fields #[.int lo t, .int hi u, .int 1 v] }).objs.size := by simpa using hb
    subst e
    exact I1.fpOk (Nat.le_refl _) (I1.hok.fresh (Nat.le_refl _))
def iRng2A (ta : TA) : TI := fun σ H R => ta σ H fun vs H1 => ∃ i j : Int, vs = [.int i, .int j] ∧ R (Itr i (j - i).toNat) H1
theorem pi_range2A {a b : Expr} {ta : TA} {p pos : Pos} (hg : Gl X "range") (hm : X.mg "range" = none) (ha : PA X [a, b] ta) (hs : starEach [a, b] X.env = [(false, eval a X.env), (false, eval b X.env)] := by rfl) (hs2 : starEach [b] X.env = [(false, eval b X.env)] := by rfl) :
    PI X tg (.Call (.Name "range" p) [a, b] [] pos) (iRng2A ta) := by
  refine ⟨fun pins s σ H R I h => ?_⟩
  refine Call_ (ld_blt I hg hm boot_range (PyProof.Rows.callWith_type1 (thn (ha.run pos pins s σ H _ I h) fun us s1 ⟨vs, H1, I1, r1, q1⟩ => ?_) (by rw [hs, hs2]) (by rw [hs2]; rfl)))
  obtain ⟨i, j, e, q⟩ := q1
  subst e
  cases r1 with
  | cons r rr =>
    cases rr with
    | cons r' rr =>
      cases rr
      obtain ⟨t, rfl⟩ := r
      obtain ⟨t', rfl⟩ := r'
      refine call_range_2 ?_
      cases hsm : Builtin.Range.small i j 1 with
      | true => exact range_itS I1 hsm q
      | false => exact range_itL I1 hsm q
end
end M

set_option Elab.async false
set_option linter.all false
set_option maxRecDepth 100000
set_option maxHeartbeats 4000000
/-! M: what a loop walks -/
namespace M
open PySem PySem.Spec PyProof.Rows L2
/-- the walk J goes through these -/
structure SrcJ (K : PySem.W.Frag) (Vi : Hp) (J : It) (xs : List D) : Prop where
  go : ∀ i H, Same Vi H → i < xs.length → J.go i H
  stop : ∀ i H, Same Vi H → i = xs.length → J.stop i H
  yld : ∀ i H x H' d, Same Vi H → xs[i]? = some d → J.yld i H x H' → (H' = H ∧ Rp K Vi x d) ∨ ∃ p vs ds, H p = none ∧ H' = upd H p (.tup vs) ∧ x = .ref p ∧ d = .tuple ds ∧ Rps K Vi vs ds
section
variable {K : PySem.W.Frag} {Vi : Hp} {a b : Addr} {vs ws : List V} {xs ys : List D}
theorem srcJ_l (h : SqL K Vi a vs) (r : Rps K Vi vs xs) : SrcJ K Vi (Itl K a) xs := by
  have hl := r.len
  refine ⟨fun i H s hi => ⟨vs, vs[i]'(by omega), s.seq h, List.getElem?_eq_getElem (by omega)⟩, fun i H s hi => ⟨vs, s.seq h, by omega⟩, ?_⟩
  rintro i H x H' d s e ⟨rfl, q⟩
  obtain ⟨w, g1, g2⟩ := r.get e
  have := q vs (s.seq h)
  rw [g1] at this
  cases this
  exact .inl ⟨rfl, g2⟩
theorem srcJ_t (h : SqT K Vi a vs) (r : Rps K Vi vs xs) : SrcJ K Vi (Itt K a) xs := by
  have hl := r.len
  refine ⟨fun i H s hi => ⟨vs, vs[i]'(by omega), sqT_mono s h, List.getElem?_eq_getElem (by omega)⟩, fun i H s hi => ⟨vs, sqT_mono s h, by omega⟩, ?_⟩
  rintro i H x H' d s e ⟨rfl, q⟩
  obtain ⟨w, g1, g2⟩ := r.get e
  have := q vs (sqT_mono s h)
  rw [g1] at this
  cases this
  exact .inl ⟨rfl, g2⟩
theorem srcJ_rv (h : SqL K Vi a vs) (r : Rps K Vi vs xs) : SrcJ K Vi (Itv K a vs.length) xs.reverse := by
  have hl := r.len
  refine ⟨fun i H s hi => ?_, fun i H s hi => ?_, ?_⟩
  · rw [List.length_reverse] at hi
    exact ⟨by omega, vs, vs[vs.length - 1 - i]'(by omega), s.seq h, List.getElem?_eq_getElem (by omega)⟩
  · rw [List.length_reverse] at hi
    show vs.length ≤ i
    omega
  rintro i H x H' d s e ⟨rfl, q⟩
  have hi : i < xs.length := by
    have := (List.getElem?_eq_some_iff.mp e).1
    rwa [List.length_reverse] at this
  rw [List.getElem?_reverse hi] at e
  obtain ⟨w, g1, g2⟩ := r.get e
  have := q vs (s.seq h)
  rw [hl, g1] at this
  cases this
  exact .inl ⟨rfl, g2⟩
theorem srcJ_rt (h : SqT K Vi a vs) (r : Rps K Vi vs xs) : SrcJ K Vi (RT.ItvT K a vs.length) xs.reverse := by
  have hl := r.len
  refine ⟨fun i H s hi => ?_, fun i H s hi => ?_, ?_⟩
  · rw [List.length_reverse] at hi
    exact ⟨by omega, vs, vs[vs.length - 1 - i]'(by omega), sqT_mono s h, List.getElem?_eq_getElem (by omega)⟩
  · rw [List.length_reverse] at hi
    show vs.length ≤ i
    omega
  rintro i H x H' d s e ⟨rfl, q⟩
  have hi : i < xs.length := by
    have := (List.getElem?_eq_some_iff.mp e).1
    rwa [List.length_reverse] at this
  rw [List.getElem?_reverse hi] at e
  obtain ⟨w, g1, g2⟩ := r.get e
  have := q vs (sqT_mono s h)
  rw [hl, g1] at this
  cases this
  exact .inl ⟨rfl, g2⟩
theorem rngI_get {i : Int} {n k : Nat} {d : D} (e : (rngI i n)[k]? = some d) : d = .int (i + (k : Int)) := by
  unfold rngI at e
  rw [List.getElem?_map] at e
  obtain ⟨j, e1, e2⟩ := Option.map_eq_some_iff.mp e
  have := List.getElem?_eq_some_iff.mp e1
  obtain ⟨h1, h2⟩ := this
  rw [List.getElem_range] at h2
  subst h2
  exact e2.symm
theorem srcJ_r (i : Int) (n : Nat) : SrcJ K Vi (Itr i n) (rngI i n) := by
  have hl : (rngI i n).length = n := by simp [rngI]
  refine ⟨fun k H s hi => by rw [hl] at hi; exact hi, fun k H s hi => by rw [hl] at hi; exact Nat.le_of_eq hi.symm, ?_⟩
  rintro k H x H' d s e ⟨rfl, rfl⟩
  rw [rngI_get e]
  exact .inl ⟨rfl, .int _⟩
theorem enumL_get {d : D} : ∀ {xs : List D} {n i : Nat}, (enumL n xs)[i]? = some d → ∃ x, xs[i]? = some x ∧ d = .tuple [.int ((n + i : Nat) : Int), x]
  | [], n, i, e => by simp [enumL] at e
  | x :: xs, n, 0, e => by simp [enumL] at e; exact ⟨x, rfl, by rw [← e]; rfl⟩
  | x :: xs, n, i + 1, e => by
    simp only [enumL, List.getElem?_cons_succ] at e
    obtain ⟨y, h1, h2⟩ := enumL_get e
    exact ⟨y, by simpa using h1, by rw [h2]; congr 4; omega⟩
theorem enumL_len : ∀ {xs : List D} {n : Nat}, (enumL n xs).length = xs.length
  | [], n => rfl
  | x :: xs, n => by simp [enumL, enumL_len]
theorem pairsL_get {d : D} : ∀ {xs ys : List D} {i : Nat}, (pairsL xs ys)[i]? = some d → ∃ x y, xs[i]? = some x ∧ ys[i]? = some y ∧ d = .tuple [x, y]
  | [], ys, i, e => by cases ys <;> simp [pairsL] at e
  | x :: xs, [], i, e => by simp [pairsL] at e
  | x :: xs, y :: ys, 0, e => by simp [pairsL] at e; exact ⟨x, y, rfl, rfl, e.symm⟩
  | x :: xs, y :: ys, i + 1, e => by
    simp only [pairsL, List.getElem?_cons_succ] at e
    obtain ⟨u, v, h1, h2, h3⟩ := pairsL_get e
    exact ⟨u, v, by simpa using h1, by simpa using h2, h3⟩
theorem pairsL_len : ∀ {xs ys : List D}, (pairsL xs ys).length = min xs.length ys.length
  | [], ys => by cases ys <;> simp [pairsL]
  | x :: xs, [] => by simp [pairsL]
  | x :: xs, y :: ys => by simp [pairsL, pairsL_len]
end
/-- a value that is a list or a tuple -/
theorem Rp.items {K : PySem.W.Frag} {H : Hp} {v : V} {d : D} {ds : List D} (h : Rp K H v d) (e : items? d = some ds) : ∃ a xs, v = .ref a ∧ ((SqL K H a xs ∧ ∃ z, d = .list z) ∨ (SqT K H a xs ∧ ∃ z, d = .tuple z)) ∧ Rps K H xs ds := by
  cases h <;> cases e
  · rename_i h1 h2
    exact ⟨_, _, rfl, .inl ⟨h1, _, rfl⟩, h2⟩
  · rename_i h1 h2
    exact ⟨_, _, rfl, .inr ⟨h1, _, rfl⟩, h2⟩
section
variable (Φ : Phi) (K : PySem.W.Frag) (F : Fr) (XR : XRel) (W : WX)
def rdI (s : Src) : TI := fun σ H R => ∃ ρ, EnvR K F σ H ρ ∧ PostG K F XR W σ H ρ (evSrc Φ s ρ) fun xs ρ' H' => ∀ J, SrcJ K (vis F σ ρ' H') J xs → R J H'
end
def SndI (X : Cx) (Φ : Phi) (XR : XRel) (t' e' : PE') (s : Src) : Prop := ∀ F W, Takes X W → PI X t' e' (rdI Φ X.K F XR W s)
section
variable {X : Cx} {Φ : Phi} {XR : XRel} {t' a' b' c' : PE'} {a b c : E} {pos p : Pos}
def iSeq (K : PySem.W.Frag) (tl : TE) : TI := fun σ H R => tl σ H fun x H1 => ∃ a, x = .ref a ∧ (((∃ xs, SqL K H1 a xs) ∧ R (Itl K a) H1) ∨ ((∃ xs, SqT K H1 a xs) ∧ R (Itt K a) H1))
theorem pi_seq {tg l : PE'} {tl : TE} (hl : PE X l tl) : PI X tg l (iSeq X.K tl) := by
  refine ⟨fun pins s σ H R I h => ?_⟩
  refine thn (hl.run pins s σ H _ I h) fun v s1 ⟨x, H1, I1, r1, q1⟩ => ?_
  obtain ⟨a, rfl, q⟩ := q1
  obtain rfl : v = Value.ref a := r1
  rcases q with ⟨⟨xs, hq⟩, q⟩ | ⟨⟨xs, hq⟩, q⟩
  · obtain ⟨its, rv, p, hz⟩ := I1.list hq
    exact wpAny_pyIter_list p.isList (pi_one (tk := s1.toks) I1 _ (turn_list a _) ⟨_, Heap.get?_push_size _ rfl, rfl, rfl⟩ q)
  · obtain ⟨its, rv, p, hz⟩ := I1.tuple hq
    exact wpAny_pyIter_tuple (show s1.heap.IsTuple a its.toArray from p) (pi_one (tk := s1.toks) I1 _ (turn_tuple a _) ⟨_, Heap.get?_push_size _ rfl, rfl, rfl⟩ q)
theorem PostG.bindP {K : PySem.W.Frag} {F : Fr} {W : WX} {σ : L2.St} {H : Hp} {ρ : Env} {α : Type} {m : R RV} {f : RV → Env → R α} {Q : α → Env → Hp → Prop} {G : VK} (er0 : EnvR K F σ H ρ) (h : PostG K F XR W σ H ρ (m.bind fun r ρ => (frz ρ r).bind fun d ρ => f (.v d) ρ) Q)
    (k : ∀ d ρ' v H', EnvR K F σ H' ρ' → Stp F σ H ρ H' ρ' → Rp K (vis F σ ρ' H') v d → PostG K F XR W σ H' ρ' (f (.v d) ρ') Q → G v H') : Post K F XR W σ H ρ m G := by
  refine Post.bindT er0 h fun ra ρ1 v1 H1 e1 er1 st1 r1 h1 => ?_
  cases ef : frz ρ1 ra with
  | bad => rw [ef] at h1; exact False.elim h1
  | exc x ρ' => exact (frz_noexc ef).elim
  | ok d ρ2 =>
    rw [ef] at h1
    simp only [R.bind_ok] at h1
    obtain ⟨er2, st2, rp2⟩ := frz_ok er1 r1 ef
    exact k d ρ2 v1 H1 er2 (st1.trans st2) rp2 (PostG.shift h1 st2)
theorem sndI_of (ha : SndV X Φ XR a' a) : SndI X Φ XR t' a' (.of a) := fun F W tk => by
  refine PI_imp (pi_seq (ha F W tk)) ?_
  rintro σ H R ⟨ρ, er, h⟩
  simp only [evSrc] at h
  refine ⟨ρ, er, PostG.bindP (f := fun r ρ => match r with | .v d => (match items? d with | some xs => .ok xs ρ | none => .bad) | _ => .bad) er h fun d ρ1 v H1 er1 st1 rp h1 => ?_⟩
  simp only at h1
  cases ei : items? d with
  | none => rw [ei] at h1; exact False.elim h1
  | some xs =>
    rw [ei] at h1
    have h2 := h1 H1 er1 .refl
    obtain ⟨q, vs, rfl, hq, rs⟩ := rp.items ei
    refine ⟨q, rfl, ?_⟩
    rcases hq with ⟨hq, _⟩ | ⟨hq, _⟩
    · exact .inl ⟨⟨vs, vis_le.seq hq⟩, h2 _ (srcJ_l hq rs)⟩
    · exact .inr ⟨⟨vs, sqT_mono vis_le hq⟩, h2 _ (srcJ_t hq rs)⟩
theorem sndI_rev (h1 : X.mg "reversed" = none) (g1 : Gl X "reversed") (sa : notStar a' = true) (ha : SndV X Φ XR a' a) : SndI X Φ XR t' (.Call (.Name "reversed" p) [a'] [] pos) (.rev a) := fun F W tk => by
  refine PI_imp (RT.pi_revA g1 h1 (ha F W tk) (star_ok sa)) ?_
  rintro σ H R ⟨ρ, er, h⟩
  simp only [evSrc] at h
  refine ⟨ρ, er, PostG.bindP (f := fun r ρ => match r with | .v d => (match items? d with | some xs => .ok xs.reverse ρ | none => .bad) | _ => .bad) er h fun d ρ1 v H1 er1 st1 rp h1 => ?_⟩
  simp only at h1
  cases ei : items? d with
  | none => rw [ei] at h1; exact False.elim h1
  | some xs =>
    rw [ei] at h1
    have h2 := h1 H1 er1 .refl
    obtain ⟨q, vs, rfl, hq, rs⟩ := rp.items ei
    refine ⟨q, vs, rfl, ?_⟩
    rcases hq with ⟨hq, _⟩ | ⟨hq, _⟩
    · exact .inl ⟨vis_le.seq hq, h2 _ (srcJ_rv hq rs)⟩
    · exact .inr ⟨sqT_mono vis_le hq, h2 _ (srcJ_rt hq rs)⟩
theorem okR_iff {i : Int} (h : okR i = true) : -(2 ^ 62) ≤ i ∧ i < 2 ^ 62 := of_decide_eq_true h
theorem sndI_rng1 (h1 : X.mg "range" = none) (g1 : Gl X "range") (sa : notStar a' = true) (ha : SndV X Φ XR a' a) : SndI X Φ XR t' (.Call (.Name "range" p) [a'] [] pos) (.rng1 a) := fun F W tk => by
  refine PI_imp (pi_range1 g1 h1 (pa_cons (ha F W tk) pa_nil (star_ok sa)) (by rw [star_ok sa]; rfl)) ?_
  rintro σ H R ⟨ρ, er, h⟩
  simp only [evSrc] at h
  refine ⟨ρ, er, Post.bindT er h fun ra ρ1 v1 H1 e1 er1 st1 r1 h1 => ?_⟩
  split at h1
  · rename_i j
    split at h1
    · rename_i hz
      have r1 : Rp X.K _ v1 (.int j) := r1
      cases r1
      exact ⟨j, rfl, (okR_iff hz).1, (okR_iff hz).2, h1 H1 er1 .refl _ (srcJ_r 0 _)⟩
    · exact False.elim h1
  · exact False.elim h1
theorem sndI_rng2 (h1 : X.mg "range" = none) (g1 : Gl X "range") (sa : notStar a' = true) (sb : notStar b' = true) (ha : SndV X Φ XR a' a) (hb : SndV X Φ XR b' b) : SndI X Φ XR t' (.Call (.Name "range" p) [a', b'] [] pos) (.rng2 a b) := fun F W tk => by
  refine PI_imp (pi_range2A g1 h1 (pa_cons (ha F W tk) (pa_cons (hb F W tk) pa_nil (star_ok sb)) (star_ok sa)) (by rw [star_ok sa, star_ok sb]; rfl) (by rw [star_ok sb]; rfl)) ?_
  rintro σ H R ⟨ρ, er, h⟩
  simp only [evSrc] at h
  refine ⟨ρ, er, Post.bindT er h fun ra ρ1 v1 H1 e1 er1 st1 r1 h1 => ?_⟩
  refine ⟨ρ1, er1, Post.bindT er1 h1 fun rb ρ2 v2 H2 e2 er2 st2 r2 h2 => ?_⟩
  split at h2
  · rename_i i j
    split at h2
    · rename_i hz
      have r1 : Rp X.K _ v1 (.int i) := r1
      have r2 : Rp X.K _ v2 (.int j) := r2
      cases r1
      cases r2
      exact ⟨i, j, rfl, h2 H2 er2 .refl _ (srcJ_r i _)⟩
    · exact False.elim h2
  · exact False.elim h2
theorem rngC_get {i c : Int} {n k : Nat} {d : D} (e : (rngC i c n)[k]? = some d) : d = .int (i + (k : Int) * c) := by
  unfold rngC at e
  rw [List.getElem?_map] at e
  cases z : (List.range n)[k]? with
  | none => rw [z] at e; cases e
  | some m =>
    rw [z] at e
    obtain ⟨h1, h2⟩ := List.getElem?_eq_some_iff.mp z
    rw [List.getElem_range] at h2
    subst h2
    cases e
    rfl
theorem rngC_len {i c : Int} {n : Nat} : (rngC i c n).length = n := by simp [rngC]
theorem srcJ_c {K : PySem.W.Frag} {Vi : Hp} (i c : Int) (n : Nat) : SrcJ K Vi (Itc i c n) (rngC i c n) := by
  refine ⟨fun k H s hk => ?_, fun k H s hk => ?_, ?_⟩
  · rw [rngC_len] at hk
    exact hk
  · rw [rngC_len] at hk
    exact Nat.le_of_eq hk.symm
  rintro k H x H' d s e ⟨rfl, rfl⟩
  rw [rngC_get e]
  exact .inl ⟨rfl, .int _⟩
theorem sndI_rng3 {c' : PE'} {c : E} (h1 : X.mg "range" = none) (g1 : Gl X "range") (sa : notStar a' = true) (sb : notStar b' = true) (sc : notStar c' = true) (ha : SndV X Φ XR a' a) (hb : SndV X Φ XR b' b) (hc : SndV X Φ XR c' c) : SndI X Φ XR t' (.Call (.Name "range" p) [a', b', c'] [] pos) (.rng3 a b c) := fun F W tk => by
  refine PI_imp (pi_range3 g1 h1 (pa_cons (ha F W tk) (pa_cons (hb F W tk) (pa_cons (hc F W tk) pa_nil (star_ok sc)) (star_ok sb)) (star_ok sa)) (star_ok sa) (stars_any (by simp [sb, sc]))) ?_
  rintro σ H R ⟨ρ, er, h⟩
  simp only [evSrc] at h
  refine ⟨ρ, er, Post.bindT er h fun ra ρ1 v1 H1 e1 er1 st1 r1 h1 => ?_⟩
  refine ⟨ρ1, er1, Post.bindT er1 h1 fun rb ρ2 v2 H2 e2 er2 st2 r2 h2 => ?_⟩
  refine ⟨ρ2, er2, Post.bindT er2 h2 fun rc ρ3 v3 H3 e3 er3 st3 r3 h3 => ?_⟩
  split at h3
  · rename_i i j c
    split at h3
    · rename_i hz
      have r1 : Rp X.K _ v1 (.int i) := r1
      have r2 : Rp X.K _ v2 (.int j) := r2
      have r3 : Rp X.K _ v3 (.int c) := r3
      cases r1
      cases r2
      cases r3
      obtain ⟨z1, z2, z3, z4⟩ := hz
      exact ⟨i, j, c, _, rfl, ⟨z1, z2, z3, (Int.toNat_of_nonneg z4).symm⟩, h3 H3 er3 .refl _ (srcJ_c i c _)⟩
    · exact False.elim h3
  · exact False.elim h3
end
end M

set_option Elab.async false
set_option linter.all false
set_option maxRecDepth 100000
set_option maxHeartbeats 4000000
/-! M: enumerate and zip over lists and tuples in any mix -/
namespace M
open PySem PySem.Spec PyProof.Rows L2
/-- a list (false) or a tuple (true) -/
def Sq (b : Bool) (K : PySem.W.Frag) (H : Hp) (a : Addr) (xs : List V) : Prop := match b with | false => SqL K H a xs | true => SqT K H a xs
def IsSq (b : Bool) (h : Heap) (a : Addr) (xs : Array Value) : Prop := match b with | false => h.IsList a xs | true => h.IsTuple a xs
def SqIt (b : Bool) (h : Heap) (it a : Addr) (i : Nat) : Prop := match b with | false => h.IsListIter it a i | true => h.IsTupleIter it a i
def sqObj (b : Bool) (a : Addr) : Obj := match b with | false => { cls := .type "list_iterator", data := .fields #[.ref a, .int 0 0] } | true => { cls := .type "tuple_iterator", data := .fields #[.ref a, .int 0 0] }
section
variable {X : Cx} {pins : List (Addr × Obj)} {σ : L2.St} {H : Hp} {s : Shared} {b : Bool} {a : Addr} {xs ys : List V}
theorem sq_at (I : Inv X pins σ H s) (h : Sq b X.K H a xs) : ∃ its : List Value, Vals xs its ∧ IsSq b s.heap a its.toArray ∧ a < s.heap.objs.size ∧ xs.length ≤ sizeLine := by
  cases b with
  | false =>
    obtain ⟨its, r, p, z⟩ := I.list h
    exact ⟨its, r, p.isList, p.lt, z⟩
  | true =>
    obtain ⟨its, r, p, z⟩ := I.tuple h
    obtain ⟨o, e, _⟩ := id p
    exact ⟨its, r, p, Heap.lt_size e, z⟩
theorem sq_inj (I : Inv X pins σ H s) (h : Sq b X.K H a xs) (h' : Sq b X.K H a ys) : xs = ys := by
  cases b with
  | false => exact I.list_inj h h'
  | true => exact I.tuple_inj h h'
theorem sqIt_obj {h : Heap} {it : Addr} {i : Nat} (st : SqIt b h it a i) : ∃ o, h.get? it = some o ∧ ∀ v, o.data ≠ .cell v := by
  cases b with
  | false => obtain ⟨o, e, _, d⟩ := st; exact ⟨o, e, fun v z => by rw [d] at z; cases z⟩
  | true => obtain ⟨o, e, _, d⟩ := st; exact ⟨o, e, fun v z => by rw [d] at z; cases z⟩
theorem sqIt_at {h h' : Heap} {it : Addr} {i : Nat} (st : SqIt b h it a i) (k : ∀ o, h.get? it = some o → h'.get? it = some o) : SqIt b h' it a i := by
  cases b with
  | false => exact Heap.IsListIter.at st k
  | true => exact Heap.IsTupleIter.at st k
theorem sqIt_new {h : Heap} {it : Addr} (e : h.get? it = some (sqObj b a)) : SqIt b h it a 0 := by
  cases b with
  | false => exact ⟨_, e, rfl, rfl⟩
  | true => exact ⟨_, e, rfl, rfl⟩
theorem sq_draws {prog : Program} {w : World} {A : Around} (b : Bool) (hh : A.handled = none) (it l : Addr) (hne : l ≠ it) (items : Array Value) :
    Draws prog w A it [it, l] items.size (fun i v => items[i]? = some v) (fun i h => SqIt b h it l i ∧ IsSq b h l items) := by
  cases b with
  | false => exact Draws.list hh it l hne items
  | true => exact Draws.tuple hh it l hne items
theorem sq_begins (b : Bool) (a : Addr) (items : Array Value) : Begins (.ref a) (sqObj b a) fun h => IsSq b h a items := by
  cases b with
  | false => exact begins_list a items
  | true => exact begins_tuple a items
end
/-! ### enumerate -/
set_option maxHeartbeats 1000000 in
theorem enum_new1 {v : Value} {o : Obj} {H : Heap → Prop} (B : Begins v o H) :
    Meets (Builtin.«enumerate.__new__» ⟨[.type "enumerate", v], []⟩) (fun _ R s => H s.heap ∧
      R (.ok (.ret (.ref (s.heap.push o).objs.size))) { s with heap := (s.heap.push o).push { cls := .type "enumerate", data := .fields #[.none, .bool false, .ref s.heap.objs.size, rawInt 0, .none, .none] } }) :=
  .of_wp fun prog w A R s h => by
    obtain ⟨hp, g, d, tk, os⟩ := s; obtain ⟨h1, h⟩ := h
    have hsub := sub_enumerate
    have q1 : ∀ {A' : Around} {E : Value → Shared → Prop} {Q : Value → Shared → Prop}, Q (.ref hp.objs.size) ⟨hp.push o, g, d, tk, os⟩ → wpAny (model prog w) A' (pyIter v) Q E ⟨hp, g, d, tk, os⟩ :=
      fun q => B.iter prog w _ _ ⟨hp, g, d, tk, os⟩ _ h1 q
    wp_walk using q1
    refine wpAny_stack_any fun st => wpAny_pure ?_
    split
    · rename_i c _ _ _ _ _
      cases (c == Value.type "enumerate")
      · wp_walk using q1
        exact ⟨_, rfl, h⟩
      · wp_walk using q1
        exact ⟨_, rfl, h⟩
    · wp_walk using q1
      exact ⟨_, rfl, h⟩
section
variable {prog : Program} {w : World} {A : Around} {E : Value → Shared → Prop} {s : Shared}
theorem enum_call1 {v : Value} {o : Obj} {H : Heap → Prop} {Q : Value → Shared → Prop} (B : Begins v o H) (h1 : H s.heap)
    (h : ∀ h', IsEnum h' (s.heap.objs.size + 1) s.heap.objs.size 0 .none → h'.get? s.heap.objs.size = some o → h'.objs.size = s.heap.objs.size + 2 →
      (∀ b o, s.heap.get? b = some o → h'.get? b = some o) → Q (.ref (s.heap.objs.size + 1)) { s with heap := h' }) :
    wpAny (model prog w) A (call (.type "enumerate") [v]) Q E s := by
  refine callType_new F.called_enumerate (by decide) (F.typeCall_enumerate_1 _) (F.newCall_enumerate_1 _) (fun obj => F.args_object_init_2 obj _) F.entry_enumerate_new (enum_new1 B) ⟨h1, ?_⟩
  have hz : (s.heap.push o).objs.size = s.heap.objs.size + 1 := Heap.size_push ..
  show _ ∧ _
  rw [hz]
  have he : IsEnum ((s.heap.push o).push { cls := .type "enumerate", data := .fields #[.none, .bool false, .ref s.heap.objs.size, rawInt 0, .none, .none] }) (s.heap.objs.size + 1) s.heap.objs.size 0 .none := by
    have := Heap.get?_push_size (s.heap.push o) (o := { cls := .type "enumerate", data := .fields #[.none, .bool false, .ref s.heap.objs.size, rawInt 0, .none, .none] }) rfl
    rw [hz] at this; exact this
  refine ⟨⟨_, he, rfl⟩, h _ he (Heap.get?_push_of_some _ (Heap.get?_push_size _ B.free)) (by rw [Heap.size_push, hz]) fun b o x => Heap.get?_push_of_some _ (Heap.get?_push_of_some _ x)⟩
end
def IteM (b : Bool) (K : PySem.W.Frag) (a : Addr) : It :=
  ⟨fun i H => ∃ (xs : List V) (x : V), Sq b K H a xs ∧ xs[i]? = some x, fun i H v H' => ∃ T x, v = .ref T ∧ H T = none ∧ H' = upd H T (.tup [.int (i : Nat), x]) ∧ ∀ xs, Sq b K H a xs → xs[i]? = some x, fun i H => ∃ xs : List V, Sq b K H a xs ∧ xs.length = i⟩
theorem turn_enumM {P : Program} {w : World} {K : PySem.W.Frag} {elts : List PySem.Expr} {kk : Nat} {tpos : Pos} (b : Bool) (a e it : Addr) :
    Turn P w K (.Tuple elts kk tpos) (IteM b K a) [e, it] e (fun i h => (∃ old, IsEnum h e it ((i : Nat) : Int) old) ∧ SqIt b h it a i ∧ e ≠ it ∧ a ≠ it ∧ e ≠ a) where
  mem := by simp
  obj := fun i h st c hc => by
    obtain ⟨⟨old, he⟩, hi, _⟩ := st
    have e' : c = e ∨ c = it := by simpa using hc
    rcases e' with z | z
    · rw [z]; exact ⟨_, he, fun v q => nomatch q⟩
    · rw [z]; exact sqIt_obj hi
  keep := fun i h h' st k => let ⟨⟨old, he⟩, hi, hne⟩ := st; ⟨⟨old, k e (by simp) _ he⟩, sqIt_at hi fun o q => k it (by simp) o q, hne⟩
  item := by
    intro X hP hw hK hc i pins s σ H E I hf st hg
    subst hP hw hK
    obtain ⟨⟨old, he⟩, hit, hne, hai, hea⟩ := st
    obtain ⟨xs, x, hq, hx⟩ := hg
    obtain ⟨its, rv, p, hal, hz⟩ := sq_at I hq
    obtain ⟨u, hu, ru⟩ := rv.get hx
    have hel : e < s.heap.objs.size := Heap.lt_size he
    have hil : it < s.heap.objs.size := by obtain ⟨_, q, _⟩ := sqIt_obj hit; exact Heap.lt_size q
    have hlt : i < its.toArray.size := by
      rw [List.size_toArray]
      exact (List.getElem?_eq_some_iff.mp hu).1
    refine wpAny_pyNext_enum_itemC (sq_draws (prog := X.prog) (w := X.w) (A := X.A.in1) b (show X.A.in1.handled = none from I.ok.hd hc) it a hai its.toArray) he ⟨hit, p⟩ hlt hne (by simp [hne, hea]) fun v h' tk hv ho hit' hT hsz hk => ?_
    have hv : its.toArray[i]? = some v := hv
    have : v = u := by
      rw [← Array.getElem?_toList] at hv
      simp only at hv
      rw [hu] at hv
      exact (Option.some.inj hv).symm
    subst this
    refine ⟨_, rfl, wpAny_letOwnedTupleGo_enum (s := { s with heap := h', toks := tk + 1 }) ho fun h'' he' sb => ?_⟩
    have hT2 : h''.get? s.heap.objs.size = some { cls := .type "tuple", data := .seq #[.int i tk, v] } := (sb.2 _ (Nat.ne_of_gt hel)).trans hT
    have new : ObjOk X.prog X.w (upd H s.heap.objs.size (.tup [.int (i : Nat), x])) h'' s.heap.objs.size (.tup [.int (i : Nat), x]) :=
      ⟨by show 2 ≤ sizeLine; decide, [.int i tk, v], .cons ⟨_, rfl⟩ (.cons ru .nil), ⟨_, hT2, rfl, _, rfl⟩⟩
    have I1 : Inv X pins σ (upd H s.heap.objs.size (.tup [.int (i : Nat), x])) { s with heap := h'', toks := tk + 1 } :=
      I.turnedNew (ch := [e, it]) (fun c ob hb q => (sb.2 c (fun z => hb (by simp [z]))).trans (hk c ob (fun z => hb (by simp [z])) (fun z => hb (by simp [z])) q)) hf (Nat.le_refl _) new
    refine ⟨.ref s.heap.objs.size, _, I1, rfl, ⟨_, x, rfl, I.hok.fresh (Nat.le_refl _), rfl, fun ys hy => by rw [sq_inj I hy hq]; exact hx⟩, ⟨⟨v, ?_⟩, sqIt_at hit'.1 fun o q => (sb.2 it (Ne.symm hne)).trans q, hne, hai, hea⟩, fun c hc' => ?_⟩
    · have e1 : ((i + 1 : Nat) : Int) = (i : Int) + 1 := by omega
      rw [e1]; exact he'
    · have hb' : c < s.heap.objs.size := by
        have e' : c = e ∨ c = it := by simpa using hc'
        rcases e' with z | z
        · rw [z]; exact hel
        · rw [z]; exact hil
      rw [upd_ne (Nat.ne_of_lt hb')]
      exact (hf c hc').1
  done := by
    intro X hP hw hK hc i pins s σ H E I hf st hg
    subst hP hw hK
    obtain ⟨⟨old, he⟩, hit, hne, hai, hea⟩ := st
    obtain ⟨xs, hq, hx⟩ := hg
    obtain ⟨its, rv, p, hal, hz⟩ := sq_at I hq
    obtain ⟨f0, f1, f2, f3, f4, f5⟩ := hf it (by simp)
    have hl : its.toArray.size = i := by rw [List.size_toArray, ← rv.length]; exact hx
    exact wpAny_pyNext_enum_endD (sq_draws (prog := X.prog) (w := X.w) (A := X.A.in1) b (show X.A.in1.handled = none from I.ok.hd hc) it a hai its.toArray) he (by rw [hl]; exact ⟨hit, p⟩) fun h' eb => ⟨rfl, I.turned (t' := s.toks) (fun b o hb q => eb b o hb q) f0 f1 f3 f4 f5⟩
  self := fun A i s Q E st h => let ⟨⟨_, he⟩, _⟩ := st; wpAny_pyIter_enum he h
def iEnumM (K : PySem.W.Frag) (te : TE) : TI := fun σ H R => te σ H fun v H1 => ∃ b a xs, v = .ref a ∧ Sq b K H1 a xs ∧ R (IteM b K a) H1
theorem pi_enumM {X : Cx} {e : PySem.Expr} {te : TE} {p pos tpos : Pos} {elts : List PySem.Expr} {kk : Nat} (hg : Gl X "enumerate") (hm : X.mg "enumerate" = none) (he : PE X e te) (hs : starEach [e] X.env = (false, eval e X.env) :: starEach [] X.env) :
    PI X (.Tuple elts kk tpos) (.Call (.Name "enumerate" p) [e] [] pos) (iEnumM X.K te) := by
  refine ⟨fun pins s σ H R I h => ?_⟩
  refine Call_ (ld_blt I hg hm boot_enumerate (PyProof.Rows.callWith_type1 (args_cons (thn (he.run pins s σ H _ I h) fun u s1 ⟨v, H1, I1, r1, q1⟩ => args_nil ?_) hs) hs rfl))
  obtain ⟨b, a, xs, rfl, hq, q⟩ := q1
  obtain rfl : u = Value.ref a := r1
  obtain ⟨its, rv, p', hal, hz⟩ := sq_at I1 hq
  refine enum_call1 (sq_begins b a its.toArray) p' fun h' he hit hsz hk => wpAny_pyIter_enum he ?_
  have I2 : Inv X pins σ H1 { s1 with heap := h' } := I1.kept (t' := s1.toks) hk
  have n1 : s1.heap.objs.size + 1 ≠ s1.heap.objs.size := Nat.succ_ne_self _
  refine ⟨s1.heap.objs.size + 1, [s1.heap.objs.size + 1, s1.heap.objs.size], _, _, H1, rfl, I2, turn_enumM b a (s1.heap.objs.size + 1) s1.heap.objs.size, ⟨⟨.none, he⟩, sqIt_new hit, n1, Nat.ne_of_lt hal, Nat.ne_of_gt (Nat.lt_succ_of_lt hal)⟩, fun c hc => ?_, q⟩
  have e' : c = s1.heap.objs.size + 1 ∨ c = s1.heap.objs.size := by simpa using hc
  have hle : s1.heap.objs.size ≤ c := by
    rcases e' with z | z
    · rw [z]; exact Nat.le_add_right _ _
    · rw [z]; exact Nat.le_refl _
  exact I1.fpOk hle (I1.hok.fresh hle)
/-! ### zip -/
def ItzM (b1 b2 : Bool) (K : PySem.W.Frag) (a1 a2 : Addr) : It :=
  ⟨fun i H => ∃ (xs ys : List V) (x y : V), Sq b1 K H a1 xs ∧ Sq b2 K H a2 ys ∧ xs[i]? = some x ∧ ys[i]? = some y,
    fun i H v H' => ∃ T x y, v = .ref T ∧ H T = none ∧ H' = upd H T (.tup [x, y]) ∧ (∀ xs, Sq b1 K H a1 xs → xs[i]? = some x) ∧ ∀ ys, Sq b2 K H a2 ys → ys[i]? = some y,
    fun i H => ∃ xs ys : List V, Sq b1 K H a1 xs ∧ Sq b2 K H a2 ys ∧ min xs.length ys.length = i⟩
/-- the cells of a zip over two, the walked ones beside -/
structure ZipFar (z TI TO i1 i2 a1 a2 : Addr) : Prop where
  sep : ZipSep2 z TI TO i1 i2 [i1, a1] [i2, a2]
  n1 : a1 ≠ i1
  n2 : a2 ≠ i2
theorem turn_zipM {P : Program} {w : World} {K : PySem.W.Frag} {elts : List PySem.Expr} {kk : Nat} {tpos : Pos} {b1 b2 : Bool} {a1 a2 z TI TO i1 i2 : Addr} (D : ZipFar z TI TO i1 i2 a1 a2) :
    Turn P w K (.Tuple elts kk tpos) (ItzM b1 b2 K a1 a2) [z, TI, TO, i1, i2] z (fun i h => IsZip h z TI TO .none ∧ PySem.IsTupOf2 h TI (.ref i1) (.ref i2) ∧ (∃ x y, PySem.IsTupOf2 h TO x y) ∧ SqIt b1 h i1 a1 i ∧ SqIt b2 h i2 a2 i) where
  mem := by simp
  obj := fun i h st c hc => by
    obtain ⟨hz, hTI, ⟨x, y, hTO⟩, h1, h2⟩ := st
    have e' : c = z ∨ c = TI ∨ c = TO ∨ c = i1 ∨ c = i2 := by simpa using hc
    rcases e' with q | q | q | q | q
    · rw [q]; exact ⟨_, hz, fun v q => nomatch q⟩
    · rw [q]; exact ⟨_, hTI, fun v q => nomatch q⟩
    · rw [q]; exact ⟨_, hTO, fun v q => nomatch q⟩
    · rw [q]; exact sqIt_obj h1
    · rw [q]; exact sqIt_obj h2
  keep := fun i h h' st k => by
    obtain ⟨hz, hTI, ⟨x, y, hTO⟩, h1, h2⟩ := st
    exact ⟨k z (by simp) _ hz, k TI (by simp) _ hTI, ⟨x, y, k TO (by simp) _ hTO⟩, sqIt_at h1 fun o q => k i1 (by simp) o q, sqIt_at h2 fun o q => k i2 (by simp) o q⟩
  item := by
    intro X hP hw hK hc i pins s σ H E I hf st hg
    subst hP hw hK
    obtain ⟨hz, hTI, ⟨x0, y0, hTO⟩, h1, h2⟩ := st
    obtain ⟨xs, ys, x, y, hqx, hqy, hx, hy⟩ := hg
    obtain ⟨its, rv, p, _, _⟩ := sq_at I hqx
    obtain ⟨its2, rv2, p2, _, _⟩ := sq_at I hqy
    obtain ⟨u, hu, ru⟩ := rv.get hx
    obtain ⟨u2, hu2, ru2⟩ := rv2.get hy
    have hzl : z < s.heap.objs.size := Heap.lt_size hz
    have lt1 : i < its.toArray.size := by rw [List.size_toArray]; exact (List.getElem?_eq_some_iff.mp hu).1
    have lt2 : i < its2.toArray.size := by rw [List.size_toArray]; exact (List.getElem?_eq_some_iff.mp hu2).1
    refine wpAny_pyNext_zipD2_item D.sep (sq_draws (prog := X.prog) (w := X.w) (A := X.A.in1) b1 (show X.A.in1.handled = none from I.ok.hd hc) i1 a1 D.n1 its.toArray) (sq_draws (prog := X.prog) (w := X.w) (A := X.A.in1) b2 (show X.A.in1.handled = none from I.ok.hd hc) i2 a2 D.n2 its2.toArray) hz hTI hTO ⟨h1, p⟩ ⟨h2, p2⟩ lt1 lt2 fun v1 v2 h' tk hv1 hv2 z' TO' h1' h2' hT hsz hk => ?_
    have hv1 : its.toArray[i]? = some v1 := hv1
    have hv2 : its2.toArray[i]? = some v2 := hv2
    have g1 : v1 = u := by
      rw [← Array.getElem?_toList] at hv1
      simp only at hv1
      rw [hu] at hv1
      exact (Option.some.inj hv1).symm
    have g2 : v2 = u2 := by
      rw [← Array.getElem?_toList] at hv2
      simp only at hv2
      rw [hu2] at hv2
      exact (Option.some.inj hv2).symm
    subst g1 g2
    refine ⟨_, rfl, wpAny_letOwnedTupleGo_zip (s := { s with heap := h', toks := tk }) z' fun h'' z'' sb => ?_⟩
    have hT2 : h''.get? s.heap.objs.size = some { cls := .type "tuple", data := .seq #[v1, v2] } := (sb.2 _ (Nat.ne_of_gt hzl)).trans hT
    have new : ObjOk X.prog X.w (upd H s.heap.objs.size (.tup [x, y])) h'' s.heap.objs.size (.tup [x, y]) :=
      ⟨by show 2 ≤ sizeLine; decide, [v1, v2], .cons ru (.cons ru2 .nil), ⟨_, hT2, rfl, _, rfl⟩⟩
    have I1 : Inv X pins σ (upd H s.heap.objs.size (.tup [x, y])) { s with heap := h'', toks := tk } :=
      I.turnedNew (t' := tk) (ch := [z, TI, TO, i1, i2]) (fun c o hb q => (sb.2 c (fun q' => hb (by simp [q']))).trans (hk c o (fun q' => hb (by simp [q'])) (fun q' => hb (by simp [q'])) (fun q' => hb (by simp [q'])) (fun q' => hb (by simp [q'])) q)) hf (Nat.le_refl _) new
    have S := D.sep
    refine ⟨.ref s.heap.objs.size, _, I1, rfl, ⟨_, x, y, rfl, I.hok.fresh (Nat.le_refl _), rfl, fun l hl => by rw [sq_inj I hl hqx]; exact hx, fun l hl => by rw [sq_inj I hl hqy]; exact hy⟩, ⟨z'', ?_, ⟨v1, v2, ?_⟩, ?_, ?_⟩, fun c hcm => ?_⟩
    · exact (sb.2 _ S.TIz).trans (hk _ _ S.TIz S.TITO S.TIi1 S.TIi2 hTI)
    · exact (sb.2 _ S.TOz).trans TO'
    · exact sqIt_at h1'.1 fun o q => (sb.2 _ S.zi1.symm).trans q
    · exact sqIt_at h2'.1 fun o q => (sb.2 _ S.zi2.symm).trans q
    · have hlt : c < s.heap.objs.size := by
        have e' : c = z ∨ c = TI ∨ c = TO ∨ c = i1 ∨ c = i2 := by simpa using hcm
        rcases e' with q | q | q | q | q
        · rw [q]; exact hzl
        · rw [q]; exact Heap.lt_size hTI
        · rw [q]; exact Heap.lt_size hTO
        · rw [q]; obtain ⟨_, e1, _⟩ := sqIt_obj h1; exact Heap.lt_size e1
        · rw [q]; obtain ⟨_, e2, _⟩ := sqIt_obj h2; exact Heap.lt_size e2
      rw [upd_ne (Nat.ne_of_lt hlt)]
      exact (hf c hcm).1
  done := by
    intro X hP hw hK hc i pins s σ H E I hf st hg
    subst hP hw hK
    obtain ⟨hz, hTI, ⟨x0, y0, hTO⟩, h1, h2⟩ := st
    obtain ⟨xs, ys, hqx, hqy, hend⟩ := hg
    obtain ⟨its, rv, p, _, _⟩ := sq_at I hqx
    obtain ⟨its2, rv2, p2, _, _⟩ := sq_at I hqy
    have l1 := rv.length
    have l2 := rv2.length
    refine wpAny_pyNext_zipD2_end D.sep (sq_draws (prog := X.prog) (w := X.w) (A := X.A.in1) b1 (show X.A.in1.handled = none from I.ok.hd hc) i1 a1 D.n1 its.toArray) (sq_draws (prog := X.prog) (w := X.w) (A := X.A.in1) b2 (show X.A.in1.handled = none from I.ok.hd hc) i2 a2 D.n2 its2.toArray) hz hTI hTO ⟨h1, p⟩ ⟨h2, p2⟩ (by rw [List.size_toArray]; omega) (by rw [List.size_toArray]; omega) (by rw [List.size_toArray, List.size_toArray]; omega) fun h' tk hk => ⟨rfl, I.turnedL (t' := tk) (ch := [z, TI, TO, i1, i2]) (fun c o hb q =>
      hk c o (fun q' => hb (by simp [q'])) (fun q' => hb (by simp [q'])) (fun q' => hb (by simp [q'])) (fun q' => hb (by simp [q'])) q) hf⟩
  self := fun A i s Q E st h => wpAny_pyIter_zip st.1 h
def iZipM (K : PySem.W.Frag) (ta : TA) : TI := fun σ H R => ta σ H fun vs H1 => ∃ b1 b2 a1 a2 xs ys, vs = [.ref a1, .ref a2] ∧ Sq b1 K H1 a1 xs ∧ Sq b2 K H1 a2 ys ∧ R (ItzM b1 b2 K a1 a2) H1
theorem far_new {N a1 a2 : Nat} (h1 : a1 < N) (h2 : a2 < N) : ZipFar (N + 4) (N + 2) (N + 3) N (N + 1) a1 a2 :=
  ⟨zip_sep2 (fp1 := [a1]) (fp2 := [a2]) (by simpa using h1) (by simpa using h2), Nat.ne_of_lt h1, Nat.ne_of_lt (Nat.lt_succ_of_lt h2)⟩
theorem pi_zipM {X : Cx} {e e2 : PySem.Expr} {ta : TA} {p pos tpos : Pos} {elts : List PySem.Expr} {kk : Nat} (hg : Gl X "zip") (hm : X.mg "zip" = none) (ha : PA X [e, e2] ta)
    (hs : starEach [e, e2] X.env = (false, eval e X.env) :: starEach [e2] X.env) (hpl : (backTo pos (starEach [e2] X.env)).any (·.1) = false) :
    PI X (.Tuple elts kk tpos) (.Call (.Name "zip" p) [e, e2] [] pos) (iZipM X.K ta) := by
  refine ⟨fun pins s σ H R I h => ?_⟩
  refine Call_ (ld_blt I hg hm PyProof.Rows.boot_zip (PyProof.Rows.callWith_type1 (thn (ha.run pos pins s σ H _ I h) fun us s1 ⟨vs, H1, I1, r1, q1⟩ => ?_) hs hpl))
  obtain ⟨b1, b2, a, b, xs, ys, rfl, hqx, hqy, q⟩ := q1
  cases r1 with
  | cons r rr =>
    cases rr with
    | cons r' rr =>
      cases rr
      cases r
      cases r'
      have fresh5 : ∀ c, c ∈ [s1.heap.objs.size + 4, s1.heap.objs.size + 2, s1.heap.objs.size + 3, s1.heap.objs.size, s1.heap.objs.size + 1] → FpOk X pins H1 c := fun c hcm => by
        have e' : c = s1.heap.objs.size + 4 ∨ c = s1.heap.objs.size + 2 ∨ c = s1.heap.objs.size + 3 ∨ c = s1.heap.objs.size ∨ c = s1.heap.objs.size + 1 := by simpa using hcm
        have hle : s1.heap.objs.size ≤ c := by
          rcases e' with z | z | z | z | z
          · rw [z]; exact Nat.le_add_right _ _
          · rw [z]; exact Nat.le_add_right _ _
          · rw [z]; exact Nat.le_add_right _ _
          · rw [z]; exact Nat.le_refl _
          · rw [z]; exact Nat.le_add_right _ _
        exact I1.fpOk hle (I1.hok.fresh hle)
      obtain ⟨its, rv, p1, lt1, _⟩ := sq_at I1 hqx
      obtain ⟨its2, rv2, p2, lt2, _⟩ := sq_at I1 hqy
      refine zip_begins2 (sq_begins b1 a its.toArray) (sq_begins b2 b its2.toArray) p1 p2 fun h' hz hTI hTO h1 h2 hsz hk => wpAny_pyIter_zip hz ?_
      have I2 : Inv X pins σ H1 { s1 with heap := h' } := I1.kept (t' := s1.toks) hk
      exact ⟨s1.heap.objs.size + 4, [s1.heap.objs.size + 4, s1.heap.objs.size + 2, s1.heap.objs.size + 3, s1.heap.objs.size, s1.heap.objs.size + 1], _, _, H1, rfl, I2, turn_zipM (far_new lt1 lt2), ⟨hz, hTI, ⟨_, _, hTO⟩, sqIt_new h1, sqIt_new h2⟩, fresh5, q⟩
end M

set_option Elab.async false
set_option linter.all false
set_option maxRecDepth 100000
set_option maxHeartbeats 4000000
/-! M: enumerate, zip as sources -/
namespace M
open PySem PySem.Spec PyProof.Rows L2
section
variable {K : PySem.W.Frag} {Vi : Hp} {a b : Addr} {vs ws : List V} {xs ys : List D}
theorem sq_mono {t : Bool} {H H' : Hp} (s : Same H H') (h : Sq t K H a vs) : Sq t K H' a vs := by
  cases t with
  | false => exact s.seq h
  | true => exact sqT_mono s h
theorem srcJ_e {t : Bool} (h : Sq t K Vi a vs) (r : Rps K Vi vs xs) : SrcJ K Vi (IteM t K a) (enumL 0 xs) := by
  have hl := r.len
  refine ⟨fun i H s hi => ?_, fun i H s hi => ?_, ?_⟩
  · rw [enumL_len] at hi
    exact ⟨vs, vs[i]'(by omega), sq_mono s h, List.getElem?_eq_getElem (by omega)⟩
  · rw [enumL_len] at hi
    exact ⟨vs, sq_mono s h, by omega⟩
  rintro i H x H' d s e ⟨p, y, rfl, hp, rfl, q⟩
  obtain ⟨z, e1, rfl⟩ := enumL_get e
  obtain ⟨w, g1, g2⟩ := r.get e1
  have := q vs (sq_mono s h)
  rw [g1] at this
  cases this
  rw [Nat.zero_add]
  exact .inr ⟨p, _, _, hp, rfl, rfl, rfl, .cons (.int _) (.cons g2 .nil)⟩
theorem srcJ_z {t u : Bool} (h : Sq t K Vi a vs) (r : Rps K Vi vs xs) (h2 : Sq u K Vi b ws) (r2 : Rps K Vi ws ys) : SrcJ K Vi (ItzM t u K a b) (pairsL xs ys) := by
  have hl := r.len
  have hl2 := r2.len
  refine ⟨fun i H s hi => ?_, fun i H s hi => ?_, ?_⟩
  · rw [pairsL_len] at hi
    exact ⟨vs, ws, vs[i]'(by omega), ws[i]'(by omega), sq_mono s h, sq_mono s h2, List.getElem?_eq_getElem (by omega), List.getElem?_eq_getElem (by omega)⟩
  · rw [pairsL_len] at hi
    exact ⟨vs, ws, sq_mono s h, sq_mono s h2, by omega⟩
  rintro i H x H' d s e ⟨p, y, z, rfl, hp, rfl, q, q2⟩
  obtain ⟨y', z', e1, e2, rfl⟩ := pairsL_get e
  obtain ⟨w, g1, g2⟩ := r.get e1
  obtain ⟨w2, g3, g4⟩ := r2.get e2
  have t1 := q vs (sq_mono s h)
  have t2 := q2 ws (sq_mono s h2)
  rw [g1] at t1
  rw [g3] at t2
  cases t1
  cases t2
  exact .inr ⟨p, _, _, hp, rfl, rfl, rfl, .cons g2 (.cons g4 .nil)⟩
end
theorem Rp.sq {K : PySem.W.Frag} {H : Hp} {v : V} {d : D} {ds : List D} (h : Rp K H v d) (e : items? d = some ds) : ∃ t a xs, v = .ref a ∧ Sq t K H a xs ∧ Rps K H xs ds := by
  obtain ⟨a, xs, rfl, h, r⟩ := h.items e
  rcases h with ⟨h, _⟩ | ⟨h, _⟩
  · exact ⟨false, a, xs, rfl, h, r⟩
  · exact ⟨true, a, xs, rfl, h, r⟩
section
variable {X : Cx} {Φ : Phi} {XR : XRel} {t' a' b' c' : PE'} {a b c : E} {pos p : Pos}
theorem isTup_of (h : isTup t' = true) : ∃ es k q, t' = .Tuple es k q := by
  cases t' <;> first | exact ⟨_, _, _, rfl⟩ | simp [isTup] at h
theorem sndI_enum (ht : isTup t' = true) (h1 : X.mg "enumerate" = none) (g1 : Gl X "enumerate") (sa : notStar a' = true) (ha : SndV X Φ XR a' a) : SndI X Φ XR t' (.Call (.Name "enumerate" p) [a'] [] pos) (.enum a) := fun F W tk => by
  obtain ⟨es, k, q, rfl⟩ := isTup_of ht
  refine PI_imp (pi_enumM g1 h1 (ha F W tk) (star_ok sa)) ?_
  rintro σ H R ⟨ρ, er, h⟩
  simp only [evSrc] at h
  refine ⟨ρ, er, PostG.bindP (f := fun r ρ => match r with | .v d => (match items? d with | some xs => .ok (enumL 0 xs) ρ | none => .bad) | _ => .bad) er h fun d ρ1 v H1 er1 st1 rp h1 => ?_⟩
  simp only at h1
  cases ei : items? d with
  | none => rw [ei] at h1; exact False.elim h1
  | some xs =>
    rw [ei] at h1
    have h2 := h1 H1 er1 .refl
    obtain ⟨t, q, vs, rfl, hq, rs⟩ := rp.sq ei
    exact ⟨t, q, vs, rfl, sq_mono vis_le hq, h2 _ (srcJ_e hq rs)⟩
theorem sndI_zip (ht : isTup t' = true) (h1 : X.mg "zip" = none) (g1 : Gl X "zip") (sa : notStar a' = true) (sb : notStar b' = true) (ha : SndV X Φ XR a' a) (hb : SndV X Φ XR b' b) : SndI X Φ XR t' (.Call (.Name "zip" p) [a', b'] [] pos) (.zip a b) := fun F W tk => by
  obtain ⟨es, k, q, rfl⟩ := isTup_of ht
  refine PI_imp (pi_zipM g1 h1 (pa_cons (ha F W tk) (pa_cons (hb F W tk) pa_nil (star_ok sb)) (star_ok sa)) (star_ok sa) (by rw [star_ok sb]; rfl)) ?_
  rintro σ H R ⟨ρ, er, h⟩
  simp only [evSrc] at h
  refine ⟨ρ, er, PostG.bindP (f := fun r ρ => match r with | .v x => ((ev Φ false b ρ).bind fun rb ρ => (frz ρ rb).bind fun y ρ => match items? x, items? y with | some xs, some ys => .ok (pairsL xs ys) ρ | _, _ => .bad) | _ => .bad) er h fun x ρ1 v H1 er1 st1 rp h1 => ?_⟩
  simp only at h1
  refine ⟨ρ1, er1, PostG.bindP (f := fun r ρ => match r with | .v y => (match items? x, items? y with | some xs, some ys => .ok (pairsL xs ys) ρ | _, _ => .bad) | _ => .bad) er1 h1 fun y ρ2 v2 H2 er2 st2 rp2 h2 => ?_⟩
  simp only at h2
  cases ei : items? x with
  | none => rw [ei] at h2; exact False.elim h2
  | some xs =>
    cases ej : items? y with
    | none => rw [ei, ej] at h2; exact False.elim h2
    | some ys =>
      rw [ei, ej] at h2
      have h3 := h2 H2 er2 .refl
      obtain ⟨t, q, vs, rfl, hq, rs⟩ := (rp.mono st2.same).sq ei
      obtain ⟨t2, q2, vs2, rfl, hq2, rs2⟩ := rp2.sq ej
      exact ⟨t, t2, q, q2, vs, vs2, rfl, sq_mono vis_le hq, sq_mono vis_le hq2, h3 _ (srcJ_z hq rs hq2 rs2)⟩
end
end M

set_option Elab.async false
set_option linter.all false
set_option maxRecDepth 100000
set_option maxHeartbeats 4000000
/-! M: names filled, forgotten, put back -/
namespace M
open PySem PySem.Spec PyProof.Rows L2
section
variable {K : PySem.W.Frag} {F : Fr} {σ σ' : L2.St} {H : Hp} {ρ ρ' : Env}
theorem vis_sub (h : ∀ b, OA σ' ρ' b → OA σ ρ b) : Same (vis F σ ρ H) (vis F σ' ρ' H) := fun b ob e => by
  obtain ⟨h1, h2, h3⟩ := vis_some e
  rw [vis_of h2 (fun z => h3 (h b z))]; exact h1
/-- other names, no new owner -/
theorem EnvR.chg (er : EnvR K F σ H ρ) (hl : σ'.length = ρ'.length) (hv : ∀ (i : Nat) d, ρ'[i]? = some (.val d) → ∃ v, σ'[i]? = some (some v) ∧ Rp K (vis F σ ρ H) v d)
    (ho : ∀ (i : Nat) t lk c, ρ'[i]? = some (.own t lk c) → ρ[i]? = some (.own t lk c) ∧ σ'[i]? = σ[i]?) : EnvR K F σ' H ρ' ∧ Same (vis F σ ρ H) (vis F σ' ρ' H) := by
  have le : Same (vis F σ ρ H) (vis F σ' ρ' H) := vis_sub fun b ⟨i, t, lk, c, e1, e2⟩ => by
    obtain ⟨g1, g2⟩ := ho i t lk c e1
    exact ⟨i, t, lk, c, g1, by rw [← g2]; exact e2⟩
  refine ⟨⟨hl, fun i d e => ?_, fun i t lk c e => ?_, fun i j t lk c t' lk' c' p e1 e2 e3 e4 => ?_, er.hid, er.keep, er.inn⟩, le⟩
  · obtain ⟨v, h1, h2⟩ := hv i d e
    exact ⟨v, h1, h2.mono le⟩
  · obtain ⟨g1, g2⟩ := ho i t lk c e
    obtain ⟨p, o, h1, h2, h3, h4⟩ := er.own i t lk c g1
    exact ⟨p, o, by rw [g2]; exact h1, h2, h3.mono le, h4⟩
  · obtain ⟨g1, g2⟩ := ho i t lk c e1
    obtain ⟨g3, g4⟩ := ho j t' lk' c' e2
    exact er.uniq i j _ _ _ _ _ _ p g1 g3 (by rw [← g2]; exact e3) (by rw [← g4]; exact e4)
theorem EnvR.setV {i : Nat} {v : V} {d : D} (er : EnvR K F σ H ρ) (hf : Slot.free ρ[i]? = true) (r : Rp K (vis F σ ρ H) v d) : EnvR K F (σ.set i (some v)) H (ρ.set i (.val d)) ∧ Same (vis F σ ρ H) (vis F (σ.set i (some v)) (ρ.set i (.val d)) H) := by
  have hi : i < ρ.length := by
    cases e : ρ[i]? with
    | none => rw [e] at hf; cases hf
    | some s => exact (List.getElem?_eq_some_iff.mp e).1
  have hi' : i < σ.length := by rw [er.len]; exact hi
  refine er.chg (by rw [List.length_set, List.length_set]; exact er.len) (fun j d' e => ?_) (fun j t lk c e => ?_)
  · by_cases hj : i = j
    · subst hj
      rw [List.getElem?_set_self hi] at e
      cases e
      exact ⟨v, List.getElem?_set_self hi', r⟩
    · rw [List.getElem?_set_ne hj] at e ⊢
      exact er.val j d' e
  · by_cases hj : i = j
    · subst hj
      rw [List.getElem?_set_self hi] at e
      cases e
    · rw [List.getElem?_set_ne hj] at e ⊢
      exact ⟨e, rfl⟩
theorem wipe_get {i : Nat} : ∀ {vs : List Nat}, (wipe σ vs)[i]? = if i ∈ vs then (if i < σ.length then some none else none) else σ[i]?
  | [] => by simp [wipe]
  | v :: vs => by
    unfold wipe
    by_cases h : v = i
    · subst h
      rw [if_pos List.mem_cons_self]
      by_cases hv : v < σ.length
      · rw [if_pos hv, List.getElem?_set_self (by rw [wipe_length]; exact hv)]
      · rw [if_neg hv, List.getElem?_eq_none (by rw [List.length_set, wipe_length]; omega)]
    · rw [List.getElem?_set_ne h, wipe_get (vs := vs)]
      have : i ∈ v :: vs ↔ i ∈ vs := by
        rw [List.mem_cons]; exact ⟨fun z => z.resolve_left (Ne.symm h), .inr⟩
      by_cases hm : i ∈ vs
      · rw [if_pos hm, if_pos (this.mpr hm)]
      · rw [if_neg hm, if_neg (fun z => hm (this.mp z))]
theorem wipe_wipe (vs : List Nat) : wipe (wipe σ vs) vs = wipe σ vs := by
  apply List.ext_getElem?
  intro i
  rw [wipe_get, wipe_length, wipe_get]
  by_cases h : i ∈ vs
  · rw [if_pos h, if_pos h]
  · rw [if_neg h, if_neg h]
theorem wipe_set {i : Nat} {x : Option V} {vs : List Nat} (h : i ∈ vs) : wipe (σ.set i x) vs = wipe σ vs := by
  apply List.ext_getElem?
  intro j
  rw [wipe_get, wipe_get, List.length_set]
  by_cases hj : j ∈ vs
  · rw [if_pos hj, if_pos hj]
  · rw [if_neg hj, if_neg hj]
    rw [List.getElem?_set_ne (fun z : i = j => hj (by rw [← z]; exact h))]
theorem wipeE_length : ∀ {is : List Nat} {ρ : Env}, (wipeE ρ is).length = ρ.length
  | [], _ => rfl
  | i :: is, ρ => by
    show (wipeE (ρ.set i .un) is).length = _
    rw [wipeE_length, List.length_set]
theorem wipeE_get {i : Nat} : ∀ {is : List Nat} {ρ : Env}, (wipeE ρ is)[i]? = if i ∈ is then (if i < ρ.length then some .un else none) else ρ[i]?
  | [], _ => by simp [wipeE]
  | j :: is, ρ => by
    show (wipeE (ρ.set j .un) is)[i]? = _
    rw [wipeE_get (is := is), List.length_set]
    by_cases hm : i ∈ is
    · rw [if_pos hm, if_pos (List.mem_cons_of_mem _ hm)]
    · rw [if_neg hm]
      by_cases h : j = i
      · subst h
        rw [if_pos List.mem_cons_self]
        by_cases hv : j < ρ.length
        · rw [if_pos hv, List.getElem?_set_self hv]
        · rw [if_neg hv, List.getElem?_eq_none (by rw [List.length_set]; omega)]
      · rw [List.getElem?_set_ne h, if_neg (fun z => (List.mem_cons.mp z).elim (fun y => h y.symm) hm)]
theorem backE_length {ρ : Env} : ∀ {is : List Nat} {ρ' : Env}, (backE ρ ρ' is).length = ρ'.length
  | [], _ => rfl
  | i :: is, ρ' => by
    show (backE ρ (match ρ[i]? with | some s => ρ'.set i s | none => ρ') is).length = _
    rw [backE_length]
    split
    · rw [List.length_set]
    · rfl
theorem backE_get {ρ : Env} {i : Nat} : ∀ {is : List Nat} {ρ' : Env}, ρ'.length = ρ.length → (backE ρ ρ' is)[i]? = if i ∈ is then ρ[i]? else ρ'[i]?
  | [], _, _ => by simp [backE]
  | j :: is, ρ', hl => by
    show (backE ρ (match ρ[j]? with | some s => ρ'.set j s | none => ρ') is)[i]? = _
    have hl' : (match ρ[j]? with | some s => ρ'.set j s | none => ρ').length = ρ.length := by
      split
      · rw [List.length_set]; exact hl
      · exact hl
    rw [backE_get (is := is) hl']
    by_cases hm : i ∈ is
    · rw [if_pos hm, if_pos (List.mem_cons_of_mem _ hm)]
    · rw [if_neg hm]
      by_cases h : j = i
      · subst h
        rw [if_pos List.mem_cons_self]
        cases e : ρ[j]? with
        | none =>
          have : ρ.length ≤ j := List.getElem?_eq_none_iff.mp e
          simp only
          exact List.getElem?_eq_none (by omega)
        | some s =>
          simp only
          exact List.getElem?_set_self (by rw [hl]; exact (List.getElem?_eq_some_iff.mp e).1)
      · rw [if_neg (fun z => (List.mem_cons.mp z).elim (fun y => h y.symm) hm)]
        split
        · rw [List.getElem?_set_ne h]
        · rfl
/-- names forgotten on both sides -/
theorem EnvR.wiped (er : EnvR K F σ H ρ) (is : List Nat) : EnvR K F (wipe σ is) H (wipeE ρ is) ∧ Same (vis F σ ρ H) (vis F (wipe σ is) (wipeE ρ is) H) := by
  refine er.chg (by rw [wipe_length, wipeE_length]; exact er.len) (fun i d e => ?_) fun i t lk c e => ?_
  · rw [wipeE_get] at e
    by_cases hm : i ∈ is
    · rw [if_pos hm] at e
      split at e <;> cases e
    · rw [if_neg hm] at e
      rw [wipe_get, if_neg hm]
      exact er.val i d e
  · rw [wipeE_get] at e
    by_cases hm : i ∈ is
    · rw [if_pos hm] at e
      split at e <;> cases e
    · rw [if_neg hm] at e
      rw [wipe_get, if_neg hm]
      exact ⟨e, rfl⟩
/-- names forgotten on the side of M alone -/
theorem EnvR.killed (er : EnvR K F σ H ρ) (is : List Nat) : EnvR K F σ H (wipeE ρ is) ∧ Same (vis F σ ρ H) (vis F σ (wipeE ρ is) H) := by
  refine er.chg (by rw [wipeE_length]; exact er.len) (fun i d e => ?_) fun i t lk c e => ?_
  · rw [wipeE_get] at e
    by_cases hm : i ∈ is
    · rw [if_pos hm] at e
      split at e <;> cases e
    · rw [if_neg hm] at e
      exact er.val i d e
  · rw [wipeE_get] at e
    by_cases hm : i ∈ is
    · rw [if_pos hm] at e
      split at e <;> cases e
    · rw [if_neg hm] at e
      exact ⟨e, rfl⟩
theorem tgFree_at {ρ : Env} {tg : Tg} (h : tgFree ρ tg = true) {i : Nat} (hi : i ∈ tg.is) : Slot.free ρ[i]? = true := by
  unfold tgFree at h
  exact List.all_eq_true.mp h i hi
/-! ### targets -/
def gIs : List Nat → TGs
  | [] => gNil
  | i :: is => gCons (gName i) (gIs is)
def gTg (K : PySem.W.Frag) : Tg → TG
  | .n i => gName i
  | .t is => gTup K is.length (gIs is)
theorem gIs_ok {all : List Nat} {Q : L2.St → Hp → Prop} : ∀ {is : List Nat} {vs : List V} {ds : List D} {σ : L2.St} {ρ : Env}, EnvR K F σ H ρ → (∀ i ∈ is, Slot.free ρ[i]? = true) → (∀ i ∈ is, i ∈ all) → is.length = ds.length → Rps K (vis F σ ρ H) vs ds →
    (∀ σ3, EnvR K F σ3 H ((is.zip ds).foldl (fun ρ p => ρ.set p.1 (.val p.2)) ρ) → Same (vis F σ ρ H) (vis F σ3 ((is.zip ds).foldl (fun ρ p => ρ.set p.1 (.val p.2)) ρ) H) → wipe σ3 all = wipe σ all → Q σ3 H) → gIs is vs σ H Q
  | [], vs, ds, σ, ρ, er, hf, ha, hl, r, k => by
    cases ds with
    | cons d ds => simp at hl
    | nil =>
      cases r
      exact ⟨rfl, k σ er (fun _ _ e => e) rfl⟩
  | i :: is, vs, ds, σ, ρ, er, hf, ha, hl, r, k => by
    cases ds with
    | nil => simp at hl
    | cons d ds =>
      cases r with
      | cons r1 r2 =>
        rename_i v vs
        obtain ⟨er1, le⟩ := er.setV (hf i List.mem_cons_self) r1
        have hi : i < ρ.length := by
          have := hf i List.mem_cons_self
          cases e : ρ[i]? with
          | none => rw [e] at this; cases this
          | some s => exact (List.getElem?_eq_some_iff.mp e).1
        refine ⟨v, vs, rfl, ?_⟩
        show gIs is vs (σ.set i (some v)) H Q
        refine gIs_ok er1 (fun j hj => ?_) (fun j hj => ha j (List.mem_cons_of_mem _ hj)) (by simpa using hl) (r2.mono le) fun σ3 er3 le3 w3 => ?_
        · by_cases h : i = j
          · subst h
            rw [List.getElem?_set_self hi]; rfl
          · rw [List.getElem?_set_ne h]; exact hf j (List.mem_cons_of_mem _ hj)
        · exact k σ3 er3 (le.trans le3) (w3.trans (wipe_set (ha i List.mem_cons_self)))
theorem gTg_ok {tg : Tg} {v : V} {d : D} {ρ3 : Env} {Q : L2.St → Hp → Prop} (er : EnvR K F σ H ρ) (hf : tgFree ρ tg = true) (r : Rp K (vis F σ ρ H) v d) (e : putTg ρ tg d = some ρ3)
    (k : ∀ σ3, EnvR K F σ3 H ρ3 → Same (vis F σ ρ H) (vis F σ3 ρ3 H) → wipe σ3 tg.is = wipe σ tg.is → Q σ3 H) : gTg K tg v σ H Q := by
  cases tg with
  | n i =>
    cases e
    obtain ⟨er1, le⟩ := er.setV (tgFree_at hf (i := i) (by simp [Tg.is])) r
    exact k _ er1 le (wipe_set (by simp [Tg.is]))
  | t is =>
    cases d with
    | tuple ds =>
      simp only [putTg] at e
      split at e
      · rename_i hl
        cases e
        cases r with
        | tup h1 h2 =>
          rename_i a xs
          refine ⟨a, xs, rfl, sqT_mono vis_le h1, by rw [h2.len, hl], ?_⟩
          exact gIs_ok (all := is) er (fun i hi => tgFree_at hf hi) (fun _ h => h) hl h2 k
      · cases e
    | _ => cases e
/-- a hidden object is written -/
theorem EnvR.updH {p : Addr} {o : HO} (er : EnvR K F σ H ρ) (hp : F.h p) (h0 : F.H0 p = none) : EnvR K F σ (upd H p o) ρ ∧ vis F σ ρ (upd H p o) = vis F σ ρ H := by
  have hv : vis F σ ρ (upd H p o) = vis F σ ρ H := by
    funext b
    unfold vis
    by_cases z : F.h b ∨ OA σ ρ b
    · rw [if_pos z, if_pos z]
    · rw [if_neg z, if_neg z, upd_ne]
      intro y
      exact z (.inl (y ▸ hp))
  refine ⟨⟨er.len, fun i d e => by rw [hv]; exact er.val i d e, fun i t lk c e => ?_, er.uniq, fun b hb => ?_, fun b ob e hI => ?_, fun j hj => ?_⟩, hv⟩
  · obtain ⟨q, ob, e1, e2, e3, e4, e5⟩ := er.own i t lk c e
    have hq : q ≠ p := fun z => e4 (z ▸ hp)
    exact ⟨q, ob, e1, by rw [upd_ne hq]; exact e2, by rw [hv]; exact e3, e4, e5⟩
  · by_cases y : b = p
    · exact ⟨o, by rw [y, upd_same]⟩
    · obtain ⟨ob, e⟩ := er.hid b hb
      exact ⟨ob, by rw [upd_ne y]; exact e⟩
  · have y : b ≠ p := fun z => by rw [z, h0] at e; cases e
    rw [upd_ne y]; exact er.keep b ob e hI
  · by_cases y : F.I j = p
    · exact ⟨o, by rw [y, upd_same]⟩
    · obtain ⟨ob, e⟩ := er.inn j hj
      exact ⟨ob, by rw [upd_ne y]; exact e⟩
end
end M

set_option Elab.async false
set_option linter.all false
set_option maxRecDepth 100000
set_option maxHeartbeats 4000000
/-! M: dict displays, lists repeated -/
namespace M
open PySem PySem.Spec PyProof.Rows L2 PpSet
section
variable {X : Cx} {Φ : Phi} {XR : XRel} {a' b' e' : PE'} {a b e : E} {pos lp : Pos}
def teX (Φ : Phi) (K : PySem.W.Frag) (XR : XRel) (W : WX) (e : E) : TE := fun σ H Q => ∃ F, rdE Φ K F XR W e σ H Q
theorem pe_teX {W : WX} (h : SndV X Φ XR e' e) (tk : Takes X W) : PE X e' (teX Φ X.K XR W e) := ⟨fun pins s σ H Q I ⟨F, q⟩ => (h F W tk).run pins s σ H Q I q⟩
def trsOf (Φ : Phi) (K : PySem.W.Frag) (XR : XRel) (W : WX) : List Key → Es → List (TE × TE)
  | k :: ks, .cons e es => (tC (kV k), teX Φ K XR W e) :: trsOf Φ K XR W ks es
  | _, _ => []
theorem pe_key {k : Key} {x : Option PE'} (h : chkK k x = true) : ∃ y, x = some y ∧ PE X y (tC (kV k)) := by
  unfold chkK at h
  split at h
  · have := eq_of_beq h
    subst this
    exact ⟨_, rfl, pe_int⟩
  · have := of_decide_eq_true h
    subst this
    exact ⟨_, rfl, pe_str⟩
  · cases h
def SndPP (X : Cx) (Φ : Phi) (XR : XRel) (es' : List PE') (es : Es) : Prop := ∀ (W : WX) (ks : List Key) (keys : List (Option PE')) (pos : Pos), Takes X W → chkKs ks keys = true → keys.length = es'.length → PPs X pos keys es' (trsOf Φ X.K XR W ks es)
theorem sndPP_nil : SndPP X Φ XR [] .nil := by
  intro W ks keys pos tk hk hl
  have : keys = [] := List.length_eq_zero_iff.mp hl
  subst this
  have e : trsOf Φ X.K XR W ks .nil = [] := by unfold trsOf; split <;> first | rfl | (rename_i z; cases z)
  rw [e]
  exact pps_nil
theorem sndPP_cons {es' : List PE'} {es : Es} (h : SndV X Φ XR e' e) (t : SndPP X Φ XR es' es) : SndPP X Φ XR (e' :: es') (.cons e es) := by
  intro W ks keys pos tk hk hl
  cases keys with
  | nil => cases hl
  | cons x keys =>
    cases ks with
    | nil => cases hk
    | cons k ks =>
      simp only [chkKs, Bool.and_eq_true] at hk
      obtain ⟨y, rfl, py⟩ := pe_key (X := X) hk.1
      exact pps_cons py (pe_teX h tk) (t W ks keys pos tk hk.2 (by simpa using hl))
section
variable {K : PySem.W.Frag} {F : Fr} {W : WX} {σ : L2.St}
theorem pairs_go : ∀ {es : Es} {ks : List Key} {H : Hp} {ρ ρ' : Env} {ds : List D} {Q : List (V × V) → Hp → Prop}, ks.length = ds.length → EnvR K F σ H ρ → evd Φ es ρ = .ok ds ρ' →
    (∀ H' vs, EnvR K F σ H' ρ' → Stp F σ H ρ H' ρ' → Rps K (vis F σ ρ' H') vs ds → Q ((ks.map kV).zip vs) H') → tPairs (trsOf Φ K XR W ks es) σ H Q
  | .nil, ks, H, ρ, ρ', ds, Q, hl, er, e, k => by
    simp only [evd] at e
    cases e
    have : ks = [] := List.length_eq_zero_iff.mp hl
    subst this
    exact k H [] er .refl .nil
  | .cons e es, ks, H, ρ, ρ', ds, Q, hl, er, h, k => by
    simp only [evd] at h
    obtain ⟨r, ρ1, e1, h⟩ := bind_ok_inv h
    obtain ⟨d, ρ2, e2, h⟩ := bind_ok_inv h
    obtain ⟨ds', ρ3, e3, h⟩ := bind_ok_inv h
    cases h
    cases ks with
    | nil => cases hl
    | cons key ks =>
      refine ⟨F, ρ, er, Post.read er ?_⟩
      rw [e1]
      intro H1 er1 st1 v rv
      obtain ⟨er2, st2, rp2⟩ := frz_ok er1 rv e2
      refine pairs_go (by simpa using hl) er2 e3 fun H' vs er3 st3 rs => ?_
      exact k H' (v :: vs) er3 ((st1.trans st2).trans st3) (.cons (Rp.mono st3.same rp2) rs)
end
theorem mergeK_nodup : ∀ {more acc : List (Key × V)}, (acc.map (·.1) ++ more.map (·.1)).Nodup → mergeK acc more = acc ++ more
  | [], acc, _ => by simp [mergeK]
  | p :: more, acc, h => by
    have hn : (acc.any fun kv => decide (kv.1 = p.1)) = false := by
      rw [List.any_eq_false]
      intro q hq z
      have z := of_decide_eq_true z
      rw [List.map_cons, List.nodup_append] at h
      exact h.2.2 q.1 (List.mem_map_of_mem hq) p.1 List.mem_cons_self z
    have e : L2.putK acc p.1 p.2 = acc ++ [p] := by
      unfold L2.putK
      rw [hn]
      rfl
    show mergeK (L2.putK acc p.1 p.2) more = _
    rw [e, mergeK_nodup]
    · simp
    · simpa using h
theorem zip_fst {α β : Type} : ∀ {xs : List α} {ys : List β}, xs.length = ys.length → (xs.zip ys).map (·.1) = xs
  | [], [], _ => rfl
  | x :: xs, y :: ys, h => by simp only [List.zip_cons_cons, List.map_cons]; rw [zip_fst (by simpa using h)]
  | [], _ :: _, h => by cases h
  | _ :: _, [], h => by cases h
theorem zip_snd {α β : Type} : ∀ {xs : List α} {ys : List β}, xs.length = ys.length → (xs.zip ys).map (·.2) = ys
  | [], [], _ => rfl
  | x :: xs, y :: ys, h => by simp only [List.zip_cons_cons, List.map_cons]; rw [zip_snd (by simpa using h)]
  | [], _ :: _, h => by cases h
  | _ :: _, [], h => by cases h
theorem zip_kv : ∀ (ks : List Key) (vs : List V), (ks.map kV).zip vs = (ks.zip vs).map fun kv => (kV kv.1, kv.2)
  | [], vs => by simp
  | k :: ks, [] => by simp
  | k :: ks, v :: vs => by simp [zip_kv ks vs]
theorem chkKs_all : ∀ {ks : List Key} {keys : List (Option PE')}, chkKs ks keys = true → keys.all (·.isSome) = true ∧ ks.length = keys.length
  | [], [], _ => ⟨rfl, rfl⟩
  | [], _ :: _, h => by cases h
  | _ :: _, [], h => by cases h
  | k :: ks, x :: keys, h => by
    simp only [chkKs, Bool.and_eq_true] at h
    obtain ⟨h1, h2⟩ := chkKs_all h.2
    have hx : x.isSome = true := by
      cases x with
      | none => cases k <;> simp [chkK] at h
      | some y => rfl
    exact ⟨by rw [List.all_cons, h1, hx]; rfl, by simp [h2]⟩
theorem snd_dct {ks : List Key} {keys : List (Option PE')} {vals : List PE'} {es : Es} (hk : chkKs ks keys = true) (h15 : keys.length ≤ 15) (he : vals = [] → es = .nil) (hl : keys.length = vals.length) (hp : SndPP X Φ XR vals es) : SndV X Φ XR (.Dict keys vals pos) (.dct ks es) := fun F W tk => by
  obtain ⟨ha, hlen⟩ := chkKs_all hk
  by_cases h0 : keys = []
  · subst h0
    have hv : vals = [] := List.length_eq_zero_iff.mp (by simpa using hl.symm)
    have hes := he hv
    subst hv hes
    have hks : ks = [] := List.length_eq_zero_iff.mp (by simpa using hlen)
    subst hks
    refine PE_imp pe_dnewK ?_
    rintro σ H Q ⟨ρ, er, h⟩
    simp only [ev, tst_false, evd] at h
    intro p hpn
    rw [if_pos ⟨rfl, List.nodup_nil⟩] at h
    exact Post.newC (o := .dK []) h er hpn ⟨rfl, .nil⟩
  refine PE_imp (pe_disp (hp W ks keys pos tk hk hl) ha hl h0 h15) ?_
  rintro σ H Q ⟨ρ, er, h⟩
  simp only [ev, tst_false] at h
  intro p hpn
  cases ee : evd Φ es ρ with
  | bad => rw [ee] at h; exact False.elim h
  | exc x ρ1 => rw [ee] at h; exact False.elim h
  | ok ds ρ1 =>
    rw [ee] at h
    simp only at h
    split at h
    case isFalse => exact False.elim h
    rename_i hz
    have f := er.fresh hpn
    have h0p := er.h0 hpn
    refine pairs_go (F := F.hide p) hz.1 (er.newH hpn) ee fun H2 vs er2 st2 rs => ?_
    have hv : ks.length = vs.length := hz.1.trans rs.len.symm
    have e2 : H2 p = some (.dK []) := by rw [st2.hidk p (.inr rfl), upd_same]
    refine ⟨e2, ks.zip vs, zip_kv ks vs, by rw [List.length_zip]; omega, ?_⟩
    have em : mergeK [] (ks.zip vs) = ks.zip vs := by
      rw [mergeK_nodup]
      · rfl
      · rw [zip_fst hv]; simpa using hz.2
    rw [em]
    obtain ⟨er3, ev3⟩ := er2.updH (o := .dK (ks.zip vs)) (.inr rfl) h0p
    refine h p _ _ hpn upd_same er3 ⟨?_, fun b hb => ?_, fun b ob eb => ?_⟩ h0p ?_
    · intro b ob eb
      have eb' : vis (F.hide p) σ ρ (upd H p (.dK [])) b = some ob := by rw [vis_hide hpn]; exact eb
      have := st2.same b ob eb'
      rw [← ev3] at this
      exact vis_unhide b ob this
    · obtain ⟨ob, eb⟩ := er.hid b hb
      have hne : b ≠ p := ne_of_none eb hpn
      rw [upd_ne hne, st2.hidk b (.inl hb), upd_ne hne]
    · have hne : b ≠ p := ne_of_none eb hpn
      obtain ⟨o', eo⟩ := st2.dom b ob (by rw [upd_ne hne]; exact eb)
      exact ⟨o', by rw [upd_ne hne]; exact eo⟩
    · show (ks.zip vs).map (·.1) = (ks.zip ds).map (·.1) ∧ Rps X.K _ ((ks.zip vs).map (·.2)) ((ks.zip ds).map (·.2))
      rw [zip_fst hv, zip_fst hz.1, zip_snd hv, zip_snd hz.1, ev3]
      exact ⟨rfl, rs⟩
/-! ### {k: v} -/
theorem toKey_kV {K : PySem.W.Frag} {H : Hp} {v : V} {d : D} {k : Key} (r : Rp K H v d) (e : toKey d = some k) : v = kV k := by
  unfold toKey at e
  split at e
  · cases e; cases r; rfl
  · cases e; cases r; rfl
  · cases e
def tDispB (K : Program) (w : World) (trs : List (TE × TE)) : TE := fun σ H Q => ∀ p, H p = none → tPairs trs σ (upd H p (.dK [])) fun ps H2 => H2 p = some (.dK []) ∧ ∃ b c : Bool, ps = [(V.bl b, V.bl c)] ∧ Q (.ref p) (upd H2 p (DcBO K w p b c))
theorem pe_dispB {X : Cx} {pos : Pos} {keys : List (Option PySem.Expr)} {values : List PySem.Expr} {trs : List (TE × TE)} (h : PPs X pos keys values trs) (hall : keys.all (·.isSome) = true) (hl : keys.length = values.length) (h0 : keys ≠ [])
    (h15 : keys.length ≤ 15) : PE X (.Dict keys values pos) (tDispB X.prog X.w trs) := by
  refine ⟨fun pins s σ H Q I q => ?_⟩
  have hn := I.hok.fresh (Nat.le_refl s.heap.objs.size)
  have I1 := I.laid (a := s.heap.objs.size) (o := .dK []) (h' := s.heap.push { cls := .type "dict", data := .dict #[] }) (t' := s.toks) (fun _ _ q => Heap.get?_push_of_some _ q) (Nat.le_refl _) (dk_empty s.heap I.big)
  refine wpAny_Dict_walk (knd := boolK X.prog X.w) hall hl h0 h15 (thn (h.run pins _ σ _ _ I1 (q _ hn)) fun ws s2 ⟨ps, H2, I2, rel, e, b, c, ep, q2⟩ => ?_)
  subst ep
  obtain ⟨z, hd, vs0, r0, o, es, ep', d1, d2, d3, d4, d5, d6⟩ := dk_of I2.hok e
  cases r0
  have hes : es = #[] := by
    have h5 := d5
    generalize hl5 : es.toList = l5 at h5
    cases l5 with
    | nil => exact Array.toList_eq_nil_iff.mp hl5
    | cons x y => exact absurd h5 (by intro z; cases z)
  subst hes
  refine ⟨_, carries_b rel, ⟨o, #[], ep', d1, d2, d3, fun e he => absurd he (by simp), (by first | exact True.intro | exact .nil | constructor | (unfold Pairs; simp)), List.nodup_nil⟩, fun h' dd' hs => ⟨.ref s.heap.objs.size, _, ?_, rfl, q2⟩⟩
  have he : ∃ q, h'.get? s.heap.objs.size = some q := let ⟨q, _, _, hq, _⟩ := dd'; ⟨q, hq⟩
  exact d_write I2 (by rw [e]; exact True.intro) hs he (dcB_new ⟨hd, dd'⟩)
/-- what the items are, told by M -/
theorem dc1_pairs {W : WX} {F : Fr} {a b : E} {ρ ρe : Env} {σ : L2.St} {H : Hp} {p : Addr} {d1 d2 : M.D} {Q : List (V × V) → Hp → Prop} (hpn : H p = none) (er : EnvR X.K F σ H ρ) (ee : evd Φ (.cons a (.cons b .nil)) ρ = .ok [d1, d2] ρe)
    (q : ∀ v1 v2 H2, EnvR X.K (F.hide p) σ H2 ρe → Stp (F.hide p) σ (upd H p (.dK [])) ρ H2 ρe → Rp X.K (vis (F.hide p) σ ρe H2) v1 d1 → Rp X.K (vis (F.hide p) σ ρe H2) v2 d2 → H2 p = some (.dK []) → Q [(v1, v2)] H2) :
    tPairs [(teX Φ X.K XR W a, teX Φ X.K XR W b)] σ (upd H p (.dK [])) Q := by
  simp only [evd] at ee
  obtain ⟨r1, ρa, e1, ee⟩ := bind_ok_inv ee
  obtain ⟨d1', ρb, e2, ee⟩ := bind_ok_inv ee
  obtain ⟨ds1, ρe', e9, ee⟩ := bind_ok_inv ee
  obtain ⟨r2, ρc, e3, e9⟩ := bind_ok_inv e9
  obtain ⟨d2', ρd, e4, e9⟩ := bind_ok_inv e9
  obtain ⟨ds2, ρf, e8, e9⟩ := bind_ok_inv e9
  cases e8
  cases e9
  cases ee
  have er0 := er.newH (o := .dK []) hpn
  show teX Φ X.K XR W a σ (upd H p (.dK [])) _
  refine ⟨F.hide p, ρ, er0, Post.read er0 ?_⟩
  rw [e1]
  intro H1 er1 st1 v1 rv1
  obtain ⟨er2, st2, rp1⟩ := frz_ok er1 rv1 e2
  refine ⟨F.hide p, ρb, er2, Post.read er2 ?_⟩
  rw [e3]
  intro H2 er3 st3 v2 rv2
  obtain ⟨er4, st4, rp2⟩ := frz_ok er3 rv2 e4
  have sa := (st1.trans st2).trans (st3.trans st4)
  have e5 : H2 p = some (.dK []) := by rw [sa.hidk p (.inr rfl), upd_same]
  exact q v1 v2 H2 er4 sa (rp1.mono (st3.trans st4).same) rp2 e5
/-- laid at last: the step from the start -/
theorem Stp.laid {F : Fr} {σ : L2.St} {H H2 : Hp} {ρ ρe : Env} {p : Addr} {o : HO} (er : EnvR X.K F σ H ρ) (hpn : H p = none) (sa : Stp (F.hide p) σ (upd H p (.dK [])) ρ H2 ρe) (ev5 : vis (F.hide p) σ ρe (upd H2 p o) = vis (F.hide p) σ ρe H2) : Stp F σ H ρ (upd H2 p o) ρe := by
  refine ⟨fun b ob eb => ?_, fun b hb => ?_, fun b ob eb => ?_⟩
  · have eb' : vis (F.hide p) σ ρ (upd H p (.dK [])) b = some ob := by rw [vis_hide hpn]; exact eb
    have := sa.same b ob eb'
    rw [← ev5] at this
    exact vis_unhide b ob this
  · obtain ⟨ob, eb⟩ := er.hid b hb
    have hne : b ≠ p := ne_of_none eb hpn
    rw [upd_ne hne, sa.hidk b (.inl hb), upd_ne hne]
  · have hne : b ≠ p := ne_of_none eb hpn
    obtain ⟨o', eo⟩ := sa.dom b ob (by rw [upd_ne hne]; exact eb)
    exact ⟨o', by rw [upd_ne hne]; exact eo⟩
theorem snd_dc1 {es : Es} (hp : ∃ a b, es = .cons a (.cons b .nil) ∧ SndV X Φ XR a' a ∧ SndV X Φ XR b' b) : SndV X Φ XR (.Dict [some a'] [b'] pos) (.dc1 es) := fun F W tk => by
  obtain ⟨a, b, rfl, ha, hb⟩ := hp
  have pps := pps_cons (X := X) (pos := pos) (pe_teX ha tk) (pe_teX hb tk) pps_nil
  refine ⟨fun pins s σ H Q I h => ?_⟩
  obtain ⟨ρ, er, h⟩ := h
  simp only [ev, tst_false] at h
  cases ee : evd Φ (.cons a (.cons b .nil)) ρ with
  | bad => rw [ee] at h; exact False.elim h
  | exc x ρ1 => rw [ee] at h; exact False.elim h
  | ok ds ρ1 =>
    rw [ee] at h
    have hds : ∃ d1 d2, ds = [d1, d2] := by
      have ee2 := ee
      simp only [evd] at ee2
      obtain ⟨r1, ρa, e1, ee2⟩ := bind_ok_inv ee2
      obtain ⟨d1', ρb, e2, ee2⟩ := bind_ok_inv ee2
      obtain ⟨ds1, ρe', e9, ee2⟩ := bind_ok_inv ee2
      obtain ⟨r2, ρc, e3, e9⟩ := bind_ok_inv e9
      obtain ⟨d2', ρd, e4, e9⟩ := bind_ok_inv e9
      obtain ⟨ds2, ρf, e8, e9⟩ := bind_ok_inv e9
      cases e8
      cases e9
      cases ee2
      exact ⟨_, _, rfl⟩
    obtain ⟨d1, d2, rfl⟩ := hds
    simp only [dcN] at h
    cases hk : toKey d1 with
    | some k =>
      simp only [hk, R.of_some] at h
      refine (pe_disp pps rfl rfl (by simp) (by simp)).run pins s σ H Q I (fun p hpn => ?_)
      have h0p := er.h0 hpn
      refine dc1_pairs hpn er ee fun v1 v2 H2 er4 sa rp1 rp2 e5 => ?_
      have hv1 := toKey_kV rp1 hk
      subst hv1
      refine ⟨e5, [(k, v2)], rfl, by simp, ?_⟩
      have em : mergeK [] [(k, v2)] = [(k, v2)] := mergeK_nodup (by simp)
      rw [em]
      obtain ⟨er5, ev5⟩ := er4.updH (o := .dK [(k, v2)]) (.inr rfl) h0p
      refine h p _ _ hpn upd_same er5 (Stp.laid er hpn sa ev5) h0p ?_
      show [k] = [k] ∧ Rps X.K _ [v2] [d2]
      rw [ev5]
      exact ⟨rfl, .cons rp2 .nil⟩
    | none =>
      simp only [hk] at h
      obtain ⟨b, c, rfl, rfl, h⟩ : ∃ b c, d1 = .bool b ∧ d2 = .bool c ∧ Post X.K F XR W σ H ρ (R.ok (.v (.dict [(.bool b, .bool c)])) ρ1) Q := by
        cases d1 <;> cases d2 <;> first | exact False.elim h | exact ⟨_, _, rfl, rfl, h⟩
      refine (pe_dispB pps rfl rfl (by simp) (by simp)).run pins s σ H Q I (fun p hpn => ?_)
      have h0p := er.h0 hpn
      refine dc1_pairs hpn er ee fun v1 v2 H2 er4 sa rp1 rp2 e5 => ?_
      cases rp1
      cases rp2
      refine ⟨e5, b, c, rfl, ?_⟩
      obtain ⟨er5, ev5⟩ := er4.updH (o := DcBO X.prog X.w p b c) (.inr rfl) h0p
      have er6 := er5.unhide
      have f := er4.hidden
      refine h (.ref p) _ er6 (Stp.laid er hpn sa ev5) (.dcb (φ := fun h => DcB X.prog X.w h p b c) ?_ fun h hb => ⟨_, _, hb⟩)
      rw [vis_of (fun z => (er.fresh hpn).1 z) f, upd_same]
      rfl
/-! ### {..}.get(k, d) -/
theorem Post.bindPE {F : Fr} {W : WX} {σ : L2.St} {H : Hp} {ρ : Env} {m : R RV} {f : D → Env → R RV} {Q : VK} {G : VK} (er0 : EnvR X.K F σ H ρ) (h : Post X.K F XR W σ H ρ (m.bind fun r ρ => (frz ρ r).bind fun d ρ => f d ρ) Q)
    (k : ∀ d ρ' v H', EnvR X.K F σ H' ρ' → Stp F σ H ρ H' ρ' → Rp X.K (vis F σ ρ' H') v d → Post X.K F XR W σ H' ρ' (f d ρ') Q → G v H') : Post X.K F XR W σ H ρ m G := by
  refine Post.bind er0 h fun ra ρ1 v1 H1 e1 er1 st1 r1 h1 => ?_
  cases ef : frz ρ1 ra with
  | bad => rw [ef] at h1; exact False.elim h1
  | exc z ρ' => exact (frz_noexc ef).elim
  | ok d ρ2 =>
    rw [ef] at h1
    simp only [R.bind_ok] at h1
    obtain ⟨er2, st2, rp2⟩ := frz_ok er1 r1 ef
    exact k d ρ2 v1 H1 er2 (st1.trans st2) rp2 (Post.shift h1 st2)
theorem find_rel {K : PySem.W.Frag} {H : Hp} {k : Key} {z : V} {dz : D} (rz : Rp K H z dz) : ∀ {kvs : List (Key × V)} {ps : List (Key × D)}, kvs.map (·.1) = ps.map (·.1) → Rps K H (kvs.map (·.2)) (ps.map (·.2)) → Rp K H ((valV kvs k).getD z) (((ps.find? fun p => decide (p.1 = k)).map (·.2)).getD dz)
  | [], [], _, _ => rz
  | [], _ :: _, h, _ => by cases h
  | _ :: _, [], h, _ => by cases h
  | (k1, v1) :: kvs, (k2, d2) :: ps, h, hr => by
    simp only [List.map_cons, List.cons.injEq] at h
    obtain ⟨h1, h2⟩ := h
    subst h1
    cases hr with
    | cons r1 r2 =>
      by_cases e : k1 = k
      · rw [valV_pos (by exact e), List.find?_cons_of_pos (by simpa using e)]
        exact r1
      · rw [valV_neg (by exact e), List.find?_cons_of_neg (by simpa using e)]
        exact find_rel rz h2 r2
theorem keyD_inj {a b : Key} (h : keyD a = keyD b) : a = b := by
  cases a <;> cases b <;> cases h <;> rfl
theorem zip_keys : ∀ {kvs : List (Key × D)} {ks : List Key} {ds : List D}, ks.length = ds.length → (kvs.map fun p => (keyD p.1, p.2)) = (ks.map keyD).zip ds → kvs.map (·.1) = ks ∧ kvs.map (·.2) = ds
  | [], [], [], _, _ => ⟨rfl, rfl⟩
  | [], k :: ks, d :: ds, _, h => by cases h
  | _, [], _ :: _, h, _ => by cases h
  | _, _ :: _, [], h, _ => by cases h
  | p :: kvs, [], [], _, h => by cases h
  | p :: kvs, k :: ks, d :: ds, l, h => by
    simp only [List.map_cons, List.zip_cons_cons, List.cons.injEq, Prod.mk.injEq] at h
    obtain ⟨⟨h1, h2⟩, h3⟩ := h
    obtain ⟨g1, g2⟩ := zip_keys (by simpa using l) h3
    rw [List.map_cons, List.map_cons, g1, g2, keyD_inj h1, h2]
    exact ⟨rfl, rfl⟩
theorem Rp.dictC {K : PySem.W.Frag} {H : Hp} {v : V} {kvs : List (Key × D)} (r : Rp K H v (Cell.d kvs).toD) : ∃ a kv, v = .ref a ∧ H a = some (.dK kv) ∧ kv.map (·.1) = kvs.map (·.1) ∧ Rps K H (kv.map (·.2)) (kvs.map (·.2)) := by
  generalize e : (Cell.d kvs).toD = dd at r
  cases r with
  | dct h1 h2 h3 =>
    rename_i a ks xs ds
    have e : PyData.dict (kvs.map fun p => (keyD p.1, p.2)) = .dict ((ks.map keyD).zip ds) := e
    injection e with e
    obtain ⟨g1, g2⟩ := zip_keys (h2.trans h3.len) e
    obtain ⟨z1, z2⟩ := zip_two h2
    exact ⟨a, _, rfl, h1, by rw [z1, g1], by rw [z2, g2]; exact h3⟩
  | dcb h1 h2 =>
    exfalso
    have e : PyData.dict (kvs.map fun p => (keyD p.1, p.2)) = _ := e
    injection e with e
    cases kvs with
    | nil => cases e
    | cons p r =>
      simp only [List.map_cons, List.cons.injEq, Prod.mk.injEq] at e
      obtain ⟨⟨e1, _⟩, _⟩ := e
      obtain ⟨k, _⟩ := p
      cases k <;> cases e1
  | non => cases e
  | bl _ => cases e
  | int _ => cases e
  | str _ => cases e
  | lst _ _ => cases e
  | tup _ _ => cases e
theorem snd_dget {ks : List (Option PE')} {vs : List PE'} {dp ap : Pos} {k' d' : PE'} {k d : E} (hu : X.A.units + 1 < cLine) (hl : (ap.endLine == pos.line) = true) (sk : notStar k' = true) (sd : notStar d' = true) (ha : SndV X Φ XR (.Dict ks vs dp) a) (hk : SndV X Φ XR k' k) (hd : SndV X Φ XR d' d) :
    SndV X Φ XR (.Call (.Attribute (.Dict ks vs dp) "get" ap) [k', d'] [] pos) (.dget a k d) := fun F W tk => by
  have es : starEach [k', d'] X.env = [(false, eval k' X.env), (false, eval d' X.env)] := by rw [star_ok sk, star_ok sd]; rfl
  have tr : backTo pos (starEach [k', d'] X.env) = [(false, eval k' X.env), (false, eval d' X.env)] := by rw [es]; rfl
  have m : M2 X (.Dict ks vs dp) "get" ap k' d' pos := ⟨rfl, by rw [tr]; rfl, hl, tr⟩
  refine PE_imp (pe_dget2 hu (ha F W tk) (hk F W tk) (hd F W tk) m) ?_
  rintro σ H Q ⟨ρ, er, h⟩
  simp only [ev, tst_false] at h
  refine ⟨ρ, er, Post.bind er h fun ra ρ1 v1 H1 e1 er1 st1 r1 h1 => ?_⟩
  cases ra with
  | v d => exact False.elim h1
  | slot i => exact False.elim h1
  | fresh c =>
    cases c with
    | l xs => exact False.elim h1
    | d kvs =>
      simp only at h1
      have r1 : Rp X.K (vis F σ ρ1 H1) v1 (Cell.d kvs).toD := r1
      obtain ⟨p, kv, rfl, hp, hkk, hrr⟩ := r1.dictC
      refine ⟨p, rfl, .inl ⟨kv, .inl (vis_le _ _ hp)⟩, ρ1, er1, ?_⟩
      refine Post.bindPE er1 h1 fun y ρ2 v2 H2 er2 st2 rp2 h2 => ?_
      refine ⟨ρ2, er2, Post.bindPE er2 h2 fun z ρ3 v3 H3 er3 st3 rp3 h3 => ?_⟩
      have hp3 := st3.same _ _ (st2.same _ _ hp)
      have hr3 := (hrr.mono st2.same).mono st3.same
      have rp2' := rp2.mono st3.same
      unfold getD at h3
      cases hk : toKey y with
      | none => rw [hk] at h3; exact False.elim h3
      | some key =>
        rw [hk] at h3
        have hv := toKey_kV rp2' hk
        subst hv
        exact ⟨_, DGet.k (vis_le _ _ hp3), Post.val h3 er3 (find_rel rp3 hkk hr3)⟩
/-! ### [..] * n -/
theorem Rps.rep {K : PySem.W.Frag} {H : Hp} {vs : List V} {ds : List D} (r : Rps K H vs ds) : ∀ n : Nat, Rps K H (List.replicate n vs).flatten (List.replicate n ds).flatten
  | 0 => .nil
  | n + 1 => by
    rw [List.replicate_succ, List.replicate_succ, List.flatten_cons, List.flatten_cons]
    exact r.app (Rps.rep r n)
theorem snd_rep {es' : List PE'} {es : Es} (h : SndD X Φ XR es' es) (hb : SndV X Φ XR b' b) : SndV X Φ XR (.BinOp (.List es' lp) .Mult b' pos) (.rep es b) := fun F W tk => by
  refine PE_imp (pe_op op_rep (pe_lst (h F W tk)) (hb F W tk)) ?_
  rintro σ H Q ⟨ρ, er, h⟩
  simp only [ev, tst_false] at h
  refine ⟨ρ, er, PostG.bind h fun ds ρ1 H1 e1 er1 st1 h1 => ?_⟩
  intro vs rv
  by_cases z : ds.length ≤ sizeLine
  case neg => rw [if_neg z] at h1; exact False.elim h1
  rw [if_pos z] at h1
  refine ⟨by rw [rv.len]; exact z, fun p hp => ?_⟩
  refine ⟨ρ1, er1.newV hp, Post.bind (er1.newV hp) (Post.shift h1 (Stp.new er1 hp)) fun rb ρ2 v2 H2 e2 er2 st2 r2 h2 => ?_⟩
  split at h2
  case h_2 => exact False.elim h2
  rename_i k
  split at h2
  case isFalse => exact False.elim h2
  rename_i hz
  have r2 : Rp X.K _ v2 (.int k) := r2
  cases r2
  have e3 : H2 p = some (.lst vs) := vis_le _ _ (st2.same p _ (er1.newAt hp))
  refine ⟨p, k, vs, rfl, rfl, e3, by omega, by omega, by rw [rv.len]; exact hz.2, fun q hq => ?_⟩
  exact Post.newC (o := .lst (List.replicate k.toNat vs).flatten) h2 er2 hq ((rv.mono ((vis_new hp).trans st2.same)).rep _)
end
end M

set_option Elab.async false
set_option linter.all false
set_option maxRecDepth 100000
set_option maxHeartbeats 4000000
/-! M: comprehensions -/
namespace M
open PySem PySem.Spec PyProof.Rows L2
abbrev noW : WX := fun _ _ _ _ => False
theorem takes_no {X : Cx} : Takes X noW := by
  intro u s' h
  obtain ⟨a, B, sI, pins, σ, H, cls, d, e, I, nb, up, sky, na, os, ag, w⟩ := h
  exact w.elim
theorem compGo_noexc {tg : Tg} {cnd el : Env → R RV} {x : Exc} {ρ' : Env} : ∀ {xs : List D} {ρ : Env} {acc : List D}, compGo tg cnd el xs ρ acc ≠ .exc x ρ'
  | [], ρ, acc => by intro h; cases h
  | y :: xs, ρ, acc => by
    intro h
    unfold compGo at h
    split at h
    · split at h
      · split at h
        · split at h
          · split at h
            · exact compGo_noexc h
            · cases h
          · cases h
        · cases h
      · exact compGo_noexc h
      · cases h
    · cases h
section
variable {X : Cx} {Φ : Phi} {XR : XRel} {t' it' e' : PE'} {e cnd : E} {s : Src} {tg : Tg} {pos : Pos}
/-- where a comprehension stands -/
structure CompI (K : PySem.W.Frag) (F : Fr) (D : Addr) (is : List Nat) (σ : L2.St) (ρ1 : Env) (H1 : Hp) (H' : Hp) (ρ2 : Env) (acc : List M.D) (vacc : List V) : Prop where
  er : EnvR K (F.hide D) (wipe σ is) H' ρ2
  un : ∀ i ∈ is, Slot.free ρ2[i]? = true
  same : Same (vis F σ ρ1 H1) (vis (F.hide D) (wipe σ is) ρ2 H')
  hidk : ∀ b, F.h b → H' b = H1 b
  dom : ∀ b o, H1 b = some o → ∃ o', H' b = some o'
  hD : H' D = some (.lst vacc)
  rs : Rps K (vis (F.hide D) (wipe σ is) ρ2 H') vacc acc
abbrev ttC (Φ : Phi) (K : PySem.W.Frag) (XR : XRel) (cnd : E) : TT := fun σ H Q => ∃ F', rdT Φ K F' XR noW cnd σ H Q
abbrev teC (Φ : Phi) (K : PySem.W.Frag) (XR : XRel) (e : E) : TE := fun σ H Q => ∃ F', rdE Φ K F' XR noW e σ H Q
theorem comp_imp {F : Fr} {W : WX} : ∀ σ H Q, rdE Φ X.K F XR W (.comp e tg s cnd) σ H Q → tLc (rdI Φ X.K F XR W s) (gTg X.K tg) (ttC Φ X.K XR cnd) (teC Φ X.K XR e) tg.is σ H Q := by
  rintro σ H Q ⟨ρ, er, h⟩
  simp only [ev, tst_false] at h
  refine ⟨ρ, er, PostG.bind h fun xs ρ1 H1 e1 er1 st1 h1 => ?_⟩
  intro J hJ D hD
  by_cases tf : tgFree ρ1 tg = true
  case neg => rw [if_neg tf] at h1; exact False.elim h1
  rw [if_pos tf] at h1
  cases eg : compGo tg (fun ρ => ev Φ true cnd ρ) (fun ρ => ev Φ false e ρ) xs (wipeE ρ1 tg.is) [] with
  | bad => rw [eg] at h1; exact False.elim h1
  | exc x ρ' => exact (compGo_noexc eg).elim
  | ok ds ρ' =>
  rw [eg] at h1
  simp only [R.bind_ok] at h1
  have h0 : F.H0 D = none := er1.h0 hD
  have fr := er1.fresh hD
  have len1 : ∀ {ρ2 : Env} {H' : Hp}, EnvR X.K (F.hide D) (wipe σ tg.is) H' ρ2 → ρ2.length = ρ1.length := fun {ρ2 H'} er2 => by
    have := er2.len
    rw [wipe_length] at this
    rw [← this, er1.len]
  let Iv : Nat → Hp → Prop := fun i H' => i ≤ xs.length ∧ ∃ ρ2 acc vacc, CompI X.K F D tg.is σ ρ1 H1 H' ρ2 acc vacc ∧ compGo tg (fun ρ => ev Φ true cnd ρ) (fun ρ => ev Φ false e ρ) (xs.drop i) ρ2 acc = .ok ds ρ'
  refine ⟨fun i m H' => m = xs.length - i ∧ Iv i H', ⟨xs.length, rfl, Nat.zero_le _, wipeE ρ1 tg.is, [], [], ?_, eg⟩, ?_⟩
  · have w := (er1.newH (o := .lst []) hD).wiped tg.is
    have hv : vis (F.hide D) σ ρ1 (upd H1 D (.lst [])) = vis F σ ρ1 H1 := vis_hide hD
    refine ⟨w.1, fun i hi => ?_, hv ▸ w.2, fun b hb => ?_, fun b o e => ?_, upd_same, .nil⟩
    · have := tgFree_at tf hi
      rw [wipeE_get, if_pos hi]
      cases e : ρ1[i]? with
      | none => rw [e] at this; cases this
      | some s => rw [if_pos (List.getElem?_eq_some_iff.mp e).1]; rfl
    · have : b ≠ D := fun z => fr.1 (z ▸ hb)
      rw [upd_ne this]
    · exact ⟨o, by rw [upd_ne (ne_of_none e hD)]; exact e⟩
  · rintro i m H' ⟨rfl, hle, ρ2, acc, vacc, C, go⟩
    have sJ : Same (vis F σ ρ1 H1) H' := C.same.trans vis_le
    by_cases hi : i < xs.length
    case neg =>
      have hi : i = xs.length := by omega
      subst hi
      refine .inl ⟨hJ.stop _ _ sJ rfl, ?_⟩
      rw [List.drop_length] at go
      unfold compGo at go
      cases go
      have ln := len1 C.er
      obtain ⟨g1, g2⟩ := C.er.chg (σ' := σ) (ρ' := backE ρ1 ρ' tg.is) (by rw [backE_length, ln]; exact er1.len) (fun i d e => by
        rw [backE_get ln] at e
        by_cases hm : i ∈ tg.is
        · rw [if_pos hm] at e
          obtain ⟨v, a1, a2⟩ := er1.val i d e
          exact ⟨v, a1, a2.mono C.same⟩
        · rw [if_neg hm] at e
          obtain ⟨v, a1, a2⟩ := C.er.val i d e
          rw [wipe_get, if_neg hm] at a1
          exact ⟨v, a1, a2⟩) (fun i t lk c e => by
        rw [backE_get ln] at e
        by_cases hm : i ∈ tg.is
        · rw [if_pos hm] at e
          have := tgFree_at tf hm
          rw [e] at this; cases this
        · rw [if_neg hm] at e
          refine ⟨e, ?_⟩
          rw [wipe_get, if_neg hm])
      exact h1 D (.lst vacc) H' hD C.hD g1 ⟨(C.same.trans g2).trans vis_unhide, C.hidk, C.dom⟩ h0 (show Rps X.K _ vacc _ from C.rs.mono g2)
    case pos =>
      have hx : xs[i]? = some xs[i] := List.getElem?_eq_getElem hi
      refine .inr ⟨hJ.go _ _ sJ hi, Iv (i + 1), fun H2 hv => ⟨xs.length - (i + 1), by omega, rfl, hv⟩, ?_⟩
      intro x H2 hy
      rw [List.drop_eq_getElem_cons hi] at go
      unfold compGo at go
      cases ep : putTg ρ2 tg xs[i] with
      | none => rw [ep] at go; cases go
      | some ρ3 =>
      rw [ep] at go
      simp only at go
      -- the item, its heap
      have key : ∃ (er2 : EnvR X.K (F.hide D) (wipe σ tg.is) H2 ρ2), Same (vis (F.hide D) (wipe σ tg.is) ρ2 H') (vis (F.hide D) (wipe σ tg.is) ρ2 H2) ∧ Rp X.K (vis (F.hide D) (wipe σ tg.is) ρ2 H2) x xs[i] ∧ (∀ b o, H' b = some o → H2 b = some o) := by
        rcases hJ.yld i H' x H2 _ sJ hx hy with ⟨rfl, r⟩ | ⟨p, vs, dd, hp, rfl, rfl, ed, r⟩
        · exact ⟨C.er, fun _ _ z => z, r.mono C.same, fun _ _ z => z⟩
        · have er2 := C.er.newV (o := .tup vs) hp
          have le := vis_new (F := F.hide D) (σ := wipe σ tg.is) (ρ := ρ2) (o := .tup vs) hp
          refine ⟨er2, le, ?_, fun b o z => by rw [upd_ne (ne_of_none z hp)]; exact z⟩
          rw [ed]
          exact .tup (.inl (.inl (C.er.newAt hp))) ((r.mono C.same).mono le)
      obtain ⟨er2, le2, rx, kp2⟩ := key
      have hD2 : H2 D = some (.lst vacc) := kp2 _ _ C.hD
      have tf2 : tgFree ρ2 tg = true := List.all_eq_true.mpr fun j hj => C.un j hj
      refine gTg_ok er2 tf2 rx ep fun σ3 er3 le3 w3 => ?_
      rw [wipe_wipe] at w3
      refine ⟨w3, ?_⟩
      -- the test
      refine ⟨F.hide D, ρ3, er3, ?_⟩
      -- a turn's end
      have fin : ∀ {ρ4 : Env} {H3 : Hp} {acc2 : List M.D} {vacc2 : List V}, EnvR X.K (F.hide D) σ3 H3 ρ4 → Same (vis (F.hide D) σ3 ρ3 H2) (vis (F.hide D) σ3 ρ4 H3) → (∀ b, F.h b → H3 b = H2 b) → (∀ b o, H2 b = some o → ∃ o', H3 b = some o') → H3 D = some (.lst vacc2) →
          Rps X.K (vis (F.hide D) σ3 ρ4 H3) vacc2 acc2 → compGo tg (fun ρ => ev Φ true cnd ρ) (fun ρ => ev Φ false e ρ) (xs.drop (i + 1)) (wipeE ρ4 tg.is) acc2 = .ok ds ρ' → Iv (i + 1) H3 := by
        intro ρ4 H3 acc2 vacc2 er4 sm4 hk4 dm4 hD4 rs4 go4
        obtain ⟨w1, w2⟩ := er4.wiped tg.is
        rw [w3] at w1 w2
        have ln4 : ρ4.length = ρ1.length := by rw [← len1 w1, wipeE_length]
        refine ⟨hi, wipeE ρ4 tg.is, acc2, vacc2, ⟨w1, fun j hj => ?_, (((C.same.trans le2).trans le3).trans sm4).trans w2, fun b hb => ?_, fun b o z => ?_, hD4, rs4.mono w2⟩, go4⟩
        · rw [wipeE_get, if_pos hj]
          have := tgFree_at tf hj
          cases e : ρ1[j]? with
          | none => rw [e] at this; cases this
          | some s => rw [if_pos (by rw [ln4]; exact (List.getElem?_eq_some_iff.mp e).1)]; rfl
        · have q := C.hidk b hb
          rw [hk4 b hb, ← q]
          obtain ⟨o, z⟩ := C.er.hid b (.inl hb)
          rw [z]
          exact kp2 b o z
        · obtain ⟨o', z⟩ := C.dom b o z
          exact dm4 b o' (kp2 b o' z)
      show PostT X.K (F.hide D) XR noW σ3 H2 ρ3 (ev Φ true cnd ρ3) _
      unfold PostT
      cases ec : ev Φ true cnd ρ3 with
      | bad => rw [ec] at go; cases go
      | exc x ρ4 => rw [ec] at go; cases go
      | ok rv ρ4 =>
      rw [ec] at go
      try simp only at go
      intro H3 er4 st4
      have hD3 : H3 D = some (.lst vacc) := by rw [st4.hidk D (.inr rfl)]; exact hD2
      cases rv with
      | fresh c => cases go
      | slot j => cases go
      | v d =>
      cases d with
      | bool k =>
        refine ⟨k, rfl, ?_⟩
        cases k with
        | false =>
          simp only at go
          rw [if_neg Bool.false_ne_true]
          exact fin er4 st4.same (fun b hb => st4.hidk b (.inl hb)) st4.dom hD3 (((C.rs.mono le2).mono le3).mono st4.same) go
        | true =>
          simp only at go
          rw [if_pos rfl]
          refine ⟨F.hide D, ρ4, er4, Post.read er4 ?_⟩
          cases ee : ev Φ false e ρ4 with
          | bad => rw [ee] at go; cases go
          | exc x ρ5 => rw [ee] at go; cases go
          | ok rv ρ5 =>
          rw [ee] at go
          simp only at go
          intro H4 er5 st5 v rv5
          cases ef : frz ρ5 rv with
          | bad => rw [ef] at go; cases go
          | exc x ρ6 => exact (frz_noexc ef).elim
          | ok d ρ6 =>
          rw [ef] at go
          simp only at go
          obtain ⟨er6, st6, rp6⟩ := frz_ok er5 rv5 ef
          by_cases hz : acc.length < sizeLine
          case neg => rw [if_neg hz] at go; cases go
          rw [if_pos hz] at go
          have hD4 : H4 D = some (.lst vacc) := by rw [st5.hidk D (.inr rfl)]; exact hD3
          have st46 := (st4.trans st5).trans st6
          refine ⟨vacc, hD4, by rw [C.rs.len]; exact hz, ?_⟩
          obtain ⟨u1, u2⟩ := er6.updH (p := D) (o := .lst (vacc ++ [v])) (.inr rfl) h0
          refine fin u1 (by rw [u2]; exact st46.same) (fun b hb => ?_) (fun b o z => ?_) upd_same (by rw [u2]; exact ((((C.rs.mono le2).mono le3).mono st46.same)).app (.cons rp6 .nil)) go
          · have : b ≠ D := fun z => fr.1 (z ▸ hb)
            rw [upd_ne this]
            exact st46.hidk b (.inl hb)
          · by_cases y : b = D
            · exact ⟨_, by rw [y, upd_same]⟩
            · obtain ⟨o', z'⟩ := st46.dom b o z
              exact ⟨o', by rw [upd_ne y]; exact z'⟩
      | _ => cases go
theorem comp_tt {ifs : List PE'} {Y : Cx} (h : ∀ F, PTs Y ifs (rdT Φ Y.K F XR noW cnd)) : PTs Y ifs (ttC Φ Y.K XR cnd) := ⟨fun pins s1 σ H1 Q I ⟨F', q⟩ => (h F').run pins s1 σ H1 Q I q⟩
theorem comp_te {Y : Cx} (h : SndV Y Φ XR e' e) : PE Y e' (teC Φ Y.K XR e) := ⟨fun pins s1 σ H1 Q I ⟨F', q⟩ => (h F' noW takes_no).run pins s1 σ H1 Q I q⟩
/-- what a comprehension stands on -/
structure CompOk (X : Cx) (Φ : Phi) (XR : XRel) (t' it' e' : PE') (ifs : List PE') (sc' : Scope) (e cnd : E) (s : Src) (tg : Tg) : Prop where
  ex : ∃ own : List (Str × Nat), BlkOk X.N X.env.scope sc' own ∧ own.map (·.2) = tg.is
  hi : SndI X Φ XR t' it' s
  hg : ∀ (s : Shared) (H : Hp) (C : Addr) (cl : List (Str × Addr)) (fp : List Addr), PG (X.blk s H sc' (compEnvC sc' cl C X.env) fp) t' (gTg X.K tg)
  ht : ∀ (s : Shared) (H : Hp) (C : Addr) (cl : List (Str × Addr)) (fp : List Addr) (F : Fr), PTs (X.blk s H sc' (compEnvC sc' cl C X.env) fp) ifs (rdT Φ X.K F XR noW cnd)
  he : ∀ (s : Shared) (H : Hp) (C : Addr) (cl : List (Str × Addr)) (fp : List Addr), SndV (X.blk s H sc' (compEnvC sc' cl C X.env) fp) Φ XR e' e
  hs : ∀ x, foldedSetIterable it' X.env x = pure x
theorem snd_comp {ifs : List PE'} {sc' : Scope} (hc : X.calm = true) (hN : X.N.Nodup) (c : CompOk X Φ XR t' it' e' ifs sc' e cnd s tg) : SndV X Φ XR (.ListComp e' [⟨t', it', ifs, 0⟩] sc' pos) (.comp e tg s cnd) := fun F W tk => by
  obtain ⟨own, ok, hown⟩ := c.ex
  have h := pe_lc (pos := pos) (elt := e') (tt := ttC Φ X.K XR cnd) (te := teC Φ X.K XR e) hc hN (c.hi F W tk) ok c.hg (fun s1 H1 a cl fp => comp_tt (c.ht s1 H1 a cl fp)) (fun s1 H1 a cl fp => comp_te (c.he s1 H1 a cl fp)) c.hs
  rw [hown] at h
  exact PE_imp h comp_imp
theorem sndS_comp {ifs : List PE'} {sc' : Scope} {i : Nat} {y : Str} {py spos : Pos} (hc : X.calm = true) (hN : X.N.Nodup) (c : CompOk X Φ XR t' it' e' ifs sc' e cnd s tg) (hy : X.N[i]? = some y) (hyl : X.env.scope.names.lookup y = some .local)
    (hsw : swapsWith (.ListComp e' [⟨t', it', ifs, 0⟩] sc' pos) (some (.Name y py)) spos.line X.env = pure true) (F : Fr) (W : WX) (tk : Takes X W) :
    PS X (.Assign [.Name y py] (.ListComp e' [⟨t', it', ifs, 0⟩] sc' pos) spos) (tAsg (rdE Φ X.K F XR W (.comp e tg s cnd)) (gName i)) := by
  obtain ⟨own, ok, hown⟩ := c.ex
  have h := ps_setLc (pos := pos) (spos := spos) (elt := e') (tt := ttC Φ X.K XR cnd) (te := teC Φ X.K XR e) hc hN hy hyl hsw (c.hi F W tk) ok c.hg (fun s1 H1 a cl fp => comp_tt (c.ht s1 H1 a cl fp)) (fun s1 H1 a cl fp => comp_te (c.he s1 H1 a cl fp)) c.hs
  rw [hown] at h
  exact PS_imp h fun D σ H q => comp_imp σ H _ q
end
end M

set_option Elab.async false
set_option linter.all false
set_option maxRecDepth 100000
set_option maxHeartbeats 8000000
/-! M: what is checked is meant -/
namespace M
open PySem PySem.Spec PyProof.Rows L2
theorem relS_free {sc : Scope} : ∀ {names : List (Str × NameKind)} {x : Str}, names.lookup x = some .free →
    (names.map fun (n, k) => if (k == NameKind.free && sc.kind == .function && sc.names.lookup n == some .cell) then (n, NameKind.cell) else (n, k)).lookup x = some .free ∨
    (names.map fun (n, k) => if (k == NameKind.free && sc.kind == .function && sc.names.lookup n == some .cell) then (n, NameKind.cell) else (n, k)).lookup x = some .cell
  | [], _, h => by simp at h
  | (n, k₀) :: r, x, h => by
    have ih := @relS_free sc r x
    show List.lookup x ((if (k₀ == NameKind.free && sc.kind == .function && sc.names.lookup n == some .cell) = true then (n, NameKind.cell) else (n, k₀)) :: (r.map _)) = some .free ∨ List.lookup x ((if (k₀ == NameKind.free && sc.kind == .function && sc.names.lookup n == some .cell) = true then (n, NameKind.cell) else (n, k₀)) :: (r.map _)) = some .cell
    cases hx : x == n with
    | true =>
      simp only [List.lookup_cons, hx] at h
      cases h
      split
      · right; simp only [List.lookup_cons, hx]
      · left; simp only [List.lookup_cons, hx]
    | false =>
      simp only [List.lookup_cons, hx] at h
      split
      · simp only [List.lookup_cons, hx]; exact ih h
      · simp only [List.lookup_cons, hx]; exact ih h
section
variable {X : Cx} {Φ : Phi} {XR : XRel} {fn : Nat → Option Str} {N : List Str} {cs : List (Str × D)} {sc sc' : Scope}
theorem Ctx.blkOk (C : Ctx X Φ XR fn N cs sc) {own : List (Str × Nat)} (h : blkC N sc sc' own = true) : BlkOk X.N X.env.scope sc' own := by
  have b := blkOk_by h
  refine ⟨b.kind, b.uniq, by rw [C.hN]; exact b.ix, fun y hy e => ?_, by rw [C.hN]; exact b.own⟩
  exact C.cf y.1 (b.free y hy e)
theorem Ctx.blk (C : Ctx X Φ XR fn N cs sc) (hk : sc'.kind = .function) (s : Shared) (H : Hp) (c : Addr) (cl : List (Str × Addr)) (fp : List Addr) : Ctx (X.blk s H sc' (compEnvC sc' cl c X.env) fp) Φ XR fn N cs sc' := by
  have keep : ∀ {x : Str} {k : NameKind}, k ≠ .free → sc'.names.lookup x = some k → (relS sc' X.env.scope).names.lookup x = some k := fun {x k} h e => lookup_relS_keep h e
  refine ⟨C.hN, C.nd, fun x h => ?_, fun x h => ?_, fun x h => ?_, hk, fun x h => keep (by intro z; cases z) h, fun x h => keep (by intro z; cases z) h, fun x h => ?_, C.calm, C.blt, C.guards, C.units, C.fns, C.cst, C.dig⟩
  · unfold nmVis at h
    split at h
    · rename_i e; exact .inl (keep (by intro z; cases z) e)
    · rename_i e; exact .inr (.inl (keep (by intro z; cases z) e))
    · rename_i e
      rcases relS_free (sc := X.env.scope) e with g | g
      · exact .inr (.inr g)
      · exact .inr (.inl g)
    · cases h
  · unfold nmLoc at h
    split at h
    · rename_i e; exact ⟨.inl (keep (by intro z; cases z) e), .inr (keep (by intro z; cases z) e)⟩
    · rename_i e; exact ⟨.inr (keep (by intro z; cases z) e), .inl (by show (sc'.names.lookup x == some NameKind.cell) = true; rw [e]; rfl)⟩
    · cases h
  · unfold nmGl at h
    split at h
    · rename_i e
      exact keep (by intro z; cases z) e
    · cases h
  · rcases h with h | h
    · exact .inl (keep (by intro z; cases z) h)
    · exact (relS_free (sc := X.env.scope) h).symm
theorem Ctx.glb (C : Ctx X Φ XR fn N cs sc) {x : Str} (h : glb sc x = true) : Gl X x ∧ dbg x = true := by
  unfold M.glb at h
  rw [Bool.and_eq_true] at h
  exact ⟨C.gl x h.1, h.2⟩
theorem Ctx.nm (C : Ctx X Φ XR fn N cs sc) {i : Nat} {x : Str} (h : chkN N sc i x = true) : X.N[i]? = some x ∧ Vis X.env.scope x ∧ dbg x = true := by
  unfold chkN at h
  simp only [Bool.and_eq_true, decide_eq_true_eq] at h
  exact ⟨by rw [C.hN]; exact h.1.1, C.vis x h.1.2, h.2⟩
theorem Ctx.t1 (C : Ctx X Φ XR fn N cs sc) {i : Nat} {e : PE'} (h : chkT1 N sc i e = true) : PG X e (gName i) := by
  unfold chkT1 at h
  split at h
  · simp only [Bool.and_eq_true, decide_eq_true_eq] at h
    obtain ⟨l, f⟩ := C.loc _ h.2
    exact pg_name (by rw [C.hN]; exact C.nd) (by rw [C.hN]; exact h.1) l f
  · cases h
theorem assignEach_name {i : Nat} {e : PE'} {es : List PE'} {env : PySem.Env} (h : chkT1 N sc i e = true) : assignEach (e :: es) env = (false, assign e env) :: assignEach es env := by
  unfold chkT1 at h
  split at h
  · rfl
  · cases h
theorem Ctx.ts (C : Ctx X Φ XR fn N cs sc) : ∀ {is : List Nat} {es : List PE'}, chkTs N sc is es = true → PGs X es (gIs is) ∧ (assignEach es X.env).length = is.length ∧ (assignEach es X.env).findIdx? (·.1) = none
  | [], [], h => ⟨pgs_nil, rfl, rfl⟩
  | i :: is, e :: es, h => by
    unfold chkTs at h
    rw [Bool.and_eq_true] at h
    obtain ⟨h1, h2, h3⟩ := C.ts h.2
    have e := assignEach_name (es := es) (env := X.env) h.1
    refine ⟨pgs_cons (C.t1 h.1) h1 (by rw [e]; rfl), by rw [e, List.length_cons, List.length_cons, h2], ?_⟩
    rw [e, List.findIdx?_cons]
    simp [h3]
  | [], _ :: _, h => by cases h
  | _ :: _, [], h => by cases h
theorem Ctx.tg (C : Ctx X Φ XR fn N cs sc) {tg : Tg} {e : PE'} (h : chkTg N sc tg e = true) : PG X e (gTg X.K tg) := by
  unfold chkTg at h
  split at h
  · exact C.t1 h
  · obtain ⟨h1, h2, h3⟩ := C.ts h
    exact pg_tup C.calm h1 h2 h3
  · cases h
theorem chkT1_N {i : Nat} {e : PE'} (h : chkT1 N sc i e = true) : ∃ x, N[i]? = some x := by
  unfold chkT1 at h
  split at h
  · simp only [Bool.and_eq_true, decide_eq_true_eq] at h
    exact ⟨_, h.1⟩
  · cases h
theorem chkTs_N : ∀ {is : List Nat} {es : List PE'}, chkTs N sc is es = true → ∀ i ∈ is, ∃ x, N[i]? = some x
  | [], _, _, i, hi => by cases hi
  | j :: is, [], h, i, hi => by cases h
  | j :: is, e :: es, h, i, hi => by
    unfold chkTs at h
    rw [Bool.and_eq_true] at h
    rcases List.mem_cons.mp hi with rfl | hi
    · exact chkT1_N h.1
    · exact chkTs_N h.2 i hi
theorem chkTg_N {tg : Tg} {e : PE'} (h : chkTg N sc tg e = true) : ∀ i ∈ tg.is, ∃ x, N[i]? = some x := by
  unfold chkTg at h
  split at h
  · intro i hi
    simp only [Tg.is, List.mem_singleton] at hi
    subst hi
    exact chkT1_N h
  · exact chkTs_N h
  · cases h
theorem own_is : ∀ {is : List Nat}, (∀ i ∈ is, ∃ x, N[i]? = some x) → (is.filterMap fun i => (N[i]?).map fun x => (x, i)).map (·.2) = is
  | [], _ => rfl
  | i :: is, h => by
    obtain ⟨x, e⟩ := h i List.mem_cons_self
    rw [List.filterMap_cons, e]
    simp only [Option.map_some, List.map_cons]
    rw [own_is fun j hj => h j (List.mem_cons_of_mem _ hj)]
theorem allStar {es : Es} {es' : List PE'} (h : chkEs fn N cs sc es es' = true) : es'.all notStar = true := by
  induction es' generalizing es with
  | nil => rfl
  | cons e' es' ih =>
    cases es with
    | nil => simp [chkEs] at h
    | cons e es =>
      simp only [chkEs, Bool.and_eq_true] at h
      rw [List.all_cons, h.1.1, ih h.2]; rfl
end
end M

set_option Elab.async false
set_option linter.all false
set_option maxRecDepth 100000
set_option maxHeartbeats 16000000
/-! M: the theorem of expressions -/
namespace M
open PySem PySem.Spec PyProof.Rows L2
structure SndE (X : Cx) (Φ : Phi) (XR : XRel) (e' : PE') (e : E) : Prop where
  v : SndV X Φ XR e' e
  t : notIf e' = true → SndT X Φ XR e' e
  w : (∃ o es p, e' = .BoolOp o es p) → SndW X Φ XR e' e
section
variable {X : Cx} {Φ : Phi} {XR : XRel} {fn : Nat → Option Str} {N : List Str} {cs : List (Str × D)} {sc sc' : Scope} {e' a' b' c' : PE'} {e a b c : E}
theorem sndE_plain (hp : plainT e' = true) (ht : ∀ ρ, ev Φ true e ρ = tst true (ev Φ false e ρ)) (h : SndV X Φ XR e' e) : SndE X Φ XR e' e := by
  refine SndE.mk h (fun _ => sndT_plain hp ht h) fun z => ?_
  obtain ⟨o, es, p, rfl⟩ := z
  cases hp
theorem sndE_if (hp : notIf e' = false) (hb : ∀ o es p, e' ≠ .BoolOp o es p) (h : SndV X Φ XR e' e) : SndE X Φ XR e' e :=
  ⟨h, fun z => absurd z (by rw [hp]; decide), fun z => by obtain ⟨o, es, p, z⟩ := z; exact (hb o es p z).elim⟩
theorem sndE_tst (hb : ∀ o es p, e' ≠ .BoolOp o es p) (h : SndV X Φ XR e' e) (t : SndT X Φ XR e' e) : SndE X Φ XR e' e :=
  ⟨h, fun _ => t, fun z => by obtain ⟨o, es, p, z⟩ := z; exact (hb o es p z).elim⟩
theorem sndE_w (h : SndV X Φ XR e' e) (w : SndW X Φ XR e' e) : SndE X Φ XR e' e :=
  ⟨h, fun _ => fun F W tk => (w F W tk).pt, fun _ => w⟩
theorem cst_of (C : Ctx X Φ XR fn N cs sc) {x : Str} {d : D} (h : (cs.any fun p => decide (p.1 = x) && same p.2 d) = true) : ∃ u v, X.mg x = some u ∧ RelV v u ∧ ∀ H, Rp X.K H v d := by
  rw [List.any_eq_true] at h
  obtain ⟨p, hp, e⟩ := h
  simp only [Bool.and_eq_true, decide_eq_true_eq] at e
  obtain ⟨e1, e2⟩ := e
  have e3 := same_eq e2
  obtain ⟨y, d'⟩ := p
  simp only at e1 e3
  subst e1 e3
  exact C.cst _ _ hp
theorem isi_tst {Φ : Phi} {a : E} {t : Ty} {ρ : Env} : ev Φ true (.isi a [t]) ρ = tst true (ev Φ false (.isi a [t]) ρ) := by
  simp only [ev]
  cases ev Φ false a ρ with
  | bad => rfl
  | exc x ρ => rfl
  | ok r ρ' =>
    simp only [R.bind_ok]
    cases pk ρ' r with
    | none => rfl
    | some x => rfl
theorem nil_of {es : Es} (h : chkEs fn N cs sc es [] = true) : es = .nil := by
  cases es with
  | nil => rfl
  | cons e es => simp [chkEs] at h
theorem snd_methL {m : Mth} {i : Nat} {x : Str} {p ap pos : Pos} {es : Es} {es' : List PE'} (hl : (ap.endLine == pos.line) = true) (hN : X.N[i]? = some x) (hv : Vis X.env.scope x) (hd : dbg x = true) (h4 : es'.length ≤ 1) (hn : es' = [] → es = .nil) (sa : es'.all notStar = true) (ha : SndD X Φ XR es' es) :
    SndV X Φ XR (.Call (.Attribute (.Name x p) (mthName m) ap) es' [] pos) (.meth m i es) := by
  match es', h4, hn, sa, ha with
  | [], _, hn, _, _ =>
    rw [hn rfl]
    exact snd_meth0 hl hN hv hd
  | [a'], _, _, sa, ha => exact snd_meth1 (e := .no) hl hN hv hd (by simpa using sa) ha
  | _ :: _ :: _, h4, _, _, _ => simp at h4
theorem compOk_of {t' it' e' : PE'} {e cnd : E} {s : Src} {tg : Tg} {ifs : List PE'} (C : Ctx X Φ XR fn N cs sc) (h1 : blkC N sc sc' (tg.is.filterMap fun i => (N[i]?).map fun x => (x, i)) = true) (h2 : chkTg N sc' tg t' = true) (hi : SndI X Φ XR t' it' s) (h4 : notSet it' = true)
    (he : ∀ {Y : Cx}, Ctx Y Φ XR fn N cs sc' → SndV Y Φ XR e' e)
    (h6 : (match ifs with
      | [] => (match cnd with | .c (.bool true) => true | _ => false)
      | [c'] => notIf c' && chkE fn N cs sc' cnd c'
      | _ => false) = true) (hcn : ∀ {Y : Cx} {c' : PE'}, Ctx Y Φ XR fn N cs sc' → chkE fn N cs sc' cnd c' = true → SndE Y Φ XR c' cnd) : CompOk X Φ XR t' it' e' ifs sc' e cnd s tg := by
  have hk := (blkOk_by h1).kind
  refine ⟨⟨_, C.blkOk h1, own_is (chkTg_N h2)⟩, hi, fun s1 H1 c cl fp => (C.blk hk s1 H1 c cl fp).tg h2, fun s1 H1 c cl fp F => ?_, fun s1 H1 c cl fp => he (C.blk hk s1 H1 c cl fp), notSet_ok h4⟩
  split at h6
  · split at h6
    · exact ⟨fun pins s2 σ H2 Q I q => pts_nil.run pins s2 σ H2 Q I (by
        obtain ⟨ρ, er, q⟩ := q
        unfold PostT at q
        simp only [ev, tst_bool] at q
        obtain ⟨b, e, q⟩ := q H2 er .refl
        cases e
        exact q)⟩
    · cases h6
  · rw [Bool.and_eq_true] at h6
    exact pts_one ((hcn (C.blk hk s1 H1 c cl fp) h6.2).t h6.1 F noW takes_no)
  · cases h6
theorem fits_le {n m k : Nat} (h : n + 200 < m) (hk : k ≤ 200) : n + k < m := by omega

mutual
theorem sndE : ∀ (e : E) {X : Cx} {sc : Scope} {e' : PE'}, Ctx X Φ XR fn N cs sc → chkE fn N cs sc e e' = true → SndE X Φ XR e' e
  | .c d, X, sc, e', C, h => by
    unfold chkE at h; split at h <;> (try contradiction)
    injections; subst_vars
    exact sndE_plain rfl (fun ρ => by simp only [ev, tst_false]) (snd_const h)
  | .v i, X, sc, e', C, h => by
    unfold chkE at h; split at h <;> (try contradiction)
    injections; subst_vars
    obtain ⟨h1, h2, h3⟩ := C.nm h
    exact sndE_plain rfl (fun ρ => by simp only [ev, tst_false]) (snd_var h1 h2 h3)
  | .g x d, X, sc, e', C, h => by
    unfold chkE at h; split at h <;> (try contradiction)
    injections; subst_vars
    simp only [Bool.and_eq_true, decide_eq_true_eq, Bool.not_eq_true'] at h
    obtain ⟨⟨h1, h2⟩, h3⟩ := h
    subst h1
    obtain ⟨u, v, g1, g2, g3⟩ := cst_of C h3
    obtain ⟨g4, g5⟩ := C.glb h2
    exact sndE_plain rfl (fun ρ => by simp only [ev, tst_false]) (snd_glob g4 g1 g2 g3 g5)
  | .bin o a b, X, sc, e', C, h => by
    have ih_a := fun {X : Cx} {sc : Scope} {e' : PE'} (C : Ctx X Φ XR fn N cs sc) h => sndE a (X := X) (sc := sc) (e' := e') C h
    have ih_b := fun {X : Cx} {sc : Scope} {e' : PE'} (C : Ctx X Φ XR fn N cs sc) h => sndE b (X := X) (sc := sc) (e' := e') C h
    unfold chkE at h; split at h <;> (try contradiction)
    injections; subst_vars
    simp only [Bool.and_eq_true, decide_eq_true_eq, Bool.not_eq_true'] at h
    obtain ⟨⟨h1, h2⟩, h3⟩ := h
    subst h1
    exact sndE_plain rfl (fun ρ => by simp only [ev, tst_false]) (snd_bin _ (ih_a C h2).v (ih_b C h3).v)
  | .neg a, X, sc, e', C, h => by
    have ih_a := fun {X : Cx} {sc : Scope} {e' : PE'} (C : Ctx X Φ XR fn N cs sc) h => sndE a (X := X) (sc := sc) (e' := e') C h
    unfold chkE at h; split at h <;> (try contradiction)
    injections; subst_vars
    exact sndE_plain rfl (fun ρ => by simp only [ev, tst_false]) (snd_neg (ih_a C h).v)
  | .cmp o a b, X, sc, e', C, h => by
    have ih_a := fun {X : Cx} {sc : Scope} {e' : PE'} (C : Ctx X Φ XR fn N cs sc) h => sndE a (X := X) (sc := sc) (e' := e') C h
    have ih_b := fun {X : Cx} {sc : Scope} {e' : PE'} (C : Ctx X Φ XR fn N cs sc) h => sndE b (X := X) (sc := sc) (e' := e') C h
    unfold chkE at h; split at h <;> (try contradiction)
    injections; subst_vars
    simp only [Bool.and_eq_true, decide_eq_true_eq, Bool.not_eq_true'] at h
    obtain ⟨⟨⟨h1, h2⟩, h3⟩, h4⟩ := h
    subst h1
    have u := fits_le (k := 65) C.units (by decide)
    exact sndE_tst (by intro o es p z; cases z) (snd_cmp u _ h2 (ih_a C h3).v (ih_b C h4).v) (sndT_cmp u _ h2 (ih_a C h3).v (ih_b C h4).v)
  | .chain o p a b c, X, sc, e', C, h => by
    have ih_a := fun {X : Cx} {sc : Scope} {e' : PE'} (C : Ctx X Φ XR fn N cs sc) h => sndE a (X := X) (sc := sc) (e' := e') C h
    have ih_b := fun {X : Cx} {sc : Scope} {e' : PE'} (C : Ctx X Φ XR fn N cs sc) h => sndE b (X := X) (sc := sc) (e' := e') C h
    have ih_c := fun {X : Cx} {sc : Scope} {e' : PE'} (C : Ctx X Φ XR fn N cs sc) h => sndE c (X := X) (sc := sc) (e' := e') C h
    unfold chkE at h; split at h <;> (try contradiction)
    injections; subst_vars
    simp only [Bool.and_eq_true, decide_eq_true_eq, Bool.not_eq_true'] at h
    obtain ⟨⟨⟨⟨⟨h1, h2⟩, h3⟩, h4⟩, h5⟩, h6⟩ := h
    subst h1 h2
    have u := fits_le (k := 65) C.units (by decide)
    exact sndE_tst (by intro o es p z; cases z) (snd_chain u _ _ h3 (ih_a C h4).v (ih_b C h5).v (ih_c C h6).v) (sndT_chain u _ _ h3 (ih_a C h4).v (ih_b C h5).v (ih_c C h6).v)
  | .and_ a b, X, sc, e', C, h => by
    have ih_a := fun {X : Cx} {sc : Scope} {e' : PE'} (C : Ctx X Φ XR fn N cs sc) h => sndE a (X := X) (sc := sc) (e' := e') C h
    have ih_b := fun {X : Cx} {sc : Scope} {e' : PE'} (C : Ctx X Φ XR fn N cs sc) h => sndE b (X := X) (sc := sc) (e' := e') C h
    unfold chkE at h; split at h <;> (try contradiction)
    injections; subst_vars
    simp only [Bool.and_eq_true, decide_eq_true_eq, Bool.not_eq_true'] at h
    obtain ⟨⟨h1, h2⟩, h3⟩ := h
    have A := ih_a C h2
    split at h3
    · rw [Bool.and_eq_true] at h3
      have B := ih_b C h3.2
      exact sndE_w (snd_and A.v (snd_one B.v)) (sndW_and (A.t h1) (sndW_one (B.t h3.1)))
    · have B := ih_b C h3
      exact sndE_w (snd_and A.v B.v) (sndW_and (A.t h1) (B.w ⟨_, _, _, rfl⟩))
  | .or_ a b, X, sc, e', C, h => by
    have ih_a := fun {X : Cx} {sc : Scope} {e' : PE'} (C : Ctx X Φ XR fn N cs sc) h => sndE a (X := X) (sc := sc) (e' := e') C h
    have ih_b := fun {X : Cx} {sc : Scope} {e' : PE'} (C : Ctx X Φ XR fn N cs sc) h => sndE b (X := X) (sc := sc) (e' := e') C h
    unfold chkE at h; split at h <;> (try contradiction)
    injections; subst_vars
    simp only [Bool.and_eq_true, decide_eq_true_eq, Bool.not_eq_true'] at h
    obtain ⟨⟨h1, h2⟩, h3⟩ := h
    have A := ih_a C h2
    split at h3
    · rw [Bool.and_eq_true] at h3
      have B := ih_b C h3.2
      exact sndE_w (snd_or A.v (snd_one B.v)) (sndW_or (A.t h1) (sndW_one (B.t h3.1)))
    · have B := ih_b C h3
      exact sndE_w (snd_or A.v B.v) (sndW_or (A.t h1) (B.w ⟨_, _, _, rfl⟩))
  | .not_ a, X, sc, e', C, h => by
    have ih_a := fun {X : Cx} {sc : Scope} {e' : PE'} (C : Ctx X Φ XR fn N cs sc) h => sndE a (X := X) (sc := sc) (e' := e') C h
    unfold chkE at h; split at h <;> (try contradiction)
    injections; subst_vars
    simp only [Bool.and_eq_true, decide_eq_true_eq, Bool.not_eq_true'] at h
    exact sndE_tst (by intro o es p z; cases z) (snd_not (ih_a C h.2).v) (sndT_not ((ih_a C h.2).t h.1))
  | .ite c a b, X, sc, e', C, h => by
    have ih_c := fun {X : Cx} {sc : Scope} {e' : PE'} (C : Ctx X Φ XR fn N cs sc) h => sndE c (X := X) (sc := sc) (e' := e') C h
    have ih_a := fun {X : Cx} {sc : Scope} {e' : PE'} (C : Ctx X Φ XR fn N cs sc) h => sndE a (X := X) (sc := sc) (e' := e') C h
    have ih_b := fun {X : Cx} {sc : Scope} {e' : PE'} (C : Ctx X Φ XR fn N cs sc) h => sndE b (X := X) (sc := sc) (e' := e') C h
    unfold chkE at h; split at h <;> (try contradiction)
    injections; subst_vars
    simp only [Bool.and_eq_true, decide_eq_true_eq, Bool.not_eq_true'] at h
    obtain ⟨⟨⟨h1, h2⟩, h3⟩, h4⟩ := h
    exact sndE_if rfl (by intro o es p z; cases z) (snd_ite ((ih_c C h2).t h1) (ih_a C h3).v (ih_b C h4).v)
  | .tup es, X, sc, e', C, h => by
    have ih_es := fun {X : Cx} {sc : Scope} {e' : List PE'} (C : Ctx X Φ XR fn N cs sc) h => sndEs es (X := X) (sc := sc) (es' := e') C h
    unfold chkE at h; split at h <;> (try contradiction)
    injections; subst_vars
    exact sndE_plain rfl (fun ρ => by simp only [ev, tst_false]) (snd_tup (ih_es C h).2.1)
  | .lst es, X, sc, e', C, h => by
    have ih_es := fun {X : Cx} {sc : Scope} {e' : List PE'} (C : Ctx X Φ XR fn N cs sc) h => sndEs es (X := X) (sc := sc) (es' := e') C h
    unfold chkE at h; split at h <;> (try contradiction)
    injections; subst_vars
    exact sndE_plain rfl (fun ρ => by simp only [ev, tst_false]) (snd_lst (ih_es C h).2.1)
  | .dct ks es, X, sc, e', C, h => by
    have ih_es := fun {X : Cx} {sc : Scope} {e' : List PE'} (C : Ctx X Φ XR fn N cs sc) h => sndEs es (X := X) (sc := sc) (es' := e') C h
    unfold chkE at h; split at h <;> (try contradiction)
    injections; subst_vars
    simp only [Bool.and_eq_true, decide_eq_true_eq, Bool.not_eq_true'] at h
    obtain ⟨⟨⟨h1, h2⟩, h4⟩, h5⟩ := h
    exact sndE_plain rfl (fun ρ => by simp only [ev, tst_false]) (snd_dct h1 h2 (fun z => nil_of (z ▸ h5)) h4 (ih_es C h5).2.2)
  | .dc1 (.cons a (.cons b .nil)), X, sc, e', C, h => by
    have ih_a := fun {X : Cx} {sc : Scope} {e' : PE'} (C : Ctx X Φ XR fn N cs sc) h => sndE a (X := X) (sc := sc) (e' := e') C h
    have ih_b := fun {X : Cx} {sc : Scope} {e' : PE'} (C : Ctx X Φ XR fn N cs sc) h => sndE b (X := X) (sc := sc) (e' := e') C h
    unfold chkE at h; split at h <;> (try contradiction)
    injections; subst_vars
    simp only [chkEs, Bool.and_eq_true] at h
    exact sndE_plain rfl (fun ρ => by simp only [ev, tst_false]) (snd_dc1 ⟨a, b, rfl, (ih_a C h.1.2).v, (ih_b C h.2.1.2).v⟩)
  | .dc1 .nil, X, sc, e', C, h => by
    unfold chkE at h; split at h <;> (try contradiction)
    injections; subst_vars
    simp [chkEs] at h
  | .dc1 (.cons a .nil), X, sc, e', C, h => by
    unfold chkE at h; split at h <;> (try contradiction)
    injections; subst_vars
    simp [chkEs] at h
  | .dc1 (.cons a (.cons b (.cons c r))), X, sc, e', C, h => by
    unfold chkE at h; split at h <;> (try contradiction)
    injections; subst_vars
    simp [chkEs] at h
  | .dget a k d, X, sc, e', C, h => by
    have ih_a := fun {X : Cx} {sc : Scope} {e' : PE'} (C : Ctx X Φ XR fn N cs sc) h => sndE a (X := X) (sc := sc) (e' := e') C h
    have ih_k := fun {X : Cx} {sc : Scope} {e' : PE'} (C : Ctx X Φ XR fn N cs sc) h => sndE k (X := X) (sc := sc) (e' := e') C h
    have ih_d := fun {X : Cx} {sc : Scope} {e' : PE'} (C : Ctx X Φ XR fn N cs sc) h => sndE d (X := X) (sc := sc) (e' := e') C h
    unfold chkE at h; split at h <;> (try contradiction)
    injections; subst_vars
    simp only [Bool.and_eq_true, decide_eq_true_eq, Bool.not_eq_true'] at h
    obtain ⟨⟨⟨⟨⟨⟨h1, h2⟩, h3⟩, h4⟩, h5⟩, h6⟩, h7⟩ := h
    subst h2
    exact sndE_plain rfl (fun ρ => by simp only [ev, tst_false]) (snd_dget (fits_le (k := 1) C.units (by decide)) h1 h3 h4 (ih_a C h5).v (ih_k C h6).v (ih_d C h7).v)
  | .rep es b, X, sc, e', C, h => by
    have ih_es := fun {X : Cx} {sc : Scope} {e' : List PE'} (C : Ctx X Φ XR fn N cs sc) h => sndEs es (X := X) (sc := sc) (es' := e') C h
    have ih_b := fun {X : Cx} {sc : Scope} {e' : PE'} (C : Ctx X Φ XR fn N cs sc) h => sndE b (X := X) (sc := sc) (e' := e') C h
    unfold chkE at h; split at h <;> (try contradiction)
    injections; subst_vars
    simp only [Bool.and_eq_true, decide_eq_true_eq, Bool.not_eq_true'] at h
    exact sndE_plain rfl (fun ρ => by simp only [ev, tst_false]) (snd_rep (ih_es C h.1).2.1 (ih_b C h.2).v)
  | .ix a b, X, sc, e', C, h => by
    have ih_a := fun {X : Cx} {sc : Scope} {e' : PE'} (C : Ctx X Φ XR fn N cs sc) h => sndE a (X := X) (sc := sc) (e' := e') C h
    have ih_b := fun {X : Cx} {sc : Scope} {e' : PE'} (C : Ctx X Φ XR fn N cs sc) h => sndE b (X := X) (sc := sc) (e' := e') C h
    unfold chkE at h; split at h <;> (try contradiction)
    injections; subst_vars
    simp only [Bool.and_eq_true, decide_eq_true_eq, Bool.not_eq_true'] at h
    obtain ⟨⟨h1, h2⟩, h3⟩ := h
    exact sndE_plain rfl (fun ρ => by simp only [ev, tst_false]) (snd_ix (fits_le (k := 1) C.units (by decide)) h1 (ih_a C h2).v (ih_b C h3).v)
  | .sl a lo hi, X, sc, e', C, h => by
    have ih_a := fun {X : Cx} {sc : Scope} {e' : PE'} (C : Ctx X Φ XR fn N cs sc) h => sndE a (X := X) (sc := sc) (e' := e') C h
    have ih_lo := fun {X : Cx} {sc : Scope} {e' : PE'} (C : Ctx X Φ XR fn N cs sc) h => sndE lo (X := X) (sc := sc) (e' := e') C h
    have ih_hi := fun {X : Cx} {sc : Scope} {e' : PE'} (C : Ctx X Φ XR fn N cs sc) h => sndE hi (X := X) (sc := sc) (e' := e') C h
    unfold chkE at h; split at h <;> (try contradiction)
    injections; subst_vars
    simp only [Bool.and_eq_true, decide_eq_true_eq, Bool.not_eq_true'] at h
    obtain ⟨⟨h1, h2⟩, h3⟩ := h
    refine sndE_plain rfl (fun ρ => by simp only [ev, tst_false]) (snd_sl (ih_a C h1).v ?_ ?_)
    · split at h2
      · exact sndP_none
      · rename_i hn
        exact sndP_some (fun z => by subst z; simp [chkE] at h2) (ih_lo C h2).v
      · cases h2
    · split at h3
      · exact sndP_none
      · exact sndP_some (fun z => by subst z; simp [chkE] at h3) (ih_hi C h3).v
      · cases h3
  | .rev a, X, sc, e', C, h => by
    have ih_a := fun {X : Cx} {sc : Scope} {e' : PE'} (C : Ctx X Φ XR fn N cs sc) h => sndE a (X := X) (sc := sc) (e' := e') C h
    unfold chkE at h; split at h <;> (try contradiction)
    injections; subst_vars
    simp only [Bool.and_eq_true, decide_eq_true_eq, Bool.not_eq_true'] at h
    obtain ⟨h1, h2⟩ := h
    subst h1
    exact sndE_plain rfl (fun ρ => by simp only [ev, tst_false]) (snd_rev (ih_a C h2).v)
  | .no, X, sc, e', C, h => by
    simp [chkE] at h
  | .call f es, X, sc, e', C, h => by
    have ih_es := fun {X : Cx} {sc : Scope} {e' : List PE'} (C : Ctx X Φ XR fn N cs sc) h => sndEs es (X := X) (sc := sc) (es' := e') C h
    unfold chkE at h; split at h <;> (try contradiction)
    injections; subst_vars
    simp only [Bool.and_eq_true, decide_eq_true_eq, Bool.not_eq_true'] at h
    obtain ⟨⟨h1, h2⟩, h3⟩ := h
    obtain ⟨g1, g2⟩ := C.glb h2
    refine sndE_plain rfl (fun ρ => by simp only [ev, tst_false]) (snd_call (C.fns _ _ h1) C.guards g1 g2 (allStar h3) (fun z => ?_) (ih_es C h3).1)
    exact nil_of (z ▸ h3)
  | .callp f es, X, sc, e', C, h => by
    have ih_es := fun {X : Cx} {sc : Scope} {e' : List PE'} (C : Ctx X Φ XR fn N cs sc) h => sndEs es (X := X) (sc := sc) (es' := e') C h
    unfold chkE at h; split at h <;> (try contradiction)
    injections; subst_vars
    simp only [Bool.and_eq_true, decide_eq_true_eq, Bool.not_eq_true'] at h
    obtain ⟨⟨h1, h2⟩, h3⟩ := h
    obtain ⟨g1, g2⟩ := C.glb h2
    refine sndE_plain rfl (fun ρ => by simp only [ev, tst_false]) (snd_callp (C.fns _ _ h1) C.guards g1 g2 (allStar h3) (fun z => ?_) (ih_es C h3).1)
    exact nil_of (z ▸ h3)
  | .blt f es, X, sc, e', C, h => by
    have ih_es := fun {X : Cx} {sc : Scope} {e' : List PE'} (C : Ctx X Φ XR fn N cs sc) h => sndEs es (X := X) (sc := sc) (es' := e') C h
    unfold chkE at h; split at h <;> (try contradiction)
    injections; subst_vars
    simp only [Bool.and_eq_true, decide_eq_true_eq, Bool.not_eq_true'] at h
    obtain ⟨⟨h1, h2⟩, h3⟩ := h
    subst h1
    obtain ⟨g1, g2⟩ := C.glb h2
    exact sndE_plain rfl (fun ρ => by simp only [ev, tst_false]) (snd_blt C.calm C.guards (fits_le (k := 70) C.units (by decide)) C.dig (C.blt _ (fn_blt _)) g1 g2 (allStar h3) (ih_es C h3).1)
  | .lrng a b, X, sc, e', C, h => by
    have ih_a := fun {X : Cx} {sc : Scope} {e' : PE'} (C : Ctx X Φ XR fn N cs sc) h => sndE a (X := X) (sc := sc) (e' := e') C h
    have ih_b := fun {X : Cx} {sc : Scope} {e' : PE'} (C : Ctx X Φ XR fn N cs sc) h => sndE b (X := X) (sc := sc) (e' := e') C h
    unfold chkE at h; split at h <;> (try contradiction)
    · injections; subst_vars
      simp only [Bool.and_eq_true, decide_eq_true_eq, Bool.not_eq_true'] at h
      obtain ⟨⟨⟨⟨⟨⟨⟨h1, h2⟩, h3⟩, h4⟩, h5⟩, h6⟩, h7⟩, h8⟩ := h
      subst h1 h2
      exact sndE_plain rfl (fun ρ => by simp only [ev, tst_false]) (snd_lrng C.calm (C.blt _ (by decide +kernel)) (C.blt _ (by decide +kernel)) (C.glb h3).1 (C.glb h4).1 h5 h6 (ih_a C h7).v (ih_b C h8).v)
    · injections; subst_vars
      simp only [Bool.and_eq_true, decide_eq_true_eq, Bool.not_eq_true'] at h
      obtain ⟨⟨⟨⟨⟨⟨h0, h1⟩, h2⟩, h3⟩, h4⟩, h5⟩, h6⟩ := h
      subst h0 h1 h2
      exact sndE_plain rfl (fun ρ => by simp only [ev, tst_false]) (snd_lrng1 C.calm (C.blt _ (by decide +kernel)) (C.blt _ (by decide +kernel)) (C.glb h3).1 (C.glb h4).1 h5 (ih_b C h6).v)
  | .isi a ts, X, sc, e', C, h => by
    have ih_a := fun {X : Cx} {sc : Scope} {e' : PE'} (C : Ctx X Φ XR fn N cs sc) h => sndE a (X := X) (sc := sc) (e' := e') C h
    unfold chkE at h; split at h <;> (try contradiction)
    injections; subst_vars
    simp only [Bool.and_eq_true, decide_eq_true_eq, Bool.not_eq_true'] at h
    obtain ⟨⟨⟨⟨⟨h1, h2⟩, h3⟩, h4⟩, h5⟩, h6⟩ := h
    subst h1 h2
    exact sndE_plain rfl (fun ρ => isi_tst) (snd_isi (C.blt _ (by decide +kernel)) (C.blt _ (ty_blt _)) (C.glb h3).1 (C.glb h4).1 (C.glb h4).2 h5 (ih_a C h6).v)
  | .meth m i es, X, sc, e', C, h => by
    have ih_es := fun {X : Cx} {sc : Scope} {e' : List PE'} (C : Ctx X Φ XR fn N cs sc) h => sndEs es (X := X) (sc := sc) (es' := e') C h
    unfold chkE at h; split at h <;> (try contradiction)
    injections; subst_vars
    simp only [Bool.and_eq_true, decide_eq_true_eq, Bool.not_eq_true'] at h
    obtain ⟨⟨⟨⟨h1, h2⟩, h3⟩, h4⟩, h5⟩ := h
    subst h2
    obtain ⟨g1, g2, g3⟩ := C.nm h3
    exact sndE_plain rfl (fun ρ => by simp only [ev, tst_false]) (snd_methL h1 g1 g2 g3 h4 (fun z => nil_of (z ▸ h5)) (allStar h5) (ih_es C h5).2.1)
  | .ext i a, X, sc, e', C, h => by
    have ih_a := fun {X : Cx} {sc : Scope} {e' : PE'} (C : Ctx X Φ XR fn N cs sc) h => sndE a (X := X) (sc := sc) (e' := e') C h
    unfold chkE at h; split at h <;> (try contradiction)
    injections; subst_vars
    simp only [Bool.and_eq_true, decide_eq_true_eq, Bool.not_eq_true'] at h
    obtain ⟨⟨⟨⟨h1, h2⟩, h3⟩, h4⟩, h5⟩ := h
    subst h2
    obtain ⟨g1, g2, g3⟩ := C.nm h3
    exact sndE_plain rfl (fun ρ => by simp only [ev, tst_false]) (snd_ext h1 g1 g2 g3 h4 (ih_a C h5).v)
  | .comp a tg s cnd, X, sc, e', C, h => by
    have ih_a := fun {X : Cx} {sc : Scope} {e' : PE'} (C : Ctx X Φ XR fn N cs sc) h => sndE a (X := X) (sc := sc) (e' := e') C h
    have ih_cnd := fun {X : Cx} {sc : Scope} {e' : PE'} (C : Ctx X Φ XR fn N cs sc) h => sndE cnd (X := X) (sc := sc) (e' := e') C h
    have ih_s := fun {X : Cx} {sc : Scope} {t' e' : PE'} (C : Ctx X Φ XR fn N cs sc) h => sndSrc s (X := X) (sc := sc) (t' := t') (e' := e') C h
    unfold chkE at h; split at h <;> (try contradiction)
    injections; subst_vars
    simp only [Bool.and_eq_true, decide_eq_true_eq, Bool.not_eq_true'] at h
    obtain ⟨⟨⟨⟨⟨⟨h0, h1⟩, h2⟩, h3⟩, h4⟩, h5⟩, h6⟩ := h
    subst h0
    exact sndE_plain rfl (fun ρ => by simp only [ev, tst_false]) (snd_comp C.calm (by rw [C.hN]; exact C.nd) (compOk_of C h1 h2 (ih_s C h3) h4 (fun C => (ih_a C h5).v) h6 (fun C h => ih_cnd C h)))
theorem sndEs : ∀ (es : Es) {X : Cx} {sc : Scope} {es' : List PE'}, Ctx X Φ XR fn N cs sc → chkEs fn N cs sc es es' = true → SndA X Φ XR es' es ∧ SndD X Φ XR es' es ∧ SndPP X Φ XR es' es
  | .nil, X, sc, es', C, h => by
    cases es' with
    | nil => exact ⟨sndA_nil, sndD_nil, sndPP_nil⟩
    | cons e' es' => simp [chkEs] at h
  | .cons e es, X, sc, es', C, h => by
    cases es' with
    | nil => simp [chkEs] at h
    | cons e' es' =>
      simp only [chkEs, Bool.and_eq_true] at h
      have h1 := (sndE e C h.1.2).v
      have h2 := sndEs es C h.2
      exact ⟨sndA_cons h.1.1 h1 h2.1, sndD_cons h.1.1 h1 h2.2.1, sndPP_cons h1 h2.2.2⟩
theorem sndSrc : ∀ (s : Src) {X : Cx} {sc : Scope} {t' e' : PE'}, Ctx X Φ XR fn N cs sc → chkSrc fn N cs sc s t' e' = true → SndI X Φ XR t' e' s
  | .of a, X, sc, t', e', C, h => by
    simp only [chkSrc] at h
    exact sndI_of (sndE a C h).v
  | .rng1 a, X, sc, t', e', C, h => by
    have ih_a := fun {X : Cx} {sc : Scope} {e' : PE'} (C : Ctx X Φ XR fn N cs sc) h => sndE a (X := X) (sc := sc) (e' := e') C h
    unfold chkSrc at h; split at h <;> (try contradiction)
    injections; subst_vars
    simp only [Bool.and_eq_true, decide_eq_true_eq, Bool.not_eq_true'] at h
    obtain ⟨⟨⟨h1, h2⟩, h3⟩, h4⟩ := h
    subst h1
    exact sndI_rng1 (C.blt _ (by decide +kernel)) (C.glb h2).1 h3 (ih_a C h4).v
  | .rng2 a b, X, sc, t', e', C, h => by
    have ih_a := fun {X : Cx} {sc : Scope} {e' : PE'} (C : Ctx X Φ XR fn N cs sc) h => sndE a (X := X) (sc := sc) (e' := e') C h
    have ih_b := fun {X : Cx} {sc : Scope} {e' : PE'} (C : Ctx X Φ XR fn N cs sc) h => sndE b (X := X) (sc := sc) (e' := e') C h
    unfold chkSrc at h; split at h <;> (try contradiction)
    injections; subst_vars
    simp only [Bool.and_eq_true, decide_eq_true_eq, Bool.not_eq_true'] at h
    obtain ⟨⟨⟨⟨⟨h1, h2⟩, h3⟩, h4⟩, h5⟩, h6⟩ := h
    subst h1
    exact sndI_rng2 (C.blt _ (by decide +kernel)) (C.glb h2).1 h3 h4 (ih_a C h5).v (ih_b C h6).v
  | .rng3 a b c, X, sc, t', e', C, h => by
    have ih_a := fun {X : Cx} {sc : Scope} {e' : PE'} (C : Ctx X Φ XR fn N cs sc) h => sndE a (X := X) (sc := sc) (e' := e') C h
    have ih_b := fun {X : Cx} {sc : Scope} {e' : PE'} (C : Ctx X Φ XR fn N cs sc) h => sndE b (X := X) (sc := sc) (e' := e') C h
    have ih_c := fun {X : Cx} {sc : Scope} {e' : PE'} (C : Ctx X Φ XR fn N cs sc) h => sndE c (X := X) (sc := sc) (e' := e') C h
    unfold chkSrc at h; split at h <;> (try contradiction)
    injections; subst_vars
    simp only [Bool.and_eq_true, decide_eq_true_eq, Bool.not_eq_true'] at h
    obtain ⟨⟨⟨⟨⟨⟨⟨h1, h2⟩, h3⟩, h4⟩, h5⟩, h6⟩, h7⟩, h8⟩ := h
    subst h1
    exact sndI_rng3 (C.blt _ (by decide +kernel)) (C.glb h2).1 h3 h4 h5 (ih_a C h6).v (ih_b C h7).v (ih_c C h8).v
  | .enum a, X, sc, t', e', C, h => by
    have ih_a := fun {X : Cx} {sc : Scope} {e' : PE'} (C : Ctx X Φ XR fn N cs sc) h => sndE a (X := X) (sc := sc) (e' := e') C h
    unfold chkSrc at h; split at h <;> (try contradiction)
    injections; subst_vars
    simp only [Bool.and_eq_true, decide_eq_true_eq, Bool.not_eq_true'] at h
    obtain ⟨⟨⟨⟨h0, h1⟩, h2⟩, h3⟩, h4⟩ := h
    subst h1
    exact sndI_enum h0 (C.blt _ (by decide +kernel)) (C.glb h2).1 h3 (ih_a C h4).v
  | .zip a b, X, sc, t', e', C, h => by
    have ih_a := fun {X : Cx} {sc : Scope} {e' : PE'} (C : Ctx X Φ XR fn N cs sc) h => sndE a (X := X) (sc := sc) (e' := e') C h
    have ih_b := fun {X : Cx} {sc : Scope} {e' : PE'} (C : Ctx X Φ XR fn N cs sc) h => sndE b (X := X) (sc := sc) (e' := e') C h
    unfold chkSrc at h; split at h <;> (try contradiction)
    injections; subst_vars
    simp only [Bool.and_eq_true, decide_eq_true_eq, Bool.not_eq_true'] at h
    obtain ⟨⟨⟨⟨⟨⟨h0, h1⟩, h2⟩, h3⟩, h4⟩, h5⟩, h6⟩ := h
    subst h1
    exact sndI_zip h0 (C.blt _ (by decide +kernel)) (C.glb h2).1 h3 h4 (ih_a C h5).v (ih_b C h6).v
  | .rev a, X, sc, t', e', C, h => by
    have ih_a := fun {X : Cx} {sc : Scope} {e' : PE'} (C : Ctx X Φ XR fn N cs sc) h => sndE a (X := X) (sc := sc) (e' := e') C h
    unfold chkSrc at h; split at h <;> (try contradiction)
    injections; subst_vars
    simp only [Bool.and_eq_true, decide_eq_true_eq, Bool.not_eq_true'] at h
    obtain ⟨⟨⟨h1, h2⟩, h3⟩, h4⟩ := h
    subst h1
    exact sndI_rev (C.blt _ (by decide +kernel)) (C.glb h2).1 h3 (ih_a C h4).v
end
end
end M

set_option Elab.async false
set_option linter.all false
set_option maxRecDepth 100000
set_option maxHeartbeats 4000000
/-! M: statements -/
namespace M
open PySem PySem.Spec PyProof.Rows L2
/-- from one point of a body to a later one -/
structure Stq (F : Fr) (σ : L2.St) (H : Hp) (ρ : Env) (σ' : L2.St) (H' : Hp) (ρ' : Env) : Prop where
  same : Same (vis F σ ρ H) (vis F σ' ρ' H')
  hidk : ∀ b, F.h b → H' b = H b
  dom : ∀ b o, H b = some o → ∃ o', H' b = some o'
section
variable {K : PySem.W.Frag} {F : Fr} {XR : XRel} {W : WX} {σ σ1 σ' : L2.St} {H H1 H' : Hp} {ρ ρ1 ρ' : Env} {D : Ends}
theorem Stq.refl : Stq F σ H ρ σ H ρ := ⟨fun _ _ e => e, fun _ _ => rfl, fun _ o e => ⟨o, e⟩⟩
theorem Stq.trans (a : Stq F σ H ρ σ1 H1 ρ1) (b : Stq F σ1 H1 ρ1 σ' H' ρ') : Stq F σ H ρ σ' H' ρ' :=
  ⟨a.same.trans b.same, fun c h => (b.hidk c h).trans (a.hidk c h), fun c o e => let ⟨o', e'⟩ := a.dom c o e; b.dom c o' e'⟩
theorem Stp.q (a : Stp F σ H ρ H' ρ') : Stq F σ H ρ σ H' ρ' := ⟨a.same, a.hidk, a.dom⟩
theorem Stq.none_of (st : Stq F σ H ρ σ' H' ρ') {p : Addr} (h : H' p = none) : H p = none := by
  cases e : H p with
  | none => rfl
  | some o => obtain ⟨o', e'⟩ := st.dom p o e; rw [h] at e'; cases e'
/-- what is wanted behind statements -/
def PostS (K : PySem.W.Frag) (F : Fr) (XR : XRel) (W : WX) (D : Ends) (σ : L2.St) (H : Hp) (ρ : Env) : Fl → Prop
  | .nx ρ' => ∀ σ' H', EnvR K F σ' H' ρ' → Stq F σ H ρ σ' H' ρ' → D.nx σ' H'
  | .bk ρ' => ∀ σ' H', EnvR K F σ' H' ρ' → Stq F σ H ρ σ' H' ρ' → D.bk σ' H'
  | .ct ρ' => ∀ σ' H', EnvR K F σ' H' ρ' → Stq F σ H ρ σ' H' ρ' → D.ct σ' H'
  | .rt (.fresh c) ρ' => ∀ p o σ' H', H p = none → H' p = some o → EnvR K (F.hide p) σ' H' ρ' → Stq F σ H ρ σ' H' ρ' → F.H0 p = none → CellR K (vis (F.hide p) σ' ρ' H') c o → D.rt (.ref p) H'
  | .rt rv ρ' => ∀ v σ' H', EnvR K F σ' H' ρ' → Stq F σ H ρ σ' H' ρ' → RVR K F σ' ρ' H' v rv → D.rt v H'
  | .exc x ρ' => ∀ cls d σ' H', EnvR K F σ' H' ρ' → Stq F σ H ρ σ' H' ρ' → XR x cls d (vis F σ' ρ' H') → W cls d σ' H'
  | .bad => False
theorem PostS.shift {r : Fl} (h : PostS K F XR W D σ H ρ r) (st : Stq F σ H ρ σ1 H1 ρ1) : PostS K F XR W D σ1 H1 ρ1 r := by
  match r, h with
  | .nx ρ', h => exact fun σ' H' er st' => h σ' H' er (st.trans st')
  | .bk ρ', h => exact fun σ' H' er st' => h σ' H' er (st.trans st')
  | .ct ρ', h => exact fun σ' H' er st' => h σ' H' er (st.trans st')
  | .rt (.fresh c) ρ', h => exact fun p o σ' H' hp ho er st' h0 hc => h p o σ' H' (st.none_of hp) ho er (st.trans st') h0 hc
  | .rt (.v d) ρ', h => exact fun v σ' H' er st' r => h v σ' H' er (st.trans st') r
  | .rt (.slot i) ρ', h => exact fun v σ' H' er st' r => h v σ' H' er (st.trans st') r
  | .exc x ρ', h => exact fun cls d σ' H' er st' r => h cls d σ' H' er (st.trans st') r
  | .bad, h => exact h
theorem PostS.fl {m : R RV} {f : RV → Env → Fl} {G : VK} (er0 : EnvR K F σ H ρ) (h : PostS K F XR W D σ H ρ (m.fl f))
    (k : ∀ rv ρ' v H', m = .ok rv ρ' → EnvR K F σ H' ρ' → Stp F σ H ρ H' ρ' → RVR K F σ ρ' H' v (settle rv) → PostS K F XR W D σ H' ρ' (f rv ρ') → G v H') : Post K F XR W σ H ρ m G := by
  refine Post.read er0 ?_
  cases m with
  | ok rv ρ' => exact fun H' er st v r => k rv ρ' v H' rfl er st r (PostS.shift h st.q)
  | exc x ρ' => exact fun cls d H' er st r => h cls d σ H' er st.q r
  | bad => exact h
theorem PostS.flG {α : Type} {m : R α} {f : α → Env → Fl} {G : α → Env → Hp → Prop} (h : PostS K F XR W D σ H ρ (m.fl f))
    (k : ∀ a ρ' H', m = .ok a ρ' → EnvR K F σ H' ρ' → Stp F σ H ρ H' ρ' → PostS K F XR W D σ H' ρ' (f a ρ') → G a ρ' H') : PostG K F XR W σ H ρ m G := by
  cases m with
  | ok a ρ' => exact fun H' er st => k a ρ' H' rfl er st (PostS.shift h st.q)
  | exc x ρ' => exact fun cls d H' er st r => h cls d σ H' er st.q r
  | bad => exact h
theorem PostS.flP {m : R RV} {f : M.D → Env → Fl} {De : Ends} {G : VK} (er0 : EnvR K F σ H ρ) (h : PostS K F XR W De σ H ρ (m.fl fun r ρ => (frz ρ r).fl fun d ρ => f d ρ))
    (k : ∀ d ρ' v H', EnvR K F σ H' ρ' → Stp F σ H ρ H' ρ' → Rp K (vis F σ ρ' H') v d → PostS K F XR W De σ H' ρ' (f d ρ') → G v H') : Post K F XR W σ H ρ m G := by
  refine PostS.fl er0 h fun ra ρ1 v1 H1 e1 er1 st1 r1 h1 => ?_
  cases ef : frz ρ1 ra with
  | bad => rw [ef] at h1; exact False.elim h1
  | exc x ρ' => exact (frz_noexc ef).elim
  | ok d ρ2 =>
    rw [ef] at h1
    simp only [R.fl_ok] at h1
    obtain ⟨er2, st2, rp2⟩ := frz_ok er1 r1 ef
    exact k d ρ2 v1 H1 er2 (st1.trans st2) rp2 (PostS.shift h1 st2.q)
/-! ### names set -/
theorem EnvR.setA {i : Nat} {v : V} {d : M.D} (er : EnvR K F σ H ρ) (hf : i < ρ.length) (r : Rp K (vis F σ ρ H) v d) : EnvR K F (σ.set i (some v)) H (ρ.set i (.val d)) ∧ Same (vis F σ ρ H) (vis F (σ.set i (some v)) (ρ.set i (.val d)) H) := by
  have hi := hf
  have hi' : i < σ.length := by rw [er.len]; exact hi
  refine er.chg (by rw [List.length_set, List.length_set]; exact er.len) (fun j d' e => ?_) (fun j t lk c e => ?_)
  · by_cases hj : i = j
    · subst hj
      rw [List.getElem?_set_self hi] at e
      cases e
      exact ⟨v, List.getElem?_set_self hi', r⟩
    · rw [List.getElem?_set_ne hj] at e ⊢
      exact er.val j d' e
  · by_cases hj : i = j
    · subst hj
      rw [List.getElem?_set_self hi] at e
      cases e
    · rw [List.getElem?_set_ne hj] at e ⊢
      exact ⟨e, rfl⟩
/-- a new cell gets a name -/
theorem EnvR.setO {i : Nat} {p : Addr} {o : HO} {c : Cell} (er : EnvR K (F.hide p) σ H ρ) (hf : i < ρ.length) (hp : H p = some o) (hc : CellR K (vis (F.hide p) σ ρ H) c o) (hn : ¬ F.h p) (h0 : F.H0 p = none) :
    EnvR K F (σ.set i (some (.ref p))) H (ρ.set i (.own none false c)) ∧ Same (vis (F.hide p) σ ρ H) (vis F (σ.set i (some (.ref p))) (ρ.set i (.own none false c)) H) := by
  have hi := hf
  have hi' : i < σ.length := by rw [er.len]; exact hi
  have le : Same (vis (F.hide p) σ ρ H) (vis F (σ.set i (some (.ref p))) (ρ.set i (.own none false c)) H) := fun b ob e => by
    obtain ⟨h1, h2, h3⟩ := vis_some e
    have hb : b ≠ p := fun z => h2 (.inr z)
    rw [vis_of (fun z => h2 (.inl z)) (fun z => ?_)]
    · exact h1
    obtain ⟨j, t, lk, c', e1, e2⟩ := z
    by_cases hj : i = j
    · subst hj
      rw [List.getElem?_set_self hi'] at e2
      cases e2
      exact hb rfl
    · rw [List.getElem?_set_ne hj] at e1 e2
      exact h3 ⟨j, t, lk, c', e1, e2⟩
  refine ⟨⟨by rw [List.length_set, List.length_set]; exact er.len, fun j d e => ?_, fun j t lk c' e => ?_, fun j k t lk c1 t' lk' c2 q e1 e2 e3 e4 => ?_, fun b hb => er.hid b (.inl hb), er.keep, er.inn⟩, le⟩
  · by_cases hj : i = j
    · subst hj
      rw [List.getElem?_set_self hi] at e
      cases e
    · rw [List.getElem?_set_ne hj] at e ⊢
      obtain ⟨v, g1, g2⟩ := er.val j d e
      exact ⟨v, g1, g2.mono le⟩
  · by_cases hj : i = j
    · subst hj
      rw [List.getElem?_set_self hi] at e
      cases e
      exact ⟨p, o, List.getElem?_set_self hi', hp, hc.mono le, hn, (fun j z => absurd z (by intro y; cases y)), fun _ => h0⟩
    · rw [List.getElem?_set_ne hj] at e ⊢
      obtain ⟨q, ob, g1, g2, g3, g4, g5⟩ := er.own j t lk c' e
      exact ⟨q, ob, g1, g2, g3.mono le, fun z => g4 (.inl z), g5⟩
  · have apart : ∀ {j : Nat} {t lk c1}, i ≠ j → (ρ.set i (.own none false c))[j]? = some (.own t lk c1) → (σ.set i (some (.ref p)))[j]? = some (some (.ref p)) → False := fun {j t lk c1} hj z1 z2 => by
      rw [List.getElem?_set_ne hj] at z1 z2
      obtain ⟨q, ob, g1, g2, g3, g4, g5⟩ := er.own j t lk c1 z1
      rw [z2] at g1
      cases g1
      exact g4 (.inr rfl)
    by_cases hj : i = j
    · subst hj
      rw [List.getElem?_set_self hi'] at e3
      cases e3
      by_cases hk : i = k
      · exact hk
      · exact (apart hk e2 e4).elim
    · by_cases hk : i = k
      · subst hk
        rw [List.getElem?_set_self hi'] at e4
        cases e4
        exact (apart hj e1 e3).elim
      · rw [List.getElem?_set_ne hj] at e1 e3
        rw [List.getElem?_set_ne hk] at e2 e4
        exact er.uniq j k _ _ _ _ _ _ q e1 e2 e3 e4
theorem Stq.set (st : Stp F σ H ρ H' ρ') {σ'' : L2.St} {ρ'' : Env} (s : Same (vis F σ ρ' H') (vis F σ'' ρ'' H')) : Stq F σ H ρ σ'' H' ρ'' := ⟨st.same.trans s, st.hidk, st.dom⟩
theorem Stq.setF {p : Addr} (st : Stp F σ H ρ H' ρ') (hp : H p = none) {σ'' : L2.St} {ρ'' : Env} (s : Same (vis (F.hide p) σ ρ' H') (vis F σ'' ρ'' H')) : Stq F σ H ρ σ'' H' ρ'' := by
  refine ⟨fun b o e => s b o ?_, st.hidk, st.dom⟩
  have h1 := (vis_some e).1
  have hb : b ≠ p := fun z => by rw [z, hp] at h1; cases h1
  obtain ⟨g1, g2, g3⟩ := vis_some (st.same b o e)
  have : vis (F.hide p) σ ρ' H' b = H' b := vis_of (fun z : F.h b ∨ b = p => z.elim g2 hb) g3
  rw [this]
  exact g1
end
section
variable (Φ : Phi) (K : PySem.W.Frag) (F : Fr) (XR : XRel) (W : WX)
def rdS (s : S) : TS := fun D σ H => ∃ ρ, EnvR K F σ H ρ ∧ PostS K F XR W D σ H ρ (exS Φ s ρ)
def rdSs (s : Ss) : TS := fun D σ H => ∃ ρ, EnvR K F σ H ρ ∧ PostS K F XR W D σ H ρ (exSs Φ s ρ)
end
def SndS (X : Cx) (Φ : Phi) (XR : XRel) (s' : PySem.Stmt) (s : S) : Prop := ∀ F W, Takes X W → PS X s' (rdS Φ X.K F XR W s)
def SndSs (X : Cx) (Φ : Phi) (XR : XRel) (s' : List PySem.Stmt) (s : Ss) : Prop := ∀ F W, Takes X W → PSs X s' (rdSs Φ X.K F XR W s)
section
variable {X : Cx} {Φ : Phi} {XR : XRel} {t' a' b' c' : PE'} {a b c e : E} {pos : Pos}
theorem asg_go {K : PySem.W.Frag} {F : Fr} {W : WX} {i : Nat} : ∀ D σ H, rdS Φ K F XR W (.asg i e) D σ H → tAsg (rdE Φ K F XR W e) (gName i) D σ H := by
  rintro D σ H ⟨ρ, er, h⟩
  simp only [exS] at h
  refine ⟨ρ, er, ?_⟩
  have fin : ∀ (v : V) (d : M.D) (ρ1 : Env) (H1 : Hp), EnvR K F σ H1 ρ1 → Stp F σ H ρ H1 ρ1 → Rp K (vis F σ ρ1 H1) v d → i < ρ1.length → PostS K F XR W D σ H ρ (.nx (ρ1.set i (.val d))) → D.nx (σ.set i (some v)) H1 := fun v d ρ1 H1 er1 st1 rp hi q => by
    obtain ⟨w1, w2⟩ := er1.setA hi rp
    exact q _ _ w1 (Stq.set st1 w2)
  have inr : ∀ {ρ1 : Env} {x : Fl}, PostS K F XR W D σ H ρ (match ρ1[i]? with | some (.own (some _) _ _) => Fl.bad | some (.own none true _) => .bad | none => .bad | _ => x) → i < ρ1.length ∧ PostS K F XR W D σ H ρ x := fun {ρ1 x} q => by
    cases e : ρ1[i]? with
    | none => rw [e] at q; exact False.elim q
    | some s =>
      refine ⟨(List.getElem?_eq_some_iff.mp e).1, ?_⟩
      rw [e] at q
      cases s with
      | un => exact q
      | val d => exact q
      | own t lk c =>
        cases t with
        | some t => exact False.elim q
        | none =>
          cases lk with
          | true => exact False.elim q
          | false => exact q
  cases ee : ev Φ false e ρ with
  | bad => rw [ee] at h; exact h
  | exc x ρ1 => rw [ee] at h; exact fun cls d H' er st r => h cls d σ H' er st.q r
  | ok rv ρ1 =>
    rw [ee] at h
    simp only [R.fl_ok] at h
    obtain ⟨hi, h⟩ := inr h
    cases rv with
    | fresh c =>
      intro p o H1 hp ho er1 st1 h0 hc
      obtain ⟨w1, w2⟩ := er1.setO hi ho hc (er.fresh hp).1 h0
      exact h _ _ w1 (Stq.setF st1 hp w2)
    | v d =>
      intro v H1 er1 st1 r1
      exact fin v d ρ1 H1 er1 st1 r1 hi h
    | slot j =>
      intro v H1 er1 st1 r1
      simp only at h
      cases ef : frz ρ1 (.slot j) with
      | bad => rw [ef] at h; exact False.elim h
      | exc x ρ' => exact (frz_noexc ef).elim
      | ok d ρ2 =>
        rw [ef] at h
        simp only [R.fl_ok] at h
        obtain ⟨er2, st2, rp2⟩ := frz_ok (rv := .slot j) er1 r1 ef
        have hl : i < ρ2.length := by rw [← er2.len, er1.len]; exact hi
        exact fin v d ρ2 H1 er2 (st1.trans st2) rp2 hl h
end
end M

set_option Elab.async false
set_option linter.all false
set_option maxRecDepth 100000
set_option maxHeartbeats 4000000
/-! M: statements, one by one -/
namespace M
open PySem PySem.Spec PyProof.Rows L2
section
variable {X : Cx} {Φ : Phi} {XR : XRel} {t' a' b' c' e' : PE'} {a b c e : E} {pos px py pt p2 : Pos}
/-! ### name = e -/
def swapB (sc : Scope) (x : Str) (px : Pos) : PE' → Bool
  | .ListComp _ _ s p => decide (sc.names.lookup x = some .local) && px.line == p.line && !(s.names.any fun (n, k) => n == x && (k == .local || k == .cell))
  | _ => false
theorem sndS_asg {i : Nat} {x : Str} (hN : X.N.Nodup) (hi : X.N[i]? = some x) (hx : Loc X.env.scope x) (hf : X.fn x = true ∨ X.env.scope.names.lookup x = some .local) (hs : swapsWith e' (some (.Name x px)) pos.line X.env = pure false) (he : SndV X Φ XR e' e) :
    SndS X Φ XR (.Assign [.Name x px] e' pos) (.asg i e) := fun F W tk => PS_imp (ps_set hN hi hx (he F W tk) hs hf) asg_go
/-- y = x, the list's ownership handed on -/
theorem EnvR.give {K : PySem.W.Frag} {F : Fr} {σ : L2.St} {H : Hp} {ρ : Env} {j : Nat} {c : Cell} {p : Addr} {o : HO} (er : EnvR K F σ H ρ) (e : ρ[j]? = some (.own none false c)) (es : σ[j]? = some (some (.ref p))) (hp : H p = some o) :
    EnvR K (F.hide p) σ H (ρ.set j .un) ∧ vis (F.hide p) σ (ρ.set j .un) H = vis F σ ρ H := by
  have bk : ∀ {k : Nat} {s : Slot}, (ρ.set j .un)[k]? = some s → s ≠ .un → k ≠ j ∧ ρ[k]? = some s := fun {k s} h hs => by
    by_cases z : j = k
    · subst z
      by_cases hj : j < ρ.length
      · rw [List.getElem?_set_self hj] at h; exact absurd (Option.some.inj h).symm hs
      · rw [List.getElem?_eq_none (by simpa using hj)] at h; cases h
    · rw [List.getElem?_set_ne z] at h
      exact ⟨fun q => z q.symm, h⟩
  have hv : vis (F.hide p) σ (ρ.set j .un) H = vis F σ ρ H := by
    funext b
    unfold vis
    have iff : ((F.hide p).h b ∨ OA σ (ρ.set j .un) b) ↔ (F.h b ∨ OA σ ρ b) := by
      constructor
      · rintro ((h | rfl) | ⟨k, t, lk, c', h1, h2⟩)
        · exact .inl h
        · exact .inr ⟨j, none, false, c, e, es⟩
        · obtain ⟨_, h3⟩ := bk h1 (by intro z; cases z)
          exact .inr ⟨k, t, lk, c', h3, h2⟩
      · rintro (h | ⟨k, t, lk, c', h1, h2⟩)
        · exact .inl (.inl h)
        · by_cases z : j = k
          · subst z
            rw [es] at h2
            cases h2
            exact .inl (.inr rfl)
          · exact .inr ⟨k, t, lk, c', by rw [List.getElem?_set_ne z]; exact h1, h2⟩
    by_cases z : F.h b ∨ OA σ ρ b
    · rw [if_pos z, if_pos (iff.mpr z)]
    · rw [if_neg z, if_neg (fun q => z (iff.mp q))]
  refine ⟨⟨by rw [List.length_set]; exact er.len, fun k d h => ?_, fun k t lk c' h => ?_, fun k l t lk c1 t' lk' c2 q h1 h2 h3 h4 => ?_, fun b hb => ?_, er.keep, er.inn⟩, hv⟩
  · rw [hv]
    exact er.val k d (bk h (by intro z; cases z)).2
  · obtain ⟨hk, h'⟩ := bk h (by intro z; cases z)
    obtain ⟨q, o', a1, a2, a3, a4, a5, a6⟩ := er.own k t lk c' h'
    refine ⟨q, o', a1, a2, by rw [hv]; exact a3, fun z => z.elim a4 fun z => ?_, a5, a6⟩
    subst z
    exact hk (er.uniq k j t lk c' none false c q h' e a1 es)
  · exact er.uniq k l t lk c1 t' lk' c2 q (bk h1 (by intro z; cases z)).2 (bk h2 (by intro z; cases z)).2 h3 h4
  · rcases hb with hb | rfl
    · exact er.hid b hb
    · exact ⟨o, hp⟩
theorem sndS_mov {i j : Nat} {x y : Str} (hN : X.N.Nodup) (hi : X.N[i]? = some x) (hj : X.N[j]? = some y) (hx : Loc X.env.scope x) (hf : X.fn x = true ∨ X.env.scope.names.lookup x = some .local) (hv : Vis X.env.scope y) (hd : dbg y = true) :
    SndS X Φ XR (.Assign [.Name x px] (.Name y py) pos) (.mov i j) := fun F W tk => by
  unfold dbg at hd
  simp only [Bool.and_eq_true, Bool.not_eq_true'] at hd
  refine PS_imp (ps_set hN hi hx (pe_var (pos := py) hj hv hd.1 hd.2) rfl hf) ?_
  rintro D σ H ⟨ρ, er, h⟩
  simp only [exS] at h
  split at h
  case isTrue => exact False.elim h
  rename_i hij
  cases e : ρ[j]? with
  | none => simp only [e] at h; exact False.elim h
  | some s =>
    cases s with
    | un => simp only [e] at h; exact False.elim h
    | val d => simp only [e] at h; exact False.elim h
    | own t lk c =>
      cases t with
      | some t => simp only [e] at h; exact False.elim h
      | none =>
        cases lk with
        | true => simp only [e] at h; exact False.elim h
        | false =>
          simp only [e] at h
          obtain ⟨p, o, g1, g2, g3, g4, g5, g6⟩ := er.own j none false c e
          refine ⟨.ref p, g1, ?_⟩
          obtain ⟨er1, hv1⟩ := er.give e g1 g2
          have go : ∀ (hl : i < ρ.length), PostS X.K F XR W D σ H ρ (.nx ((ρ.set j .un).set i (.own none false c))) → gName i (.ref p) σ H D.nx := fun hl q => by
            obtain ⟨w1, w2⟩ := er1.setO (by rw [List.length_set]; exact hl) g2 (by rw [hv1]; exact g3) g4 (g6 rfl)
            exact q _ _ w1 ⟨fun b ob eb => w2 b ob (by rw [hv1]; exact eb), fun _ _ => rfl, fun b ob eb => ⟨ob, eb⟩⟩
          cases e2 : ρ[i]? with
          | none => rw [e2] at h; exact False.elim h
          | some s =>
            have hl := (List.getElem?_eq_some_iff.mp e2).1
            rw [e2] at h
            cases s with
            | un => exact go hl h
            | val d => exact go hl h
            | own t lk c =>
              cases t with
              | some t => exact False.elim h
              | none =>
                cases lk with
                | true => exact False.elim h
                | false => exact go hl h
theorem blockKind_fn {env : PySem.Env} (hk : env.scope.kind = .function) : env.blockKind = .function := by unfold PySem.Env.blockKind; rw [hk]; rfl
theorem swap_no {x : Str} {sc : Scope} (hk : X.env.scope.kind = .function) (hl : ∀ y, sc.names.lookup y = some .local → X.env.scope.names.lookup y = some .local) (hc : ∀ y, sc.names.lookup y = some .cell → X.env.scope.names.lookup y = some .cell) (hn : nmLoc sc x = true) (hd : ∀ a b c d e, e' ≠ .DictComp a b c d e) (hst : ∀ a b c d, e' ≠ .SetComp a b c d)
    (h : swapB sc x px e' = false) : swapsWith e' (some (.Name x px)) pos.line X.env = pure false := by
  cases e' with
  | ListComp e gs s p =>
    unfold swapB at h
    unfold swapsWith
    simp only [blockKind_fn hk]
    have hkk : X.env.kindOf x = X.env.scope.names.lookup x := rfl
    rw [hkk]
    unfold nmLoc at hn
    split at hn
    · rename_i z
      rw [hl x z]
      simp only [z, decide_true, Bool.true_and] at h
      simp only [PySem.Expr.pos]
      have : ((ScopeKind.function == ScopeKind.function && some NameKind.local == some NameKind.local) = true) := by decide
      rw [this, Bool.true_and, h]
    · rename_i z
      rw [hc x z]
      have : (some NameKind.cell == some NameKind.local) = false := by decide
      rw [this]
      simp
    · cases hn
  | SetComp a b c d => exact absurd rfl (hst a b c d)
  | DictComp a b c d e => exact absurd rfl (hd a b c d e)
  | _ => rfl
/-! ### a, b = x, y -/
theorem sndS_par {i j : Nat} {x y : Str} {kt k2 : Nat} (hc : X.calm = true) (hN : X.N.Nodup) (hi : X.N[i]? = some x) (hj : X.N[j]? = some y) (hij : i ≠ j) (hx : X.env.scope.names.lookup x = some .local) (hy : X.env.scope.names.lookup y = some .local)
    (hw : swappedStores [.Tuple [.Name x px, .Name y py] kt pt] (.Tuple [a', b'] k2 p2) X.env = pure (some [x, y])) (sa : notStar a' = true) (sb : notStar b' = true) (ha : SndV X Φ XR a' a) (hb : SndV X Φ XR b' b) :
    SndS X Φ XR (.Assign [.Tuple [.Name x px, .Name y py] kt pt] (.Tuple [a', b'] k2 p2) pos) (.par i j a b) := fun F W tk => by
  refine PS_imp (ps_par hc hN hi hj hij hx hy (pa_cons (ha F W tk) (pa_cons (hb F W tk) pa_nil (star_ok sb)) (star_ok sa)) hw) ?_
  rintro D σ H ⟨ρ, er, h⟩
  simp only [exS] at h
  refine ⟨ρ, er, PostS.flP er h fun x ρ1 v1 H1 er1 st1 r1 h1 => ?_⟩
  refine ⟨ρ1, er1, PostS.flP er1 h1 fun y ρ2 v2 H2 er2 st2 r2 h2 => ?_⟩
  by_cases tf : tgFree ρ2 (.t [i, j]) = true
  case neg => rw [if_neg tf] at h2; exact False.elim h2
  rw [if_pos tf] at h2
  have f1 := tgFree_at tf (i := i) (by simp [Tg.is])
  have f2 := tgFree_at tf (i := j) (by simp [Tg.is])
  obtain ⟨w1, w2⟩ := er2.setV f1 (r1.mono st2.same)
  obtain ⟨u1, u2⟩ := w1.setV (i := j) (by rw [List.getElem?_set_ne hij]; exact f2) (r2.mono w2)
  exact ⟨v1, v2, rfl, h2 _ _ u1 (Stq.set .refl (w2.trans u2))⟩
/-! ### a, b = e -/
theorem sndS_unp {is : List Nat} {k : Nat} {es : List PE'} (hw : swappedStores [.Tuple es k pt] e' X.env = pure none) (hs : swapsWith e' (some (.Tuple es k pt)) pos.line X.env = pure false) (hg : PG X (.Tuple es k pt) (gTg X.K (.t is))) (he : SndV X Φ XR e' e) :
    SndS X Φ XR (.Assign [.Tuple es k pt] e' pos) (.unp is e) := fun F W tk => by
  refine PS_imp (ps_asg (he F W tk) hg hs hw) ?_
  rintro D σ H ⟨ρ, er, h⟩
  simp only [exS] at h
  refine ⟨ρ, er, PostS.flP er h fun x ρ1 v1 H1 er1 st1 r1 h1 => ?_⟩
  by_cases tf : tgFree ρ1 (.t is) = true
  case neg => rw [if_neg tf] at h1; exact False.elim h1
  rw [if_pos tf] at h1
  cases ep : putTg ρ1 (.t is) x with
  | none => rw [ep] at h1; exact False.elim h1
  | some ρ3 =>
    rw [ep] at h1
    exact gTg_ok er1 tf r1 ep fun σ3 er3 le w => h1 _ _ er3 (Stq.set .refl le)
/-! ### s[k] = e -/
def rSetM (K : PySem.W.Frag) : TSet := fun o i v H Q => ∃ (Vi : Hp) (p : Addr) (c : Cell) (oo : HO) (k d : M.D) (c' : Cell), Same Vi H ∧ o = .ref p ∧ H p = some oo ∧ CellR K Vi c oo ∧ Rp K Vi i k ∧ Rp K Vi v d ∧ setC c k d = some c' ∧ ∀ o', CellR K Vi c' o' → Q (upd H p o')
theorem kv_map {K : PySem.W.Frag} {V0 : Hp} {k : Key} {v : V} {d : M.D} (r : Rp K V0 v d) : ∀ {kvs : List (Key × V)} {ps : List (Key × M.D)}, kvs.map (·.1) = ps.map (·.1) → Rps K V0 (kvs.map (·.2)) (ps.map (·.2)) →
    (kvs.map fun kv => if kv.1 = k then (kv.1, v) else kv).map (·.1) = (ps.map fun kv => if kv.1 = k then (kv.1, d) else kv).map (·.1) ∧ Rps K V0 ((kvs.map fun kv => if kv.1 = k then (kv.1, v) else kv).map (·.2)) ((ps.map fun kv => if kv.1 = k then (kv.1, d) else kv).map (·.2))
  | [], [], _, _ => ⟨rfl, .nil⟩
  | [], _ :: _, h, _ => by cases h
  | _ :: _, [], h, _ => by cases h
  | (k1, v1) :: kvs, (k2, d2) :: ps, h, hr => by
    simp only [List.map_cons, List.cons.injEq] at h
    obtain ⟨h1, h2⟩ := h
    subst h1
    cases hr with
    | cons r1 r2 =>
      obtain ⟨g1, g2⟩ := kv_map r h2 r2
      simp only [List.map_cons]
      by_cases hk : k1 = k
      · simp only [hk, if_true]
        exact ⟨by rw [g1], .cons r g2⟩
      · simp only [hk, if_false]
        exact ⟨by rw [g1], .cons r1 g2⟩
theorem kv_any {α β : Type} {k : Key} : ∀ {kvs : List (Key × α)} {ps : List (Key × β)}, kvs.map (·.1) = ps.map (·.1) → (kvs.any fun kv => decide (kv.1 = k)) = ps.any fun kv => decide (kv.1 = k)
  | [], [], _ => rfl
  | [], _ :: _, h => by cases h
  | _ :: _, [], h => by cases h
  | (k1, v1) :: kvs, (k2, d2) :: ps, h => by
    simp only [List.map_cons, List.cons.injEq] at h
    rw [List.any_cons, List.any_cons, h.1, kv_any h.2]
theorem kv_put {K : PySem.W.Frag} {V0 : Hp} {k : Key} {v : V} {d : M.D} {kvs : List (Key × V)} {ps : List (Key × M.D)} (r : Rp K V0 v d) (h : kvs.map (·.1) = ps.map (·.1)) (hr : Rps K V0 (kvs.map (·.2)) (ps.map (·.2))) : CellR K V0 (.d (putK ps k d)) (.dK (L2.putK kvs k v)) := by
  show (L2.putK kvs k v).map (·.1) = (putK ps k d).map (·.1) ∧ Rps K V0 ((L2.putK kvs k v).map (·.2)) ((putK ps k d).map (·.2))
  unfold L2.putK putK
  rw [kv_any h]
  split
  · exact kv_map r h hr
  · refine ⟨by rw [List.map_append, List.map_append, h]; rfl, ?_⟩
    rw [List.map_append, List.map_append]
    exact hr.app (.cons r .nil)
theorem set_M (hu : X.A.units + 1 < cLine) : PSet X (rSetM X.K) := by
  intro pins s σ H o i v ov iv u Q I ro ri rv h
  obtain ⟨Vi, p, c, oo, k, d, c', sm, rfl, hp, hc, rk, rd, e, q⟩ := h
  cases c with
  | l xs =>
    cases k with
    | int j =>
      cases rk
      obtain ⟨vs, rfl, r⟩ := hc.lst
      simp only [setC, Option.map_eq_some_iff] at e
      obtain ⟨n, e1, rfl⟩ := e
      exact set_list pins s σ H _ _ v ov iv u Q I ro ri rv ⟨p, vs, j, n, rfl, rfl, hp, by rw [r.len]; exact e1, q (.lst (vs.set n v)) (r.set rd n)⟩
    | _ => cases e
  | d kvs =>
    obtain ⟨vs, rfl, hk, r⟩ := hc.dct
    simp only [setC] at e
    have go : ∀ key : Key, toKey k = some key → i = kV key := fun key ek => by
      cases k <;> cases ek <;> cases rk <;> rfl
    cases ek : toKey k with
    | none => rw [ek] at e; cases e
    | some key =>
      rw [ek] at e
      simp only at e
      split at e
      · rename_i hz
        cases e
        obtain rfl := go key ek
        cases ro
        have hl : vs.length = kvs.length := by
          have := congrArg List.length hk
          simpa using this
        have h1000 : (1000 : Nat) ≤ sizeLine := by decide
        have hlt : vs.length < sizeLine := by omega
        exact d_setItem hu I (.k hp hlt) ri rv fun s' I' => ⟨_, I', q _ (kv_put rd hk r)⟩
      · cases e
theorem own_upd {K : PySem.W.Frag} {F : Fr} {XR : XRel} {W : WX} {σ : L2.St} {H : Hp} {ρ : Env} {D : Ends} {i : Nat} {t : Option Nat} {lk : Bool} {c c' : Cell} {p : Addr} {o' : HO} (er : EnvR K F σ H ρ) (e : ρ[i]? = some (.own t lk c)) (es : σ[i]? = some (some (.ref p)))
    (hc : CellR K (vis F σ ρ H) c' o') (h : PostS K F XR W D σ H ρ (.nx (ρ.set i (.own t lk c')))) : D.nx σ (upd H p o') := by
  obtain ⟨w1, w2, w3⟩ := own_write er e es hc
  exact h _ _ w1 w2.q
theorem sndS_set {i : Nat} {x : Str} {k' : PE'} {k : E} (hu : X.A.units + 1 < cLine) (hN : X.N[i]? = some x) (hv : Vis X.env.scope x) (hd : dbg x = true) (hk : SndV X Φ XR k' k) (he : SndV X Φ XR e' e) (hs : swapsWith e' (some (.Subscript (.Name x px) k' pt)) pos.line X.env = pure false) (hw : swappedStores [.Subscript (.Name x px) k' pt] e' X.env = pure none)
    (hsl : notSl k' = true) : SndS X Φ XR (.Assign [.Subscript (.Name x px) k' pt] e' pos) (.set i k e) := fun F W tk => by
  unfold dbg at hd
  simp only [Bool.and_eq_true, Bool.not_eq_true'] at hd
  refine PS_imp (ps_asg (he F W tk) (pg_sub (pe_var (pos := px) hN hv hd.1 hd.2) (hk F W tk) (set_M hu) (fun v => ?_)) hs hw) ?_
  · cases k' <;> first | rfl | simp [notSl] at hsl
  rintro D σ H ⟨ρ, er, h⟩
  simp only [exS] at h
  refine ⟨ρ, er, PostS.flP er h fun d ρ1 v1 H1 er1 st1 r1 h1 => ?_⟩
  cases es : ρ1[i]? with
  | none => rw [es] at h1; exact False.elim h1
  | some s =>
    cases s with
    | un => rw [es] at h1; exact False.elim h1
    | val d => rw [es] at h1; exact False.elim h1
    | own t lk c =>
      rw [es] at h1
      simp only at h1
      obtain ⟨p, o, g1, g2, g3, _⟩ := er1.own i t lk c es
      refine ⟨_, g1, ρ1, er1, PostS.fl er1 h1 fun rk ρ2 v2 H2 e2 er2 st2 r2 h2 => ?_⟩
      cases es2 : ρ2[i]? with
      | none => rw [es2] at h2; exact False.elim h2
      | some s =>
        cases s with
        | un => rw [es2] at h2; exact False.elim h2
        | val d => rw [es2] at h2; exact False.elim h2
        | own t lk c =>
          cases lk with
          | true => rw [es2] at h2; exact False.elim h2
          | false =>
            cases rk with
            | fresh c => rw [es2] at h2; exact False.elim h2
            | slot j => rw [es2] at h2; exact False.elim h2
            | v kd =>
              rw [es2] at h2
              simp only at h2
              obtain ⟨p', o', a1, a2, a3, _⟩ := er2.own i t false c es2
              rw [g1] at a1
              cases a1
              cases ec : setC c kd d with
              | none => rw [ec] at h2; exact False.elim h2
              | some c' =>
                rw [ec] at h2
                exact ⟨_, p, c, o', kd, d, c', vis_le, rfl, a2, a3, r2, r1.mono st2.same, ec, fun o'' hc => own_upd er2 es2 g1 hc h2⟩
end
end M

set_option Elab.async false
set_option linter.all false
set_option maxRecDepth 100000
set_option maxHeartbeats 4000000
/-! M: control -/
namespace M
open PySem PySem.Spec PyProof.Rows L2
section
variable {X : Cx} {Φ : Phi} {XR : XRel} {t' a' b' c' e' : PE'} {a b c e : E} {pos px py pt p2 : Pos} {st : PySem.Stmt} {sts sts2 : List PySem.Stmt} {s : S} {ss ss2 : Ss}
theorem sndS_ex (hs : swapsWith e' none pos.line X.env = pure false) (he : SndV X Φ XR e' e) : SndS X Φ XR (.Expr e' pos) (.ex e) := fun F W tk => by
  refine PS_imp (ps_expr (he F W tk) hs) ?_
  rintro D σ H ⟨ρ, er, h⟩
  simp only [exS] at h
  exact ⟨ρ, er, PostS.fl er h fun rk ρ2 v2 H2 e2 er2 st2 r2 h2 => h2 σ H2 er2 .refl⟩
theorem sndS_ret (he : SndV X Φ XR e' e) : SndS X Φ XR (.Return (some e') pos) (.ret e) := fun F W tk => by
  refine PS_imp (ps_ret (he F W tk)) ?_
  rintro D σ H ⟨ρ, er, h⟩
  simp only [exS] at h
  refine ⟨ρ, er, ?_⟩
  cases ee : ev Φ false e ρ with
  | bad => rw [ee] at h; exact h
  | exc x ρ1 => rw [ee] at h; exact fun cls d H' er st r => h cls d σ H' er st.q r
  | ok rv ρ1 =>
    rw [ee] at h
    simp only [R.fl_ok] at h
    cases rv with
    | fresh c => exact fun p o H1 hp ho er1 st1 h0 hc => h p o σ H1 hp ho er1 st1.q h0 hc
    | v d => exact fun v H1 er1 st1 r1 => h v σ H1 er1 st1.q r1
    | slot j => exact fun v H1 er1 st1 r1 => h v σ H1 er1 st1.q r1
theorem sndS_ret0 : SndS X Φ XR (.Return none pos) .ret0 := fun F W tk => by
  refine PS_imp ps_retN ?_
  rintro D σ H ⟨ρ, er, h⟩
  exact h .non σ H er .refl .non
theorem sndS_pass : SndS X Φ XR (.Pass pos) .pass := fun F W tk => by
  refine PS_imp ps_pass ?_
  rintro D σ H ⟨ρ, er, h⟩
  exact h σ H er .refl
theorem sndS_doc {x : Str} {j : Nat} : SndS X Φ XR (.Expr (.Constant (.str x) j px) pos) .pass := fun F W tk => by
  refine PS_imp ps_doc ?_
  rintro D σ H ⟨ρ, er, h⟩
  exact h σ H er .refl
theorem sndS_brk : SndS X Φ XR (.Break pos) .brk := fun F W tk => by
  refine PS_imp ps_break ?_
  rintro D σ H ⟨ρ, er, h⟩
  exact h σ H er .refl
theorem sndS_cont : SndS X Φ XR (.Continue pos) .cont := fun F W tk => by
  refine PS_imp ps_continue ?_
  rintro D σ H ⟨ρ, er, h⟩
  exact h σ H er .refl
theorem sndS_never : SndS X Φ XR st .never := fun F W tk => by
  refine PS_imp ps_never ?_
  rintro D σ H ⟨ρ, er, h⟩
  exact h
theorem sndSs_kill {is : List Nat} (h : SndSs X Φ XR sts ss) : SndSs X Φ XR sts (.cons (.kill is) ss) := fun F W tk => by
  refine PSs_imp (h F W tk) ?_
  rintro D σ H ⟨ρ, er, h⟩
  simp only [exSs, exS, Fl.next_nx] at h
  obtain ⟨w1, w2⟩ := er.killed is
  exact ⟨_, w1, PostS.shift h ⟨w2, fun _ _ => rfl, fun b o e => ⟨o, e⟩⟩⟩
theorem sndSs_nil : SndSs X Φ XR [] .nil := fun F W tk => by
  refine PSs_imp pss_nil ?_
  rintro D σ H ⟨ρ, er, h⟩
  exact h σ H er .refl
theorem PostS.next {K : PySem.W.Frag} {F : Fr} {W : WX} {σ : L2.St} {H : Hp} {ρ : Env} {D : Ends} {m : Fl} {f : Env → Fl} {G : L2.St → Hp → Prop} (h : PostS K F XR W D σ H ρ (m.next f)) (k : ∀ σ1 H1 ρ1, EnvR K F σ1 H1 ρ1 → PostS K F XR W D σ1 H1 ρ1 (f ρ1) → G σ1 H1) :
    PostS K F XR W { D with nx := G } σ H ρ m := by
  cases m with
  | nx ρ' => exact fun σ1 H1 er st => k σ1 H1 ρ' er (PostS.shift h st)
  | rt r ρ' => cases r <;> exact h
  | bk ρ' => exact h
  | ct ρ' => exact h
  | exc x ρ' => exact h
  | bad => exact h
theorem sndSs_cons (h1 : SndS X Φ XR st s) (h2 : SndSs X Φ XR sts ss) : SndSs X Φ XR (st :: sts) (.cons s ss) := fun F W tk => by
  refine PSs_imp (pss_cons (h1 F W tk) (h2 F W tk)) ?_
  rintro D σ H ⟨ρ, er, h⟩
  simp only [exSs] at h
  exact ⟨ρ, er, PostS.next h fun σ1 H1 ρ1 er1 q => ⟨ρ1, er1, q⟩⟩
/-- the test of a statement -/
theorem PostS.test {K : PySem.W.Frag} {F : Fr} {W : WX} {σ : L2.St} {H : Hp} {ρ : Env} {D : Ends} {m : R RV} {f : RV → Env → Fl} {Q : Bool → Hp → Prop} (h : PostS K F XR W D σ H ρ (m.fl f)) (hf : ∀ rv ρ, (∀ k, rv ≠ .v (.bool k)) → f rv ρ = .bad)
    (k : ∀ b ρ' H', EnvR K F σ H' ρ' → Stp F σ H ρ H' ρ' → PostS K F XR W D σ H' ρ' (f (.v (.bool b)) ρ') → Q b H') : PostT K F XR W σ H ρ m Q := by
  unfold PostT
  refine PostS.flG h fun rv ρ1 H1 e er st h1 => ?_
  by_cases hb : ∃ k, rv = .v (.bool k)
  · obtain ⟨b, rfl⟩ := hb
    exact ⟨b, rfl, k b ρ1 H1 er st h1⟩
  · rw [hf rv ρ1 (fun k e => hb ⟨k, e⟩)] at h1
    exact False.elim h1
theorem sndS_if (hc : SndT X Φ XR c' c) (ha : SndSs X Φ XR sts ss) (hb : SndSs X Φ XR sts2 ss2) : SndS X Φ XR (.If c' sts sts2 pos) (.if_ c ss ss2) := fun F W tk => by
  refine PS_imp (ps_if (hc F W tk) (ha F W tk) (hb F W tk)) ?_
  rintro D σ H ⟨ρ, er, h⟩
  simp only [exS] at h
  refine ⟨ρ, er, PostS.test h (fun rv ρ hn => ?_) fun k ρ1 H1 er1 st1 h1 => ?_⟩
  · split
    · exact absurd rfl (hn _)
    · exact absurd rfl (hn _)
    · rfl
  · cases k with
    | true => rw [if_pos rfl]; exact ⟨ρ1, er1, h1⟩
    | false => rw [if_neg Bool.false_ne_true]; exact ⟨ρ1, er1, h1⟩
theorem sndS_wh (hp : PassesOwn (model X.prog X.w) X.A X.env X.xe) (hc : SndT X Φ XR c' c) (hb : SndSs X Φ XR sts ss) : SndS X Φ XR (.While c' sts [] pos) (.wh c ss) := fun F W tk => by
  refine PS_imp (ps_while hp (hc F W tk) (hb F W tk)) ?_
  rintro D σ H ⟨ρ, er, h⟩
  simp only [exS] at h
  refine ⟨fun m σ H => ∃ ρ, EnvR X.K F σ H ρ ∧ PostS X.K F XR W D σ H ρ (loopW (fun ρ => ev Φ true c ρ) (fun ρ => exSs Φ ss ρ) m ρ), ⟨FUEL, ρ, er, h⟩, ?_⟩
  rintro m σ1 H1 ⟨ρ1, er1, h1⟩
  cases m with
  | zero => exact False.elim h1
  | succ m =>
    unfold loopW at h1
    refine ⟨ρ1, er1, PostS.test h1 (fun rv ρ hn => ?_) fun k ρ2 H2 er2 st2 h2 => ?_⟩
    · split
      · exact absurd rfl (hn _)
      · exact absurd rfl (hn _)
      · rfl
    cases k with
    | false => rw [if_neg Bool.false_ne_true]; exact h2 σ1 H2 er2 .refl
    | true =>
      rw [if_pos rfl]
      refine ⟨fun σ H => ∃ ρ, EnvR X.K F σ H ρ ∧ PostS X.K F XR W D σ H ρ (loopW (fun ρ => ev Φ true c ρ) (fun ρ => exSs Φ ss ρ) m ρ), fun σ' H' q => ⟨m, Nat.lt_succ_self m, q⟩, ρ2, er2, ?_⟩
      simp only at h2
      cases eb : exSs Φ ss ρ2 with
      | nx ρ3 => rw [eb] at h2; exact fun σ3 H3 er3 st3 => ⟨ρ3, er3, PostS.shift h2 st3⟩
      | ct ρ3 => rw [eb] at h2; exact fun σ3 H3 er3 st3 => ⟨ρ3, er3, PostS.shift h2 st3⟩
      | bk ρ3 => rw [eb] at h2; exact h2
      | rt r ρ3 => rw [eb] at h2; cases r <;> exact h2
      | exc x ρ3 => rw [eb] at h2; exact h2
      | bad => rw [eb] at h2; exact h2
theorem sndS_for {tg : Tg} {sr : Src} (hp : PassesOwn (model X.prog X.w) X.A X.env X.xe) (hc : X.calm = true) (hi : SndI X Φ XR t' e' sr) (hg : PG X t' (gTg X.K tg)) (hb : SndSs X Φ XR sts ss) (hs : ∀ x, foldedSetIterable e' X.env x = pure x) :
    SndS X Φ XR (.For t' e' sts [] pos) (.for_ tg sr ss) := fun F W tk => by
  refine PS_imp (ps_for hp hc (hi F W tk) hg (hb F W tk) hs) ?_
  rintro D σ H ⟨ρ, er, h⟩
  simp only [exS] at h
  refine ⟨ρ, er, PostS.flG h fun xs ρ1 H1 e1 er1 st1 h1 => ?_⟩
  intro J hJ
  by_cases tf : tgFree ρ1 tg = true
  case neg => rw [if_neg tf] at h1; exact False.elim h1
  rw [if_pos tf] at h1
  let Iv : Nat → L2.St → Hp → Prop := fun i σ2 H2 => i ≤ xs.length ∧ ∃ ρ2, EnvR X.K F σ2 H2 ρ2 ∧ tgFree ρ2 tg = true ∧ Same (vis F σ ρ1 H1) (vis F σ2 ρ2 H2) ∧ PostS X.K F XR W D σ2 H2 ρ2 (loopF tg (fun ρ => exSs Φ ss ρ) (xs.drop i) ρ2)
  refine ⟨fun i m σ2 H2 => m = xs.length - i ∧ Iv i σ2 H2, ⟨xs.length, rfl, Nat.zero_le _, ρ1, er1, tf, fun _ _ z => z, h1⟩, ?_⟩
  rintro i m σ2 H2 ⟨rfl, hle, ρ2, er2, tf2, sm2, h2⟩
  have sJ : Same (vis F σ ρ1 H1) H2 := sm2.trans vis_le
  by_cases hlt : i < xs.length
  case neg =>
    have hi : i = xs.length := by omega
    subst hi
    rw [List.drop_length] at h2
    exact .inl ⟨hJ.stop _ _ sJ rfl, h2 σ2 H2 er2 .refl⟩
  case pos =>
    have hx : xs[i]? = some xs[i] := List.getElem?_eq_getElem hlt
    refine .inr ⟨hJ.go _ _ sJ hlt, Iv (i + 1), fun σ' H' q => ⟨xs.length - (i + 1), by omega, rfl, q⟩, ?_⟩
    intro x H3 hy
    rw [List.drop_eq_getElem_cons hlt] at h2
    unfold loopF at h2
    cases ep : putTg ρ2 tg xs[i] with
    | none => rw [ep] at h2; exact False.elim h2
    | some ρ3 =>
    rw [ep] at h2
    simp only at h2
    have key : ∃ (er3 : EnvR X.K F σ2 H3 ρ2), Stq F σ2 H2 ρ2 σ2 H3 ρ2 ∧ Rp X.K (vis F σ2 ρ2 H3) x xs[i] := by
      rcases hJ.yld i H2 x H3 _ sJ hx hy with ⟨rfl, r⟩ | ⟨p, vs, dd, hp, rfl, rfl, ed, r⟩
      · exact ⟨er2, .refl, r.mono sm2⟩
      · refine ⟨er2.newV (o := .tup vs) hp, (Stp.new er2 hp).q, ?_⟩
        rw [ed]
        exact .tup (.inl (.inl (er2.newAt hp))) ((r.mono sm2).mono (vis_new hp))
    obtain ⟨er3, st3, rx⟩ := key
    refine gTg_ok er3 tf2 rx ep fun σ4 er4 le4 w4 => ⟨ρ3, er4, ?_⟩
    have st4 : Stq F σ2 H2 ρ2 σ4 H3 ρ3 := st3.trans (Stq.set .refl le4)
    have h4 := PostS.shift h2 st4
    have cont : ∀ ρ5 σ5 H5, EnvR X.K F σ5 H5 ρ5 → Stq F σ4 H3 ρ3 σ5 H5 ρ5 → PostS X.K F XR W D σ4 H3 ρ3 (if tgFree ρ5 tg = true then loopF tg (fun ρ => exSs Φ ss ρ) (xs.drop (i + 1)) ρ5 else .bad) → Iv (i + 1) σ5 H5 := fun ρ5 σ5 H5 er5 st5 q => by
      by_cases tf5 : tgFree ρ5 tg = true
      · rw [if_pos tf5] at q
        exact ⟨hlt, ρ5, er5, tf5, (sm2.trans st4.same).trans st5.same, PostS.shift q st5⟩
      · rw [if_neg tf5] at q; exact False.elim q
    cases eb : exSs Φ ss ρ3 with
    | nx ρ5 => rw [eb] at h4; exact fun σ5 H5 er5 st5 => cont ρ5 σ5 H5 er5 st5 h4
    | ct ρ5 => rw [eb] at h4; exact fun σ5 H5 er5 st5 => cont ρ5 σ5 H5 er5 st5 h4
    | bk ρ5 => rw [eb] at h4; exact h4
    | rt r ρ5 => rw [eb] at h4; cases r <;> exact h4
    | exc x ρ5 => rw [eb] at h4; exact h4
    | bad => rw [eb] at h4; exact h4
end
end M

set_option Elab.async false
set_option linter.all false
set_option maxRecDepth 100000
set_option maxHeartbeats 4000000
/-! M: exceptions of the program's own classes: rules beside HandS -/
namespace M
open PySem PySem.Spec PyProof.Rows L2
/-! ### isinstance of an exception that has its own dict -/
section
open PySem.W PySem.Calls
variable {prog : Program} {w : World} {A : Around} {E : Value → Shared → Prop} {s : Shared} {K : Frag} {x D : Addr} {ox od : Obj}
theorem kin_classD {Q : Option Value → Shared → Prop} (hga : findIn K (.ref D) "__getattribute__" = some (some (.builtin "BaseException.__getattribute__"))) (hgt : findIn K (.ref D) "__getattr__" = some none) (hsub : subIn K (.ref D) (.type "BaseException") = some true)
    (hdct : hasDictIn K D = true) (ha : findIn K (.ref D) "__class__" = some (some (.builtin "object.__class__")))
    (hn : specialIn K (.builtin "object.__class__") "__get__" = some (some (.builtin "getset_descriptor.__get__"))) (htk : takesIn K (.builtin "object.__class__") = some true) (hm : mroIn K D (.type "object") = some true)
    (X : K.In s.heap) (I : InstAt s.heap x ox D (some od)) (h : Q (some (.ref D)) { s with toks := s.toks + 1 }) : wpAny (model prog w) A (getAttr? (.ref x) "__class__") Q E s := by
  have hf : findObj K D (some od) "__class__" = some (.bind (.builtin "getset_descriptor.__get__") (.builtin "object.__class__")) := findObj_data (by obtain ⟨cd, hc, _⟩ := any_some hdct; rw [hc]; rfl) ha hn htk
  obtain ⟨hp, g, d, t, os⟩ := s
  have L0 := I.type (M := model prog w)
  have L1 := looks_findIn (M := model prog w) X hga
  have L2 := looks_findIn (M := model prog w) X hgt
  have L3 := looks_find (M := model prog w) X I hf
  have sub : Looks (model prog w) hp (isInstance (.ref x) (.type "BaseException")) true := L0.andThen (looks_subIn X hsub)
  have hx0 : (false && onTheHeap (Value.builtin "BaseException.__getattribute__")) = false := rfl
  have hx2 : (Value.builtin "BaseException.__getattribute__" == Value.builtin "object.__getattribute__") = false := by decide +kernel
  have hx1 : (onTheHeap (Value.ref D) && Value.builtin "BaseException.__getattribute__" == Value.builtin "object.__getattribute__") = false := by rw [hx2]; rfl
  unfold getAttr? getAttrBy? getAttrBy
  refine wpAny_bind (wpAny_mkText (wpAny_bind (wpAny_attempt (wpAny_holding (wpAny_bind (L0.at (wpAny_bind (L1.at ?_))))))))
  show wpAny _ _ (if (onTheHeap (Value.ref D) && Value.builtin "BaseException.__getattribute__" == Value.builtin "object.__getattribute__") = true then _ else _) _ _ _
  rw [hx1, if_neg Bool.false_ne_true]
  unfold getAttrByItsOwn hookBefore
  refine wpAny_bind ?_
  rw [if_pos (show onTheHeap (Value.ref D) = true from rfl)]
  refine L2.at ?_
  refine wpAny_bind (wpAny_attempt (wpAny_holding ?_))
  unfold callGetattribute
  rw [hx0, if_neg Bool.false_ne_true]
  unfold boundAndCalled
  rw [PySem.F.excAttr_ValueError.ga.bind (.ref x)]
  refine wpAny_bind (wpAny_pure ?_)
  show wpAny _ _ (call (.builtin "BaseException.__getattribute__") [.ref x, .str "__class__" t]) _ _ _
  refine wpAny_call (codeAny_call_builtin PySem.F.excAttr_ValueError.ga.plain PySem.F.entry_bexc_ga ?_)
  refine @check_slot (model prog w) _ _ ⟨hp, g, d, t + 1, os⟩ "BaseException.__getattribute__" "BaseException" "__getattribute__" (.ref x) [.str "__class__" t] [] _ (by decide +kernel) (by decide +kernel) sub (PySem.F.args_bexc_ga (.ref x) (.str "__class__" t)) ?_
  unfold Builtin.«object.__getattribute__»
  refine wpAny_bind (wpAny_of_eq (a := ((Value.ref x : Value), [Value.str "__class__" t])) (by first | rfl | (simp only [slotArgs]; rfl)) ?_)
  refine wpAny_bind (wpAny_pure (wpAny_bind (L0.at (wpAny_bind (L3.at ?_)))))
  show wpAny _ _ (holding [Value.builtin "object.__class__"] (call (.builtin "getset_descriptor.__get__") [.builtin "object.__class__", .ref x, .ref D]) >>= ret) _ _ _
  refine wpAny_bind (wpAny_holding (wpAny_call (class_get (s := ⟨hp, g, d, t + 1, os⟩) (ox := ox) (od := some od) X I hm ?_)))
  refine wpAny_pure ?_
  show wpAny _ _ (handedOut (.ref D)) _ _ _
  rw [handedOut_of (v := .ref D) rfl]
  first
    | exact wpAny_pure (wpAny_pure h)
    | exact wpAny_pure h
    | exact wpAny_pure (wpAny_bind (wpAny_pure (wpAny_pure h)))
theorem kitx_excD (C : ExcC K D) : KitX K (.ref x) (.ref D) (fun h => InstAt h x ox D (some od)) where
  ty := fun _ _ _ I => I.type
  it := fun _ _ X _ => by
    obtain ⟨cdD, hcD, _⟩ := any_some C.hd
    unfold clsIn at hcD
    split at hcD
    · rename_i c' d' cd' sl' ho
      intro A' Q' E' s' k q
      unfold isType loadHead
      exact wpAny_bind (wpAny_loadPart (k _ _ (X _ _ ho)) (wpAny_pure q))
    · cases hcD
  ne := fun h tp dd its n sl X htp => by
    obtain ⟨cdD, hcD, _⟩ := any_some C.hd
    refine Bool.eq_false_iff.mpr fun q => ?_
    have e : D = tp := Value.ref.inj (beq_iff_eq.mp q)
    subst e
    unfold clsIn at hcD
    split at hcD
    · rename_i c' d' cd' sl' ho
      have z := (X _ _ ho).symm.trans htp
      cases z
    · cases hcD
  ca := fun X I k => kin_classD C.hg C.hk C.hs C.hd C.ha C.hn C.ht C.hm X I k
end
section
variable {X : Cx} {a D dd : Addr} {oe : Obj} {pn : List (Addr × Obj)}
/-- the exception of the suite, as it stands -/
theorem inst_at {pins : List (Addr × Obj)} {σ : L2.St} {H : Hp} {s : Shared} {fs : List (Str × V)} (I : Inv (X.suite a ((a, oe) :: pn)) pins σ H s) (hz : Zc (.ref D) (some dd) oe) (hf : ∃ vs, oe.data = .fields vs) (hd : H dd = some (.xd fs)) :
    ∃ od, PySem.W.InstAt s.heap a oe D (some od) := by
  obtain ⟨hget, _⟩ := I.pin (a, oe) (List.mem_append.mpr (.inl List.mem_cons_self))
  obtain ⟨vs, hv⟩ := hf
  have hx : ObjOk X.prog X.w H s.heap dd (.xd fs) := I.hok dd _ hd
  obtain ⟨mA, hns, hr⟩ := hx
  obtain ⟨od, ho, hl⟩ := lookIn_ns hns
  exact ⟨od, hget, hz.1, by unfold PySem.W.notCls; rw [hv] <;> rfl, by rw [hz.2]; exact ho⟩
/-- isinstance(e, c), e the exception that the suite holds -/
def rIsD (K : PySem.W.Frag) (D a dd : Addr) : List V → Hp → VK → Prop := fun xs H Q => ∃ (c : V) (cv : Value) (b : Bool) (fs : List (Str × V)), xs = [.ref a, c] ∧ ClsV c cv ∧ H dd = some (.xd fs) ∧ PySem.W.kitOne K (.ref D) cv = some b ∧ Q (.bl b) H
theorem call_isD (C : ExcC X.K D) (hz : Zc (.ref D) (some dd) oe) (hf : ∃ vs, oe.data = .fields vs) : CallR (X.suite a ((a, oe) :: pn)) (.builtin "isinstance") (rIsD X.K D a dd) := by
  intro pins s σ H xs us Q I r h
  obtain ⟨c, cv, b, fs, rfl, hcv, hd, e, q⟩ := h
  cases r with
  | cons rx rr =>
    cases rr with
    | cons rt rr =>
      cases rr
      cases rx
      have ec := hcv.eq rt
      subst ec
      obtain ⟨od, J⟩ := inst_at I hz hf hd
      exact PySem.W.kia_one (kitx_excD C) I.kIn J e (fun z => nomatch z) fun tk => ⟨.bl b, H, I.kept (t' := tk) fun _ _ z => z, rfl, q⟩
def rIsDT (K : PySem.W.Frag) (D a dd : Addr) : List V → Hp → VK → Prop := fun xs H Q => ∃ (tp : Addr) (cs : List V) (us : List Value) (b : Bool) (fs : List (Str × V)), xs = [.ref a, .ref tp] ∧ H tp = some (.tup cs) ∧ Paired ClsV cs us ∧ H dd = some (.xd fs) ∧ PySem.W.kitAny K (.ref D) us = some b ∧ Q (.bl b) H
theorem call_isDT (C : ExcC X.K D) (hz : Zc (.ref D) (some dd) oe) (hf : ∃ vs, oe.data = .fields vs) : CallR (X.suite a ((a, oe) :: pn)) (.builtin "isinstance") (rIsDT X.K D a dd) := by
  intro pins s σ H xs us Q I r h
  obtain ⟨tp, cs, ws, b, fs, rfl, hT, k, hd, e, q⟩ := h
  obtain ⟨u1, u2, rfl, r1, r2⟩ := vals2 r
  cases (show u2 = Value.ref tp from r2)
  cases (show u1 = Value.ref a from r1)
  obtain ⟨od, J⟩ := inst_at I hz hf hd
  obtain ⟨_, its, rv, o, h1, h2, n, h3⟩ := (show ObjOk X.prog X.w H s.heap tp (.tup cs) from I.hok tp _ hT)
  have e3 := ClsV.all k rv
  subst e3
  obtain ⟨oc, od', dt, sl⟩ := o
  simp only at h2 h3
  subst h2 h3
  exact PySem.W.kia_tup (kitx_excD C) I.kIn J h1 e (fun z => nomatch z) fun tk => ⟨.bl b, H, I.kept (t' := tk) fun _ _ z => z, rfl, q⟩
end
/-! ### Base.__init__(self, ..), Base an own class that has ValueError's -/
section
variable {X : Cx} {e : Expr} {es : List Expr} {ta : TA} {p1 p2 pos : Pos} {x : Str} {P : Addr} {mc : Value}
structure BaseC (K : PySem.W.Frag) (P : Addr) : Prop where
  ga : PySem.W.specialIn K (.ref P) "__getattribute__" = some (some (.builtin "type.__getattribute__"))
  rd : PySem.W.readsIn K P (.type "type") = true
  at_ : PySem.W.findCls K (.ref P) (.type "type") "__init__" = some (.val (.builtin "ValueError.__init__"))
end
end M

set_option Elab.async false
set_option linter.all false
set_option maxRecDepth 100000
set_option maxHeartbeats 4000000
/-! M: exceptions: the classes, raise -/
namespace M
open PySem PySem.Spec PyProof.Rows L2
/-- a class of the program: its name; the fields of its instances where it is raised -/
structure EC where
  name : Str
  fs : List Str
/-! ### an own __init__ -/
def spInit (K : PySem.W.Frag) (C : Addr) (fs : List Str) : Sp := fun vs H Q _ => ∃ (a : Addr) (ws : List V), vs = .ref a :: ws ∧ ws.length = fs.length ∧ OexC K C ∧ (∀ f ∈ fs, PySem.W.findIn K (.ref C) f = some none) ∧ H a = some (exo a C none) ∧
  ∀ (dx : Addr) (H' : Hp), H dx = none → dx ≠ a → H' a = some (exo a C (some dx)) → H' dx = some (exd dx (fs.zip ws).reverse) → (∀ b, b ≠ a → b ≠ dx → H' b = H b) → Q .non H'
theorem dbg1 {x : Str} (h : dbg x = true) : (x == ("__debug__" : Str)) = false ∧ (x == ("__classdict__" : Str)) = false := by
  unfold dbg at h
  simpa only [Bool.and_eq_true, Bool.not_eq_true'] using h
section
variable {P : Program} {w : World} {K : PySem.W.Frag} {mg : Str → Option Value} {base : Heap}
end
/-! ### the classes -/
/-- what a raised class must be -/
structure RClass (K : PySem.W.Frag) (mg : Str → Option Value) (e : EC) (C : Addr) : Prop where
  at_ : mg e.name = some (.ref C)
  oex : OexC K C
  xf : XfC K C
  ec : ExcC K C
  no : ∀ f ∈ e.fs, PySem.W.findIn K (.ref C) f = some none
  nd : e.fs.Nodup
  sm : e.fs.length ≤ 100
  ve : PySem.W.kitOne K (.ref C) (.type "ValueError") = some true
  init : ∃ fI fd, PySem.W.findIn K (.ref C) "__init__" = some (some (.ref fI)) ∧ PySem.W.typeIn K (.ref fI) = some (.type "function") ∧ Binds K fd ("self" :: e.fs) [] ∧
    ∀ (P : Program) (w : World) (base : Heap), FnOk P w K mg base CX0 1 fI fd ("self" :: e.fs) (spInit K C e.fs)
structure ModC (K : PySem.W.Frag) (mg : Str → Option Value) (ec : List EC) : Prop where
  named : ∀ (j : Nat) e, ec[j]? = some e → ∃ C, mg e.name = some (.ref C)
  raised : ∀ (j : Nat) e C, ec[j]? = some e → e.fs ≠ [] → mg e.name = some (.ref C) → RClass K mg e C
  pair : ∀ (i j : Nat) ei ej Ci Cj, ec[i]? = some ei → ec[j]? = some ej → ei.fs ≠ [] → mg ei.name = some (.ref Ci) → mg ej.name = some (.ref Cj) →
    PySem.W.exmOne K (.ref Ci) (.ref Cj) = some (decide (j = 0) || decide (i = j)) ∧ PySem.W.kitOne K (.ref Ci) (.ref Cj) = some (decide (j = 0) || decide (i = j))
/-- an exception of M is that object -/
def XRof (K : PySem.W.Frag) (mg : Str → Option Value) (ec : List EC) : XRel := fun x cls d Vi => ∃ (e : EC) (C dd : Addr) (fs : List (Str × V)), ec[x.cls]? = some e ∧ e.fs ≠ [] ∧ mg e.name = some (.ref C) ∧ cls = .ref C ∧ d = some dd ∧ Vi dd = some (.xd fs) ∧
  ∀ f y, x.fs.lookup f = some y → ∃ v, fs.lookup f = some v ∧ Rp K Vi v y ∧ f ∈ e.fs
theorem XRof_mono {K : PySem.W.Frag} {mg : Str → Option Value} {ec : List EC} : ∀ x cls d V0 V1, Same V0 V1 → XRof K mg ec x cls d V0 → XRof K mg ec x cls d V1 := by
  rintro x cls d V0 V1 s ⟨e, C, dd, fs, h1, h0, h2, h3, h4, h5, h6⟩
  exact ⟨e, C, dd, fs, h1, h0, h2, h3, h4, s _ _ h5, fun f y hy => let ⟨v, g1, g2, g3⟩ := h6 f y hy; ⟨v, g1, g2.mono s, g3⟩⟩
theorem nodup_rev {l : List Str} (h : l.Nodup) : l.reverse.Nodup := by
  unfold List.Nodup at h ⊢
  rw [List.pairwise_reverse]
  exact h.imp (fun z => Ne.symm z)
theorem lookup_rev {f : Str} {v : V} : ∀ {l : List (Str × V)}, (l.map (·.1)).Nodup → (f, v) ∈ l → l.lookup f = some v
  | [], _, h => by cases h
  | (g, u) :: l, nd, h => by
    rw [List.map_cons, List.nodup_cons] at nd
    rcases List.mem_cons.mp h with e | h
    · cases e; simp [List.lookup]
    · have hg : f ≠ g := fun z => nd.1 (by rw [← z]; exact List.mem_map.mpr ⟨_, h, rfl⟩)
      have : (f == g) = false := by simpa using hg
      rw [List.lookup_cons, this]
      exact lookup_rev nd.2 h
theorem zip_look {K : PySem.W.Frag} {H : Hp} {f : Str} {y : D} : ∀ {fs : List Str} {ws : List V} {ds : List D}, Rps K H ws ds → (fs.zip ds).lookup f = some y → ∃ v, (f, v) ∈ fs.zip ws ∧ Rp K H v y ∧ f ∈ fs
  | [], _, _, _, h => by simp at h
  | g :: fs, [], [], .nil, h => by simp at h
  | g :: fs, v :: ws, d :: ds, .cons r rs, h => by
    rw [List.zip_cons_cons, List.lookup_cons] at h
    cases e : f == g with
    | true =>
      rw [e] at h
      cases h
      have : f = g := by simpa using e
      subst this
      exact ⟨v, by simp, r, List.mem_cons_self⟩
    | false =>
      rw [e] at h
      obtain ⟨v', h1, h2, h3⟩ := zip_look rs h
      exact ⟨v', by rw [List.zip_cons_cons]; exact List.mem_cons_of_mem _ h1, h2, List.mem_cons_of_mem _ h3⟩
theorem zipw_fst : ∀ {fs : List Str} {ws : List V}, ws.length = fs.length → (fs.zip ws).map (·.1) = fs
  | [], [], _ => rfl
  | [], _ :: _, h => by simp at h
  | _ :: _, [], h => by simp at h
  | f :: fs, w :: ws, h => by simp [zipw_fst (fs := fs) (ws := ws) (by simpa using h)]
section
variable {X : Cx} {Φ : Phi} {k : Nat} {ec : List EC}
theorem sndS_raise {nm : Str} {fs : List Str} {e1 : PE'} {es' : List PE'} {es : Es} {p pos pos2 : Pos} (hc : X.calm = true) (hr : Room 2 X.A) (M : ModC X.K X.mg ec) (he : ec[k]? = some ⟨nm, fs⟩) (hfs : fs ≠ []) (gl : Gl X nm) (hd : dbg nm = true) (sa : (e1 :: es').all notStar = true)
    (hes : SndD X Φ (XRof X.K X.mg ec) (e1 :: es') es) : SndS X Φ (XRof X.K X.mg ec) (.Raise (some (.Call (.Name nm p) (e1 :: es') [] pos)) none pos2) (.raise_ k fs es) := fun F W tk => by
  obtain ⟨C, hC⟩ := M.named k _ he
  have R := M.raised k _ C he hfs hC
  obtain ⟨fI, fd, i1, i2, i3, i4⟩ := R.init
  rw [List.all_cons, Bool.and_eq_true] at sa
  refine PS_imp (ps_raise hc tk (pmk_oex R.oex i1 i2 (i4 X.prog X.w X.base) hr i3 .nil pass0 gl R.at_ (hes F W tk) (dbg1 hd).1 (star_ok sa.1) (stars_any sa.2))) ?_
  rintro D σ H ⟨ρ, er, h⟩
  simp only [exS, raiseR] at h
  refine ⟨ρ, er, PostS.flG h fun ds ρ1 H1 e1 er1 st1 h1 => ?_⟩
  intro vs rv
  by_cases z : ds.length = fs.length
  · rw [if_pos z] at h1
    have hl : vs.length = fs.length := rv.len.trans z
    refine ⟨?_, fun a ha => ⟨a, vs, by simp, hl, R.oex, R.no, upd_same, fun dx H2 hdx hne e1 e2 e3 => ?_⟩⟩
    · rw [hl]; have := R.sm; exact Nat.le_trans this (by decide)
    have hdx' : H1 dx = none := by rw [upd_ne hne] at hdx; exact hdx
    refine ⟨rfl, dx, _, e1, e2, hdx', ?_⟩
    have eH : upd (del H2 a) dx (.xd (fs.zip vs).reverse) = upd H1 dx (.xd (fs.zip vs).reverse) := by
      funext b
      by_cases hb : b = dx
      · rw [hb, upd_same, upd_same]
      · rw [upd_ne hb, upd_ne hb]
        by_cases hba : b = a
        · rw [hba, del_same, ha]
        · rw [del_ne hba, e3 b hba hb, upd_ne hba]
    rw [eH]
    refine h1 _ _ σ _ (er1.newV hdx') (Stp.new er1 hdx').q ⟨⟨nm, fs⟩, C, dx, _, he, hfs, hC, rfl, rfl, er1.newAt hdx', fun f y hy => ?_⟩
    obtain ⟨v, g1, g2, g3⟩ := zip_look rv hy
    exact ⟨v, lookup_rev (by rw [List.map_reverse, zipw_fst hl]; exact nodup_rev R.nd) (List.mem_reverse.mpr g1), g2.mono (vis_new hdx'), g3⟩
  · rw [if_neg z] at h1; exact False.elim h1
end
end M

set_option Elab.async false
set_option linter.all false
set_option maxRecDepth 100000
set_option maxHeartbeats 4000000
/-! M: within an except suite -/
namespace M
open PySem PySem.Spec PyProof.Rows L2
abbrev W0 : WX := fun _ _ _ _ => False
/-- the exception's fields, as they are in the heap V0 -/
structure FsV where
  l : List (Str × V)
  V0 : Hp
/-- what stays known in a suite: the exception's slot, its dict -/
def SU (F : Fr) (i : Option Nat) (a dd : Addr) (fs : FsV) (σ : L2.St) (H : Hp) (ρ : Env) : Prop := (∀ j, i = some j → σ[j]? = some (some (.ref a))) ∧ vis F σ ρ H dd = some (.xd fs.l) ∧ Same fs.V0 (vis F σ ρ H)
theorem SU.stp {F : Fr} {i : Option Nat} {a dd : Addr} {fs : FsV} {σ : L2.St} {H H' : Hp} {ρ ρ' : Env} (s : SU F i a dd fs σ H ρ) (st : Stp F σ H ρ H' ρ') : SU F i a dd fs σ H' ρ' := ⟨s.1, st.same _ _ s.2.1, s.2.2.trans st.same⟩
/-- what a suite is given -/
structure SuX (X : Cx) (ec : List EC) (x : Exc) (a : Addr) (oe : Obj) (C dd : Addr) (fs : FsV) : Prop where
  e : ∃ e, ec[x.cls]? = some e ∧ e.fs ≠ [] ∧ X.mg e.name = some (.ref C) ∧ ∀ f y, x.fs.lookup f = some y → ∃ v, fs.l.lookup f = some v ∧ Rp X.K fs.V0 v y ∧ f ∈ e.fs
  hz : Zc (.ref C) (some dd) oe
  hf : ∃ vs, oe.data = .fields vs
  mc : ModC X.K X.mg ec
  isi : X.mg "isinstance" = none
  ve : X.mg "ValueError" = none
section
variable (x : Exc) (K : PySem.W.Frag) (F : Fr) (XR : XRel) (i : Option Nat) (a dd : Addr) (fs : FsV)
def rdH (e : HE) : TE := fun σ H Q => ∃ ρ, EnvR K F σ H ρ ∧ SU F i a dd fs σ H ρ ∧ Post K F XR W0 σ H ρ (evH x e ρ) Q
def rdHT (e : HE) : TT := fun σ H Q => ∃ ρ, EnvR K F σ H ρ ∧ SU F i a dd fs σ H ρ ∧ PostT K F XR W0 σ H ρ (evH x e ρ) Q
def rdHA (as : List HA) : TA := fun σ H Q => ∃ ρ, EnvR K F σ H ρ ∧ SU F i a dd fs σ H ρ ∧ PostG K F XR W0 σ H ρ (evAs x as ρ) fun ds ρ' H' => ∀ vs, Rps K (vis F σ ρ' H') vs ds → Q vs H'
end
section
variable {X : Cx} {ec : List EC} {x : Exc} {F : Fr} {XR : XRel} {i : Option Nat} {a C dd : Addr} {oe : Obj} {fs : FsV} {pn : List (Addr × Obj)} {pos p p1 p2 : Pos} {he ha hb : HE} {a' b' c' : PE'}
theorem h_const {d : D} {k : Const} {j : Nat} (h : chkC d k = true) : PE (X.suite a ((a, oe) :: pn)) (.Constant k j pos) (rdH x X.K F XR i a dd fs (.at_ (.c d))) := by
  refine PE_imp (snd_const (X := (X.suite a ((a, oe) :: pn))) (Φ := fun _ _ => .bad) (XR := XR) h F W0 (fun _ _ h => by obtain ⟨_, _, _, _, _, _, _, _, _, _, _, _, _, _, _, _, z⟩ := h; exact z.elim)) ?_
  rintro σ H Q ⟨ρ, er, su, h⟩
  refine ⟨ρ, er, ?_⟩
  simp only [ev, tst_false]
  exact h
theorem h_var {j : Nat} {y : Str} (hN : X.N[j]? = some y) (hv : Vis X.env.scope y) (hd : dbg y = true) : PE (X.suite a ((a, oe) :: pn)) (.Name y pos) (rdH x X.K F XR i a dd fs (.at_ (.v j))) := by
  refine PE_imp (snd_var (X := (X.suite a ((a, oe) :: pn))) (Φ := fun _ _ => .bad) (XR := XR) hN hv hd F W0 (fun _ _ h => by obtain ⟨_, _, _, _, _, _, _, _, _, _, _, _, _, _, _, _, z⟩ := h; exact z.elim)) ?_
  rintro σ H Q ⟨ρ, er, su, h⟩
  refine ⟨ρ, er, ?_⟩
  simp only [ev, tst_false]
  exact h
/-- e.f -/
theorem h_fld {f en : Str} {j : Nat} (S : SuX X ec x a oe C dd fs) (hi : i = some j) (hN : X.N[j]? = some en) (hv : Vis X.env.scope en) (hd : dbg en = true) : PE (X.suite a ((a, oe) :: pn)) (.Attribute (.Name en p) f pos) (rdH x X.K F XR i a dd fs (.at_ (.fld f))) := by
  refine ⟨fun pins s σ H Q I h => ?_⟩
  obtain ⟨ρ, er, su, h⟩ := h
  obtain ⟨e, h1, h0, h2, h3⟩ := S.e
  cases hl : x.fs.lookup f with
  | none =>
    simp only [evH, evA, hl, R.bind_bad] at h
    exact False.elim h
  | some y =>
    simp only [evH, evA, hl, R.bind_ok] at h
    obtain ⟨v, g1, g2, g3⟩ := h3 f y hl
    have R := S.mc.raised _ _ C h1 h0 h2
    exact (pe_xf (e := .Name en p) R.xf (R.no f g3) S.hz S.hf (pe_var hN hv (dbg1 hd).1 (dbg1 hd).2)).run pins s σ H Q I ⟨_, su.1 j hi, rfl, rfl, dd, fs.l, v, rfl, vis_le _ _ su.2.1, g1, Post.val h er (g2.mono su.2.2)⟩
theorem isE_pair (S : SuX X ec x a oe C dd fs) {k : Nat} {e : EC} {Ck : Addr} (hk : ec[k]? = some e) (hm : X.mg e.name = some (.ref Ck)) : PySem.W.kitOne X.K (.ref C) (.ref Ck) = some (isE x k) := by
  obtain ⟨e0, h1, h0, h2, h3⟩ := S.e
  exact (S.mc.pair x.cls k e0 e C Ck h1 hk h0 h2 hm).2
theorem ec_exc (S : SuX X ec x a oe C dd fs) : ExcC X.K C := by
  obtain ⟨e0, h1, h0, h2, h3⟩ := S.e
  exact (S.mc.raised _ _ C h1 h0 h2).ec
/-- isinstance(e, C) -/
theorem h_is1 {en cn : Str} {j k : Nat} {e : EC} (S : SuX X ec x a oe C dd fs) (hi : i = some j) (hN : X.N[j]? = some en) (hv : Vis X.env.scope en) (hd : dbg en = true) (g1 : Gl X "isinstance") (hk : ec[k]? = some e) (hcn : e.name = cn) (g2 : Gl X cn) (d2 : dbg cn = true) :
    PE (X.suite a ((a, oe) :: pn)) (.Call (.Name "isinstance" p) [.Name en p1, .Name cn p2] [] pos) (rdH x X.K F XR i a dd fs (.is1 k)) := by
  subst hcn
  obtain ⟨Ck, hm⟩ := S.mc.named k e hk
  refine PE_imp (pe_callB (call_isD (ec_exc S) S.hz S.hf) g1 S.isi (by decide +kernel) (pa_cons (pe_var hN hv (dbg1 hd).1 (dbg1 hd).2) (pa_cons (pe_glob (v := .ref Ck) g2 hm rfl (dbg1 d2).1) pa_nil))) ?_
  rintro σ H Q ⟨ρ, er, su, h⟩
  simp only [evH] at h
  exact ⟨_, su.1 j hi, .ref Ck, _, _, fs.l, rfl, .own Ck, vis_le _ _ su.2.1, isE_pair S hk hm, Post.val h er (.bl _)⟩
/-- isinstance(e, ValueError) -/
theorem h_isv {en : Str} {j : Nat} (S : SuX X ec x a oe C dd fs) (hi : i = some j) (hN : X.N[j]? = some en) (hv : Vis X.env.scope en) (hd : dbg en = true) (g1 : Gl X "isinstance") (g2 : Gl X "ValueError") :
    PE (X.suite a ((a, oe) :: pn)) (.Call (.Name "isinstance" p) [.Name en p1, .Name "ValueError" p2] [] pos) (rdH x X.K F XR i a dd fs .isv) := by
  refine PE_imp (pe_callB (call_isD (ec_exc S) S.hz S.hf) g1 S.isi (by decide +kernel) (pa_cons (pe_var hN hv (dbg1 hd).1 (dbg1 hd).2) (pa_cons (pe_bltn (v := .ty "ValueError") g2 S.ve PyProof.Rows.Boot.«ValueError» rfl) pa_nil))) ?_
  rintro σ H Q ⟨ρ, er, su, h⟩
  simp only [evH] at h
  obtain ⟨e0, h1, h0, h2, h3⟩ := S.e
  exact ⟨_, su.1 j hi, .ty "ValueError", _, _, fs.l, rfl, .ty _, vis_le _ _ su.2.1, (S.mc.raised _ _ C h1 h0 h2).ve, Post.val h er (.bl _)⟩
/-- the names of a tuple of classes -/
def chkNs (sc : Scope) (ec : List EC) : List Nat → List PE' → Bool
  | [], [] => true
  | k :: ks, .Name cn _ :: es => (match ec[k]? with | some e => decide (e.name = cn) | none => false) && glb sc cn && chkNs sc ec ks es
  | _, _ => false
theorem ns_ok {sc : Scope} (S : SuX X ec x a oe C dd fs) (gl : ∀ y, glb sc y = true → Gl X y ∧ dbg y = true) : ∀ {ks : List Nat} {es : List PE'}, chkNs sc ec ks es = true → ∃ cs us, PA (X.suite a ((a, oe) :: pn)) es (fun σ H Q => Q cs H) ∧ Paired ClsV cs us ∧ cs.length = ks.length ∧ PySem.W.kitAny X.K (.ref C) us = some (ks.any (isE x))
  | [], [], _ => ⟨[], [], pa_nil, .nil, rfl, rfl⟩
  | [], _ :: _, h => by simp [chkNs] at h
  | k :: ks, [], h => by simp [chkNs] at h
  | k :: ks, e :: es, h => by
    unfold chkNs at h
    split at h <;> (try contradiction)
    rename_i k1 ks1 cn q es1 e1 e2
    injection e1 with e1a e1b
    injection e2 with e2a e2b
    subst e1a e1b e2a e2b
    simp only [Bool.and_eq_true] at h
    obtain ⟨⟨h1, h2⟩, h3⟩ := h
    cases hk : ec[k]? with
    | none => rw [hk] at h1; cases h1
    | some e =>
      rw [hk] at h1
      have h1 : e.name = cn := of_decide_eq_true h1
      subst h1
      obtain ⟨Ck, hm⟩ := S.mc.named k e hk
      obtain ⟨g, d⟩ := gl _ h2
      obtain ⟨cs, us, r1, r2, r3, r4⟩ := ns_ok S gl h3
      refine ⟨.ref Ck :: cs, .ref Ck :: us, PA_imp (pa_cons (pe_glob (v := .ref Ck) g hm rfl (dbg1 d).1) r1) (fun σ H Q q => q), .cons (.own Ck) r2, by simp [r3], ?_⟩
      unfold PySem.W.kitAny
      rw [isE_pair S hk hm, List.any_cons]
      cases isE x k with
      | true => rfl
      | false => simpa using r4
theorem h_isn {sc : Scope} {en : Str} {j kk : Nat} {ks : List Nat} {es : List PE'} (S : SuX X ec x a oe C dd fs) (gl : ∀ y, glb sc y = true → Gl X y ∧ dbg y = true) (hi : i = some j) (hN : X.N[j]? = some en) (hv : Vis X.env.scope en) (hd : dbg en = true) (g1 : Gl X "isinstance") (hz : ks.length ≤ 1000) (hk : chkNs sc ec ks es = true) :
    PE (X.suite a ((a, oe) :: pn)) (.Call (.Name "isinstance" p) [.Name en p1, .Tuple es kk p2] [] pos) (rdH x X.K F XR i a dd fs (.isn ks)) := by
  obtain ⟨cs, us, r1, r2, r3, r4⟩ := ns_ok (pn := pn) S gl hk
  refine PE_imp (pe_callB (call_isDT (ec_exc S) S.hz S.hf) g1 S.isi (by decide +kernel) (pa_cons (pe_var hN hv (dbg1 hd).1 (dbg1 hd).2) (pa_cons (pe_tup r1) pa_nil))) ?_
  rintro σ H Q ⟨ρ, er, su, h⟩
  simp only [evH] at h
  refine ⟨_, su.1 j hi, by rw [r3]; exact Nat.le_trans hz (by decide), fun tp ht => ?_⟩
  have n1 := vis_le _ _ su.2.1
  exact ⟨tp, cs, us, _, fs.l, rfl, upd_same, r2, by rw [upd_ne (ne_of_none n1 ht)]; exact n1, r4, h (.bl _) _ (er.newV ht) (.new er ht) (.bl _)⟩
/-! ### not, and, or, if -/
theorem Post.bindU {m : R RV} {f : RV → Env → R RV} {Q : VK} {G : VK} {σ : L2.St} {H : Hp} {ρ : Env} (er0 : EnvR X.K F σ H ρ) (su0 : SU F i a dd fs σ H ρ) (h : Post X.K F XR W0 σ H ρ (m.bind f) Q)
    (k : ∀ rv ρ' v H', m = .ok rv ρ' → EnvR X.K F σ H' ρ' → SU F i a dd fs σ H' ρ' → RVR X.K F σ ρ' H' v (settle rv) → Post X.K F XR W0 σ H' ρ' (f rv ρ') Q → G v H') : Post X.K F XR W0 σ H ρ m G :=
  Post.bind er0 h fun rv ρ' v H' e er st r h' => k rv ρ' v H' e er (su0.stp st) r h'
theorem h_not (h1 : PE (X.suite a ((a, oe) :: pn)) a' (rdH x X.K F XR i a dd fs ha)) : PE (X.suite a ((a, oe) :: pn)) (.UnaryOp .Not a' pos) (rdH x X.K F XR i a dd fs (.not_ ha)) := by
  refine PE_imp (pe_not h1) ?_
  rintro σ H Q ⟨ρ, er, su, h⟩
  simp only [evH] at h
  refine ⟨ρ, er, su, Post.bindU er su h fun ra ρ1 v1 H1 e1 er1 su1 r1 h1 => ?_⟩
  cases ra with
  | v d =>
    cases d with
    | bool k =>
      have r1 : Rp X.K _ v1 (.bool k) := r1
      cases r1
      exact ⟨k, rfl, h1.val er1 (.bl _)⟩
    | _ => exact False.elim h1
  | fresh c => exact False.elim h1
  | slot i => exact False.elim h1
theorem h_and {r : List PE'} (h1 : PE (X.suite a ((a, oe) :: pn)) a' (rdH x X.K F XR i a dd fs ha)) (h2 : PE (X.suite a ((a, oe) :: pn)) (.BoolOp .And (b' :: r) pos) (rdH x X.K F XR i a dd fs hb)) : PE (X.suite a ((a, oe) :: pn)) (.BoolOp .And (a' :: b' :: r) pos) (rdH x X.K F XR i a dd fs (.and_ ha hb)) := by
  refine PE_imp (pe_and h1 h2) ?_
  rintro σ H Q ⟨ρ, er, su, h⟩
  simp only [evH] at h
  refine ⟨ρ, er, su, Post.bindU er su h fun ra ρ1 v1 H1 e1 er1 su1 r1 h1 => ?_⟩
  cases ra with
  | v d =>
    cases d with
    | bool k =>
      have r1 : Rp X.K _ v1 (.bool k) := r1
      cases r1
      refine ⟨k, rfl, ?_⟩
      cases k with
      | true => rw [if_pos rfl]; exact ⟨ρ1, er1, su1, h1⟩
      | false => rw [if_neg Bool.false_ne_true]; exact h1.val er1 (.bl _)
    | _ => exact False.elim h1
  | fresh c => exact False.elim h1
  | slot i => exact False.elim h1
theorem h_or {r : List PE'} (h1 : PE (X.suite a ((a, oe) :: pn)) a' (rdH x X.K F XR i a dd fs ha)) (h2 : PE (X.suite a ((a, oe) :: pn)) (.BoolOp .Or (b' :: r) pos) (rdH x X.K F XR i a dd fs hb)) : PE (X.suite a ((a, oe) :: pn)) (.BoolOp .Or (a' :: b' :: r) pos) (rdH x X.K F XR i a dd fs (.or_ ha hb)) := by
  refine PE_imp (pe_or h1 h2) ?_
  rintro σ H Q ⟨ρ, er, su, h⟩
  simp only [evH] at h
  refine ⟨ρ, er, su, Post.bindU er su h fun ra ρ1 v1 H1 e1 er1 su1 r1 h1 => ?_⟩
  cases ra with
  | v d =>
    cases d with
    | bool k =>
      have r1 : Rp X.K _ v1 (.bool k) := r1
      cases r1
      refine ⟨k, rfl, ?_⟩
      cases k with
      | true => rw [if_pos rfl]; exact h1.val er1 (.bl _)
      | false => rw [if_neg Bool.false_ne_true]; exact ⟨ρ1, er1, su1, h1⟩
    | _ => exact False.elim h1
  | fresh c => exact False.elim h1
  | slot i => exact False.elim h1
/-- a test that is its value's truth -/
theorem hT_plain (hp : plainT a' = true) (h1 : PE (X.suite a ((a, oe) :: pn)) a' (rdH x X.K F XR i a dd fs ha)) : PT (X.suite a ((a, oe) :: pn)) a' (rdHT x X.K F XR i a dd fs ha) := by
  refine PT_imp (pt_truth h1 fun wh => plainT_ok hp wh) ?_
  rintro σ H Q ⟨ρ, er, su, h⟩
  unfold PostT at h
  refine ⟨ρ, er, su, ?_⟩
  cases e : evH x ha ρ with
  | bad => rw [e] at h; exact h
  | exc y ρ1 => rw [e] at h; exact h
  | ok rv ρ1 =>
    rw [e] at h
    have key : ∀ H', EnvR X.K F σ H' ρ1 → Stp F σ H ρ H' ρ1 → ∃ b, rv = .v (.bool b) ∧ Q b H' := h
    cases rv with
    | v d =>
      intro v H' er' st' r
      obtain ⟨b, e1, e2⟩ := key H' er' st'
      cases e1
      have r : Rp X.K _ v (.bool b) := r
      cases r
      exact ⟨b, rfl, e2⟩
    | fresh c =>
      intro p o H' hp ho er' st' h0 hc
      obtain ⟨b, e1, e2⟩ := key H' er'.unhide st'
      cases e1
    | slot j =>
      intro v H' er' st' r
      obtain ⟨b, e1, e2⟩ := key H' er' st'
      cases e1
/-- the first of two tests -/
theorem testU {f : RV → Env → R RV} {G : RV → Env → Hp → Prop} {Q : Bool → Hp → Prop} {m : R RV} {σ : L2.St} {H : Hp} {ρ : Env} (su0 : SU F i a dd fs σ H ρ)
    (h : PostG X.K F XR W0 σ H ρ (m.bind f) G) (hf : ∀ rv ρ, (∀ k, rv ≠ .v (.bool k)) → f rv ρ = .bad)
    (k : ∀ b ρ' H', EnvR X.K F σ H' ρ' → SU F i a dd fs σ H' ρ' → PostG X.K F XR W0 σ H' ρ' (f (.v (.bool b)) ρ') G → Q b H') : PostT X.K F XR W0 σ H ρ m Q := by
  unfold PostT
  refine PostG.bindG h fun rv ρ1 H1 e er st h1 => ?_
  by_cases hb : ∃ k, rv = .v (.bool k)
  · obtain ⟨b, rfl⟩ := hb
    exact ⟨b, rfl, k b ρ1 H1 er (su0.stp st) h1⟩
  · rw [hf rv ρ1 (fun k e => hb ⟨k, e⟩)] at h1
    exact False.elim h1
theorem hT_not (h1 : PT (X.suite a ((a, oe) :: pn)) a' (rdHT x X.K F XR i a dd fs ha)) : PT (X.suite a ((a, oe) :: pn)) (.UnaryOp .Not a' pos) (rdHT x X.K F XR i a dd fs (.not_ ha)) := by
  refine PT_imp (pt_not h1) ?_
  rintro σ H Q ⟨ρ, er, su, h⟩
  unfold PostT at h
  simp only [evH] at h
  refine ⟨ρ, er, su, testU su h (fun rv ρ hn => ?_) fun b ρ1 H1 er1 su1 h1 => ?_⟩
  · split
    · exact absurd rfl (hn _)
    · rfl
  · obtain ⟨k, e, q⟩ := h1 H1 er1 .refl
    cases e
    exact q
theorem hW_and {r : List PE'} (h1 : PT (X.suite a ((a, oe) :: pn)) a' (rdHT x X.K F XR i a dd fs ha)) (h2 : PW (X.suite a ((a, oe) :: pn)) (.BoolOp .And (b' :: r) pos) (rdHT x X.K F XR i a dd fs hb)) : PW (X.suite a ((a, oe) :: pn)) (.BoolOp .And (a' :: b' :: r) pos) (rdHT x X.K F XR i a dd fs (.and_ ha hb)) := by
  refine PW_imp (pw_and h1 h2) ?_
  rintro σ H Q ⟨ρ, er, su, h⟩
  unfold PostT at h
  simp only [evH] at h
  refine ⟨ρ, er, su, testU su h (fun rv ρ hn => ?_) fun b ρ1 H1 er1 su1 h1 => ?_⟩
  · split
    · exact absurd rfl (hn _)
    · exact absurd rfl (hn _)
    · rfl
  · cases b with
    | true => rw [if_pos rfl]; exact ⟨ρ1, er1, su1, h1⟩
    | false =>
      rw [if_neg Bool.false_ne_true]
      obtain ⟨k, e, q⟩ := h1 H1 er1 .refl
      cases e
      exact q
theorem hW_or {r : List PE'} (h1 : PT (X.suite a ((a, oe) :: pn)) a' (rdHT x X.K F XR i a dd fs ha)) (h2 : PW (X.suite a ((a, oe) :: pn)) (.BoolOp .Or (b' :: r) pos) (rdHT x X.K F XR i a dd fs hb)) : PW (X.suite a ((a, oe) :: pn)) (.BoolOp .Or (a' :: b' :: r) pos) (rdHT x X.K F XR i a dd fs (.or_ ha hb)) := by
  refine PW_imp (pw_or h1 h2) ?_
  rintro σ H Q ⟨ρ, er, su, h⟩
  unfold PostT at h
  simp only [evH] at h
  refine ⟨ρ, er, su, testU su h (fun rv ρ hn => ?_) fun b ρ1 H1 er1 su1 h1 => ?_⟩
  · split
    · exact absurd rfl (hn _)
    · exact absurd rfl (hn _)
    · rfl
  · cases b with
    | true =>
      rw [if_pos rfl]
      obtain ⟨k, e, q⟩ := h1 H1 er1 .refl
      cases e
      exact q
    | false => rw [if_neg Bool.false_ne_true]; exact ⟨ρ1, er1, su1, h1⟩
theorem h_ite {hc : HE} (h0 : PT (X.suite a ((a, oe) :: pn)) c' (rdHT x X.K F XR i a dd fs hc)) (h1 : PE (X.suite a ((a, oe) :: pn)) a' (rdH x X.K F XR i a dd fs ha)) (h2 : PE (X.suite a ((a, oe) :: pn)) b' (rdH x X.K F XR i a dd fs hb)) : PE (X.suite a ((a, oe) :: pn)) (.IfExp c' a' b' pos) (rdH x X.K F XR i a dd fs (.ite hc ha hb)) := by
  refine PE_imp (pe_ifExp h0 h1 h2) ?_
  rintro σ H Q ⟨ρ, er, su, h⟩
  simp only [evH] at h
  refine ⟨ρ, er, su, ?_⟩
  unfold PostT
  refine PostG.bind h fun rv ρ1 H1 e er1 st h1 => ?_
  have su1 := su.stp st
  cases rv with
  | v d =>
    cases d with
    | bool k =>
      refine ⟨k, rfl, ?_⟩
      cases k with
      | true => rw [if_pos rfl]; exact ⟨ρ1, er1, su1, h1⟩
      | false => rw [if_neg Bool.false_ne_true]; exact ⟨ρ1, er1, su1, h1⟩
    | _ => exact False.elim h1
  | fresh c => exact False.elim h1
  | slot i => exact False.elim h1
/-! ### items -/
theorem evA_noexc {x : Exc} {a : HA} {ρ ρ' : Env} {y : Exc} (h : evA x a ρ = .exc y ρ') : False := by
  cases a with
  | c d => cases h
  | fld f =>
    simp only [evA] at h
    split at h <;> cases h
  | v i =>
    simp only [evA, nameV] at h
    split at h
    · cases h
    · simp only [R.bind_ok] at h
      exact frz_noexc h
    · cases h
theorem hA_nil : PA (X.suite a ((a, oe) :: pn)) [] (rdHA x X.K F XR i a dd fs []) := by
  refine PA_imp pa_nil ?_
  rintro σ H Q ⟨ρ, er, su, h⟩
  simp only [evAs] at h
  exact h H er .refl [] .nil
theorem hA_cons {e' : PE'} {es' : List PE'} {y : HA} {ys : List HA} (hs : notStar e' = true) (he : PE (X.suite a ((a, oe) :: pn)) e' (rdH x X.K F XR i a dd fs (.at_ y))) (hes : PA (X.suite a ((a, oe) :: pn)) es' (rdHA x X.K F XR i a dd fs ys)) : PA (X.suite a ((a, oe) :: pn)) (e' :: es') (rdHA x X.K F XR i a dd fs (y :: ys)) := by
  refine PA_imp (pa_cons he hes (star_ok hs)) ?_
  rintro σ H Q ⟨ρ, er, su, h⟩
  simp only [evAs] at h
  refine ⟨ρ, er, su, ?_⟩
  -- evH of an item: its value, or its slot
  have go : ∀ {ρ1 : Env} {H1 : Hp} {v1 : V} {d : D} , EnvR X.K F σ H1 ρ1 → SU F i a dd fs σ H1 ρ1 → Rp X.K (vis F σ ρ1 H1) v1 d → PostG X.K F XR W0 σ H1 ρ1 ((evAs x ys ρ1).bind fun ds ρ => .ok (d :: ds) ρ) (fun ds ρ' H' => ∀ vs, Rps X.K (vis F σ ρ' H') vs ds → Q vs H') →
      rdHA x X.K F XR i a dd fs ys σ H1 fun xs H2 => Q (v1 :: xs) H2 := fun {ρ1 H1 v1 d} er1 su1 rp h1 => by
    refine ⟨ρ1, er1, su1, PostG.bindG h1 fun rs ρ3 H3 e3 er3 st3 h3 => ?_⟩
    intro vs rv
    exact h3 H3 er3 .refl (v1 :: vs) (.cons (Rp.mono st3.same rp) rv)
  cases y with
  | c d =>
    simp only [evH, evA, R.bind_ok] at h ⊢
    exact fun v H1 er1 st1 r1 => go er1 (su.stp st1) r1 (PostG.shift h st1)
  | fld f =>
    cases hl : x.fs.lookup f with
    | none => simp only [evA, hl, R.bind_bad] at h; exact False.elim h
    | some d =>
      simp only [evH, evA, hl, R.bind_ok] at h ⊢
      exact fun v H1 er1 st1 r1 => go er1 (su.stp st1) r1 (PostG.shift h st1)
  | v j =>
    simp only [evH, evA] at h ⊢
    cases en : nameV ρ j with
    | bad => rw [en] at h; exact False.elim h
    | exc z ρ' =>
      simp only [nameV] at en
      split at en <;> cases en
    | ok rv ρ1 =>
      rw [en] at h
      simp only [R.bind_ok] at h
      refine Post.read er ?_
      intro H1 er1 st1 v1 r1
      have h1 := PostG.shift h st1
      cases ef : frz ρ1 rv with
      | bad => rw [ef] at h1; exact False.elim h1
      | exc z ρ' => exact (frz_noexc ef).elim
      | ok d ρ2 =>
        rw [ef] at h1
        simp only [R.bind_ok] at h1
        obtain ⟨er2, st2, rp2⟩ := frz_ok er1 r1 ef
        exact go er2 ((su.stp st1).stp st2) rp2 (PostG.shift h1 st2)
theorem h_tup {es' : List PE'} {as : List HA} {k : Nat} (h1 : PA (X.suite a ((a, oe) :: pn)) es' (rdHA x X.K F XR i a dd fs as)) : PE (X.suite a ((a, oe) :: pn)) (.Tuple es' k pos) (rdH x X.K F XR i a dd fs (.tup as)) := by
  refine PE_imp (pe_tup h1) ?_
  rintro σ H Q ⟨ρ, er, su, h⟩
  simp only [evH] at h
  refine ⟨ρ, er, su, PostG.bind h fun ds ρ1 H1 e1 er1 st1 h1 => ?_⟩
  intro vs rv
  by_cases z : ds.length ≤ sizeLine
  · rw [if_pos z] at h1
    exact ⟨by rw [rv.len]; exact z, fun p hp => Post.newT h1 er1 hp rv⟩
  · rw [if_neg z] at h1; exact False.elim h1
theorem h_lst {es' : List PE'} {as : List HA} (h1 : PA (X.suite a ((a, oe) :: pn)) es' (rdHA x X.K F XR i a dd fs as)) : PE (X.suite a ((a, oe) :: pn)) (.List es' pos) (rdH x X.K F XR i a dd fs (.lst as)) := by
  refine PE_imp (pe_lst h1) ?_
  rintro σ H Q ⟨ρ, er, su, h⟩
  simp only [evH] at h
  refine ⟨ρ, er, su, PostG.bind h fun ds ρ1 H1 e1 er1 st1 h1 => ?_⟩
  intro vs rv
  by_cases z : ds.length ≤ sizeLine
  · rw [if_pos z] at h1
    exact ⟨by rw [rv.len]; exact z, fun p hp => Post.newC (o := .lst vs) h1 er1 hp rv⟩
  · rw [if_neg z] at h1; exact False.elim h1
end
end M

set_option Elab.async false
set_option linter.all false
set_option maxRecDepth 100000
set_option maxHeartbeats 4000000
/-! M: try and except -/
namespace M
open PySem PySem.Spec PyProof.Rows L2
section
variable (N : List Str) (sc : Scope) (ec : List EC) (i : Option Nat)
def isEn (en : Str) : Bool := match i with
  | some j => chkN N sc j en
  | none => false
def isEc (k : Nat) (cn : Str) : Bool := match ec[k]? with
  | some e => decide (e.name = cn)
  | none => false
def chkA : HA → PE' → Bool
  | .c d, .Constant k _ _ => chkC d k
  | .v j, .Name y _ => chkN N sc j y
  | .fld f, .Attribute (.Name en _) g _ => decide (f = g) && isEn N sc i en
  | _, _ => false
def chkAs : List HA → List PE' → Bool
  | [], [] => true
  | a :: as, e :: es => notStar e && chkA N sc i a e && chkAs as es
  | _, _ => false
def chkH : HE → PE' → Bool
  | .at_ a, e' => plainT e' && chkA N sc i a e'
  | .is1 k, .Call (.Name x _) [.Name en _, .Name cn _] [] _ => decide (x = ("isinstance" : Str)) && glb sc x && isEn N sc i en && isEc ec k cn && glb sc cn
  | .isn ks, .Call (.Name x _) [.Name en _, .Tuple es _ _] [] _ => decide (x = ("isinstance" : Str)) && glb sc x && isEn N sc i en && decide (ks.length ≤ 1000) && chkNs sc ec ks es
  | .isv, .Call (.Name x _) [.Name en _, .Name cn _] [] _ => decide (x = ("isinstance" : Str)) && glb sc x && isEn N sc i en && decide (cn = ("ValueError" : Str)) && glb sc cn
  | .not_ a, .UnaryOp .Not a' _ => notIf a' && chkH a a'
  | .and_ a b, .BoolOp .And (a' :: b' :: r) pos => notIf a' && chkH a a' && (match r with
      | [] => notIf b' && chkH b b'
      | c' :: r => chkH b (.BoolOp .And (b' :: c' :: r) pos))
  | .or_ a b, .BoolOp .Or (a' :: b' :: r) pos => notIf a' && chkH a a' && (match r with
      | [] => notIf b' && chkH b b'
      | c' :: r => chkH b (.BoolOp .Or (b' :: c' :: r) pos))
  | .ite c a b, .IfExp c' a' b' _ => notIf c' && chkH c c' && chkH a a' && chkH b b'
  | .tup as, .Tuple es _ _ => chkAs N sc i as es
  | .lst as, .List es _ => chkAs N sc i as es
  | _, _ => false
def chkHS : List HS → List PySem.Stmt → Bool
  | [], [] => true
  | .asg j e :: r, .Assign [.Name y _] e' _ :: sts => decide (N[j]? = some y) && nmLoc sc y && !decide (i = some j) && notComp e' && chkH N sc ec i e e' && chkHS r sts
  | .if_ c j e :: r, .If c' [.Assign [.Name y _] e' _] [] _ :: sts => decide (N[j]? = some y) && nmLoc sc y && !decide (i = some j) && notComp e' && notIf c' && chkH N sc ec i c c' && chkH N sc ec i e e' && chkHS r sts
  | _, _ => false
end
section
variable {X : Cx} {Φ : Phi} {XR XR' : XRel} {fn : Nat → Option Str} {N : List Str} {cs : List (Str × D)} {sc : Scope} {ec : List EC} {x : Exc} {F : Fr} {i : Option Nat} {a C dd : Addr} {oe : Obj} {fs : FsV} {pn : List (Addr × Obj)}
structure SndH (X : Cx) (XR : XRel) (x : Exc) (F : Fr) (i : Option Nat) (a dd : Addr) (oe : Obj) (fs : FsV) (pn : List (Addr × Obj)) (e' : PE') (e : HE) : Prop where
  v : PE (X.suite a ((a, oe) :: pn)) e' (rdH x X.K F XR i a dd fs e)
  t : notIf e' = true → PT (X.suite a ((a, oe) :: pn)) e' (rdHT x X.K F XR i a dd fs e)
  w : (∃ o es p, e' = .BoolOp o es p) → PW (X.suite a ((a, oe) :: pn)) e' (rdHT x X.K F XR i a dd fs e)
theorem sndH_plain {e' : PE'} {e : HE} (hp : plainT e' = true) (h : PE (X.suite a ((a, oe) :: pn)) e' (rdH x X.K F XR i a dd fs e)) : SndH X XR x F i a dd oe fs pn e' e :=
  ⟨h, fun _ => hT_plain hp h, fun z => by obtain ⟨o, es, p, rfl⟩ := z; cases hp⟩
theorem sndA1 (Cx' : Ctx X Φ XR' fn N cs sc) (S : SuX X ec x a oe C dd fs) : ∀ {y : HA} {e' : PE'}, chkA N sc i y e' = true → PE (X.suite a ((a, oe) :: pn)) e' (rdH x X.K F XR i a dd fs (.at_ y)) := by
  intro y e' h
  unfold chkA at h
  split at h <;> (try contradiction)
  · exact h_const h
  · obtain ⟨g1, g2, g3⟩ := Cx'.nm h
    exact h_var g1 g2 g3
  · rw [Bool.and_eq_true, decide_eq_true_eq] at h
    obtain ⟨h1, h2⟩ := h
    subst h1
    unfold isEn at h2
    cases i with
    | none => cases h2
    | some j =>
      obtain ⟨g1, g2, g3⟩ := Cx'.nm h2
      exact h_fld S rfl g1 g2 g3
theorem sndAs1 (Cx' : Ctx X Φ XR' fn N cs sc) (S : SuX X ec x a oe C dd fs) : ∀ {ys : List HA} {es : List PE'}, chkAs N sc i ys es = true → PA (X.suite a ((a, oe) :: pn)) es (rdHA x X.K F XR i a dd fs ys)
  | [], [], _ => hA_nil
  | [], _ :: _, h => by simp [chkAs] at h
  | _ :: _, [], h => by simp [chkAs] at h
  | y :: ys, e :: es, h => by
    simp only [chkAs, Bool.and_eq_true] at h
    exact hA_cons h.1.1 (sndA1 Cx' S h.1.2) (sndAs1 Cx' S h.2)
theorem sndH (Cx' : Ctx X Φ XR' fn N cs sc) (S : SuX X ec x a oe C dd fs) : ∀ (e : HE) {e' : PE'}, chkH N sc ec i e e' = true → SndH X XR x F i a dd oe fs pn e' e
  | .at_ y, e', h => by
    simp only [chkH, Bool.and_eq_true] at h
    exact sndH_plain h.1 (sndA1 Cx' S h.2)
  | .is1 k, e', h => by
    unfold chkH at h; split at h <;> (try contradiction)
    injections; subst_vars
    simp only [Bool.and_eq_true, decide_eq_true_eq] at h
    obtain ⟨⟨⟨⟨h1, h2⟩, h3⟩, h4⟩, h5⟩ := h
    subst h1
    unfold isEn at h3
    cases i with
    | none => cases h3
    | some j =>
      obtain ⟨g1, g2, g3⟩ := Cx'.nm h3
      unfold isEc at h4
      split at h4
      · rename_i e he
        exact sndH_plain rfl (h_is1 S rfl g1 g2 g3 (Cx'.glb h2).1 he (of_decide_eq_true h4) (Cx'.glb h5).1 (Cx'.glb h5).2)
      · cases h4
  | .isn ks, e', h => by
    unfold chkH at h; split at h <;> (try contradiction)
    injections; subst_vars
    simp only [Bool.and_eq_true, decide_eq_true_eq] at h
    obtain ⟨⟨⟨⟨h1, h2⟩, h3⟩, h4⟩, h5⟩ := h
    subst h1
    unfold isEn at h3
    cases i with
    | none => cases h3
    | some j =>
      obtain ⟨g1, g2, g3⟩ := Cx'.nm h3
      exact sndH_plain rfl (h_isn S (fun y hy => Cx'.glb hy) rfl g1 g2 g3 (Cx'.glb h2).1 h4 h5)
  | .isv, e', h => by
    unfold chkH at h; split at h <;> (try contradiction)
    simp only [Bool.and_eq_true, decide_eq_true_eq] at h
    obtain ⟨⟨⟨⟨h1, h2⟩, h3⟩, h4⟩, h5⟩ := h
    subst h1 h4
    unfold isEn at h3
    cases i with
    | none => cases h3
    | some j =>
      obtain ⟨g1, g2, g3⟩ := Cx'.nm h3
      exact sndH_plain rfl (h_isv S rfl g1 g2 g3 (Cx'.glb h2).1 (Cx'.glb h5).1)
  | .not_ ha, e', h => by
    have ih := fun {e'} h => sndH Cx' S ha (e' := e') h
    unfold chkH at h; split at h <;> (try contradiction)
    injections; subst_vars
    rw [Bool.and_eq_true] at h
    exact ⟨h_not (ih h.2).v, fun _ => hT_not ((ih h.2).t h.1), fun z => by obtain ⟨o, es, p, z⟩ := z; cases z⟩
  | .and_ ha hb, e', h => by
    have iha := fun {e'} h => sndH Cx' S ha (e' := e') h
    have ihb := fun {e'} h => sndH Cx' S hb (e' := e') h
    unfold chkH at h; split at h <;> (try contradiction)
    injections; subst_vars
    simp only [Bool.and_eq_true] at h
    obtain ⟨⟨h1, h2⟩, h3⟩ := h
    rename_i a' b' r pos
    cases r with
    | nil =>
      simp only [Bool.and_eq_true] at h3
      have w := hW_and (pos := pos) ((iha h2).t h1) (pw_and1 ((ihb h3.2).t h3.1))
      exact ⟨h_and (iha h2).v (pe_one (ihb h3.2).v), fun _ => w.pt, fun _ => w⟩
    | cons c' r =>
      have w := hW_and (pos := pos) ((iha h2).t h1) ((ihb h3).w ⟨_, _, _, rfl⟩)
      exact ⟨h_and (iha h2).v (ihb h3).v, fun _ => w.pt, fun _ => w⟩
  | .or_ ha hb, e', h => by
    have iha := fun {e'} h => sndH Cx' S ha (e' := e') h
    have ihb := fun {e'} h => sndH Cx' S hb (e' := e') h
    unfold chkH at h; split at h <;> (try contradiction)
    injections; subst_vars
    simp only [Bool.and_eq_true] at h
    obtain ⟨⟨h1, h2⟩, h3⟩ := h
    rename_i a' b' r pos
    cases r with
    | nil =>
      simp only [Bool.and_eq_true] at h3
      have w := hW_or (pos := pos) ((iha h2).t h1) (pw_or1 ((ihb h3.2).t h3.1))
      exact ⟨h_or (iha h2).v (pe_one (ihb h3.2).v), fun _ => w.pt, fun _ => w⟩
    | cons c' r =>
      have w := hW_or (pos := pos) ((iha h2).t h1) ((ihb h3).w ⟨_, _, _, rfl⟩)
      exact ⟨h_or (iha h2).v (ihb h3).v, fun _ => w.pt, fun _ => w⟩
  | .ite hc ha hb, e', h => by
    have ihc := fun {e'} h => sndH Cx' S hc (e' := e') h
    have iha := fun {e'} h => sndH Cx' S ha (e' := e') h
    have ihb := fun {e'} h => sndH Cx' S hb (e' := e') h
    unfold chkH at h; split at h <;> (try contradiction)
    injections; subst_vars
    simp only [Bool.and_eq_true] at h
    obtain ⟨⟨⟨h1, h2⟩, h3⟩, h4⟩ := h
    exact ⟨h_ite ((ihc h2).t h1) (iha h3).v (ihb h4).v, fun z => absurd z Bool.false_ne_true, fun z => by obtain ⟨o, es, p, z⟩ := z; cases z⟩
  | .tup as, e', h => by
    unfold chkH at h; split at h <;> (try contradiction)
    injections; subst_vars
    exact sndH_plain rfl (h_tup (sndAs1 Cx' S h))
  | .lst as, e', h => by
    unfold chkH at h; split at h <;> (try contradiction)
    injections; subst_vars
    exact sndH_plain rfl (h_lst (sndAs1 Cx' S h))
/-! ### statements of a suite -/
theorem SU.stq {σ σ' : L2.St} {H H' : Hp} {ρ ρ' : Env} (s : SU F i a dd fs σ H ρ) (st : Stq F σ H ρ σ' H' ρ') (h : ∀ j, i = some j → σ'[j]? = σ[j]?) : SU F i a dd fs σ' H' ρ' :=
  ⟨fun j e => (h j e).trans (s.1 j e), st.same _ _ s.2.1, s.2.2.trans st.same⟩
theorem fl_next {α : Type} {m : R α} {g : α → Env → Fl} {f : Env → Fl} : (m.fl g).next f = m.fl fun r ρ => (g r ρ).next f := by
  cases m <;> rfl
theorem asgR_go {K : PySem.W.Frag} {W : WX} {D : Ends} {σ : L2.St} {H : Hp} {ρ : Env} {j : Nat} {m : R RV} {f : Env → Fl} (er : EnvR K F σ H ρ) (su : SU F i a dd fs σ H ρ) (hj : ¬ i = some j) (h : PostS K F XR W D σ H ρ ((asgR j m).next f)) :
    Post K F XR W σ H ρ m fun v H1 => ∃ ρ', EnvR K F (σ.set j (some v)) H1 ρ' ∧ SU F i a dd fs (σ.set j (some v)) H1 ρ' ∧ PostS K F XR W D (σ.set j (some v)) H1 ρ' (f ρ') := by
  have keep : ∀ {v : V} {k : Nat}, i = some k → (σ.set j (some v))[k]? = σ[k]? := fun {v k} e => List.getElem?_set_ne (fun z => hj (by rw [z]; exact e))
  have fin : ∀ (v : V) (d : M.D) (ρ1 : Env) (H1 : Hp), EnvR K F σ H1 ρ1 → Stp F σ H ρ H1 ρ1 → Rp K (vis F σ ρ1 H1) v d → j < ρ1.length → PostS K F XR W D σ H ρ (f (ρ1.set j (.val d))) →
      ∃ ρ', EnvR K F (σ.set j (some v)) H1 ρ' ∧ SU F i a dd fs (σ.set j (some v)) H1 ρ' ∧ PostS K F XR W D (σ.set j (some v)) H1 ρ' (f ρ') := fun v d ρ1 H1 er1 st1 rp hi q => by
    obtain ⟨w1, w2⟩ := er1.setA hi rp
    have sq := Stq.set st1 w2
    exact ⟨_, w1, su.stq sq fun k e => keep e, PostS.shift q sq⟩
  have inr : ∀ {ρ1 : Env} {x : Fl}, PostS K F XR W D σ H ρ (Fl.next (match ρ1[j]? with | some (.own (some _) _ _) => Fl.bad | some (.own none true _) => .bad | none => .bad | _ => x) f) → j < ρ1.length ∧ PostS K F XR W D σ H ρ (x.next f) := fun {ρ1 x} q => by
    cases e : ρ1[j]? with
    | none => rw [e] at q; exact False.elim q
    | some s =>
      refine ⟨(List.getElem?_eq_some_iff.mp e).1, ?_⟩
      rw [e] at q
      cases s with
      | un => exact q
      | val d => exact q
      | own t lk c =>
        cases t with
        | some t => exact False.elim q
        | none =>
          cases lk with
          | true => exact False.elim q
          | false => exact q
  cases ee : m with
  | bad => rw [ee] at h; exact h
  | exc y ρ1 => rw [ee] at h; exact fun cls d H' er st r => h cls d σ H' er st.q r
  | ok rv ρ1 =>
    rw [ee] at h
    unfold asgR at h
    simp only [R.fl_ok] at h
    obtain ⟨hi, h⟩ := inr h
    cases rv with
    | fresh c =>
      intro p o H1 hp ho er1 st1 h0 hc
      obtain ⟨w1, w2⟩ := er1.setO hi ho hc (er.fresh hp).1 h0
      have sq := Stq.setF st1 hp w2
      exact ⟨_, w1, su.stq sq fun k e => keep e, PostS.shift h sq⟩
    | v d =>
      intro v H1 er1 st1 r1
      exact fin v d ρ1 H1 er1 st1 r1 hi h
    | slot l =>
      intro v H1 er1 st1 r1
      simp only at h
      cases ef : frz ρ1 (.slot l) with
      | bad => rw [ef] at h; exact False.elim h
      | exc y ρ' => exact (frz_noexc ef).elim
      | ok d ρ2 =>
        rw [ef] at h
        simp only [R.fl_ok] at h
        obtain ⟨er2, st2, rp2⟩ := frz_ok (rv := .slot l) er1 r1 ef
        have hl : j < ρ2.length := by rw [← er2.len, er1.len]; exact hi
        exact fin v d ρ2 H1 er2 (st1.trans st2) rp2 hl h
def rdHS (x : Exc) (K : PySem.W.Frag) (F : Fr) (XR : XRel) (i : Option Nat) (a dd : Addr) (fs : FsV) (h : List HS) : TS := fun D σ H => ∃ ρ, EnvR K F σ H ρ ∧ SU F i a dd fs σ H ρ ∧ PostS K F XR W0 D σ H ρ (exH x h ρ)
theorem sndHS (Cx' : Ctx X Φ XR' fn N cs sc) (S : SuX X ec x a oe C dd fs) : ∀ {h : List HS} {sts : List PySem.Stmt}, chkHS N sc ec i h sts = true → PSs (X.suite a ((a, oe) :: pn)) sts (rdHS x X.K F XR i a dd fs h)
  | [], [], _ => PSs_imp pss_nil (by
    rintro D σ H ⟨ρ, er, su, h⟩
    exact h σ H er .refl)
  | [], _ :: _, h => by simp [chkHS] at h
  | .nev :: r, sts, h => by simp [chkHS] at h
  | .asg j e :: r, sts, h => by
    unfold chkHS at h; split at h <;> (try contradiction)
    rotate_left
    · rename_i z; cases z
    · rename_i j1 e1 r1 y p e' p2 sts1 z1
      cases z1
      simp only [Bool.and_eq_true, decide_eq_true_eq, Bool.not_eq_true', decide_eq_false_iff_not] at h
      obtain ⟨⟨⟨⟨⟨h1, h2⟩, h3⟩, h4⟩, h5⟩, h6⟩ := h
      obtain ⟨l, f⟩ := Cx'.loc y h2
      refine PSs_imp (pss_cons (ps_set (X := X.suite a ((a, oe) :: pn)) (i := j) (by show X.N.Nodup; rw [Cx'.hN]; exact Cx'.nd) (by show X.N[j]? = _; rw [Cx'.hN]; exact h1) l (sndH (F := F) (XR := XR) (pn := pn) Cx' S e h5).v (swaps_ok h4) f) (sndHS Cx' S h6)) ?_
      rintro D σ H ⟨ρ, er, su, q⟩
      simp only [exH] at q
      exact ⟨ρ, er, su, asgR_go er su h3 q⟩
  | .if_ c j e :: r, sts, h => by
    unfold chkHS at h; split at h <;> (try contradiction)
    · rename_i z; cases z
    · rename_i c1 j1 e1 r1 c' y p e' p2 p3 sts1 z1
      cases z1
      simp only [Bool.and_eq_true, decide_eq_true_eq, Bool.not_eq_true', decide_eq_false_iff_not] at h
      obtain ⟨⟨⟨⟨⟨⟨⟨h1, h2⟩, h3⟩, h4⟩, h5⟩, h6⟩, h7⟩, h8⟩ := h
      obtain ⟨l, f⟩ := Cx'.loc y h2
      refine PSs_imp (pss_cons (ps_if ((sndH (F := F) (XR := XR) (pn := pn) Cx' S c h6).t h5) (pss_one (ps_set (X := X.suite a ((a, oe) :: pn)) (i := j) (by show X.N.Nodup; rw [Cx'.hN]; exact Cx'.nd) (by show X.N[j]? = _; rw [Cx'.hN]; exact h1) l (sndH (F := F) (XR := XR) (pn := pn) Cx' S e h7).v (swaps_ok h4) f)) pss_nil) (sndHS Cx' S h8)) ?_
      rintro D σ H ⟨ρ, er, su, q⟩
      simp only [exH] at q
      rw [fl_next] at q
      refine ⟨ρ, er, su, PostS.test q (fun rv ρ hn => ?_) fun k ρ1 H1 er1 st1 q1 => ?_⟩
      · split
        · exact absurd rfl (hn _)
        · exact absurd rfl (hn _)
        · rfl
      · cases k with
        | true => rw [if_pos rfl]; exact ⟨ρ1, er1, su.stp st1, asgR_go er1 (su.stp st1) h3 q1⟩
        | false => rw [if_neg Bool.false_ne_true]; exact ⟨ρ1, er1, su.stp st1, q1⟩
/-! ### try -/
theorem EnvR.drop {K : PySem.W.Frag} {σ : L2.St} {H : Hp} {ρ : Env} (er : EnvR K F σ H ρ) (j : Nat) (w : Option V) : EnvR K F (σ.set j w) H (ρ.set j .un) ∧ Same (vis F σ ρ H) (vis F (σ.set j w) (ρ.set j .un) H) := by
  have ne : ∀ {k : Nat} {s : Slot}, (ρ.set j .un)[k]? = some s → s ≠ .un → j ≠ k := fun {k s} e hs z => by
    subst z
    by_cases hj : j < ρ.length
    · rw [List.getElem?_set_self hj] at e; exact hs (Option.some.inj e).symm
    · rw [List.getElem?_eq_none (by simpa using hj)] at e; cases e
  refine er.chg (by rw [List.length_set, List.length_set]; exact er.len) (fun k d e => ?_) fun k t lk c e => ?_
  · have hk := ne e (by intro z; cases z)
    rw [List.getElem?_set_ne hk] at e ⊢
    exact er.val k d e
  · have hk := ne e (by intro z; cases z)
    rw [List.getElem?_set_ne hk] at e ⊢
    exact ⟨e, rfl⟩
theorem asgR_end {j : Nat} {m : R RV} (hm : ∀ y ρ, m ≠ .exc y ρ) : (∃ ρ', asgR j m = .nx ρ') ∨ asgR j m = .bad := by
  cases m with
  | bad => exact .inr rfl
  | exc y ρ => exact absurd rfl (hm y ρ)
  | ok r ρ =>
    unfold asgR
    simp only [R.fl_ok]
    split
    · exact .inr rfl
    · exact .inr rfl
    · exact .inr rfl
    · split
      · exact .inl ⟨_, rfl⟩
      · cases ef : frz ρ r with
        | bad => exact .inr rfl
        | exc y ρ' => exact (frz_noexc ef).elim
        | ok d ρ2 => exact .inl ⟨_, rfl⟩
theorem bind_noexc {α β : Type} {m : R α} {f : α → Env → R β} (h1 : ∀ y ρ, m ≠ .exc y ρ) (h2 : ∀ a ρ y ρ', f a ρ ≠ .exc y ρ') : ∀ y ρ, m.bind f ≠ .exc y ρ := by
  intro y ρ
  cases m with
  | bad => intro z; cases z
  | exc z ρ' => exact absurd rfl (h1 z ρ')
  | ok a ρ' => exact h2 a ρ' y ρ
theorem evAs_noexc {x : Exc} : ∀ {as : List HA} {ρ : Env} (y : Exc) (ρ' : Env), evAs x as ρ ≠ .exc y ρ'
  | [], ρ, y, ρ' => by intro z; cases z
  | b :: as, ρ, y, ρ' => by
    simp only [evAs]
    exact bind_noexc (fun y ρ' h => evA_noexc h) (fun d ρ1 => bind_noexc (fun y ρ' => evAs_noexc y ρ') fun ds ρ2 y ρ' z => by cases z) y ρ'
theorem nameV_noexc {ρ ρ' : Env} {j : Nat} {y : Exc} (h : nameV ρ j = .exc y ρ') : False := by
  simp only [nameV] at h
  split at h <;> cases h
theorem evH_noexc {x : Exc} : ∀ {e : HE} {ρ : Env} (y : Exc) (ρ' : Env), evH x e ρ ≠ .exc y ρ'
  | .at_ (.v j), ρ, y, ρ' => by simp only [evH]; exact fun h => nameV_noexc h
  | .at_ (.c d), ρ, y, ρ' => by simp only [evH, evA, R.bind_ok]; intro z; cases z
  | .at_ (.fld f), ρ, y, ρ' => by
    simp only [evH]
    exact bind_noexc (fun y ρ' h => evA_noexc h) (fun d ρ1 y ρ' z => by cases z) y ρ'
  | .is1 k, ρ, y, ρ' => by simp only [evH]; intro z; cases z
  | .isn k, ρ, y, ρ' => by simp only [evH]; intro z; cases z
  | .isv, ρ, y, ρ' => by simp only [evH]; intro z; cases z
  | .not_ b, ρ, y, ρ' => by
    simp only [evH]
    exact bind_noexc (fun y ρ' => evH_noexc (e := b) y ρ') (fun r ρ1 y ρ' z => by split at z <;> cases z) y ρ'
  | .and_ b c, ρ, y, ρ' => by
    simp only [evH]
    exact bind_noexc (fun y ρ' => evH_noexc (e := b) y ρ') (fun r ρ1 y ρ' z => by
      split at z
      · exact evH_noexc (e := c) _ _ z
      · cases z
      · cases z) y ρ'
  | .or_ b c, ρ, y, ρ' => by
    simp only [evH]
    exact bind_noexc (fun y ρ' => evH_noexc (e := b) y ρ') (fun r ρ1 y ρ' z => by
      split at z
      · cases z
      · exact evH_noexc (e := c) _ _ z
      · cases z) y ρ'
  | .ite c b d, ρ, y, ρ' => by
    simp only [evH]
    exact bind_noexc (fun y ρ' => evH_noexc (e := c) y ρ') (fun r ρ1 y ρ' z => by
      split at z
      · exact evH_noexc (e := b) _ _ z
      · exact evH_noexc (e := d) _ _ z
      · cases z) y ρ'
  | .tup as, ρ, y, ρ' => by
    simp only [evH]
    exact bind_noexc (fun y ρ' => evAs_noexc y ρ') (fun ds ρ1 y ρ' z => by split at z <;> cases z) y ρ'
  | .lst as, ρ, y, ρ' => by
    simp only [evH]
    exact bind_noexc (fun y ρ' => evAs_noexc y ρ') (fun ds ρ1 y ρ' z => by split at z <;> cases z) y ρ'
theorem exH_end {x : Exc} : ∀ {h : List HS} {ρ : Env}, (∃ ρ', exH x h ρ = .nx ρ') ∨ exH x h ρ = .bad
  | [], ρ => .inl ⟨ρ, rfl⟩
  | .nev :: r, ρ => .inr rfl
  | .asg j e :: r, ρ => by
    simp only [exH]
    rcases asgR_end (j := j) (m := evH x e ρ) (fun y ρ' => evH_noexc y ρ') with ⟨ρ', q⟩ | q
    · rw [q]; exact exH_end (h := r) (ρ := ρ')
    · rw [q]; exact .inr rfl
  | .if_ c j e :: r, ρ => by
    simp only [exH]
    cases ec : evH x c ρ with
    | bad => exact .inr rfl
    | exc y ρ' => exact absurd ec (evH_noexc y ρ')
    | ok rv ρ1 =>
      simp only [R.fl_ok]
      split
      · rcases asgR_end (j := j) (m := evH x e ρ1) (fun y ρ' => evH_noexc y ρ') with ⟨ρ', q⟩ | q
        · rw [q]; exact exH_end (h := r) (ρ := ρ')
        · rw [q]; exact .inr rfl
      · exact exH_end (h := r) (ρ := ρ1)
      · exact .inr rfl
/-- where exceptions are told -/
structure XC (X : Cx) (XR : XRel) (ec : List EC) : Prop where
  stack : X.stack = X.env :: X.outer
  frame : X.env.frame = some X.env.locals
  room : Room 2 X.A
  xr : XR = XRof X.K X.mg ec
  mc : ModC X.K X.mg ec
  isi : X.mg "isinstance" = none
  ve : X.mg "ValueError" = none
theorem XC.tr (G : XC X XR ec) (pn : List (Addr × Obj)) (xe : Value → Shared → Prop) : XC (X.tr pn xe) XR ec := ⟨G.stack, G.frame, G.room, G.xr, G.mc, G.isi, G.ve⟩
theorem Ctx.tr (Y : Ctx X Φ XR fn N cs sc) (pn : List (Addr × Obj)) (xe : Value → Shared → Prop) : Ctx (X.tr pn xe) Φ XR fn N cs sc :=
  ⟨Y.hN, Y.nd, Y.vis, Y.loc, Y.gl, Y.kindF, Y.lcl, Y.cell, Y.cf, Y.calm, Y.blt, Y.guards, Y.units, Y.fns, Y.cst, Y.dig⟩
/-- a suite that never runs may be any -/
def chkHX (N : List Str) (sc : Scope) (ec : List EC) (i : Option Nat) (h : List HS) (sts : List PySem.Stmt) : Bool := (match h with
  | [.nev] => true
  | _ => false) || chkHS N sc ec i h sts
theorem sndHX (Cx' : Ctx X Φ XR' fn N cs sc) (S : SuX X ec x a oe C dd fs) {h : List HS} {sts : List PySem.Stmt} (hh : chkHX N sc ec i h sts = true) : PSs (X.suite a ((a, oe) :: pn)) sts (rdHS x X.K F XR i a dd fs h) := by
  unfold chkHX at hh
  rw [Bool.or_eq_true] at hh
  rcases hh with hh | hh
  · split at hh
    · exact ⟨fun pins s σ H D I q => by
        obtain ⟨ρ, er, su, q⟩ := q
        simp only [exH] at q
        exact False.elim q⟩
    · cases hh
  · exact sndHS Cx' S hh
/-- what a suite's start knows -/
def tsM (X : Cx) (ec : List EC) (F : Fr) (XR : XRel) (i : Option Nat) (h : List HS) : Addr → Value → Option Addr → TS := fun a cls d D σ H => ∃ (x : Exc) (C dd : Addr) (fs : FsV), cls = .ref C ∧ d = some dd ∧
  (∃ e, ec[x.cls]? = some e ∧ e.fs ≠ [] ∧ X.mg e.name = some (.ref C) ∧ ∀ f y, x.fs.lookup f = some y → ∃ v, fs.l.lookup f = some v ∧ Rp X.K fs.V0 v y ∧ f ∈ e.fs) ∧ rdHS x X.K F XR i a dd fs h D σ H
theorem tsM_ok (Cx' : Ctx X Φ XR fn N cs sc) (G : XC X XR ec) {h : List HS} {sts : List PySem.Stmt} (hc : chkHX N sc ec i h sts = true) (a : Addr) (oe : Obj) (cls : Value) (d : Option Addr) (pn : List (Addr × Obj)) (hz : Zc cls d oe) (hf : ∃ vs, oe.data = .fields vs) :
    PSs (X.suite a ((a, oe) :: pn)) sts (tsM X ec F XR i h a cls d) := by
  refine ⟨fun pins s σ H D I q => ?_⟩
  obtain ⟨x, C, dd, fs, rfl, rfl, h1, h2⟩ := q
  exact (sndHX Cx' ⟨h1, hz, hf, G.mc, G.isi, G.ve⟩ hc).run pins s σ H D I h2
theorem sndS_try {body : List PySem.Stmt} {b : Ss} {k j : Nat} {h : List HS} {cn en : Str} {b₀ : PySem.Stmt} {suite : List PySem.Stmt} {np pos pos' : Pos} (Cx' : Ctx X Φ XR fn N cs sc) (G : XC X XR ec)
    (hb : ∀ (pn : List (Addr × Obj)) (xe : Value → Shared → Prop), PassesOwn (model X.prog X.w) X.A X.env xe → SndSs (X.tr pn xe) Φ XR body b) (hi : N[j]? = some en) (hl : sc.names.lookup en = some .local)
    (hk : isEc ec k cn = true) (gl : glb sc cn = true) (hh : chkHX N sc ec (some j) h (b₀ :: suite) = true) :
    SndS X Φ XR (.Try body [.ExceptHandler (some (.Name cn np)) (some en) (b₀ :: suite) pos'] [] [] pos) (.try_ b k (some j) h) := fun F W tk => by
  unfold isEc at hk
  split at hk
  · rename_i ek hek
    have hcn := of_decide_eq_true hk
    obtain ⟨Ck, hm⟩ := G.mc.named k ek hek
    have hmn : X.mg cn = some (.ref Ck) := by rw [← hcn]; exact hm
    refine PS_imp (ps_try_as (i := j) (c := .ref Ck) (tb := fun W => rdSs Φ X.K F XR W b) (ts := tsM X ec F XR (some j) h) G.stack G.frame (by rw [Cx'.hN]; exact Cx'.nd) (by rw [Cx'.hN]; exact hi) (Cx'.lcl en hl)
      ⟨(Cx'.glb gl).1, (dbg1 (Cx'.glb gl).2).1, .inl hmn⟩ tk (fun W pn xe tk' hp => hb pn xe hp F W tk') (fun a oe cls d pn hz hf => tsM_ok Cx' G hh a oe cls d pn hz hf)) ?_
    rintro D σ H ⟨ρ, er, q⟩
    simp only [exS] at q
    refine ⟨ρ, er, ?_⟩
    cases eb : exSs Φ b ρ with
    | bad => rw [eb] at q; exact q
    | nx ρ' => rw [eb] at q; exact q
    | bk ρ' => rw [eb] at q; exact q
    | ct ρ' => rw [eb] at q; exact q
    | rt r ρ' => rw [eb] at q; cases r <;> exact q
    | exc x ρ' =>
      rw [eb] at q
      intro cls d σ' H' er' st' hx
      rw [G.xr] at hx
      have hx0 := hx
      obtain ⟨e, C, dd, fs, h1, h0, h2, rfl, rfl, h5, h6⟩ := hx
      have pr := (G.mc.pair x.cls k e ek C Ck h1 hek h0 h2 hm).1
      refine ⟨isE x k, pr, fun hb1 a ha => ?_, fun hb0 => ?_⟩
      · simp only [tryR, hb1, if_true] at q
        by_cases hin : okN ρ' (some j) = true
        · rw [if_pos hin] at q
          obtain ⟨w1, w2⟩ := er'.drop j (some (.ref a))
          have hj : j < σ'.length := by rw [er'.len]; exact of_decide_eq_true hin
          refine ⟨x, C, dd, ⟨fs, vis F σ' ρ' H'⟩, rfl, rfl, ⟨e, h1, h0, h2, h6⟩, ρ'.set j .un, w1, ⟨fun l el => ?_, w2 _ _ h5, w2⟩, ?_⟩
          · cases el
            exact List.getElem?_set_self hj
          · rcases exH_end (x := x) (h := h) (ρ := ρ'.set j .un) with ⟨ρ2, q2⟩ | q2
            · simp only [unN, q2, Fl.next_nx] at q
              rw [q2]
              intro σ2 H2 er2 st2
              obtain ⟨u1, u2⟩ := er2.drop j none
              refine q _ _ u1 ?_
              refine st'.trans ((Stq.trans (ρ1 := ρ'.set j .un) (σ1 := σ'.set j (some (.ref a))) (H1 := H') ⟨w2, fun _ _ => rfl, fun b o e => ⟨o, e⟩⟩ st2).trans ⟨u2, fun _ _ => rfl, fun b o e => ⟨o, e⟩⟩)
            · simp only [unN, q2, Fl.next_bad] at q
              exact False.elim q
        · rw [if_neg hin] at q; exact False.elim q
      · simp only [tryR, hb0, Bool.false_eq_true, if_false] at q
        exact q _ _ σ' H' er' st' (by rw [G.xr]; exact hx0)
  · cases hk
theorem sndS_tryN {body : List PySem.Stmt} {b : Ss} {k : Nat} {h : List HS} {cn : Str} {b₀ : PySem.Stmt} {suite : List PySem.Stmt} {np pos pos' : Pos} (Cx' : Ctx X Φ XR fn N cs sc) (G : XC X XR ec)
    (hb : ∀ (pn : List (Addr × Obj)) (xe : Value → Shared → Prop), PassesOwn (model X.prog X.w) X.A X.env xe → SndSs (X.tr pn xe) Φ XR body b)
    (hk : isEc ec k cn = true) (gl : glb sc cn = true) (hh : chkHX N sc ec none h (b₀ :: suite) = true) :
    SndS X Φ XR (.Try body [.ExceptHandler (some (.Name cn np)) none (b₀ :: suite) pos'] [] [] pos) (.try_ b k none h) := fun F W tk => by
  unfold isEc at hk
  split at hk
  · rename_i ek hek
    have hcn := of_decide_eq_true hk
    obtain ⟨Ck, hm⟩ := G.mc.named k ek hek
    have hmn : X.mg cn = some (.ref Ck) := by rw [← hcn]; exact hm
    refine PS_imp (ps_try_only (c := .ref Ck) (tb := fun W => rdSs Φ X.K F XR W b) (ts := tsM X ec F XR none h) G.stack G.frame
      ⟨(Cx'.glb gl).1, (dbg1 (Cx'.glb gl).2).1, .inl hmn⟩ tk (fun W pn xe tk' hp => hb pn xe hp F W tk') (fun a oe cls d pn hz hf => tsM_ok Cx' G hh a oe cls d pn hz hf)) ?_
    rintro D σ H ⟨ρ, er, q⟩
    simp only [exS] at q
    refine ⟨ρ, er, ?_⟩
    cases eb : exSs Φ b ρ with
    | bad => rw [eb] at q; exact q
    | nx ρ' => rw [eb] at q; exact q
    | bk ρ' => rw [eb] at q; exact q
    | ct ρ' => rw [eb] at q; exact q
    | rt r ρ' => rw [eb] at q; cases r <;> exact q
    | exc x ρ' =>
      rw [eb] at q
      intro cls d σ' H' er' st' hx
      rw [G.xr] at hx
      have hx0 := hx
      obtain ⟨e, C, dd, fs, h1, h0, h2, rfl, rfl, h5, h6⟩ := hx
      have pr := (G.mc.pair x.cls k e ek C Ck h1 hek h0 h2 hm).1
      refine ⟨isE x k, pr, fun hb1 a ha => ?_, fun hb0 => ?_⟩
      · simp only [tryR, hb1, if_true, okN] at q
        refine ⟨x, C, dd, ⟨fs, vis F σ' ρ' H'⟩, rfl, rfl, ⟨e, h1, h0, h2, h6⟩, ρ', er', ⟨fun l el => (by cases el), h5, fun _ _ z => z⟩, ?_⟩
        rcases exH_end (x := x) (h := h) (ρ := ρ') with ⟨ρ2, q2⟩ | q2
        · simp only [unN, q2, Fl.next_nx] at q
          rw [q2]
          intro σ2 H2 er2 st2
          exact q _ _ er2 (st'.trans st2)
        · simp only [unN, q2, Fl.next_bad] at q
          exact False.elim q
      · simp only [tryR, hb0, Bool.false_eq_true, if_false] at q
        exact q _ _ σ' H' er' st' (by rw [G.xr]; exact hx0)
  · cases hk
end
end M

set_option Elab.async false
set_option linter.all false
set_option maxRecDepth 100000
set_option maxHeartbeats 8000000
/-! M: is a statement of the text this statement of M? -/
namespace M
open PySem PySem.Spec PyProof.Rows L2
def unpOk (n : Nat) : PE' → Bool
  | .Tuple vs _ _ => !(n == 2 || n == 3) || vs.all (foldedForSure 8)
  | _ => true
def isLoc (sc : Scope) (x : Str) : Bool := decide (sc.names.lookup x = some .local)
def parOk (px py : Pos) (x y : Str) (a' b' : PE') : Bool := (py.line == px.line) && decide (x ≠ y) && notStar a' && notStar b' && !(foldedForSure 8 a' && foldedForSure 8 b') && !(constantsAlone 8 a' && constantsAlone 8 b')
section
variable (fn : Nat → Option Str) (N : List Str) (cs : List (Str × D)) (sc : Scope) (ec : List EC)
mutual
def chkS : S → PySem.Stmt → Bool
  | .asg i e, .Assign [.Name x px] e' _ => decide (N[i]? = some x) && nmLoc sc x && chkE fn N cs sc e e'
  | .mov i j, .Assign [.Name x _] (.Name y _) _ => decide (N[i]? = some x) && nmLoc sc x && chkN N sc j y
  | .par i j a b, .Assign [.Tuple [.Name x px, .Name y py] _ _] (.Tuple [a', b'] _ _) _ => decide (N[i]? = some x) && decide (N[j]? = some y) && decide (i ≠ j) && isLoc sc x && isLoc sc y && parOk px py x y a' b' && chkE fn N cs sc a a' && chkE fn N cs sc b b'
  | .unp is e, .Assign [.Tuple es k pt] e' _ => chkTg N sc (.t is) (.Tuple es k pt) && unpOk es.length e' && chkE fn N cs sc e e'
  | .set i k e, .Assign [.Subscript (.Name x _) k' _] e' _ => chkN N sc i x && notSl k' && chkE fn N cs sc k k' && chkE fn N cs sc e e'
  | .ex e, .Expr e' _ => notComp e' && chkE fn N cs sc e e'
  | .ret e, .Return (some e') _ => chkE fn N cs sc e e'
  | .ret0, .Return none _ => true
  | .if_ c a b, .If c' a' b' _ => notIf c' && chkE fn N cs sc c c' && chkSs a a' && chkSs b b'
  | .wh c b, .While c' b' [] _ => notIf c' && chkE fn N cs sc c c' && chkSs b b'
  | .for_ tg s b, .For t' e' b' [] _ => chkTg N sc tg t' && chkSrc fn N cs sc s t' e' && notSet e' && chkSs b b'
  | .brk, .Break _ => true
  | .cont, .Continue _ => true
  | .pass, .Pass _ => true
  | .pass, .Expr (.Constant (.str _) _ _) _ => true
  | .never, _ => true
  | .raise_ k fs es, .Raise (some (.Call (.Name x _) (e1 :: es') [] _)) none _ => (match ec[k]? with
      | some e => decide (e.name = x) && decide (e.fs = fs)
      | none => false) && !fs.isEmpty && glb sc x && chkEs fn N cs sc es (e1 :: es')
  | .try_ b k (some j) h, .Try b' [.ExceptHandler (some (.Name cn _)) (some en) (h0 :: hs) _] [] [] _ => decide (N[j]? = some en) && isLoc sc en && isEc ec k cn && glb sc cn && chkHX N sc ec (some j) h (h0 :: hs) && chkSs b b'
  | .try_ b k none h, .Try b' [.ExceptHandler (some (.Name cn _)) none (h0 :: hs) _] [] [] _ => isEc ec k cn && glb sc cn && chkHX N sc ec none h (h0 :: hs) && chkSs b b'
  | _, _ => false
def chkSs : Ss → List PySem.Stmt → Bool
  | .nil, [] => true
  | .cons (.kill _) ss, sts => chkSs ss sts
  | .cons s ss, st :: sts => chkS s st && chkSs ss sts
  | _, _ => false
end
end
section
variable {X : Cx} {Φ : Phi} {XR : XRel} {fn : Nat → Option Str} {N : List Str} {cs : List (Str × D)} {sc : Scope} {ec : List EC} {e' a' b' : PE'} {pos px py pt p2 : Pos}
theorem swap_sub {t : PE'} (ht : ∀ x p, t ≠ .Name x p) : swapsWith e' (some t) pos.line X.env = pure false := by
  cases e' <;> first | rfl | (cases t <;> first | rfl | exact absurd rfl (ht _ _))
theorem swapped_par {x y : Str} {kt k2 : Nat} (hk : X.env.scope.kind = .function) (hx : X.env.scope.names.lookup x = some .local) (hy : X.env.scope.names.lookup y = some .local) (h : parOk px py x y a' b' = true) :
    swappedStores [.Tuple [.Name x px, .Name y py] kt pt] (.Tuple [a', b'] k2 p2) X.env = pure (some [x, y]) := by
  unfold parOk at h
  simp only [Bool.and_eq_true, decide_eq_true_eq, Bool.not_eq_true'] at h
  obtain ⟨⟨⟨⟨⟨h1, h2⟩, h3⟩, h4⟩, h5⟩, h6⟩ := h
  have hx' : X.env.kindOf x = some .local := hx
  have hy' : X.env.kindOf y = some .local := hy
  have bk := blockKind_fn hk
  have l1 : py.line = px.line := by simpa using h1
  have hxy : ¬ y = x := Ne.symm h2
  have hst : ([a', b'].any fun | .Starred .. => true | _ => false) = false := by
    simp only [List.any_cons, List.any_nil, Bool.or_false, Bool.or_eq_false_iff]
    constructor
    · split
      · simp [notStar] at h3
      · rfl
    · split
      · simp [notStar] at h4
      · rfl
  have hb : (y == x) = false := beq_eq_false_iff_ne.mpr hxy
  unfold swappedStores
  simp only [bk]
  refine Eq.trans (if_neg (by simp)) ?_
  refine Eq.trans (if_neg ?_) ?_
  · exact fun z => absurd (Eq.trans hst.symm z : false = true) (by decide)
  · simp [hx', hy', l1, PySem.Expr.pos, h5, h6, List.eraseDups, List.eraseDupsBy, List.eraseDupsBy.loop, hb]
theorem swapped_unp {es : List PE'} {k : Nat} (h : unpOk es.length e' = true) : swappedStores [.Tuple es k pt] e' X.env = pure none := by
  cases e' with
  | Tuple vs _ _ =>
    unfold unpOk at h
    rw [Bool.or_eq_true] at h
    unfold swappedStores
    simp only
    split
    · rfl
    · rename_i hc
      rcases h with h | h
      · exfalso
        apply hc
        simp only [Bool.not_eq_true'] at h
        simp [h]
      · split
        · rfl
        · split
          · rfl
          · simp [h]
  | _ => rfl
theorem sndS_asgC {i : Nat} {x : Str} {e : E} (C : Ctx X Φ XR fn N cs sc) (h1 : N[i]? = some x) (h2 : nmLoc sc x = true) (h3 : chkE fn N cs sc e e' = true) : SndS X Φ XR (.Assign [.Name x px] e' pos) (.asg i e) := by
  obtain ⟨l, f⟩ := C.loc x h2
  by_cases hb : swapB sc x px e' = true
  · cases e' with
    | ListComp el gs s p =>
      unfold swapB at hb
      simp only [Bool.and_eq_true, decide_eq_true_eq, Bool.not_eq_true'] at hb
      obtain ⟨⟨b1, b2⟩, b3⟩ := hb
      unfold chkE at h3; split at h3 <;> (try contradiction)
      injections; subst_vars
      simp only [Bool.and_eq_true, decide_eq_true_eq, Bool.not_eq_true'] at h3
      obtain ⟨⟨⟨⟨⟨⟨h0, g1⟩, g2⟩, g3⟩, g4⟩, g5⟩, g6⟩ := h3
      subst h0
      exact fun F W tk => PS_imp (sndS_comp C.calm (by rw [C.hN]; exact C.nd) (compOk_of C g1 g2 (sndSrc _ C g3) g4 (fun C => (sndE _ C g5).v) g6 (fun C h => sndE _ C h)) (by rw [C.hN]; exact h1) (C.lcl x b1) (sw_true C.kindF (C.lcl x b1) b2 b3) F W tk) asg_go
    | _ => cases hb
  · exact sndS_asg (by rw [C.hN]; exact C.nd) (by rw [C.hN]; exact h1) l f (swap_no C.kindF C.lcl C.cell h2 (fun a b c d e z => by subst z; unfold chkE at h3; split at h3 <;> contradiction) (fun a b c d z => by subst z; unfold chkE at h3; split at h3 <;> contradiction) (by simpa using hb)) (sndE e C h3).v
mutual
theorem sndS : ∀ (s : S) {X : Cx} {st : PySem.Stmt}, Ctx X Φ XR fn N cs sc → XC X XR ec → PassesOwn (model X.prog X.w) X.A X.env X.xe → chkS fn N cs sc ec s st = true → SndS X Φ XR st s
  | .asg i e, X, st, C, G, hp, h => by
    unfold chkS at h; split at h <;> (try contradiction)
    injections; subst_vars
    simp only [Bool.and_eq_true, decide_eq_true_eq] at h
    exact sndS_asgC C h.1.1 h.1.2 h.2
  | .mov i j, X, st, C, G, hp, h => by
    unfold chkS at h; split at h <;> (try contradiction)
    injections; subst_vars
    simp only [chkN, Bool.and_eq_true, decide_eq_true_eq] at h
    obtain ⟨⟨h1, h2⟩, ⟨h3, h4⟩, h5⟩ := h
    obtain ⟨l, f⟩ := C.loc _ h2
    exact sndS_mov (by rw [C.hN]; exact C.nd) (by rw [C.hN]; exact h1) (by rw [C.hN]; exact h3) l f (C.vis _ h4) h5
  | .par i j a b, X, st, C, G, hp, h => by
    unfold chkS at h; split at h <;> (try contradiction)
    injections; subst_vars
    simp only [isLoc, Bool.and_eq_true, decide_eq_true_eq] at h
    obtain ⟨⟨⟨⟨⟨⟨⟨h1, h2⟩, h3⟩, h4⟩, h5⟩, h6⟩, h7⟩, h8⟩ := h
    have p6 := h6
    unfold parOk at p6
    simp only [Bool.and_eq_true] at p6
    exact sndS_par C.calm (by rw [C.hN]; exact C.nd) (by rw [C.hN]; exact h1) (by rw [C.hN]; exact h2) h3 (C.lcl _ h4) (C.lcl _ h5) (swapped_par C.kindF (C.lcl _ h4) (C.lcl _ h5) h6) p6.1.1.1.2 p6.1.1.2 (sndE _ C h7).v (sndE _ C h8).v
  | .unp is e, X, st, C, G, hp, h => by
    unfold chkS at h; split at h <;> (try contradiction)
    injections; subst_vars
    simp only [Bool.and_eq_true] at h
    exact sndS_unp (swapped_unp h.1.2) (swap_sub fun x p z => by cases z) (C.tg h.1.1) (sndE _ C h.2).v
  | .set i k e, X, st, C, G, hp, h => by
    unfold chkS at h; split at h <;> (try contradiction)
    injections; subst_vars
    simp only [Bool.and_eq_true] at h
    obtain ⟨⟨⟨h1, h2⟩, h3⟩, h4⟩ := h
    obtain ⟨g1, g2, g3⟩ := C.nm h1
    exact sndS_set (fits_le (k := 1) C.units (by decide)) g1 g2 g3 (sndE _ C h3).v (sndE _ C h4).v (swap_sub fun x p z => by cases z) rfl h2
  | .ex e, X, st, C, G, hp, h => by
    unfold chkS at h; split at h <;> (try contradiction)
    injections; subst_vars
    simp only [Bool.and_eq_true] at h
    exact sndS_ex (swaps_ok h.1) (sndE _ C h.2).v
  | .ret e, X, st, C, G, hp, h => by
    unfold chkS at h; split at h <;> (try contradiction)
    injections; subst_vars
    exact sndS_ret (sndE _ C h).v
  | .ret0, X, st, C, G, hp, h => by
    unfold chkS at h; split at h <;> (try contradiction)
    exact sndS_ret0
  | .if_ c a b, X, st, C, G, hp, h => by
    have ih_a := fun {sts} (h : chkSs fn N cs sc ec a sts = true) => sndSs a C G hp h
    have ih_b := fun {sts} (h : chkSs fn N cs sc ec b sts = true) => sndSs b C G hp h
    unfold chkS at h; split at h <;> (try contradiction)
    injections; subst_vars
    simp only [Bool.and_eq_true] at h
    obtain ⟨⟨⟨h1, h2⟩, h3⟩, h4⟩ := h
    exact sndS_if ((sndE _ C h2).t h1) (ih_a h3) (ih_b h4)
  | .wh c b, X, st, C, G, hp, h => by
    have ih_b := fun {sts} (h : chkSs fn N cs sc ec b sts = true) => sndSs b C G hp h
    unfold chkS at h; split at h <;> (try contradiction)
    injections; subst_vars
    simp only [Bool.and_eq_true] at h
    obtain ⟨⟨h1, h2⟩, h3⟩ := h
    exact sndS_wh hp ((sndE _ C h2).t h1) (ih_b h3)
  | .for_ tg s b, X, st, C, G, hp, h => by
    have ih_b := fun {sts} (h : chkSs fn N cs sc ec b sts = true) => sndSs b C G hp h
    unfold chkS at h; split at h <;> (try contradiction)
    injections; subst_vars
    simp only [Bool.and_eq_true] at h
    obtain ⟨⟨⟨h1, h2⟩, h3⟩, h4⟩ := h
    exact sndS_for hp C.calm (sndSrc _ C h2) (C.tg h1) (ih_b h4) (notSet_ok h3)
  | .brk, X, st, C, G, hp, h => by
    unfold chkS at h; split at h <;> (try contradiction)
    exact sndS_brk
  | .cont, X, st, C, G, hp, h => by
    unfold chkS at h; split at h <;> (try contradiction)
    exact sndS_cont
  | .pass, X, st, C, G, hp, h => by
    unfold chkS at h; split at h <;> (try contradiction)
    · exact sndS_pass
    · exact sndS_doc
  | .never, X, st, C, G, hp, h => sndS_never
  | .kill is, X, st, C, G, hp, h => by unfold chkS at h; cases h
  | .raise_ k fs es, X, st, C, G, hp, h => by
    unfold chkS at h; split at h <;> (try contradiction)
    injections; subst_vars
    simp only [Bool.and_eq_true] at h
    obtain ⟨⟨⟨h1, h2⟩, h3⟩, h4⟩ := h
    split at h1
    · rename_i e he
      obtain ⟨nm, fs'⟩ := e
      rw [Bool.and_eq_true, decide_eq_true_eq, decide_eq_true_eq] at h1
      obtain ⟨g1, g2⟩ := h1
      subst g1 g2
      have xr := G.xr
      subst xr
      exact sndS_raise C.calm G.room G.mc he (fun z => by simp only at z; subst z; cases h2) (C.glb h3).1 (C.glb h3).2 (allStar h4) (sndEs _ C h4).2.1
    · cases h1
  | .try_ b k i hs, X, st, C, G, hp, h => by
    have ih_b := fun {X : Cx} {sts} C G hp (h : chkSs fn N cs sc ec b sts = true) => sndSs b (X := X) C G hp h
    unfold chkS at h; split at h <;> (try contradiction)
    · injections; subst_vars
      simp only [Bool.and_eq_true, decide_eq_true_eq, isLoc] at h
      obtain ⟨⟨⟨⟨⟨h1, h2⟩, h3⟩, h4⟩, h5⟩, h6⟩ := h
      exact sndS_try C G (fun pn xe hp' => ih_b (C.tr pn xe) (G.tr pn xe) hp' h6) h1 h2 h3 h4 h5
    · injections; subst_vars
      simp only [Bool.and_eq_true] at h
      obtain ⟨⟨⟨h3, h4⟩, h5⟩, h6⟩ := h
      exact sndS_tryN C G (fun pn xe hp' => ih_b (C.tr pn xe) (G.tr pn xe) hp' h6) h3 h4 h5
theorem sndSs : ∀ (ss : Ss) {X : Cx} {sts : List PySem.Stmt}, Ctx X Φ XR fn N cs sc → XC X XR ec → PassesOwn (model X.prog X.w) X.A X.env X.xe → chkSs fn N cs sc ec ss sts = true → SndSs X Φ XR sts ss
  | .nil, X, sts, C, G, hp, h => by
    cases sts with
    | nil => exact sndSs_nil
    | cons st sts => simp [chkSs] at h
  | .cons s ss, X, sts, C, G, hp, h => by
    have ih := fun {sts} h => sndSs ss (sts := sts) C G hp h
    have ih1 := fun {st} h => sndS s (st := st) C G hp h
    unfold chkSs at h
    split at h
    · contradiction
    · injections; subst_vars
      exact sndSs_kill (ih h)
    · injections; subst_vars
      rw [Bool.and_eq_true] at h
      exact sndSs_cons (ih1 h.1) (ih h.2)
    · cases h
end
end
end M

set_option Elab.async false
set_option linter.all false
set_option maxRecDepth 100000
set_option maxHeartbeats 4000000
/-! M: a def of the text by its body in M -/
namespace M
open PySem PySem.Spec PyProof.Rows L2
section
variable {K : PySem.W.Frag} {Vi H : Hp}
theorem args_at {vs : List V} {as : List Arg} {ps : List Addr} (h : ArgsR K Vi H vs as ps) : ∀ (n i : Nat) (s : Slot), (argSlot n as)[i]? = some s →
    (∃ d v, s = .val d ∧ vs[i]? = some v ∧ Rp K Vi v d) ∨ ∃ m p o c, s = .own (some (n + m)) false c ∧ ps[m]? = some p ∧ vs[i]? = some (.ref p) ∧ H p = some o ∧ CellR K Vi c o := by
  induction h with
  | nil => intro n i s e; simp [argSlot] at e
  | val r h ih =>
    intro n i s e
    cases i with
    | zero =>
      simp only [argSlot, List.getElem?_cons_zero, Option.some.injEq] at e
      subst e
      exact .inl ⟨_, _, rfl, rfl, r⟩
    | succ i =>
      simp only [argSlot, List.getElem?_cons_succ] at e
      simpa using ih n i s e
  | own e1 r h ih =>
    intro n i s e
    cases i with
    | zero =>
      simp only [argSlot, List.getElem?_cons_zero, Option.some.injEq] at e
      subst e
      exact .inr ⟨0, _, _, _, rfl, rfl, rfl, e1, r⟩
    | succ i =>
      simp only [argSlot, List.getElem?_cons_succ] at e
      rcases ih (n + 1) i s e with h | ⟨m, p, o, c, g1, g2, g3, g4⟩
      · exact .inl (by simpa using h)
      · exact .inr ⟨m + 1, p, o, c, by rw [g1]; congr 2; omega, by simpa using g2, by simpa using g3, g4⟩
theorem args_has {vs : List V} {as : List Arg} {ps : List Addr} (h : ArgsR K Vi H vs as ps) : ∀ (n : Nat) (p : Addr), p ∈ ps → ∃ (i m : Nat) (c : Cell), (argSlot n as)[i]? = some (Slot.own (some m) false c) ∧ vs[i]? = some (V.ref p) := by
  induction h with
  | nil => intro n p hp; cases hp
  | val r h ih =>
    intro n p hp
    obtain ⟨i, m, c, e1, e2⟩ := ih n p hp
    exact ⟨i + 1, m, c, by simpa [argSlot] using e1, by simpa using e2⟩
  | own e1 r h ih =>
    intro n p hp
    rcases List.mem_cons.mp hp with rfl | hp
    · exact ⟨0, n, _, rfl, rfl⟩
    · obtain ⟨i, m, c, e1, e2⟩ := ih (n + 1) p hp
      exact ⟨i + 1, m, c, by simpa [argSlot] using e1, by simpa using e2⟩
theorem tag_ge : ∀ {as : List Arg} {n i m : Nat} {lk : Bool} {c : Cell}, (argSlot n as)[i]? = some (.own (some m) lk c) → n ≤ m
  | [], n, i, m, lk, c, h => by simp [argSlot] at h
  | .val d :: as, n, 0, m, lk, c, h => by simp [argSlot] at h
  | .val d :: as, n, i + 1, m, lk, c, h => tag_ge (as := as) (i := i) (by simpa [argSlot] using h)
  | .own d :: as, n, 0, m, lk, c, h => by
    simp [argSlot] at h
    omega
  | .own d :: as, n, i + 1, m, lk, c, h => by
    have := tag_ge (as := as) (n := n + 1) (i := i) (by simpa [argSlot] using h)
    omega
theorem tag_inj : ∀ {as : List Arg} {n i j m : Nat} {lk lk' : Bool} {c c' : Cell}, (argSlot n as)[i]? = some (.own (some m) lk c) → (argSlot n as)[j]? = some (.own (some m) lk' c') → i = j
  | [], n, i, j, m, lk, lk', c, c', h, _ => by simp [argSlot] at h
  | .val d :: as, n, 0, j, m, lk, lk', c, c', h, _ => by simp [argSlot] at h
  | .val d :: as, n, i + 1, 0, m, lk, lk', c, c', _, h => by simp [argSlot] at h
  | .val d :: as, n, i + 1, j + 1, m, lk, lk', c, c', h, h' => by
    rw [tag_inj (as := as) (i := i) (j := j) (by simpa [argSlot] using h) (by simpa [argSlot] using h')]
  | .own d :: as, n, 0, 0, m, lk, lk', c, c', _, _ => rfl
  | .own d :: as, n, 0, j + 1, m, lk, lk', c, c', h, h' => by
    have g := tag_ge (as := as) (n := n + 1) (i := j) (by simpa [argSlot] using h')
    simp [argSlot] at h
    omega
  | .own d :: as, n, i + 1, 0, m, lk, lk', c, c', h', h => by
    have g := tag_ge (as := as) (n := n + 1) (i := i) (by simpa [argSlot] using h')
    simp [argSlot] at h
    omega
  | .own d :: as, n, i + 1, j + 1, m, lk, lk', c, c', h, h' => by
    rw [tag_inj (as := as) (i := i) (j := j) (by simpa [argSlot] using h) (by simpa [argSlot] using h')]
theorem argSlot_len : ∀ {as : List Arg} {n : Nat}, (argSlot n as).length = as.length
  | [], _ => rfl
  | .val _ :: as, n => by simp [argSlot, argSlot_len]
  | .own _ :: as, n => by simp [argSlot, argSlot_len]
/-- the frame of a call -/
def frOf (H : Hp) (ps : List Addr) (h : Addr → Prop) : Fr := ⟨H, fun j => ps[j]?.getD 0, ps.length, h⟩
theorem get_un {ρ : Env} {k i : Nat} {s : Slot} (hs : s ≠ .un) (h : (ρ ++ List.replicate k .un)[i]? = some s) : ρ[i]? = some s := by
  by_cases hi : i < ρ.length
  · rwa [List.getElem?_append_left hi] at h
  · rw [List.getElem?_append_right (by omega), List.getElem?_replicate] at h
    split at h
    · exact absurd (Option.some.inj h).symm hs
    · cases h
theorem start_at {N : List Str} {vs : List V} {i : Nat} {v : V} (h : vs[i]? = some v) : (L2.start N vs)[i]? = some (some v) := by
  unfold L2.start
  have hi := (List.getElem?_eq_some_iff.mp h).1
  rw [List.getElem?_append_left (by simpa using hi), List.getElem?_map, h]; rfl
theorem start_has {N : List Str} {vs : List V} {i : Nat} {v : V} (h : (L2.start N vs)[i]? = some (some v)) : vs[i]? = some v := by
  unfold L2.start at h
  by_cases hi : i < vs.length
  · rw [List.getElem?_append_left (by simpa using hi), List.getElem?_map] at h
    obtain ⟨w, h1, h2⟩ := Option.map_eq_some_iff.mp h
    rw [h1, Option.some.inj h2]
  · rw [List.getElem?_append_right (by simpa using hi), List.getElem?_replicate] at h
    split at h <;> cases h
theorem env_start {h : Addr → Prop} {N : List Str} {vs : List V} {as : List Arg} {ps : List Addr} {many : Nat} (ar : ArgsR K (visH h ps H) H vs as ps) (nd : ps.Nodup) (hn : ∀ p ∈ ps, ¬ h p) (hh : ∀ b, h b → ∃ o, H b = some o) (hN : N.length = many) (hle : vs.length ≤ many) :
    EnvR K (frOf H ps h) (L2.start N vs) H (argSlot 0 as ++ List.replicate (many - as.length) .un) ∧ vis (frOf H ps h) (L2.start N vs) (argSlot 0 as ++ List.replicate (many - as.length) .un) H = visH h ps H := by
  have hl := ar.len
  have oa : ∀ b, OA (L2.start N vs) (argSlot 0 as ++ List.replicate (many - as.length) .un) b ↔ b ∈ ps := fun b => by
    constructor
    · rintro ⟨i, t, lk, c, e1, e2⟩
      rcases args_at ar 0 i _ (get_un (by intro z; cases z) e1) with ⟨d, v, z, _⟩ | ⟨m, p, o, c', g1, g2, g3, g4⟩
      · cases z
      · have := start_has e2
        rw [g3] at this
        cases this
        exact List.mem_of_getElem? g2
    · intro hb
      obtain ⟨i, m, c, e1, e2⟩ := args_has ar 0 b hb
      exact ⟨i, some m, false, c, by rw [List.getElem?_append_left (List.getElem?_eq_some_iff.mp e1).1]; exact e1, start_at e2⟩
  have hv : vis (frOf H ps h) (L2.start N vs) (argSlot 0 as ++ List.replicate (many - as.length) .un) H = visH h ps H := by
    funext b
    unfold vis visH
    by_cases z : h b ∨ b ∈ ps
    · rw [if_pos z, if_pos (z.elim .inl fun y => .inr ((oa b).mpr y))]
    · rw [if_neg z, if_neg (fun y => z (y.elim .inl fun x => .inr ((oa b).mp x)))]
  refine ⟨⟨?_, fun i d e => ?_, fun i t lk c e => ?_, fun i j t lk c t' lk' c' p e1 e2 e3 e4 => ?_, hh, fun b o e _ => e, fun j hj => ?_⟩, hv⟩
  · rw [List.length_append, argSlot_len, List.length_replicate]
    unfold L2.start
    rw [List.length_append, List.length_map, List.length_replicate]
    omega
  · rw [hv]
    rcases args_at ar 0 i _ (get_un (by intro z; cases z) e) with ⟨d', v, z, g1, g2⟩ | ⟨m, p, o, c', g1, _⟩
    · cases z
      exact ⟨v, start_at g1, g2⟩
    · cases g1
  · rw [hv]
    rcases args_at ar 0 i _ (get_un (by intro z; cases z) e) with ⟨d', v, z, _⟩ | ⟨m, p, o, c', g1, g2, g3, g4, g5⟩
    · cases z
    · cases g1
      refine ⟨p, o, start_at g3, g4, g5, hn p (List.mem_of_getElem? g2), fun j hj => ?_, fun z => by cases z⟩
      have : j = m := by have := Option.some.inj hj; omega
      subst this
      exact ⟨(List.getElem?_eq_some_iff.mp g2).1, by show p = ps[j]?.getD 0; rw [g2]; rfl⟩
  · have a1 := get_un (by intro z; cases z) e1
    have a2 := get_un (by intro z; cases z) e2
    rcases args_at ar 0 i _ a1 with ⟨d', v, z, _⟩ | ⟨m, p1, o, c1, g1, g2, g3, _⟩
    · cases z
    rcases args_at ar 0 j _ a2 with ⟨d', v, z, _⟩ | ⟨m', p2, o', c2, k1, k2, k3, _⟩
    · cases z
    have b1 := start_has e3
    have b2 := start_has e4
    rw [g3] at b1
    rw [k3] at b2
    cases b1
    cases b2
    have : m = m' := by
      obtain ⟨h1, h2⟩ := List.getElem?_eq_some_iff.mp g2
      obtain ⟨h3, h4⟩ := List.getElem?_eq_some_iff.mp k2
      exact (List.getElem_inj nd).mp (h2.trans h4.symm)
    subst this
    rw [g1] at a1
    rw [k1] at a2
    exact tag_inj a1 a2
  · have hj : j < ps.length := hj
    have e : ps[j]? = some ps[j] := List.getElem?_eq_getElem hj
    have hm : ps[j] ∈ ps := List.getElem_mem hj
    show ∃ o, H (ps[j]?.getD 0) = some o
    rw [e]
    have : ∀ {vs as ps}, ArgsR K (visH h ps H) H vs as ps → True := fun _ => trivial
    obtain ⟨i, m, c, e1, e2⟩ := args_has ar 0 _ hm
    rcases args_at ar 0 i _ e1 with ⟨d', v, z, _⟩ | ⟨m', p, o, c', g1, g2, g3, g4, g5⟩
    · cases z
    · rw [e2] at g3
      cases g3
      exact ⟨o, g4⟩
theorem outs_ret {K : PySem.W.Frag} {h : Addr → Prop} {H H' : Hp} {ps : List Addr} {σ : L2.St} {ρ : Env} {Vi : Hp} (er : EnvR K (frOf H ps h) σ H' ρ) (sm : Same (vis (frOf H ps h) σ ρ H') Vi) : ∀ {as : List Arg} {i n : Nat} {cs : List Cell} {qs : List Addr}, outsOf ρ as i n = some cs → ps.drop n = qs → (∀ {V0 H0 : Hp} {vs : List V}, ArgsR K V0 H0 vs as qs → OutsR K Vi H' qs cs)
  | [], i, n, cs, qs, e, hq => by
    intro ar
    cases e
    cases ar
    exact .nil
  | .val d :: as, i, n, cs, qs, e, hq => by
    intro ar
    cases ar with
    | val r ar => exact outs_ret er sm (by simpa [outsOf] using e) hq ar
  | .own c0 :: as, i, n, cs, qs, e, hq => by
    intro ar
    cases ar with
    | own e1 r ar =>
      rename_i p o vs ps'
      simp only [outsOf] at e
      split at e
      · rename_i m lk c cs' es eo
        split at e
        · rename_i hm
          subst hm
          cases e
          obtain ⟨q, o', g1, g2, g3, g4, g5, g6⟩ := er.own i (some m) lk c es
          have hq1 : ps[m]? = some p := by
            have : (ps.drop m)[0]? = some p := by rw [hq]; rfl
            simpa using this
          have hqp : q = p := by
            have := (g5 m rfl).2
            rw [this]
            show ps[m]?.getD 0 = p
            rw [hq1]; rfl
          subst hqp
          refine .cons g2 (g3.mono sm) (outs_ret er sm eo ?_ ar)
          rw [← List.drop_drop, hq]; rfl
        · cases e
      · cases e
theorem outs_own {K : PySem.W.Frag} {F : Fr} {σ : L2.St} {H' : Hp} {ρ : Env} (er : EnvR K F σ H' ρ) : ∀ {as : List Arg} {i n : Nat} {cs : List Cell}, outsOf ρ as i n = some cs → ∀ j, n ≤ j → j < n + (cellsOfA as).length → OA σ ρ (F.I j)
  | [], i, n, cs, e, j, h1, h2 => by simp [cellsOfA] at h2; omega
  | .val d :: as, i, n, cs, e, j, h1, h2 => outs_own er (as := as) (by simpa [outsOf] using e) j h1 (by simpa [cellsOfA] using h2)
  | .own c0 :: as, i, n, cs, e, j, h1, h2 => by
    simp only [outsOf] at e
    split at e
    · rename_i m lk c cs' es eo
      split at e
      · rename_i hm
        subst hm
        by_cases hj : j = m
        · subst hj
          obtain ⟨q, o', g1, g2, g3, g4, g5, g6⟩ := er.own i (some j) lk c es
          rw [← (g5 j rfl).2]
          exact ⟨i, _, _, _, es, g1⟩
        · exact outs_own er (as := as) eo j (by omega) (by simp only [cellsOfA, List.length_cons] at h2; omega)
      · cases e
    · cases e
theorem args_cells {K : PySem.W.Frag} {Vi H : Hp} {vs : List V} {as : List Arg} {ps : List Addr} (h : ArgsR K Vi H vs as ps) : (cellsOfA as).length = ps.length := by
  induction h with
  | nil => rfl
  | val _ _ ih => simpa [cellsOfA] using ih
  | own _ _ _ ih => simp [cellsOfA, ih]
end
section
variable {P : Program} {w : World} {K : PySem.W.Frag} {mg : Str → Option Value} {base : Heap} {k : Nat} {x qual : Str} {st : PySem.Stmt} {f : Addr} {fd : FuncData} {N ps : List Str} {Φ : Phi} {XR : XRel} {fn : Nat → Option Str} {cs : List (Str × D)} {b : Ss} {nps : Nat} {ec : List EC}
/-- THE RULE of a def: its body as it stands is that term of M -/
theorem fnM_body (F : Fun K x qual st f fd) (S : FnScope N ps (defScope st)) (hx : ∀ x cls d V0 V1, Same V0 V1 → XR x cls d V0 → XR x cls d V1) (hc : chkSs fn N cs (defScope st) ec b (defBody st) = true) (hps : ps.length = nps) (hN : nps ≤ N.length)
    (ctx : ∀ (cdv : Value) (A : Around) (fr : List PySem.Env) (s : Shared) (H : Hp) (E : XK), Room k (A.deeper (envOfC qual (defScope st) s.heap.objs.size f cdv)) → A.guards = some [] → Ctx (cxOf (L2.CX P w) P w K mg base N qual (defScope st) f cdv A fr s H E) Φ XR fn N cs (defScope st))
    (xc : ∀ (cdv : Value) (A : Around) (fr : List PySem.Env) (s : Shared) (H : Hp) (E : XK), Room k (A.deeper (envOfC qual (defScope st) s.heap.objs.size f cdv)) → A.guards = some [] → XC (cxOf (L2.CX P w) P w K mg base N qual (defScope st) f cdv A fr s H E) XR ec) :
    FnM P w K mg base (k + 1) f fd ps (spOf K XR (body Φ N.length nps b)) := by
  refine fnM_of F S ?_ ?_
  · rintro vs H Q E ⟨as, h, qs, ar, nd, hn, hh, sp⟩
    unfold body at sp
    by_cases hl : as.length = nps
    · rw [ar.len, hl, hps]
    · rw [if_neg hl] at sp; exact False.elim sp
  · rintro cdv A fr s H vs Q E hr hg ⟨as, h, qs, ar, nd, hn, hh, sp⟩
    have C := ctx cdv A fr s H E hr hg
    refine ⟨rdSs Φ K (frOf H qs h) XR (fun cls d _ H' => E cls d H') b, sndSs b C (xc cdv A fr s H E hr hg) (passes_of rfl) hc (frOf H qs h) _ (takes_of rfl rfl rfl rfl), ?_⟩
    unfold body at sp
    by_cases hl : as.length = nps
    case neg => rw [if_neg hl] at sp; exact False.elim sp
    rw [if_pos hl] at sp
    obtain ⟨er, hv⟩ := env_start (N := N) ar nd hn hh rfl (by rw [ar.len, hl]; exact hN)
    rw [hl] at er hv
    refine ⟨_, er, ?_⟩
    -- what every end knows
    have sub : ∀ {σ' : L2.St} {H' : Hp} {ρ' : Env} {cs : List Cell}, EnvR K (frOf H qs h) σ' H' ρ' → outsOf ρ' as 0 0 = some cs → Same (vis (frOf H qs h) σ' ρ' H') (visH h qs H') := fun {σ' H' ρ' cs} er' eo => fun a o e => by
      obtain ⟨e1, e2, e3⟩ := vis_some e
      unfold visH
      rw [if_neg]
      · exact e1
      rintro (z | z)
      · exact e2 z
      · obtain ⟨j, hj, rfl⟩ := List.getElem_of_mem z
        have := outs_own er' eo j (Nat.zero_le _) (by rw [args_cells ar]; omega)
        have e4 : (frOf H qs h).I j = qs[j] := by show qs[j]?.getD 0 = _; rw [List.getElem?_eq_getElem hj]; rfl
        rw [e4] at this
        exact e3 this
    have keeps : ∀ {σ' : L2.St} {H' : Hp} {ρ' : Env} {ρ0 : Env} {σ0 : L2.St}, EnvR K (frOf H qs h) σ' H' ρ' → Stq (frOf H qs h) σ0 H ρ0 σ' H' ρ' → Keeps qs H H' := fun {σ' H' ρ' ρ0 σ0} er' st' => ⟨fun a o e hm => er'.keep a o e fun j hj z => hm (by
      have hj : j < qs.length := hj
      have e4 : (frOf H qs h).I j = qs[j] := by show qs[j]?.getD 0 = _; rw [List.getElem?_eq_getElem hj]; rfl
      rw [z, e4]
      exact List.getElem_mem hj), st'.dom⟩
    cases eb : exSs Φ b (argSlot 0 as ++ List.replicate (N.length - nps) .un) with
    | bad => rw [eb] at sp; exact sp
    | bk ρ' => rw [eb] at sp; exact False.elim sp
    | ct ρ' => rw [eb] at sp; exact False.elim sp
    | nx ρ' =>
      rw [eb] at sp
      simp only at sp
      intro σ' H' er' st'
      cases eo : outsOf ρ' as 0 0 with
      | none => rw [eo] at sp; exact False.elim sp
      | some cs =>
        rw [eo] at sp
        exact sp .non H' (keeps er' st') (outs_ret er' (sub er' eo) eo rfl ar) .non
    | exc x ρ' =>
      rw [eb] at sp
      simp only at sp
      intro cls d σ' H' er' st' hxx
      cases eo : outsOf ρ' as 0 0 with
      | none => rw [eo] at sp; exact False.elim sp
      | some cs =>
        rw [eo] at sp
        exact sp cls d H' (keeps er' st') (outs_ret er' (sub er' eo) eo rfl ar) (hx _ _ _ _ _ (sub er' eo) hxx)
    | rt r ρ' =>
      rw [eb] at sp
      simp only at sp
      cases eo : outsOf ρ' as 0 0 with
      | none => rw [eo] at sp; exact False.elim (by cases r <;> exact sp)
      | some cs =>
        rw [eo] at sp
        simp only at sp
        cases r with
        | v d =>
          intro v σ' H' er' st' rr
          exact sp v H' (keeps er' st') (outs_ret er' (sub er' eo) eo rfl ar) (Rp.mono (sub er' eo) rr)
        | fresh c =>
          intro p o σ' H' hp ho er' st' h0 hc'
          have er2 := er'.unhide
          have sm : Same (vis ((frOf H qs h).hide p) σ' ρ' H') (visH (fun b => h b ∨ b = p) qs H') := fun a o e => by
            obtain ⟨e1, e2, e3⟩ := vis_some e
            have := sub er2 eo a o (by rw [vis_of (fun z => e2 (.inl z)) e3]; exact e1)
            unfold visH at this ⊢
            split at this
            · cases this
            · rename_i z
              rw [if_neg]
              · exact e1
              · rintro ((y | y) | y)
                · exact z (.inl y)
                · exact e2 (.inr y)
                · exact z (.inr y)
          have er3 : EnvR K (frOf H qs fun b => h b ∨ b = p) σ' H' ρ' := ⟨er'.len, er'.val, er'.own, er'.uniq, er'.hid, er'.keep, er'.inn⟩
          exact sp p o H' (keeps er2 st') hp ho (outs_ret er3 sm eo rfl ar) (hc'.mono sm)
        | slot i =>
          intro v σ' H' er' st' rr
          have rr : σ'[i]? = some (some v) := rr
          dsimp only at sp
          cases es : ρ'[i]? with
          | none => rw [es] at sp; exact False.elim sp
          | some s =>
            cases s with
            | un => rw [es] at sp; exact False.elim sp
            | val d =>
              rw [es] at sp
              obtain ⟨v', g1, g2⟩ := er'.val i d es
              rw [rr] at g1
              cases g1
              exact sp v H' (keeps er' st') (outs_ret er' (sub er' eo) eo rfl ar) (g2.mono (sub er' eo))
            | own t lk c =>
              cases t with
              | some t => rw [es] at sp; exact False.elim sp
              | none =>
                rw [es] at sp
                obtain ⟨p, o, g1, g2, g3, g4, g5, g6⟩ := er'.own i none lk c es
                rw [rr] at g1
                cases g1
                have sm : Same (vis (frOf H qs h) σ' ρ' H') (visH (fun b => h b ∨ b = p) qs H') := fun a o e => by
                  obtain ⟨e1, e2, e3⟩ := vis_some e
                  have := sub er' eo a o e
                  unfold visH at this ⊢
                  split at this
                  · cases this
                  · rename_i z
                    rw [if_neg]
                    · exact e1
                    · rintro ((y | y) | y)
                      · exact z (.inl y)
                      · exact e3 ⟨i, none, lk, c, es, by rw [y]; exact rr⟩
                      · exact z (.inr y)
                exact sp p o H' (keeps er' st') (g6 rfl) g2 (outs_ret er' sm eo rfl ar) (g3.mono sm)
end
end M

set_option Elab.async false
set_option linter.all false
set_option maxRecDepth 100000
set_option maxHeartbeats 4000000
/-! M: the law's end, for promises under a caller that writes nothing out -/
namespace M
open PySem PySem.Spec PyProof.Rows L2
theorem law_callM {P : Program} {w : World} {K : PySem.W.Frag} {mg mbi : Str → Option Value} {k : Nat} {fo a : Addr} {fdo : FuncData} {x : Str} {spc : Sp} {sT : Shared} {us : List Value} {zs : List Int}
    (kin : K.In sT.heap) (nsG : sT.heap.Ns mainGlobals mg) (nsB : sT.heap.Ns builtinsNs mbi) (bltB : ∀ x : Str, x ≠ "__name__" → mbi x = bootBuiltins x) (limN : sT.heap.NoLimit) (gensN : sT.gens = #[])
    (atS : sT.heap.get? a = some { cls := .type "list", data := .seq us.toArray }) (intsS : IntsAre us zs) (lenS : zs.length ≤ sizeLine) (roomC : Room k callerA)
    (F : ∀ base : Heap, K.In base → base.Ns mainGlobals mg → FnM P w K mg base k fo fdo [x] spc) (bindF : ∀ (s : Shared) (u : Value), BindsTo s fdo ⟨[u], []⟩ [(x, u)])
    (spF : ∀ H : Hp, Only H → SqL K H a (zs.map V.int) → spc [.ref a] H (fun v _ => v = .bl true) fun _ _ _ => False)
    (noX : ∀ H e sz, L2.CX P w [] H sT (fun _ _ _ => False) e sz → False) :
    codeAny (model P w) callerA (.call (.ref fo) ⟨[.ref a], []⟩) (fun r sz => r = .ok (.ret (.bool true)) ∧ OldK sT.heap sz.heap ∧ sz.os = sT.os ∧ AllBare sz.gens) sT := by
  have relS := vals_ints intsS
  have lenE := intsS.length
  -- from an abstract heap in which nothing but the script may be tracked
  have coreT : ∀ H : Hp, Only H → SqL K H a (zs.map V.int) → HOk P w H sT.heap → (∀ b, H b ≠ none → b = a) → (H a ≠ none → K.lookup a = none) →
      codeAny (model P w) callerA (.call (.ref fo) ⟨[.ref a], []⟩) (fun r sz => r = .ok (.ret (.bool true)) ∧ OldK sT.heap sz.heap ∧ sz.os = sT.os ∧ AllBare sz.gens) sT := by
    intro H onlyH seqH okH addrH freeK
    have getB : ∀ {b : Addr} {o : Obj}, sT.heap.get? b = some o → H b = none → (hidT sT.heap H).get? b = some o := fun e n => hidT_get e n
    have notS : ∀ {b : Addr} {o : Obj} {es : Array DictEntry} {ep : Nat}, sT.heap.get? b = some o → o.data = .dict es ep → H b = none := fun {b o es ep} e d => by
      cases pr : H b with
      | none => rfl
      | some u =>
        have e' : b = a := addrH b (by rw [pr]; simp)
        subst e'
        rw [atS] at e; cases e
        have d' : Data.seq us.toArray _ = Data.dict es ep := d
        cases d'
    have nsL : ∀ {b : Addr} {m : Str → Option Value}, sT.heap.Ns b m → (hidT sT.heap H).Ns b m := fun {b m} ⟨o, es, ep, e, d, r⟩ => ⟨o, es, ep, getB e (notS e d), d, r⟩
    have inB : K.In (hidT sT.heap H) := fun b o e => getB (kin b o e) (by
      cases pr : H b with
      | none => rfl
      | some u =>
        have e' : b = a := addrH b (by rw [pr]; simp)
        subst e'
        rw [freeK (by rw [pr]; simp)] at e; cases e)
    have modB : Mod K mg (hidT sT.heap H) := ⟨inB, nsL nsG, ⟨mbi, nsL nsB, bltB⟩, let ⟨mc, h1, h2⟩ := limN; ⟨mc, nsL h1, h2⟩⟩
    have envB : Env0 P w K mg (hidT sT.heap H) callerA [] sT H := ⟨rfl, modB, fun b o e => of_hidT e, Nat.le_of_eq (hidT_size _ _), trivial, fun b nsB => absurd (show b ∈ ([] : List Addr) from nsB) (by simp), okH, .of_eq gensN⟩
    refine codeAny_mono ((F _ inB (nsL nsG)).run callerA [] sT H ⟨[.ref a], []⟩ [.ref a] [.ref a] _ _ roomC rfl envB (bindF sT (.ref a)) (.cons rfl .nil) (spF H onlyH seqH)) fun r sz h => ?_
    cases r with
    | error e => exact (noX H e sz h).elim
    | ok fl =>
      cases fl with
      | next => exact False.elim h
      | brk => exact False.elim h
      | cont => exact False.elim h
      | ret u =>
        obtain ⟨v, Hz, os, brs, unb, okz, rz, pr⟩ := h
        have qz : v = .bl true := pr
        subst qz
        obtain rfl : u = Value.bool true := rz
        refine ⟨rfl, OldK.of_keep fun b o e => ?_, os, brs⟩
        cases pr : H b with
        | none => exact unb.keep b o e pr (by intro z; exact absurd (show b ∈ ([] : List Addr) from z) (by simp)) (by simp)
        | some u =>
          rcases onlyH b with z | ⟨ob, xs, z⟩
          · rw [pr] at z; cases z
          · have z2 := unb.frzs b ob _ z
            obtain ⟨e1, _⟩ := okH b _ z
            obtain ⟨e2, _⟩ := okz b _ z2
            rw [e] at e1; cases e1
            exact e2
  cases lkS : K.lookup a with
  | some o =>
    -- the script is one of the module's own objects
    have e := kin a o lkS
    rw [atS] at e
    cases e
    refine coreT (fun _ => none) (fun _ => .inl rfl) (.inr ⟨_, us.toArray, _, lkS, rfl, rfl, rfl, by rw [List.size_toArray, lenE]; exact lenS, by simpa using relS⟩) (fun b u z => by have z' : (none : Option HO) = some u := z; cases z') (fun b z => absurd rfl z) fun z => absurd rfl z
  | none =>
    refine coreT (fun b => if b = a then some (.frz { cls := .type "list", data := .seq us.toArray } (.lst (zs.map V.int))) else none) (fun b => ?_) (.inl (.inr ⟨{ cls := .type "list", data := .seq us.toArray }, if_pos rfl⟩)) (fun b u z => ?_) (fun b z => ?_) fun _ => lkS
    · by_cases nsB : b = a
      · exact .inr ⟨_, _, if_pos nsB⟩
      · exact .inl (if_neg nsB)
    · by_cases nsB : b = a
      · have z' := (if_pos nsB).symm.trans z
        cases z'
        subst nsB
        exact ⟨atS, by rw [List.length_map]; exact lenS, us, _, relS, atS⟩
      · have z' := (if_neg nsB).symm.trans z
        cases z'
    · by_cases nsB : b = a
      · exact nsB
      · exact absurd (if_neg nsB) z
theorem walk_ofM {l : PySem.W.OpenLaw} {n k : Nat} {pr : Program} {loose : List Str} {XP : (Str → Option Value) → Heap → Prop} {YP : World → Heap → Prop} {d : DefRec} {K : Params → PySem.W.Frag} {spc : World → Sp} {x : Str}
    (mostN : l.most = some n) (mostL : n ≤ sizeLine) (noDef : d.params.defaults = []) (roomC : Room k callerA)
    (inY : ∀ (w : World) (h : Heap), YP w h → (K w.params).In h)
    (F : ∀ (w : World) (mg : Str → Option Value) (fo : Addr) (h : Heap), (K w.params).In h → h.Ns mainGlobals mg → mg d.name = some (.ref fo) →
      ∃ fdo : FuncData, (∀ (s : Shared) (u : Value), BindsTo s fdo ⟨[u], []⟩ [(x, u)]) ∧
        ∀ base : Heap, (K w.params).In base → base.Ns mainGlobals mg → FnM l.prog w (K w.params) mg base k fo fdo [x] (spc w))
    (spF : ∀ (w : World) (H : Hp) (a : Addr) (zs : List Int), zs.length ≤ n → Only H → SqL (K w.params) H a (zs.map V.int) → spc w [.ref a] H (fun v _ => v = .bl true) fun _ _ _ => False)
    (noX : ∀ (w : World) (H : Hp) (s : Shared) (e : Value) (sz : Shared), L2.CX l.prog w [] H s (fun _ _ _ => False) e sz → False) :
    PySem.W.WalkO pr loose XP YP l.row.toRowW d [] (fun f us => PySem.call f us) := by
  refine Att.attach_call mostN noDef fun w sO sT mg mbi fo o pm cdo doc a us zs G Y ho hd cdE mgE objS intS lenN gensN => ?_
  have kin := inY w _ Y
  obtain ⟨fdo, nsB, hF⟩ := F w mg fo _ kin G.T.g mgE
  exact law_callM kin G.T.g G.T.b G.T.builtins G.T.nolimit gensN objS intS (Nat.le_trans lenN mostL) roomC hF nsB (fun H onlyH seqH => spF w H a zs lenN onlyH seqH) fun H e sz => noX w H sT e sz
/-! ### a module of defs -/
structure DefM where
  name : Str
  qual : Str
  st : PySem.Stmt
  N : List Str
  ps : List Str
  b : Ss
def PhiOf (ds : List DefM) : Nat → Phi
  | 0 => fun _ _ => .bad
  | k + 1 => fun j => if j = k then (match ds[k]? with
    | some d => body (PhiOf ds k) d.N.length d.ps.length d.b
    | none => fun _ => .bad) else PhiOf ds k j
def fnOf (ds : List DefM) : Nat → Option Str := fun j => (ds[j]?).map (·.name)
def defOk (ds : List DefM) (cs : List (Str × D)) (ec : List EC) (d : DefM) : Bool := chkSs (fnOf ds) d.N cs (defScope d.st) ec d.b (defBody d.st) && decide (d.ps.length ≤ d.N.length)
theorem fnM_bad {P : Program} {w : World} {K : PySem.W.Frag} {mg : Str → Option Value} {base : Heap} {k : Nat} {f : Addr} {fd : FuncData} {ps : List Str} {XR : XRel} : FnM P w K mg base k f fd ps (spOf K XR fun _ => .bad) := by
  refine ⟨fun vs H Q E h => ?_, fun A fr s H as us vs Q E _ _ _ _ _ h => ?_⟩
  · obtain ⟨_, _, _, _, _, _, _, h⟩ := h
    exact False.elim h
  · obtain ⟨_, _, _, _, _, _, _, h⟩ := h
    exact False.elim h
/-- what the top has written, def by def -/
structure DefAt (K : PySem.W.Frag) (mg : Str → Option Value) (d : DefM) (f : Addr) (fd : FuncData) : Prop where
  at_ : mg d.name = some (.ref f)
  fn : Fun K d.name d.qual d.st f fd
  bd : Binds K fd d.ps []
  sc : FnScope d.N d.ps (defScope d.st)
structure ModAt (K : PySem.W.Frag) (mg : Str → Option Value) (ds : List DefM) (cs : List (Str × D)) (ec : List EC) : Prop where
  df : ∀ (j : Nat) (d : DefM), ds[j]? = some d → ∃ f fd, DefAt K mg d f fd
  ok : ∀ d ∈ ds, defOk ds cs ec d = true
  blt : ∀ x, x ∈ bltNames → mg x = none
  cst : ∀ x d, (x, d) ∈ cs → ∃ u v, mg x = some u ∧ RelV v u ∧ ∀ H, Rp K H v d
  mc : ModC K mg ec
  ve : mg "ValueError" = none
  dg : digK K
section
variable {P : Program} {w : World} {K : PySem.W.Frag} {mg : Str → Option Value} {base : Heap} {ds : List DefM} {cs : List (Str × D)} {ec : List EC} {XR : XRel}
theorem mod_fn (M : ModAt K mg ds cs ec) : ∀ (k j : Nat) (d : DefM) (f : Addr) (fd : FuncData), ds[j]? = some d → DefAt K mg d f fd → FnM P w K mg base (k + 2) f fd d.ps (spOf K (XRof K mg ec) (PhiOf ds k j))
  | 0, j, d, f, fd, hj, hd => fnM_bad
  | k + 1, j, d, f, fd, hj, hd => by
    unfold PhiOf
    by_cases h : j = k
    · subst h
      rw [if_pos rfl, hj]
      have ok := M.ok d (List.mem_of_getElem? hj)
      unfold defOk at ok
      rw [Bool.and_eq_true, decide_eq_true_eq] at ok
      refine fnM_body (XR := XRof K mg ec) (fn := fnOf ds) (cs := cs) (ec := ec) hd.fn hd.sc XRof_mono ok.1 rfl ok.2 (fun cdv A fr s H E hr hg => ?_) fun cdv A fr s H E hr hg => ⟨rfl, rfl, hr.mono (by omega), rfl, M.mc, M.blt "isinstance" (by decide +kernel), M.ve⟩
      refine ⟨rfl, hd.sc.nd, fun x h => ?_, fun x h => ?_, fun x h => ?_, hd.sc.kind, fun _ h => h, fun _ h => h, fun _ h => h, rfl, M.blt, hg, (by have h1 := hr.un; show (A.deeper (envOfC d.qual (defScope d.st) s.heap.objs.size f cdv)).units + 200 < cLine; omega), fun g y hy => ?_, M.cst, M.dg⟩
      · unfold nmVis at h
        split at h
        · rename_i e; exact .inl e
        · rename_i e; exact .inr (.inl e)
        · rename_i e; exact .inr (.inr e)
        · cases h
      · unfold nmLoc at h
        split at h
        · rename_i e; exact ⟨.inl e, .inr e⟩
        · rename_i e; exact ⟨.inr e, .inl rfl⟩
        · cases h
      · unfold nmGl at h
        split at h
        · rename_i e; exact e
        · cases h
      · unfold fnOf at hy
        obtain ⟨dg, e1, e2⟩ := Option.map_eq_some_iff.mp hy
        obtain ⟨fg, fdg, a⟩ := M.df g dg e1
        subst e2
        exact ⟨fg, j + 2, fdg, dg.ps, a.at_, a.fn.kp, a.bd, hr, mod_fn M j g dg fg fdg e1 a⟩
    · rw [if_neg h]
      exact (mod_fn M k j d f fd hj hd).lift (Nat.le_succ (k + 2))
theorem FnM.imp {k : Nat} {f : Addr} {fd : FuncData} {ps : List Str} {sp sp' : Sp} (F : FnM P w K mg base k f fd ps sp) (h : ∀ vs H Q E, sp' vs H Q E → sp vs H Q E) : FnM P w K mg base k f fd ps sp' :=
  ⟨fun vs H Q E z => F.len vs H Q E (h _ _ _ _ z), fun A fr s H as us vs Q E hr hg e0 b r z => F.run A fr s H as us vs Q E hr hg e0 b r (h _ _ _ _ z)⟩
def spAll (K : PySem.W.Frag) (f : Sem) : Sp := fun vs H Q E => ∀ XR, spOf K XR f vs H Q E
/-- the law's own promise, from what M tells -/
theorem law_sp {f : Sem} {H : Hp} {a : Addr} {ns : List Int} (hS : SqL K H a (ns.map V.int)) (h : f [.val (.list (ns.map PyData.int))] = .ok (.v (.bool true)) []) : spOf K XR f [.ref a] H (fun v _ => v = .bl true) fun _ _ _ => False := by
  have e : visH (fun _ => False) [] H = H := by
    funext b
    unfold visH
    rw [if_neg (by simp)]
  refine ⟨[.val (.list (ns.map PyData.int))], fun _ => False, [], .val (by rw [e]; exact .lst hS (Rps.ofInts ns)) .nil, List.nodup_nil, fun _ h => (by cases h), fun _ h => h.elim, ?_⟩
  rw [h]
  intro v H' _ _ r
  cases r
  rfl
end
end M

set_option Elab.async false
set_option linter.all false
set_option maxRecDepth 100000
set_option maxHeartbeats 4000000
/-! M: words for going through a body with letters in it -/
namespace M
open PySem L2
theorem mulOk_l {a b : Int} (h : a.natAbs < 2 ^ 64) : mulOk a b = true := by
  have : Builtin.Int.intBits a ≤ 64 := intBits_le_iff.mpr h
  unfold mulOk
  have h2 : ¬ Builtin.Int.intBits a > shortFactorBits := by unfold shortFactorBits; omega
  simp [h2]
theorem mulOk_r {a b : Int} (h : b.natAbs < 2 ^ 64) : mulOk a b = true := by
  have : Builtin.Int.intBits b ≤ 64 := intBits_le_iff.mpr h
  unfold mulOk
  have h2 : ¬ Builtin.Int.intBits b > shortFactorBits := by unfold shortFactorBits; omega
  simp [h2]
theorem powOk_of {a n : Int} (m : Nat) (h : a.natAbs < 2 ^ m) (h0 : 0 ≤ n) (h1 : (m : Int) * n ≤ 2 ^ 27) : powOk a n = true := by
  have : Builtin.Int.intBits a ≤ m := intBits_le_iff.mpr h
  unfold powOk
  refine decide_eq_true ⟨h0, Int.le_trans (Int.mul_le_mul_of_nonneg_right (by omega) h0) h1⟩
theorem noPy {a b : Int} (h : b.natAbs < 1073741824) : Builtin.divisionGoesByPylong a b = false := PyProof.noPylong_small h
theorem fmod_lo {a b : Int} (h : 0 < b) : 0 ≤ a.fmod b := Int.fmod_nonneg_of_pos a h
theorem fmod_hi {a b : Int} (h : 0 < b) : a.fmod b < b := Int.fmod_lt_of_pos a h
end M

set_option Elab.async false
set_option linter.all false
set_option maxRecDepth 100000
set_option maxHeartbeats 4000000
/-! M: the program's own exception classes, from what the top has written -/
namespace M
open PySem PySem.Spec PyProof.Rows L2
abbrev veT : List Value := [.type "ValueError", .type "Exception", .type "BaseException", .type "object"]
def mroOf0 (P : Addr) (b : Bool) : List Value := if b then veT else .ref P :: veT
/-- the class at C, as it was made -/
def IsCls (K : PySem.W.Frag) (P : Addr) (nm : Str) (C : Addr) (b : Bool) : Prop := ∃ (q : Str) (N : Addr) (bs : List Value) (sn : List Str) (sub : List Value) (ab : Bool) (col : Option Bool) (dd : Option Addr) (m0 m1 m2 m3 m5 : Option Value),
  K.lookup C = some (excClassObj nm q C N bs (mroOf0 P b) true sn sub ab col dd m0 m1 m2 m3 m5 "ValueError.__new__")
section
variable {K : PySem.W.Frag} {P C D : Addr} {nm nd : Str} {b c : Bool} {mg : Str → Option Value}
theorem IsCls.cls (h : IsCls K P nm C b) : ∃ cd, PySem.W.clsIn K C = some cd ∧ cd.mro = .ref C :: mroOf0 P b ∧ cd.hasDict = true ∧ cd.name = nm := by
  obtain ⟨q, N, bs, sn, sub, ab, col, dd, m0, m1, m2, m3, m5, e⟩ := h
  refine ⟨_, by unfold PySem.W.clsIn; rw [e], rfl, rfl, rfl⟩
theorem IsCls.sub (h : IsCls K P nm C b) (v : Value) : PySem.W.subIn K (.ref C) v = some ((Value.ref C :: mroOf0 P b).contains v) := by
  obtain ⟨cd, e, m, _⟩ := h.cls
  show PySem.W.mroIn K C v = _
  unfold PySem.W.mroIn
  rw [e, Option.bind_some, m]
  rfl
theorem IsCls.ne (h : IsCls K P nm C b) (h' : IsCls K P nd D c) (n : nm ≠ nd) : C ≠ D := fun z => by
  subst z
  obtain ⟨cd, e, _, _, g⟩ := h.cls
  obtain ⟨cd', e', _, _, g'⟩ := h'.cls
  rw [e] at e'
  cases e'
  exact n (g.symm.trans g')
theorem modc_nil : ModC K mg [] := ⟨fun _ _ h => by simp at h, fun _ _ _ h => by simp at h, fun _ _ _ _ _ _ h => by simp at h⟩
end
end M

set_option Elab.async false
set_option linter.all false
set_option maxRecDepth 100000
set_option maxHeartbeats 4000000
/-! M: the meaning as first-order steps, for rewriting -/
namespace M
open PySem L2
section
variable (Φ : Phi)
/-! ### expressions -/
def bin3 (ρ : Env) (o : Bop) : Option D → Option D → R RV
  | some x, some y => .of ρ (binD o x y)
  | _, _ => .bad
def bin2 (o : Bop) (ra : RV) (m : R RV) : R RV := m.bind fun rb ρ => bin3 ρ o (pk ρ ra) (pk ρ rb)
def bin1 (o : Bop) (b : E) (m : R RV) : R RV := m.bind fun ra ρ => bin2 o ra (ev Φ false b ρ)
theorem st_bin (t : Bool) (o : Bop) (a b : E) (ρ : Env) : ev Φ t (.bin o a b) ρ = tst t (bin1 Φ o b (ev Φ false a ρ)) := by
  simp only [ev]
  congr 1
theorem bin1_ok (o : Bop) (b : E) (ra : RV) (ρ : Env) : bin1 Φ o b (.ok ra ρ) = bin2 o ra (ev Φ false b ρ) := (rfl)
theorem bin2_ok (o : Bop) (ra rb : RV) (ρ : Env) : bin2 o ra (.ok rb ρ) = bin3 ρ o (pk ρ ra) (pk ρ rb) := (rfl)
theorem bin3_ok (o : Bop) (x y : D) (ρ : Env) : bin3 ρ o (some x) (some y) = .of ρ (binD o x y) := (rfl)
def neg1 (m : R RV) : R RV := m.bind fun ra ρ => match ra with | .v (.int i) => .ok (.v (.int (-i))) ρ | _ => .bad
theorem st_neg (t : Bool) (a : E) (ρ : Env) : ev Φ t (.neg a) ρ = tst t (neg1 (ev Φ false a ρ)) := by
  simp only [ev]
  congr 1
theorem neg1_ok (i : Int) (ρ : Env) : neg1 (.ok (.v (.int i)) ρ) = .ok (.v (.int (-i))) ρ := (rfl)
def cmp3 (ρ : Env) (o : Cop) : Option D → Option D → R RV
  | some x, some y => .of ρ ((cmpD o x y).map fun k => .v (.bool k))
  | _, _ => .bad
def cmp2 (o : Cop) (ra : RV) (m : R RV) : R RV := m.bind fun rb ρ => cmp3 ρ o (pk ρ ra) (pk ρ rb)
def cmp1 (o : Cop) (b : E) (m : R RV) : R RV := m.bind fun ra ρ => cmp2 o ra (ev Φ false b ρ)
theorem st_cmp (t : Bool) (o : Cop) (a b : E) (ρ : Env) : ev Φ t (.cmp o a b) ρ = cmp1 Φ o b (ev Φ false a ρ) := by
  simp only [ev]
  congr 1
theorem cmp1_ok (o : Cop) (b : E) (ra : RV) (ρ : Env) : cmp1 Φ o b (.ok ra ρ) = cmp2 o ra (ev Φ false b ρ) := (rfl)
theorem cmp2_ok (o : Cop) (ra rb : RV) (ρ : Env) : cmp2 o ra (.ok rb ρ) = cmp3 ρ o (pk ρ ra) (pk ρ rb) := (rfl)
theorem cmp3_ok (o : Cop) (x y : D) (ρ : Env) : cmp3 ρ o (some x) (some y) = .of ρ ((cmpD o x y).map fun k => .v (.bool k)) := (rfl)
def chn4 (o' : Cop) (rb : RV) (m : R RV) : R RV := m.bind fun rc ρ => cmp3 ρ o' (pk ρ rb) (pk ρ rc)
def chn3 (o' : Cop) (rb : RV) (c : E) (ρ : Env) : Option Bool → R RV
  | some true => chn4 o' rb (ev Φ false c ρ)
  | some false => .ok (.v (.bool false)) ρ
  | none => .bad
def chn2b (o o' : Cop) (rb : RV) (c : E) (ρ : Env) : Option D → Option D → R RV
  | some x, some y => chn3 Φ o' rb c ρ (cmpD o x y)
  | _, _ => .bad
def chn2 (o o' : Cop) (ra : RV) (c : E) (m : R RV) : R RV := m.bind fun rb ρ => chn2b Φ o o' rb c ρ (pk ρ ra) (pk ρ rb)
def chn1 (o o' : Cop) (b c : E) (m : R RV) : R RV := m.bind fun ra ρ => chn2 Φ o o' ra c (ev Φ false b ρ)
theorem st_chain (t : Bool) (o o' : Cop) (a b c : E) (ρ : Env) : ev Φ t (.chain o o' a b c) ρ = chn1 Φ o o' b c (ev Φ false a ρ) := by
  simp only [ev]
  unfold chn1
  congr 1
theorem chn1_ok (o o' : Cop) (b c : E) (ra : RV) (ρ : Env) : chn1 Φ o o' b c (.ok ra ρ) = chn2 Φ o o' ra c (ev Φ false b ρ) := (rfl)
theorem chn2_ok (o o' : Cop) (c : E) (ra rb : RV) (ρ : Env) : chn2 Φ o o' ra c (.ok rb ρ) = chn2b Φ o o' rb c ρ (pk ρ ra) (pk ρ rb) := (rfl)
theorem chn2b_ok (o o' : Cop) (c : E) (rb : RV) (x y : D) (ρ : Env) : chn2b Φ o o' rb c ρ (some x) (some y) = chn3 Φ o' rb c ρ (cmpD o x y) := (rfl)
theorem chn3_t (o' : Cop) (c : E) (rb : RV) (ρ : Env) : chn3 Φ o' rb c ρ (some true) = chn4 o' rb (ev Φ false c ρ) := (rfl)
theorem chn3_f (o' : Cop) (c : E) (rb : RV) (ρ : Env) : chn3 Φ o' rb c ρ (some false) = .ok (.v (.bool false)) ρ := (rfl)
theorem chn4_ok (o' : Cop) (rb rc : RV) (ρ : Env) : chn4 o' rb (.ok rc ρ) = cmp3 ρ o' (pk ρ rb) (pk ρ rc) := (rfl)
def and1 (t : Bool) (b : E) (m : R RV) : R RV := m.bind fun r ρ => match r with
  | .v (.bool true) => ev Φ t b ρ
  | .v (.bool false) => .ok (.v (.bool false)) ρ
  | _ => .bad
theorem st_and (t : Bool) (a b : E) (ρ : Env) : ev Φ t (.and_ a b) ρ = and1 Φ t b (ev Φ t a ρ) := by
  simp only [ev]
  unfold and1
  congr 1
theorem and1_t (t : Bool) (b : E) (ρ : Env) : and1 Φ t b (.ok (.v (.bool true)) ρ) = ev Φ t b ρ := (rfl)
theorem and1_f (t : Bool) (b : E) (ρ : Env) : and1 Φ t b (.ok (.v (.bool false)) ρ) = .ok (.v (.bool false)) ρ := (rfl)
def or1 (t : Bool) (b : E) (m : R RV) : R RV := m.bind fun r ρ => match r with
  | .v (.bool true) => .ok (.v (.bool true)) ρ
  | .v (.bool false) => ev Φ t b ρ
  | _ => .bad
theorem st_or (t : Bool) (a b : E) (ρ : Env) : ev Φ t (.or_ a b) ρ = or1 Φ t b (ev Φ t a ρ) := by
  simp only [ev]
  unfold or1
  congr 1
theorem or1_t (t : Bool) (b : E) (ρ : Env) : or1 Φ t b (.ok (.v (.bool true)) ρ) = .ok (.v (.bool true)) ρ := (rfl)
theorem or1_f (t : Bool) (b : E) (ρ : Env) : or1 Φ t b (.ok (.v (.bool false)) ρ) = ev Φ t b ρ := (rfl)
def not1 (m : R RV) : R RV := m.bind fun r ρ => match r with
  | .v (.bool b) => .ok (.v (.bool (!b))) ρ
  | _ => .bad
theorem st_not (t : Bool) (a : E) (ρ : Env) : ev Φ t (.not_ a) ρ = not1 (ev Φ t a ρ) := by
  simp only [ev]
  unfold not1
  congr 1
theorem not1_ok (b : Bool) (ρ : Env) : not1 (.ok (.v (.bool b)) ρ) = .ok (.v (.bool (!b))) ρ := (rfl)
def ite1 (a b : E) (m : R RV) : R RV := m.bind fun r ρ => match r with
  | .v (.bool true) => ev Φ false a ρ
  | .v (.bool false) => ev Φ false b ρ
  | _ => .bad
theorem st_ite (t : Bool) (c a b : E) (ρ : Env) : ev Φ t (.ite c a b) ρ = tst t (ite1 Φ a b (ev Φ true c ρ)) := by
  simp only [ev]
  congr 1
theorem ite1_t (a b : E) (ρ : Env) : ite1 Φ a b (.ok (.v (.bool true)) ρ) = ev Φ false a ρ := (rfl)
theorem ite1_f (a b : E) (ρ : Env) : ite1 Φ a b (.ok (.v (.bool false)) ρ) = ev Φ false b ρ := (rfl)
def tup1 (m : R (List D)) : R RV := m.bind fun ds ρ => if ds.length ≤ sizeLine then .ok (.v (.tuple ds)) ρ else .bad
theorem st_tup (t : Bool) (es : Es) (ρ : Env) : ev Φ t (.tup es) ρ = tst t (tup1 (evd Φ es ρ)) := by
  simp only [ev]
  congr 1
theorem small_sz {n : Nat} (h : n ≤ 1000) : n ≤ sizeLine := Nat.le_trans h (by decide)
theorem tup1_ok {ds : List D} (ρ : Env) (h : ds.length ≤ 1000) : tup1 (.ok ds ρ) = .ok (.v (.tuple ds)) ρ := if_pos (small_sz h)
def lst1 (m : R (List D)) : R RV := m.bind fun ds ρ => if ds.length ≤ sizeLine then .ok (.fresh (.l ds)) ρ else .bad
theorem st_lst (t : Bool) (es : Es) (ρ : Env) : ev Φ t (.lst es) ρ = tst t (lst1 (evd Φ es ρ)) := by
  simp only [ev]
  congr 1
theorem lst1_ok {ds : List D} (ρ : Env) (h : ds.length ≤ 1000) : lst1 (.ok ds ρ) = .ok (.fresh (.l ds)) ρ := if_pos (small_sz h)
def dct1 (ks : List Key) (m : R (List D)) : R RV := match m with
  | .ok ds ρ => if ks.length = ds.length ∧ ks.Nodup then .ok (.fresh (.d (ks.zip ds))) ρ else .bad
  | _ => .bad
theorem st_dct (t : Bool) (ks : List Key) (es : Es) (ρ : Env) : ev Φ t (.dct ks es) ρ = tst t (dct1 ks (evd Φ es ρ)) := by
  simp only [ev]
  congr 1
theorem dct1_ok (ks : List Key) (ds : List D) (ρ : Env) : dct1 ks (.ok ds ρ) = if ks.length = ds.length ∧ ks.Nodup then .ok (.fresh (.d (ks.zip ds))) ρ else .bad := (rfl)
theorem dct0_ok (ρ : Env) : dct1 [] (.ok [] ρ) = .ok (.fresh (.d [])) ρ := (dct1_ok [] [] ρ).trans (if_pos ⟨rfl, List.nodup_nil⟩)
def dcp1 (m : R (List D)) : R RV := match m with
  | .ok [x, y] ρ => .of ρ (dcN x y)
  | _ => .bad
theorem st_dc1 (t : Bool) (es : Es) (ρ : Env) : ev Φ t (.dc1 es) ρ = tst t (dcp1 (evd Φ es ρ)) := by
  simp only [ev]
  congr 1
theorem dcp1_i (i : Int) (y : D) (ρ : Env) : dcp1 (.ok [.int i, y] ρ) = .ok (.fresh (.d [(.inl i, y)])) ρ := (rfl)
theorem dcp1_b (i j : Bool) (ρ : Env) : dcp1 (.ok [.bool i, .bool j] ρ) = .ok (.v (.dict [(.bool i, .bool j)])) ρ := (rfl)
theorem dcp1_s (i : Str) (y : D) (ρ : Env) : dcp1 (.ok [.str i, y] ρ) = .ok (.fresh (.d [(.inr i, y)])) ρ := (rfl)
def dget3 (kvs : List (Key × D)) (y : D) (m : R RV) : R RV := m.bind fun rd ρ => (frz ρ rd).bind fun z ρ => .of ρ (getD kvs y z)
def dget2 (kvs : List (Key × D)) (d : E) (m : R RV) : R RV := m.bind fun rk ρ => (frz ρ rk).bind fun y ρ => dget3 kvs y (ev Φ false d ρ)
def dget1 (k d : E) (m : R RV) : R RV := m.bind fun ra ρ => match ra with
  | .fresh (.d kvs) => dget2 Φ kvs d (ev Φ false k ρ)
  | _ => .bad
theorem st_dget (t : Bool) (a k d : E) (ρ : Env) : ev Φ t (.dget a k d) ρ = tst t (dget1 Φ k d (ev Φ false a ρ)) := by
  simp only [ev]
  congr 1
theorem dget1_ok (k d : E) (kvs : List (Key × D)) (ρ : Env) : dget1 Φ k d (.ok (.fresh (.d kvs)) ρ) = dget2 Φ kvs d (ev Φ false k ρ) := (rfl)
theorem dget2_ok (kvs : List (Key × D)) (d : E) (y : D) (ρ : Env) : dget2 Φ kvs d (.ok (.v y) ρ) = dget3 kvs y (ev Φ false d ρ) := (rfl)
theorem dget3_ok (kvs : List (Key × D)) (y z : D) (ρ : Env) : dget3 kvs y (.ok (.v z) ρ) = .of ρ (getD kvs y z) := (rfl)
def rep2 (ds : List D) (m : R RV) : R RV := m.bind fun rb ρ => match rb with
  | .v (.int k) => if (-(2 ^ 62) ≤ k ∧ k < 2 ^ 62) ∧ ds.length * k.toNat ≤ sizeLine then .ok (.fresh (.l (List.replicate k.toNat ds).flatten)) ρ else .bad
  | _ => .bad
def rep1 (b : E) (m : R (List D)) : R RV := m.bind fun ds ρ => if ds.length ≤ sizeLine then rep2 ds (ev Φ false b ρ) else .bad
theorem st_rep (t : Bool) (es : Es) (b : E) (ρ : Env) : ev Φ t (.rep es b) ρ = tst t (rep1 Φ b (evd Φ es ρ)) := by
  simp only [ev]
  congr 1
theorem rep1_ok (b : E) {ds : List D} (ρ : Env) (h : ds.length ≤ 1000) : rep1 Φ b (.ok ds ρ) = rep2 ds (ev Φ false b ρ) := if_pos (small_sz h)
theorem rep2_ok {ds : List D} {k : Int} (ρ : Env) (h : -1000 ≤ k ∧ k ≤ 1000) (h2 : ds.length ≤ 1000) : rep2 ds (.ok (.v (.int k)) ρ) = .ok (.fresh (.l (List.replicate k.toNat ds).flatten)) ρ := by
  have e : (2 : Int) ^ 62 = 4611686018427387904 := by decide +kernel
  have hh : ds.length * k.toNat ≤ 1000 * 1000 := Nat.mul_le_mul h2 (by omega)
  have z : ds.length * k.toNat ≤ sizeLine := by rw [sizeLine_eq]; omega
  have q : (-(2 ^ 62) ≤ k ∧ k < 2 ^ 62) ∧ ds.length * k.toNat ≤ sizeLine := by
    rw [e]
    exact ⟨⟨by omega, by omega⟩, z⟩
  exact if_pos q
def ix3 (ρ : Env) : Option D → Option D → R RV
  | some x, some k => .of ρ ((ixD x k).map .v)
  | _, _ => .bad
def ix2 (ra : RV) (m : R RV) : R RV := m.bind fun rb ρ => ix3 ρ (pk ρ ra) (pk ρ rb)
def ix1 (b : E) (m : R RV) : R RV := m.bind fun ra ρ => ix2 ra (ev Φ false b ρ)
theorem st_ix (t : Bool) (a b : E) (ρ : Env) : ev Φ t (.ix a b) ρ = tst t (ix1 Φ b (ev Φ false a ρ)) := by
  simp only [ev]
  congr 1
theorem ix1_ok (b : E) (ra : RV) (ρ : Env) : ix1 Φ b (.ok ra ρ) = ix2 ra (ev Φ false b ρ) := (rfl)
theorem ix2_ok (ra rb : RV) (ρ : Env) : ix2 ra (.ok rb ρ) = ix3 ρ (pk ρ ra) (pk ρ rb) := (rfl)
theorem ix3_ok (x y : D) (ρ : Env) : ix3 ρ (some x) (some y) = .of ρ ((ixD x y).map .v) := (rfl)
def sl4 (ρ : Env) : Option D → Option Int → Option (Option Int) → R RV
  | some x, l, some h => .of ρ (slD x l h)
  | _, _, _ => .bad
def sl3 (ra : RV) (l : Option Int) (hi : E) (m : R RV) : R RV := m.bind fun h ρ => sl4 ρ (pk ρ ra) l (partE hi h)
def sl2b (ra : RV) (hi : E) (ρ : Env) : Option (Option Int) → R RV
  | some l => sl3 ra l hi (ev Φ false hi ρ)
  | none => .bad
def sl2 (ra : RV) (lo hi : E) (m : R RV) : R RV := m.bind fun l ρ => sl2b Φ ra hi ρ (partE lo l)
def sl1 (lo hi : E) (m : R RV) : R RV := m.bind fun ra ρ => sl2 Φ ra lo hi (ev Φ false lo ρ)
theorem st_sl (t : Bool) (a lo hi : E) (ρ : Env) : ev Φ t (.sl a lo hi) ρ = tst t (sl1 Φ lo hi (ev Φ false a ρ)) := by
  simp only [ev]
  congr 1
  unfold sl1
  congr 1
  funext ra ρ
  unfold sl2
  congr 1
  funext l ρ
  unfold sl2b
  cases partE lo l with
  | none => rfl
  | some l =>
    simp only
    unfold sl3
    congr 1
    funext h ρ
    unfold sl4
    cases pk ρ ra <;> cases partE hi h <;> rfl
theorem sl1_ok (lo hi : E) (ra : RV) (ρ : Env) : sl1 Φ lo hi (.ok ra ρ) = sl2 Φ ra lo hi (ev Φ false lo ρ) := (rfl)
theorem sl2_ok (lo hi : E) (ra l : RV) (ρ : Env) : sl2 Φ ra lo hi (.ok l ρ) = sl2b Φ ra hi ρ (partE lo l) := (rfl)
theorem sl2b_ok (hi : E) (ra : RV) (l : Option Int) (ρ : Env) : sl2b Φ ra hi ρ (some l) = sl3 ra l hi (ev Φ false hi ρ) := (rfl)
theorem sl3_ok (hi : E) (ra h : RV) (l : Option Int) (ρ : Env) : sl3 ra l hi (.ok h ρ) = sl4 ρ (pk ρ ra) l (partE hi h) := (rfl)
theorem sl4_ok (x : D) (l h : Option Int) (ρ : Env) : sl4 ρ (some x) l (some h) = .of ρ (slD x l h) := (rfl)
theorem part_no (r : RV) : partE .no r = some none := by cases r <;> rfl
theorem part_c (d : D) (i : Int) : partE (.c d) (.v (.int i)) = some (some i) := (rfl)
theorem part_v (k : Nat) (i : Int) : partE (.v k) (.v (.int i)) = some (some i) := (rfl)
theorem part_bin (o : Bop) (a b : E) (i : Int) : partE (.bin o a b) (.v (.int i)) = some (some i) := (rfl)
theorem part_neg (a : E) (i : Int) : partE (.neg a) (.v (.int i)) = some (some i) := (rfl)
theorem st_no (t : Bool) (ρ : Env) : ev Φ t .no ρ = .ok (.v .none) ρ := by simp only [ev]
def rev1 (m : R RV) : R RV := m.bind fun ra ρ => match pk ρ ra with | some x => .of ρ (revD x) | none => .bad
theorem st_rev (t : Bool) (a : E) (ρ : Env) : ev Φ t (.rev a) ρ = tst t (rev1 (ev Φ false a ρ)) := by
  simp only [ev]
  congr 1
theorem rev1_ok (ra : RV) (ρ : Env) : rev1 (.ok ra ρ) = match pk ρ ra with | some x => .of ρ (revD x) | none => .bad := (rfl)
theorem st_c (t : Bool) (d : D) (ρ : Env) : ev Φ t (.c d) ρ = tst t (.ok (.v d) ρ) := by simp only [ev]
theorem st_v (t : Bool) (i : Nat) (ρ : Env) : ev Φ t (.v i) ρ = tst t (nameV ρ i) := by simp only [ev]
theorem st_g (t : Bool) (x : Str) (d : D) (ρ : Env) : ev Φ t (.g x d) ρ = tst t (.ok (.v d) ρ) := by simp only [ev]
def call1 (f : Nat) (m : R (List RV)) : R RV := m.bind fun rs ρ => callR (Φ f) ρ rs
theorem st_call (t : Bool) (f : Nat) (es : Es) (ρ : Env) : ev Φ t (.call f es) ρ = tst t (call1 Φ f (evs Φ es ρ)) := by
  simp only [ev]
  congr 1
def callp3 (ρ : Env) : FR → R RV
  | .ok (.v d) [] => if noL d = true then .ok (.v d) ρ else .bad
  | _ => .bad
def callp2 (ρ : Env) (f : Sem) : Option (List D) → R RV
  | some ds => callp3 ρ (f (ds.map .val))
  | none => .bad
def callp1 (f : Nat) (m : R (List RV)) : R RV := m.bind fun rs ρ => callp2 ρ (Φ f) (pks ρ rs)
theorem st_callp (t : Bool) (f : Nat) (es : Es) (ρ : Env) : ev Φ t (.callp f es) ρ = tst t (callp1 Φ f (evs Φ es ρ)) := by
  simp only [ev]
  congr 1
theorem callp1_ok (f : Nat) (rs : List RV) (ρ : Env) : callp1 Φ f (.ok rs ρ) = callp2 ρ (Φ f) (pks ρ rs) := (rfl)
theorem callp2_ok (f : Sem) (d : D) (ρ : Env) : callp2 ρ f (some [d]) = callp3 ρ (f [.val d]) := (rfl)
theorem callp2_ok2 (f : Sem) (d e : D) (ρ : Env) : callp2 ρ f (some [d, e]) = callp3 ρ (f [.val d, .val e]) := (rfl)
def callC (r : RV) : Option Env → R RV
  | some ρ => (match r with | .slot _ => .bad | r => .ok r ρ)
  | none => .bad
def callX (x : Exc) : Option Env → R RV
  | some ρ => .exc x ρ
  | none => .bad
def callB (ρ : Env) (is : List Nat) : FR → R RV
  | .ok r outs => callC r (putBack ρ is outs)
  | .exc x outs => callX x (putBack ρ is outs)
  | .bad => .bad
def callA (f : Sem) (ρ : Env) (is : List Nat) : Option (List Arg) → R RV
  | some as => if is.Nodup then callB ρ is (f as) else .bad
  | none => .bad
theorem callR_A (f : Sem) (ρ : Env) (rs : List RV) : callR f ρ rs = callA f ρ (slotsOf rs) (argsOf ρ rs) := by
  unfold callR callA
  cases argsOf ρ rs with
  | none => simp
  | some as =>
    simp only
    by_cases h : (slotsOf rs).Nodup
    · rw [if_pos h, if_pos h]
      unfold callB
      cases f as with
      | ok r outs =>
        simp only
        unfold callC
        cases putBack ρ (slotsOf rs) outs <;> rfl
      | exc x outs =>
        simp only
        unfold callX
        cases putBack ρ (slotsOf rs) outs <;> rfl
      | bad => rfl
    · rw [if_neg h, if_neg h]
theorem call1_ok (f : Nat) (rs : List RV) (ρ : Env) : call1 Φ f (.ok rs ρ) = callA (Φ f) ρ (slotsOf rs) (argsOf ρ rs) := callR_A _ _ _
theorem callA_0 (f : Sem) (ρ : Env) (as : List Arg) : callA f ρ [] (some as) = callB ρ [] (f as) := by
  unfold callA
  exact if_pos List.nodup_nil
theorem callA_1 (f : Sem) (ρ : Env) (i : Nat) (as : List Arg) : callA f ρ [i] (some as) = callB ρ [i] (f as) := by
  unfold callA
  exact if_pos (by simp)
theorem callB_ok (ρ : Env) (is : List Nat) (r : RV) (outs : List Cell) : callB ρ is (.ok r outs) = callC r (putBack ρ is outs) := (rfl)
theorem callB_exc (ρ : Env) (is : List Nat) (x : Exc) (outs : List Cell) : callB ρ is (.exc x outs) = callX x (putBack ρ is outs) := (rfl)
theorem callC_v (d : D) (ρ : Env) : callC (.v d) (some ρ) = .ok (.v d) ρ := (rfl)
theorem callC_f (c : Cell) (ρ : Env) : callC (.fresh c) (some ρ) = .ok (.fresh c) ρ := (rfl)
theorem callX_ok (x : Exc) (ρ : Env) : callX x (some ρ) = .exc x ρ := (rfl)
theorem slots_nil : slotsOf [] = [] := (rfl)
theorem slots_v (d : D) (rs : List RV) : slotsOf (.v d :: rs) = slotsOf rs := (rfl)
theorem slots_f (c : Cell) (rs : List RV) : slotsOf (.fresh c :: rs) = slotsOf rs := (rfl)
theorem slots_s (i : Nat) (rs : List RV) : slotsOf (.slot i :: rs) = i :: slotsOf rs := (rfl)
def argC (a : Option Arg) (as : Option (List Arg)) : Option (List Arg) := match a, as with | some a, some as => some (a :: as) | _, _ => none
theorem args_nil (ρ : Env) : argsOf ρ [] = some [] := (rfl)
theorem args_cons (ρ : Env) (r : RV) (rs : List RV) : argsOf ρ (r :: rs) = argC (argOf ρ r) (argsOf ρ rs) := (rfl)
theorem argC_ok (a : Arg) (as : List Arg) : argC (some a) (some as) = some (a :: as) := (rfl)
def argS : Option Slot → Option Arg
  | some (.own _ false c) => some (.own c)
  | _ => none
theorem arg_v (ρ : Env) (d : D) : argOf ρ (.v d) = some (.val d) := (rfl)
theorem arg_f (ρ : Env) (c : Cell) : argOf ρ (.fresh c) = some (.val c.toD) := (rfl)
theorem arg_s (ρ : Env) (i : Nat) : argOf ρ (.slot i) = argS ρ[i]? := by
  simp only [argOf]
  unfold argS
  split <;> simp_all
theorem argS_ok (t : Option Nat) (c : Cell) : argS (some (.own t false c)) = some (.own c) := (rfl)
theorem put_nil (ρ : Env) : putBack ρ [] [] = some ρ := by simp [putBack]
def put2 (ρ : Env) (i : Nat) (is : List Nat) (c : Cell) (cs : List Cell) : Option Slot → Option Env
  | some (.own t false _) => putBack (ρ.set i (.own t false c)) is cs
  | _ => none
theorem put_cons (ρ : Env) (i : Nat) (is : List Nat) (c : Cell) (cs : List Cell) : putBack ρ (i :: is) (c :: cs) = put2 ρ i is c cs ρ[i]? := by
  simp only [putBack]
  unfold put2
  cases ρ[i]? with
  | none => rfl
  | some s => cases s with
    | own t lk c => cases lk <;> rfl
    | _ => rfl
theorem put2_ok (ρ : Env) (i : Nat) (is : List Nat) (c c' : Cell) (cs : List Cell) (t : Option Nat) : put2 ρ i is c cs (some (.own t false c')) = putBack (ρ.set i (.own t false c)) is cs := (rfl)
def blt2 (ρ : Env) (f : Fn) : Option (List D) → R RV
  | some ds => .of ρ (fnD f ds)
  | none => .bad
def blt1 (f : Fn) (m : R (List RV)) : R RV := m.bind fun rs ρ => blt2 ρ f (pks ρ rs)
theorem st_blt (t : Bool) (f : Fn) (es : Es) (ρ : Env) : ev Φ t (.blt f es) ρ = tst t (blt1 f (evs Φ es ρ)) := by
  simp only [ev]
  congr 1
theorem blt1_ok (f : Fn) (rs : List RV) (ρ : Env) : blt1 f (.ok rs ρ) = blt2 ρ f (pks ρ rs) := (rfl)
theorem blt2_ok (f : Fn) (ds : List D) (ρ : Env) : blt2 ρ f (some ds) = .of ρ (fnD f ds) := (rfl)
def pkC (a : Option D) (as : Option (List D)) : Option (List D) := match a, as with | some a, some as => some (a :: as) | _, _ => none
theorem pks_nil (ρ : Env) : pks ρ [] = some [] := (rfl)
theorem pks_cons (ρ : Env) (r : RV) (rs : List RV) : pks ρ (r :: rs) = pkC (pk ρ r) (pks ρ rs) := (rfl)
theorem pkC_ok (a : D) (as : List D) : pkC (some a) (some as) = some (a :: as) := (rfl)
def lrng2 (ra : RV) (m : R RV) : R RV := m.bind fun rb ρ => match ra, rb with
  | .v (.int i), .v (.int j) => if okR i ∧ okR j ∧ (j - i).toNat ≤ 100000 then .ok (.fresh (.l (rngI i (j - i).toNat))) ρ else .bad
  | _, _ => .bad
def lrng1 (b : E) (m : R RV) : R RV := m.bind fun ra ρ => lrng2 ra (ev Φ false b ρ)
theorem st_lrng (t : Bool) (a b : E) (ρ : Env) : ev Φ t (.lrng a b) ρ = tst t (lrng1 Φ b (ev Φ false a ρ)) := by
  simp only [ev]
  congr 1
theorem lrng1_ok (b : E) (ra : RV) (ρ : Env) : lrng1 Φ b (.ok ra ρ) = lrng2 ra (ev Φ false b ρ) := (rfl)
theorem okR_small {i : Int} (h1 : -1000000 ≤ i) (h2 : i ≤ 1000000) : okR i = true := by
  have e : (2 : Int) ^ 62 = 4611686018427387904 := by decide +kernel
  unfold okR
  rw [e]
  exact decide_eq_true ⟨by omega, by omega⟩
theorem lrng2_ok {i j : Int} (ρ : Env) (h1 : -10000 ≤ i ∧ i ≤ 10000) (h2 : -10000 ≤ j ∧ j ≤ 10000) : lrng2 (.v (.int i)) (.ok (.v (.int j)) ρ) = .ok (.fresh (.l (rngI i (j - i).toNat))) ρ := by
  refine if_pos ⟨okR_small ?_ ?_, okR_small ?_ ?_, ?_⟩ <;> omega
def isi1 (tys : List Ty) (m : R RV) : R RV := m.bind fun ra ρ => match pk ρ ra with
  | some x => .ok (.v (.bool (tys.any fun t => tyIs t x))) ρ
  | none => .bad
theorem st_isi (t : Bool) (a : E) (tys : List Ty) (ρ : Env) : ev Φ t (.isi a tys) ρ = isi1 tys (ev Φ false a ρ) := by
  simp only [ev]
  congr 1
def isi2 (ρ : Env) (tys : List Ty) : Option D → R RV
  | some x => .ok (.v (.bool (tys.any fun t => tyIs t x))) ρ
  | none => .bad
theorem isi1_ok (tys : List Ty) (ra : RV) (ρ : Env) : isi1 tys (.ok ra ρ) = isi2 ρ tys (pk ρ ra) := by
  unfold isi1 isi2
  simp only [R.bind_ok]
theorem isi2_ok (ty : Ty) (x : D) (ρ : Env) : isi2 ρ [ty] (some x) = .ok (.v (.bool (tyIs ty x))) ρ := by
  unfold isi2
  simp
def meth3 (m : Mth) (i : Nat) (ds : List D) (ρ : Env) : Option Slot → R RV
  | some (.own t false (.l xs)) => (match methL m xs ds with
    | some (y, ys) => .ok (.v y) (ρ.set i (.own t false (.l ys)))
    | none => .bad)
  | _ => .bad
def meth2 (m : Mth) (i : Nat) (r : R (List D)) : R RV := r.bind fun ds ρ => meth3 m i ds ρ ρ[i]?
def meth1 (m : Mth) (i : Nat) (es : Es) (ρ : Env) : Option Slot → R RV
  | some (.own _ _ (.l _)) => meth2 m i (evd Φ es ρ)
  | _ => .bad
theorem st_meth (t : Bool) (m : Mth) (i : Nat) (es : Es) (ρ : Env) : ev Φ t (.meth m i es) ρ = tst t (meth1 Φ m i es ρ ρ[i]?) := by
  simp only [ev]
  congr 1
theorem meth1_ok (m : Mth) (i : Nat) (es : Es) (ρ : Env) (t : Option Nat) (lk : Bool) (xs : List D) : meth1 Φ m i es ρ (some (.own t lk (.l xs))) = meth2 m i (evd Φ es ρ) := (rfl)
theorem meth2_ok (m : Mth) (i : Nat) (ds : List D) (ρ : Env) : meth2 m i (.ok ds ρ) = meth3 m i ds ρ ρ[i]? := (rfl)
def meth4 (i : Nat) (t : Option Nat) (ρ : Env) : Option (D × List D) → R RV
  | some (y, ys) => .ok (.v y) (ρ.set i (.own t false (.l ys)))
  | none => .bad
theorem meth3_ok (m : Mth) (i : Nat) (ds : List D) (ρ : Env) (t : Option Nat) (xs : List D) : meth3 m i ds ρ (some (.own t false (.l xs))) = meth4 i t ρ (methL m xs ds) := by
  simp only [meth3, meth4]
theorem meth4_ok (i : Nat) (t : Option Nat) (ρ : Env) (y : D) (ys : List D) : meth4 i t ρ (some (y, ys)) = .ok (.v y) (ρ.set i (.own t false (.l ys))) := (rfl)
theorem meth_app (xs : List D) (y : D) (h : xs.length < 1000) : methL .append xs [y] = some (.none, xs ++ [y]) := if_pos (Nat.lt_of_lt_of_le h (by decide))
def ext2 (i : Nat) (r : RV) (ρ : Env) : Option Slot → R RV
  | some (.own t false (.l xs)) => (match r with
    | .fresh (.l ys) => if xs.length + ys.length ≤ sizeLine then .ok (.v .none) (ρ.set i (.own t false (.l (xs ++ ys)))) else .bad
    | _ => .bad)
  | _ => .bad
def ext1 (i : Nat) (m : R RV) : R RV := m.bind fun r ρ => ext2 i r ρ ρ[i]?
def ext0 (i : Nat) (e : E) (ρ : Env) : Option Slot → R RV
  | some (.own _ _ (.l _)) => ext1 i (ev Φ false e ρ)
  | _ => .bad
theorem st_ext (t : Bool) (i : Nat) (e : E) (ρ : Env) : ev Φ t (.ext i e) ρ = tst t (ext0 Φ i e ρ ρ[i]?) := by
  simp only [ev]
  congr 1
  unfold ext0
  generalize ρ[i]? = o
  rcases o with _ | (_ | _ | ⟨t1, lk1, c1⟩)
  · rfl
  · rfl
  · rfl
  · cases c1 with
    | d ks => rfl
    | l xs =>
      show (ev Φ false e ρ).bind _ = (ev Φ false e ρ).bind _
      congr 1
      funext r ρ
      unfold ext2
      generalize ρ[i]? = o2
      rcases r with d | (ys | ks) | k <;> rcases o2 with _ | (_ | _ | ⟨t2, lk2, c2⟩) <;> first | rfl | (cases lk2 <;> cases c2 <;> rfl)
theorem ext0_ok (i : Nat) (e : E) (ρ : Env) (t : Option Nat) (lk : Bool) (xs : List D) : ext0 Φ i e ρ (some (.own t lk (.l xs))) = ext1 i (ev Φ false e ρ) := (rfl)
theorem ext1_ok (i : Nat) (r : RV) (ρ : Env) : ext1 i (.ok r ρ) = ext2 i r ρ ρ[i]? := (rfl)
theorem ext2_ok (i : Nat) {ys xs : List D} (ρ : Env) (t : Option Nat) (h : xs.length + ys.length ≤ sizeLine) : ext2 i (.fresh (.l ys)) ρ (some (.own t false (.l xs))) = .ok (.v .none) (ρ.set i (.own t false (.l (xs ++ ys)))) := if_pos h
/-- the turns of a comprehension -/
def compK (e : E) (tg : Tg) (cnd : E) (xs : List D) (ρ : Env) (acc : List D) : R (List D) := compGo tg (fun ρ => ev Φ true cnd ρ) (fun ρ => ev Φ false e ρ) xs ρ acc
def comp2 (ρ : Env) (tg : Tg) (m : R (List D)) : R RV := m.bind fun ds ρ' => .ok (.fresh (.l ds)) (backE ρ ρ' tg.is)
def comp1 (e : E) (tg : Tg) (cnd : E) (m : R (List D)) : R RV := m.bind fun xs ρ => if tgFree ρ tg then comp2 ρ tg (compK Φ e tg cnd xs (wipeE ρ tg.is) []) else .bad
theorem st_comp (t : Bool) (e : E) (tg : Tg) (s : Src) (cnd : E) (ρ : Env) : ev Φ t (.comp e tg s cnd) ρ = tst t (comp1 Φ e tg cnd (evSrc Φ s ρ)) := by
  simp only [ev]
  congr 1
theorem comp1_ok (e : E) (tg : Tg) (cnd : E) (xs : List D) {ρ : Env} (h : tgFree ρ tg = true) : comp1 Φ e tg cnd (.ok xs ρ) = comp2 ρ tg (compK Φ e tg cnd xs (wipeE ρ tg.is) []) := if_pos h
theorem comp2_ok (ρ ρ' : Env) (tg : Tg) (ds : List D) : comp2 ρ tg (.ok ds ρ') = .ok (.fresh (.l ds)) (backE ρ ρ' tg.is) := (rfl)
/-! ### lists of expressions -/
def evs2 (r : RV) (m : R (List RV)) : R (List RV) := m.bind fun rs ρ => .ok (r :: rs) ρ
def evs1 (es : Es) (m : R RV) : R (List RV) := m.bind fun r ρ => evs2 (settle r) (evs Φ es ρ)
theorem st_evs_nil (ρ : Env) : evs Φ .nil ρ = .ok [] ρ := by simp only [evs]
theorem st_evs (e : E) (es : Es) (ρ : Env) : evs Φ (.cons e es) ρ = evs1 Φ es (ev Φ false e ρ) := by
  simp only [evs]
  congr 1
theorem evs1_ok (es : Es) (r : RV) (ρ : Env) : evs1 Φ es (.ok r ρ) = evs2 (settle r) (evs Φ es ρ) := (rfl)
theorem evs2_ok (r : RV) (rs : List RV) (ρ : Env) : evs2 r (.ok rs ρ) = .ok (r :: rs) ρ := (rfl)
theorem settle_v (d : D) : settle (.v d) = .v d := (rfl)
theorem settle_f (c : Cell) : settle (.fresh c) = .v c.toD := (rfl)
theorem settle_s (i : Nat) : settle (.slot i) = .slot i := (rfl)
theorem toD_l (xs : List D) : (Cell.l xs).toD = .list xs := (rfl)
def evd3 (d : D) (m : R (List D)) : R (List D) := m.bind fun ds ρ => .ok (d :: ds) ρ
def evd2 (es : Es) (m : R D) : R (List D) := m.bind fun d ρ => evd3 d (evd Φ es ρ)
def evd1 (es : Es) (m : R RV) : R (List D) := m.bind fun r ρ => evd2 Φ es (frz ρ r)
theorem st_evd_nil (ρ : Env) : evd Φ .nil ρ = .ok [] ρ := by simp only [evd]
theorem st_evd (e : E) (es : Es) (ρ : Env) : evd Φ (.cons e es) ρ = evd1 Φ es (ev Φ false e ρ) := by
  simp only [evd]
  congr 1
theorem evd1_ok (es : Es) (r : RV) (ρ : Env) : evd1 Φ es (.ok r ρ) = evd2 Φ es (frz ρ r) := (rfl)
theorem evd2_ok (es : Es) (d : D) (ρ : Env) : evd2 Φ es (.ok d ρ) = evd3 d (evd Φ es ρ) := (rfl)
theorem evd3_ok (d : D) (ds : List D) (ρ : Env) : evd3 d (.ok ds ρ) = .ok (d :: ds) ρ := (rfl)
theorem frz_v (d : D) (ρ : Env) : frz ρ (.v d) = .ok d ρ := (rfl)
theorem frz_f (c : Cell) (ρ : Env) : frz ρ (.fresh c) = .ok c.toD ρ := (rfl)
def frzS (ρ : Env) (i : Nat) : Option Slot → R D
  | some (.own none false c) => .ok c.toD (ρ.set i (.val c.toD))
  | some (.val d) => .ok d ρ
  | _ => .bad
theorem frz_s (i : Nat) (ρ : Env) : frz ρ (.slot i) = frzS ρ i ρ[i]? := by
  unfold frz frzS
  rfl
theorem frzS_o (ρ : Env) (i : Nat) (c : Cell) : frzS ρ i (some (.own none false c)) = .ok c.toD (ρ.set i (.val c.toD)) := (rfl)
theorem frzS_v (ρ : Env) (i : Nat) (d : D) : frzS ρ i (some (.val d)) = .ok d ρ := (rfl)
/-! ### names -/
def nmS (ρ : Env) (i : Nat) : Option Slot → R RV
  | some (.val d) => .ok (.v d) ρ
  | some (.own _ _ _) => .ok (.slot i) ρ
  | _ => .bad
theorem nm_s (ρ : Env) (i : Nat) : nameV ρ i = nmS ρ i ρ[i]? := (rfl)
theorem nmS_v (ρ : Env) (i : Nat) (d : D) : nmS ρ i (some (.val d)) = .ok (.v d) ρ := (rfl)
theorem nmS_o (ρ : Env) (i : Nat) (t : Option Nat) (lk : Bool) (c : Cell) : nmS ρ i (some (.own t lk c)) = .ok (.slot i) ρ := (rfl)
theorem pk_v (ρ : Env) (d : D) : pk ρ (.v d) = some d := (rfl)
theorem pk_f (ρ : Env) (c : Cell) : pk ρ (.fresh c) = some c.toD := (rfl)
def pkS : Option Slot → Option D
  | some (.own _ _ c) => some c.toD
  | some (.val d) => some d
  | _ => none
theorem pk_s (ρ : Env) (i : Nat) : pk ρ (.slot i) = pkS ρ[i]? := by
  unfold pk pkS
  rfl
theorem pkS_o (t : Option Nat) (lk : Bool) (c : Cell) : pkS (some (.own t lk c)) = some c.toD := (rfl)
theorem pkS_v (d : D) : pkS (some (.val d)) = some d := (rfl)
/-! ### truth of a value that is no truth -/
def tst2 (ρ : Env) : Option Bool → R RV
  | some b => .ok (.v (.bool b)) ρ
  | none => .bad
theorem tst_ok (r : RV) (ρ : Env) : tst true (.ok r ρ) = tst2 ρ ((pk ρ r).bind truth) := by
  unfold tst tst2
  (simp only [if_true, R.bind_ok]) <;> (split <;> rename_i h <;> rw [h])
theorem tst2_ok (b : Bool) (ρ : Env) : tst2 ρ (some b) = .ok (.v (.bool b)) ρ := (rfl)
theorem truth_b (b : Bool) : truth (.bool b) = some b := (rfl)
theorem bindS {α β : Type} (a : α) (f : α → Option β) : (some a).bind f = f a := (rfl)
/-! ### sources -/
def src2 (ρ : Env) : Option (List D) → R (List D)
  | some xs => .ok xs ρ
  | none => .bad
def src1 (m : R D) : R (List D) := m.bind fun d ρ => src2 ρ (items? d)
def src0 (m : R RV) : R (List D) := m.bind fun r ρ => src1 (frz ρ r)
theorem st_of (e : E) (ρ : Env) : evSrc Φ (.of e) ρ = src0 (ev Φ false e ρ) := by
  simp only [evSrc]
  unfold src0
  congr 1
theorem src0_ok (r : RV) (ρ : Env) : src0 (.ok r ρ) = src1 (frz ρ r) := (rfl)
theorem src1_l (xs : List D) (ρ : Env) : src1 (.ok (.list xs) ρ) = .ok xs ρ := (rfl)
theorem src1_t (xs : List D) (ρ : Env) : src1 (.ok (.tuple xs) ρ) = .ok xs ρ := (rfl)
def rg1 (m : R RV) : R (List D) := m.bind fun r ρ => match r with
    | .v (.int j) => if okR j then .ok (rngI 0 j.toNat) ρ else .bad
    | _ => .bad
theorem st_rng1 (a : E) (ρ : Env) : evSrc Φ (.rng1 a) ρ = rg1 (ev Φ false a ρ) := by
  simp only [evSrc]
  unfold rg1
  congr 1
theorem rg1_ok {j : Int} (ρ : Env) (h : okR j = true) : rg1 (.ok (.v (.int j)) ρ) = .ok (rngI 0 j.toNat) ρ := if_pos h
def rg2b (ra : RV) (m : R RV) : R (List D) := m.bind fun rb ρ => match ra, rb with
    | .v (.int i), .v (.int j) => if (okR i ∧ okR j) ∨ j ≤ i then .ok (rngI i (j - i).toNat) ρ else .bad
    | _, _ => .bad
def rg2 (b : E) (m : R RV) : R (List D) := m.bind fun ra ρ => rg2b ra (ev Φ false b ρ)
theorem st_rng2 (a b : E) (ρ : Env) : evSrc Φ (.rng2 a b) ρ = rg2 Φ b (ev Φ false a ρ) := by
  simp only [evSrc]
  unfold rg2
  congr 1
theorem rg2_ok (b : E) (ra : RV) (ρ : Env) : rg2 Φ b (.ok ra ρ) = rg2b ra (ev Φ false b ρ) := (rfl)
theorem rg2b_ok {i j : Int} (ρ : Env) (h : okR i = true) (h2 : okR j = true) : rg2b (.v (.int i)) (.ok (.v (.int j)) ρ) = .ok (rngI i (j - i).toNat) ρ := if_pos (.inl ⟨h, h2⟩)
def rg3c (ra rb : RV) (m : R RV) : R (List D) := m.bind fun rc ρ => match ra, rb, rc with
    | .v (.int i), .v (.int j), .v (.int c) => if c ≠ 0 ∧ c.natAbs < 1073741824 ∧ Builtin.Range.small i j c = true ∧ 0 ≤ Builtin.Range.rangeSize i j c then .ok (rngC i c (Builtin.Range.rangeSize i j c).toNat) ρ else .bad
    | _, _, _ => .bad
def rg3b (c : E) (ra : RV) (m : R RV) : R (List D) := m.bind fun rb ρ => rg3c ra rb (ev Φ false c ρ)
def rg3 (b c : E) (m : R RV) : R (List D) := m.bind fun ra ρ => rg3b Φ c ra (ev Φ false b ρ)
theorem st_rng3 (a b c : E) (ρ : Env) : evSrc Φ (.rng3 a b c) ρ = rg3 Φ b c (ev Φ false a ρ) := by
  simp only [evSrc]
  unfold rg3
  congr 1
theorem rg3_ok (b c : E) (ra : RV) (ρ : Env) : rg3 Φ b c (.ok ra ρ) = rg3b Φ c ra (ev Φ false b ρ) := (rfl)
theorem rg3b_ok (c : E) (ra rb : RV) (ρ : Env) : rg3b Φ c ra (.ok rb ρ) = rg3c ra rb (ev Φ false c ρ) := (rfl)
def en1 (m : R D) : R (List D) := m.bind fun d ρ => match items? d with | some xs => .ok (enumL 0 xs) ρ | none => .bad
def en0 (m : R RV) : R (List D) := m.bind fun r ρ => en1 (frz ρ r)
theorem st_enum (e : E) (ρ : Env) : evSrc Φ (.enum e) ρ = en0 (ev Φ false e ρ) := by
  simp only [evSrc]
  unfold en0
  congr 1
theorem en0_ok (r : RV) (ρ : Env) : en0 (.ok r ρ) = en1 (frz ρ r) := (rfl)
theorem en1_l (xs : List D) (ρ : Env) : en1 (.ok (.list xs) ρ) = .ok (enumL 0 xs) ρ := (rfl)
theorem en1_t (xs : List D) (ρ : Env) : en1 (.ok (.tuple xs) ρ) = .ok (enumL 0 xs) ρ := (rfl)
def zp3 (x : D) (m : R D) : R (List D) := m.bind fun y ρ => match items? x, items? y with
    | some xs, some ys => .ok (pairsL xs ys) ρ
    | _, _ => .bad
def zp2 (x : D) (m : R RV) : R (List D) := m.bind fun rb ρ => zp3 x (frz ρ rb)
def zp1 (b : E) (m : R D) : R (List D) := m.bind fun x ρ => zp2 x (ev Φ false b ρ)
def zp0 (b : E) (m : R RV) : R (List D) := m.bind fun r ρ => zp1 Φ b (frz ρ r)
theorem st_zip (a b : E) (ρ : Env) : evSrc Φ (.zip a b) ρ = zp0 Φ b (ev Φ false a ρ) := by
  simp only [evSrc]
  unfold zp0
  congr 1
theorem zp0_ok (b : E) (r : RV) (ρ : Env) : zp0 Φ b (.ok r ρ) = zp1 Φ b (frz ρ r) := (rfl)
theorem zp1_ok (b : E) (d : D) (ρ : Env) : zp1 Φ b (.ok d ρ) = zp2 d (ev Φ false b ρ) := (rfl)
theorem zp2_ok (d : D) (r : RV) (ρ : Env) : zp2 d (.ok r ρ) = zp3 d (frz ρ r) := (rfl)
theorem zp3_ll (xs ys : List D) (ρ : Env) : zp3 (.list xs) (.ok (.list ys) ρ) = .ok (pairsL xs ys) ρ := (rfl)
theorem zp3_lt (xs ys : List D) (ρ : Env) : zp3 (.list xs) (.ok (.tuple ys) ρ) = .ok (pairsL xs ys) ρ := (rfl)
theorem zp3_tl (xs ys : List D) (ρ : Env) : zp3 (.tuple xs) (.ok (.list ys) ρ) = .ok (pairsL xs ys) ρ := (rfl)
theorem zp3_tt (xs ys : List D) (ρ : Env) : zp3 (.tuple xs) (.ok (.tuple ys) ρ) = .ok (pairsL xs ys) ρ := (rfl)
def rv1 (m : R D) : R (List D) := m.bind fun d ρ => match items? d with | some xs => .ok xs.reverse ρ | none => .bad
def rv0 (m : R RV) : R (List D) := m.bind fun r ρ => rv1 (frz ρ r)
theorem st_srev (e : E) (ρ : Env) : evSrc Φ (.rev e) ρ = rv0 (ev Φ false e ρ) := by
  simp only [evSrc]
  unfold rv0
  congr 1
theorem rv0_ok (r : RV) (ρ : Env) : rv0 (.ok r ρ) = rv1 (frz ρ r) := (rfl)
theorem rv1_l (xs : List D) (ρ : Env) : rv1 (.ok (.list xs) ρ) = .ok xs.reverse ρ := (rfl)
theorem rv1_t (xs : List D) (ρ : Env) : rv1 (.ok (.tuple xs) ρ) = .ok xs.reverse ρ := (rfl)
/-! ### statements -/
def seqK (ss : Ss) (f : Fl) : Fl := f.next fun ρ => exSs Φ ss ρ
theorem st_cons (s : S) (ss : Ss) (ρ : Env) : exSs Φ (.cons s ss) ρ = seqK Φ ss (exS Φ s ρ) := by simp only [exSs]; rfl
theorem st_nil (ρ : Env) : exSs Φ .nil ρ = .nx ρ := by simp only [exSs]
theorem seq_nx (ss : Ss) (ρ : Env) : seqK Φ ss (.nx ρ) = exSs Φ ss ρ := (rfl)
theorem seq_rt (ss : Ss) (r : RV) (ρ : Env) : seqK Φ ss (.rt r ρ) = .rt r ρ := (rfl)
theorem seq_bk (ss : Ss) (ρ : Env) : seqK Φ ss (.bk ρ) = .bk ρ := (rfl)
theorem seq_ct (ss : Ss) (ρ : Env) : seqK Φ ss (.ct ρ) = .ct ρ := (rfl)
theorem seq_exc (ss : Ss) (x : Exc) (ρ : Env) : seqK Φ ss (.exc x ρ) = .exc x ρ := (rfl)
def asg3 (i : Nat) (m : R D) : Fl := m.fl fun d ρ => .nx (ρ.set i (.val d))
def asg2 (i : Nat) (r : RV) (ρ : Env) : Option Slot → Fl
  | some (.own (some _) _ _) => .bad
  | some (.own none true _) => .bad
  | none => .bad
  | _ => (match r with
    | .fresh c => .nx (ρ.set i (.own none false c))
    | r => asg3 i (frz ρ r))
def asg1 (i : Nat) (m : R RV) : Fl := m.fl fun r ρ => asg2 i r ρ ρ[i]?
def mov1 (i j : Nat) (ρ : Env) (c : Cell) : Option Slot → Fl
  | some (.own (some _) _ _) => .bad
  | some (.own none true _) => .bad
  | none => .bad
  | _ => .nx ((ρ.set j .un).set i (.own none false c))
def mov0 (b : Bool) (i j : Nat) (ρ : Env) (s : Option Slot) : Option Slot → Fl
  | some (.own none false c) => if b then .bad else mov1 i j ρ c s
  | _ => .bad
theorem st_mov (i j : Nat) (ρ : Env) : exS Φ (.mov i j) ρ = mov0 (decide (i = j)) i j ρ ρ[i]? ρ[j]? := by
  simp only [exS]
  by_cases h : i = j
  · rw [if_pos h, decide_eq_true h]
    unfold mov0
    split <;> rfl
  · rw [if_neg h, decide_eq_false h]
    unfold mov0 mov1
    cases ρ[j]? with
    | none => rfl
    | some s => cases s with
      | un => rfl
      | val d => rfl
      | own t lk c => cases t <;> cases lk <;> rfl
theorem mov0_ok (i j : Nat) (ρ : Env) (s : Option Slot) (c : Cell) : mov0 false i j ρ s (some (.own none false c)) = mov1 i j ρ c s := (rfl)
theorem mov1_u (i j : Nat) (ρ : Env) (c : Cell) : mov1 i j ρ c (some .un) = .nx ((ρ.set j .un).set i (.own none false c)) := (rfl)
theorem mov1_v (i j : Nat) (ρ : Env) (c : Cell) (d : D) : mov1 i j ρ c (some (.val d)) = .nx ((ρ.set j .un).set i (.own none false c)) := (rfl)
theorem mov1_o (i j : Nat) (ρ : Env) (c c' : Cell) : mov1 i j ρ c (some (.own none false c')) = .nx ((ρ.set j .un).set i (.own none false c)) := (rfl)
theorem st_asg (i : Nat) (e : E) (ρ : Env) : exS Φ (.asg i e) ρ = asg1 i (ev Φ false e ρ) := by
  simp only [exS]
  unfold asg1
  congr 1
theorem asg1_ok (i : Nat) (r : RV) (ρ : Env) : asg1 i (.ok r ρ) = asg2 i r ρ ρ[i]? := (rfl)
theorem asg2_fu (i : Nat) (c : Cell) (ρ : Env) : asg2 i (.fresh c) ρ (some .un) = .nx (ρ.set i (.own none false c)) := (rfl)
theorem asg2_fv (i : Nat) (c : Cell) (ρ : Env) (d : D) : asg2 i (.fresh c) ρ (some (.val d)) = .nx (ρ.set i (.own none false c)) := (rfl)
theorem asg2_fo (i : Nat) (c c' : Cell) (ρ : Env) : asg2 i (.fresh c) ρ (some (.own none false c')) = .nx (ρ.set i (.own none false c)) := (rfl)
theorem asg2_vu (i : Nat) (d : D) (ρ : Env) : asg2 i (.v d) ρ (some .un) = .nx (ρ.set i (.val d)) := (rfl)
theorem asg2_vv (i : Nat) (d : D) (ρ : Env) (d' : D) : asg2 i (.v d) ρ (some (.val d')) = .nx (ρ.set i (.val d)) := (rfl)
theorem asg2_vo (i : Nat) (d : D) (c' : Cell) (ρ : Env) : asg2 i (.v d) ρ (some (.own none false c')) = .nx (ρ.set i (.val d)) := (rfl)
theorem asg2_su (i j : Nat) (ρ : Env) : asg2 i (.slot j) ρ (some .un) = asg3 i (frz ρ (.slot j)) := (rfl)
theorem asg2_sv (i j : Nat) (ρ : Env) (d' : D) : asg2 i (.slot j) ρ (some (.val d')) = asg3 i (frz ρ (.slot j)) := (rfl)
theorem asg2_so (i j : Nat) (c' : Cell) (ρ : Env) : asg2 i (.slot j) ρ (some (.own none false c')) = asg3 i (frz ρ (.slot j)) := (rfl)
theorem asg3_ok (i : Nat) (d : D) (ρ : Env) : asg3 i (.ok d ρ) = .nx (ρ.set i (.val d)) := (rfl)
def par4 (i j : Nat) (x : D) (m : R D) : Fl := m.fl fun y ρ => if tgFree ρ (.t [i, j]) then .nx ((ρ.set i (.val x)).set j (.val y)) else .bad
def par3 (i j : Nat) (x : D) (m : R RV) : Fl := m.fl fun rb ρ => par4 i j x (frz ρ rb)
def par2 (i j : Nat) (b : E) (m : R D) : Fl := m.fl fun x ρ => par3 i j x (ev Φ false b ρ)
def par1 (i j : Nat) (b : E) (m : R RV) : Fl := m.fl fun ra ρ => par2 Φ i j b (frz ρ ra)
theorem st_par (i j : Nat) (a b : E) (ρ : Env) : exS Φ (.par i j a b) ρ = par1 Φ i j b (ev Φ false a ρ) := by
  simp only [exS]
  unfold par1
  congr 1
theorem par1_ok (i j : Nat) (b : E) (r : RV) (ρ : Env) : par1 Φ i j b (.ok r ρ) = par2 Φ i j b (frz ρ r) := (rfl)
theorem par2_ok (i j : Nat) (b : E) (x : D) (ρ : Env) : par2 Φ i j b (.ok x ρ) = par3 i j x (ev Φ false b ρ) := (rfl)
theorem par3_ok (i j : Nat) (x : D) (r : RV) (ρ : Env) : par3 i j x (.ok r ρ) = par4 i j x (frz ρ r) := (rfl)
theorem par4_ok (i j : Nat) (x y : D) {ρ : Env} (h : tgFree ρ (.t [i, j]) = true) : par4 i j x (.ok y ρ) = .nx ((ρ.set i (.val x)).set j (.val y)) := if_pos h
def unp3 : Option Env → Fl
  | some ρ => .nx ρ
  | none => .bad
def unp2 (is : List Nat) (m : R D) : Fl := m.fl fun d ρ => if tgFree ρ (.t is) then unp3 (putTg ρ (.t is) d) else .bad
def unp1 (is : List Nat) (m : R RV) : Fl := m.fl fun r ρ => unp2 is (frz ρ r)
theorem st_unp (is : List Nat) (e : E) (ρ : Env) : exS Φ (.unp is e) ρ = unp1 is (ev Φ false e ρ) := by
  simp only [exS]
  unfold unp1
  congr 1
theorem unp1_ok (is : List Nat) (r : RV) (ρ : Env) : unp1 is (.ok r ρ) = unp2 is (frz ρ r) := (rfl)
theorem unp2_ok (is : List Nat) (d : D) {ρ : Env} (h : tgFree ρ (.t is) = true) : unp2 is (.ok d ρ) = unp3 (putTg ρ (.t is) d) := if_pos h
theorem unp3_ok (ρ : Env) : unp3 (some ρ) = .nx ρ := (rfl)
theorem tg_n (ρ : Env) (i : Nat) (d : D) : putTg ρ (.n i) d = some (ρ.set i (.val d)) := (rfl)
theorem tg_2 (ρ : Env) (i j : Nat) (x y : D) : putTg ρ (.t [i, j]) (.tuple [x, y]) = some ((ρ.set i (.val x)).set j (.val y)) := (rfl)
theorem tg_3 (ρ : Env) (i j k : Nat) (x y z : D) : putTg ρ (.t [i, j, k]) (.tuple [x, y, z]) = some (((ρ.set i (.val x)).set j (.val y)).set k (.val z)) := (rfl)
def set5 (i : Nat) (t : Option Nat) (ρ : Env) : Option Cell → Fl
  | some c => .nx (ρ.set i (.own t false c))
  | none => .bad
def set4 (i : Nat) (d : D) (rk : RV) (ρ : Env) : Option Slot → Fl
  | some (.own t false c) => (match rk with
    | .v k => set5 i t ρ (setC c k d)
    | _ => .bad)
  | _ => .bad
def set3 (i : Nat) (d : D) (m : R RV) : Fl := m.fl fun rk ρ => set4 i d rk ρ ρ[i]?
def set2 (i : Nat) (k : E) (d : D) (ρ : Env) : Option Slot → Fl
  | some (.own _ _ _) => set3 i d (ev Φ false k ρ)
  | _ => .bad
def set1 (i : Nat) (k : E) (m : R D) : Fl := m.fl fun d ρ => set2 Φ i k d ρ ρ[i]?
def set0 (i : Nat) (k : E) (m : R RV) : Fl := m.fl fun r ρ => set1 Φ i k (frz ρ r)
theorem st_set (i : Nat) (k e : E) (ρ : Env) : exS Φ (.set i k e) ρ = set0 Φ i k (ev Φ false e ρ) := by
  simp only [exS]
  unfold set0
  congr 1
  funext r ρ
  unfold set1
  congr 1
  funext d ρ
  unfold set2
  cases ρ[i]? with
  | none => rfl
  | some s =>
    cases s with
    | own t lk c =>
      simp only
      unfold set3
      congr 1
      funext rk ρ
      unfold set4
      cases ρ[i]? with
      | none => rfl
      | some s =>
        cases s with
        | own t lk c =>
          cases lk with
          | true => rfl
          | false =>
            cases rk with
            | v k => simp only; unfold set5; cases setC c k d <;> rfl
            | _ => rfl
        | _ => rfl
    | _ => rfl
theorem set0_ok (i : Nat) (k : E) (r : RV) (ρ : Env) : set0 Φ i k (.ok r ρ) = set1 Φ i k (frz ρ r) := (rfl)
theorem set1_ok (i : Nat) (k : E) (d : D) (ρ : Env) : set1 Φ i k (.ok d ρ) = set2 Φ i k d ρ ρ[i]? := (rfl)
theorem set2_ok (i : Nat) (k : E) (d : D) (ρ : Env) (t : Option Nat) (lk : Bool) (c : Cell) : set2 Φ i k d ρ (some (.own t lk c)) = set3 i d (ev Φ false k ρ) := (rfl)
theorem set3_ok (i : Nat) (d : D) (rk : RV) (ρ : Env) : set3 i d (.ok rk ρ) = set4 i d rk ρ ρ[i]? := (rfl)
theorem set4_ok (i : Nat) (d k : D) (ρ : Env) (t : Option Nat) (c : Cell) : set4 i d (.v k) ρ (some (.own t false c)) = set5 i t ρ (setC c k d) := (rfl)
theorem set5_ok (i : Nat) (t : Option Nat) (ρ : Env) (c : Cell) : set5 i t ρ (some c) = .nx (ρ.set i (.own t false c)) := (rfl)
def ex1 (m : R RV) : Fl := m.fl fun _ ρ => .nx ρ
theorem st_ex (e : E) (ρ : Env) : exS Φ (.ex e) ρ = ex1 (ev Φ false e ρ) := by simp only [exS]; rfl
theorem ex1_ok (r : RV) (ρ : Env) : ex1 (.ok r ρ) = .nx ρ := (rfl)
def ret1 (m : R RV) : Fl := m.fl fun r ρ => .rt r ρ
theorem st_ret (e : E) (ρ : Env) : exS Φ (.ret e) ρ = ret1 (ev Φ false e ρ) := by simp only [exS]; rfl
theorem ret1_ok (r : RV) (ρ : Env) : ret1 (.ok r ρ) = .rt r ρ := (rfl)
theorem st_ret0 (ρ : Env) : exS Φ .ret0 ρ = .rt (.v .none) ρ := by simp only [exS]
def if1 (a b : Ss) (m : R RV) : Fl := m.fl fun r ρ => match r with
  | .v (.bool true) => exSs Φ a ρ
  | .v (.bool false) => exSs Φ b ρ
  | _ => .bad
theorem st_if (c : E) (a b : Ss) (ρ : Env) : exS Φ (.if_ c a b) ρ = if1 Φ a b (ev Φ true c ρ) := by
  simp only [exS]
  unfold if1
  congr 1
theorem if1_t (a b : Ss) (ρ : Env) : if1 Φ a b (.ok (.v (.bool true)) ρ) = exSs Φ a ρ := (rfl)
theorem if1_f (a b : Ss) (ρ : Env) : if1 Φ a b (.ok (.v (.bool false)) ρ) = exSs Φ b ρ := (rfl)
def whK (c : E) (b : Ss) (n : Nat) (ρ : Env) : Fl := loopW (fun ρ => ev Φ true c ρ) (fun ρ => exSs Φ b ρ) n ρ
theorem st_wh (c : E) (b : Ss) (ρ : Env) : exS Φ (.wh c b) ρ = whK Φ c b FUEL ρ := by simp only [exS]; rfl
def forK (tg : Tg) (b : Ss) (xs : List D) (ρ : Env) : Fl := loopF tg (fun ρ => exSs Φ b ρ) xs ρ
def for1 (tg : Tg) (b : Ss) (m : R (List D)) : Fl := m.fl fun xs ρ => if tgFree ρ tg then forK Φ tg b xs ρ else .bad
theorem st_for (tg : Tg) (s : Src) (b : Ss) (ρ : Env) : exS Φ (.for_ tg s b) ρ = for1 Φ tg b (evSrc Φ s ρ) := by
  simp only [exS]
  unfold for1
  congr 1
theorem for1_ok (tg : Tg) (b : Ss) (xs : List D) {ρ : Env} (h : tgFree ρ tg = true) : for1 Φ tg b (.ok xs ρ) = forK Φ tg b xs ρ := if_pos h
theorem st_brk (ρ : Env) : exS Φ .brk ρ = .bk ρ := by simp only [exS]
theorem st_cont (ρ : Env) : exS Φ .cont ρ = .ct ρ := by simp only [exS]
theorem st_pass (ρ : Env) : exS Φ .pass ρ = .nx ρ := by simp only [exS]
theorem st_kill (is : List Nat) (ρ : Env) : exS Φ (.kill is) ρ = .nx (wipeE ρ is) := by simp only [exS]
theorem kill_nil (ρ : Env) : wipeE ρ [] = ρ := (rfl)
theorem kill_cons (ρ : Env) (i : Nat) (is : List Nat) : wipeE ρ (i :: is) = wipeE (ρ.set i .un) is := (rfl)
theorem back_nil (ρ ρ' : Env) : backE ρ ρ' [] = ρ' := (rfl)
def back2 (ρ ρ' : Env) (i : Nat) (is : List Nat) : Option Slot → Env
  | some s => backE ρ (ρ'.set i s) is
  | none => backE ρ ρ' is
theorem back_cons (ρ ρ' : Env) (i : Nat) (is : List Nat) : backE ρ ρ' (i :: is) = back2 ρ ρ' i is ρ[i]? := by
  unfold back2 backE
  rw [List.foldl_cons]
  cases ρ[i]? <;> rfl
theorem back2_ok (ρ ρ' : Env) (i : Nat) (is : List Nat) (s : Slot) : back2 ρ ρ' i is (some s) = backE ρ (ρ'.set i s) is := (rfl)
theorem is_n (i : Nat) : (Tg.n i).is = [i] := (rfl)
theorem is_t (is : List Nat) : (Tg.t is).is = is := (rfl)
theorem free_n (ρ : Env) (i : Nat) : tgFree ρ (.n i) = Slot.free ρ[i]? := by simp [tgFree, Tg.is]
theorem free_t (ρ : Env) (is : List Nat) : tgFree ρ (.t is) = is.all fun i => Slot.free ρ[i]? := (rfl)
theorem free_v (d : D) : Slot.free (some (.val d)) = true := (rfl)
theorem free_u : Slot.free (some .un) = true := (rfl)
end
/-! ### operations -/
theorem bo_add (a b : Int) : binD .add (.int a) (.int b) = some (.v (.int (a + b))) := (rfl)
theorem bo_sub (a b : Int) : binD .sub (.int a) (.int b) = some (.v (.int (a - b))) := (rfl)
theorem bo_mul {a b : Int} (h : mulOk a b = true) : binD .mul (.int a) (.int b) = some (.v (.int (a * b))) := if_pos h
theorem bo_mod {a b : Int} (h : b ≠ 0) : binD .mod (.int a) (.int b) = some (.v (.int (a.fmod b))) := if_pos h
theorem bo_div {a b : Int} (h : b ≠ 0) (h2 : Builtin.divisionGoesByPylong a b = false) : binD .fdiv (.int a) (.int b) = some (.v (.int (a.fdiv b))) := if_pos ⟨h, h2⟩
theorem bo_pow {a b : Int} (h : powOk a b = true) : binD .pow (.int a) (.int b) = some (.v (.int (a ^ b.toNat))) := if_pos h
theorem bo_ll {a b : List D} (h : a.length + b.length ≤ sizeLine) : binD .add (.list a) (.list b) = some (.fresh (.l (a ++ b))) := if_pos h
theorem bo_tt {a b : List D} (h : a.length + b.length ≤ sizeLine) : binD .add (.tuple a) (.tuple b) = some (.v (.tuple (a ++ b))) := if_pos h
theorem cm_lt (a b : Int) : cmpD .lt (.int a) (.int b) = some (decide (a < b)) := (rfl)
theorem cm_le (a b : Int) : cmpD .le (.int a) (.int b) = some (decide (a ≤ b)) := (rfl)
theorem cm_gt (a b : Int) : cmpD .gt (.int a) (.int b) = some (decide (b < a)) := (rfl)
theorem cm_ge (a b : Int) : cmpD .ge (.int a) (.int b) = some (decide (b ≤ a)) := (rfl)
theorem shaped_int (a : Int) : SeqAt.shaped (.int a) = true := (rfl)
theorem cm_eqi (a b : Int) : cmpD .eq (.int a) (.int b) = some (decide (a = b)) := by
  simp only [cmpD, shaped_int, PyData.eqv, and_self, if_true]
  congr 1
theorem cm_nei (a b : Int) : cmpD .ne (.int a) (.int b) = some (!decide (a = b)) := by
  simp only [cmpD, shaped_int, PyData.eqv, and_self, if_true]
  congr 2
theorem cm_eqs (a b : Str) : cmpD .eq (.str a) (.str b) = some (decide (a = b)) := (rfl)
theorem cm_nes (a b : Str) : cmpD .ne (.str a) (.str b) = some (!decide (a = b)) := (rfl)
theorem cm_isb (a b : Bool) : cmpD .is_ (.bool a) (.bool b) = some (decide (a = b)) := (rfl)
theorem cm_isnotb (a b : Bool) : cmpD .isnot (.bool a) (.bool b) = some (!decide (a = b)) := (rfl)
theorem mapS {α β : Type} (f : α → β) (a : α) : (some a).map f = some (f a) := (rfl)
theorem ix_l (xs : List D) (i : Int) : ixD (.list xs) (.int i) = atI xs i := (rfl)
theorem ix_t (xs : List D) (i : Int) : ixD (.tuple xs) (.int i) = atI xs i := (rfl)
theorem at_0 {α : Type} (x : α) (xs : List α) : atI (x :: xs) 0 = some x := atI_nat (j := 0) rfl
theorem at_1 {α : Type} (x y : α) (xs : List α) : atI (x :: y :: xs) 1 = some y := atI_nat (j := 1) rfl
theorem at_2 {α : Type} (x y z : α) (xs : List α) : atI (x :: y :: z :: xs) 2 = some z := atI_nat (j := 2) rfl
theorem at_n {α : Type} (xs : List α) (j : Nat) : atI xs (j : Int) = xs[j]? := by
  cases h : xs[j]? with
  | some v => exact atI_nat h
  | none =>
    have := List.getElem?_eq_none_iff.mp h
    unfold atI ixN
    rw [if_pos (by omega), if_neg (by omega)]
    rfl
theorem lk_cons (k j : D) (d : D) (r : List (D × D)) : lookD k ((j, d) :: r) = if same j k then some d else lookD k r := (rfl)
theorem fn_lenl (xs : List D) : fnD .len [.list xs] = some (.v (.int xs.length)) := (rfl)
theorem fn_lent (xs : List D) : fnD .len [.tuple xs] = some (.v (.int xs.length)) := (rfl)
theorem fn_abs (a : Int) : fnD .abs [.int a] = some (.v (.int (if a < 0 then -a else a))) := (rfl)
theorem fn_max (a b : Int) : fnD .max2 [.int a, .int b] = some (.v (.int (if b > a then b else a))) := (rfl)
theorem fn_min (a b : Int) : fnD .min2 [.int a, .int b] = some (.v (.int (if b < a then b else a))) := (rfl)
theorem fn_tupl (xs : List D) : fnD .tuple [.list xs] = some (.v (.tuple xs)) := (rfl)
theorem fn_tupt (xs : List D) : fnD .tuple [.tuple xs] = some (.v (.tuple xs)) := (rfl)
theorem fn_lisl (xs : List D) : fnD .list [.list xs] = some (.fresh (.l xs)) := (rfl)
theorem fn_list (xs : List D) : fnD .list [.tuple xs] = some (.fresh (.l xs)) := (rfl)
theorem fn_strs (x : Str) : fnD .str [.str x] = some (.v (.str x)) := (rfl)
theorem fn_inti (a : Int) : fnD .int [.int a] = some (.v (.int a)) := (rfl)
theorem fn_intb (a : Bool) : fnD .int [.bool a] = some (.v (.int (if a then 1 else 0))) := (rfl)
/-- a text of it can be made -/
def Fits (d : D) : Prop := shw d = true ∧ d.depth ≤ 64 ∧ d.shown.length ≤ sizeLine
theorem fn_repr {d : D} (h : Fits d) : fnD .repr [d] = some (.v (.str d.shown)) := if_pos h
theorem ints_map (l : List Int) : ints? (l.map PyData.int) = some l := by
  induction l with
  | nil => rfl
  | cons a l ih => simp [ints?, ih]
/-! ### a def's end -/
def end2 (ρ : Env) (r : RV) : Option (List Cell) → FR
  | some outs => (match r with
    | .slot i => (match ρ[i]? with
      | some (.own none _ c) => .ok (.fresh c) outs
      | some (.val d) => .ok (.v d) outs
      | _ => .bad)
    | r => .ok r outs)
  | none => .bad
def endX (x : Exc) : Option (List Cell) → FR
  | some outs => .exc x outs
  | none => .bad
def end1 (as : List Arg) : Fl → FR
  | .rt r ρ => end2 ρ r (outsOf ρ as 0 0)
  | .nx ρ => end2 ρ (.v .none) (outsOf ρ as 0 0)
  | .exc x ρ => endX x (outsOf ρ as 0 0)
  | _ => .bad
theorem body_go {Φ : Phi} {many nps : Nat} {b : Ss} {as : List Arg} (h : as.length = nps) : body Φ many nps b as = end1 as (exSs Φ b (argSlot 0 as ++ List.replicate (many - nps) .un)) := by
  unfold body
  rw [if_pos h]
  generalize exSs Φ b (argSlot 0 as ++ List.replicate (many - nps) .un) = f
  cases f with
  | rt r ρ =>
    (dsimp only [end1, end2]) <;> (generalize outsOf ρ as 0 0 = o; rcases o with _ | outs <;> first | rfl | (rcases r with d | c | i <;> first | rfl | (dsimp only; done) | (dsimp only; generalize ρ[i]? = o2; rcases o2 with _ | (_ | _ | ⟨t2, lk2, c2⟩) <;> first | rfl | (cases t2 <;> rfl))))
  | nx ρ =>
    (dsimp only [end1, end2]) <;> (generalize outsOf ρ as 0 0 = o; cases o <;> rfl)
  | exc x ρ =>
    (dsimp only [end1, endX]) <;> (generalize outsOf ρ as 0 0 = o; cases o <;> rfl)
  | bk ρ => rfl
  | ct ρ => rfl
  | bad => rfl
theorem body_0 (Φ : Phi) (many : Nat) (b : Ss) : body Φ many 0 b [] = end1 [] (exSs Φ b (argSlot 0 [] ++ List.replicate (many - 0) .un)) := body_go rfl
theorem body_1 (Φ : Phi) (many : Nat) (b : Ss) (u : Arg) : body Φ many 1 b [u] = end1 [u] (exSs Φ b (argSlot 0 [u] ++ List.replicate (many - 1) .un)) := body_go rfl
theorem body_2 (Φ : Phi) (many : Nat) (b : Ss) (u v : Arg) : body Φ many 2 b [u, v] = end1 [u, v] (exSs Φ b (argSlot 0 [u, v] ++ List.replicate (many - 2) .un)) := body_go rfl
theorem body_3 (Φ : Phi) (many : Nat) (b : Ss) (u v w : Arg) : body Φ many 3 b [u, v, w] = end1 [u, v, w] (exSs Φ b (argSlot 0 [u, v, w] ++ List.replicate (many - 3) .un)) := body_go rfl
theorem body_4 (Φ : Phi) (many : Nat) (b : Ss) (u v w x : Arg) : body Φ many 4 b [u, v, w, x] = end1 [u, v, w, x] (exSs Φ b (argSlot 0 [u, v, w, x] ++ List.replicate (many - 4) .un)) := body_go rfl
theorem body_5 (Φ : Phi) (many : Nat) (b : Ss) (u v w x y : Arg) : body Φ many 5 b [u, v, w, x, y] = end1 [u, v, w, x, y] (exSs Φ b (argSlot 0 [u, v, w, x, y] ++ List.replicate (many - 5) .un)) := body_go rfl
theorem body_6 (Φ : Phi) (many : Nat) (b : Ss) (u v w x y z : Arg) : body Φ many 6 b [u, v, w, x, y, z] = end1 [u, v, w, x, y, z] (exSs Φ b (argSlot 0 [u, v, w, x, y, z] ++ List.replicate (many - 6) .un)) := body_go rfl
theorem end1_rt (as : List Arg) (r : RV) (ρ : Env) : end1 as (.rt r ρ) = end2 ρ r (outsOf ρ as 0 0) := (rfl)
theorem end1_nx (as : List Arg) (ρ : Env) : end1 as (.nx ρ) = end2 ρ (.v .none) (outsOf ρ as 0 0) := (rfl)
theorem end1_x (as : List Arg) (x : Exc) (ρ : Env) : end1 as (.exc x ρ) = endX x (outsOf ρ as 0 0) := (rfl)
theorem end2_v (ρ : Env) (d : D) (outs : List Cell) : end2 ρ (.v d) (some outs) = .ok (.v d) outs := (rfl)
theorem end2_f (ρ : Env) (c : Cell) (outs : List Cell) : end2 ρ (.fresh c) (some outs) = .ok (.fresh c) outs := (rfl)
def end3 (outs : List Cell) : Option Slot → FR
  | some (.own none _ c) => .ok (.fresh c) outs
  | some (.val d) => .ok (.v d) outs
  | _ => .bad
theorem end2_s (ρ : Env) (i : Nat) (outs : List Cell) : end2 ρ (.slot i) (some outs) = end3 outs ρ[i]? := by
  simp only [end2]
  unfold end3
  rfl
theorem end3_o (lk : Bool) (c : Cell) (outs : List Cell) : end3 outs (some (.own none lk c)) = .ok (.fresh c) outs := (rfl)
theorem end3_v (d : D) (outs : List Cell) : end3 outs (some (.val d)) = .ok (.v d) outs := (rfl)
theorem endX_ok (x : Exc) (outs : List Cell) : endX x (some outs) = .exc x outs := (rfl)
theorem outs_nil (ρ : Env) (i n : Nat) : outsOf ρ [] i n = some [] := (rfl)
theorem outs_v (ρ : Env) (d : D) (as : List Arg) (i n : Nat) : outsOf ρ (.val d :: as) i n = outsOf ρ as (i + 1) n := (rfl)
def out2 (n : Nat) : Option Slot → Option (List Cell) → Option (List Cell)
  | some (.own (some m) _ c), some cs => if m = n then some (c :: cs) else none
  | _, _ => none
theorem outs_o (ρ : Env) (c : Cell) (as : List Arg) (i n : Nat) : outsOf ρ (.own c :: as) i n = out2 n ρ[i]? (outsOf ρ as (i + 1) (n + 1)) := by
  simp only [outsOf]
  unfold out2
  rfl
theorem out2_ok (n : Nat) (lk : Bool) (c : Cell) (cs : List Cell) : out2 n (some (.own (some n) lk c)) (some cs) = some (c :: cs) := if_pos rfl
theorem as_nil (n : Nat) : argSlot n [] = [] := (rfl)
theorem as_v (n : Nat) (d : D) (r : List Arg) : argSlot n (.val d :: r) = .val d :: argSlot n r := (rfl)
theorem as_o (n : Nat) (c : Cell) (r : List Arg) : argSlot n (.own c :: r) = .own (some n) false c :: argSlot (n + 1) r := (rfl)
/-! ### raise, try -/
section
variable (Φ : Phi)
theorem st_raise (k : Nat) (fs : List Str) (es : Es) (ρ : Env) : exS Φ (.raise_ k fs es) ρ = raiseR k fs (evd Φ es ρ) := by simp only [exS]
theorem raise_1s (k : Nat) (f : Str) (s : Str) (ρ : Env) : raiseR k [f] (.ok [.str s] ρ) = .exc ⟨k, [(f, .str s)]⟩ ρ := (rfl)
theorem raise_1i (k : Nat) (f : Str) (s : Int) (ρ : Env) : raiseR k [f] (.ok [.int s] ρ) = .exc ⟨k, [(f, .int s)]⟩ ρ := (rfl)
theorem raise_2si (k : Nat) (f g : Str) (s : Str) (j : Int) (ρ : Env) : raiseR k [f, g] (.ok [.str s, .int j] ρ) = .exc ⟨k, [(f, .str s), (g, .int j)]⟩ ρ := (rfl)
theorem raise_2ii (k : Nat) (f g : Str) (s j : Int) (ρ : Env) : raiseR k [f, g] (.ok [.int s, .int j] ρ) = .exc ⟨k, [(f, .int s), (g, .int j)]⟩ ρ := (rfl)
theorem st_try (b : Ss) (k : Nat) (i : Option Nat) (h : List HS) (ρ : Env) : exS Φ (.try_ b k i h) ρ = tryR k i h (exSs Φ b ρ) := by simp only [exS]
theorem try_nx (k : Nat) (i : Option Nat) (h : List HS) (ρ : Env) : tryR k i h (.nx ρ) = .nx ρ := (rfl)
theorem try_rt (k : Nat) (i : Option Nat) (h : List HS) (r : RV) (ρ : Env) : tryR k i h (.rt r ρ) = .rt r ρ := (rfl)
theorem try_bk (k : Nat) (i : Option Nat) (h : List HS) (ρ : Env) : tryR k i h (.bk ρ) = .bk ρ := (rfl)
theorem try_ct (k : Nat) (i : Option Nat) (h : List HS) (ρ : Env) : tryR k i h (.ct ρ) = .ct ρ := (rfl)
end
/-! ### loops -/
section
variable {Φ : Phi}
theorem forK_nil (tg : Tg) (b : Ss) (ρ : Env) : forK Φ tg b [] ρ = .nx ρ := (rfl)
/-- a loop whose turns go from state to state: env s tells the names at a turn's start (the targets free) -/
theorem forK_fold {α σ : Type} {emb : α → D} {env : σ → Env} {f : σ → α → σ} {tg : Tg} {b : Ss} (I : Nat → σ → Prop) : ∀ {l : List α} {k : Nat} {s : σ}, I k s →
    (∀ i s x, i < k + l.length → x ∈ l → I i s → ∃ ρ1, putTg (env s) tg (emb x) = some ρ1 ∧ exSs Φ b ρ1 = .nx (env (f s x)) ∧ I (i + 1) (f s x)) → (∀ s, tgFree (env s) tg = true) →
    forK Φ tg b (l.map emb) (env s) = .nx (env (l.foldl f s)) ∧ I (k + l.length) (l.foldl f s)
  | [], k, s, hI, _, _ => ⟨rfl, hI⟩
  | x :: l, k, s, hI, h, hf => by
    obtain ⟨ρ1, e1, e2, e3⟩ := h k s x (by simp) List.mem_cons_self hI
    have ih := forK_fold (emb := emb) (env := env) (f := f) (tg := tg) (b := b) I (l := l) (k := k + 1) (s := f s x) e3 (fun i s y hi hy => h i s y (by simp only [List.length_cons]; omega) (List.mem_cons_of_mem _ hy)) hf
    refine ⟨?_, ?_⟩
    · show loopF tg (fun ρ => exSs Φ b ρ) (emb x :: l.map emb) (env s) = _
      unfold loopF
      rw [e1]
      simp only [e2]
      rw [if_pos (hf _)]
      exact ih.1
    · have := ih.2
      rw [show k + (x :: l).length = k + 1 + l.length by rw [List.length_cons]; omega]
      exact this
theorem forK_cons {tg : Tg} {b : Ss} {ρ ρ1 ρ2 : Env} (x : D) (xs : List D) (e : putTg ρ tg x = some ρ1) (h : exSs Φ b ρ1 = .nx ρ2) (hf : tgFree ρ2 tg = true) : forK Φ tg b (x :: xs) ρ = forK Φ tg b xs ρ2 := by
  show loopF tg (fun ρ => exSs Φ b ρ) (x :: xs) ρ = _
  unfold loopF
  rw [e]
  simp only [h]
  rw [if_pos hf]
  rfl
/-- a loop told by the number of turns behind -/
theorem forK_nat {E : Nat → Env} {tg : Tg} {b : Ss} : ∀ (xs : List D) (k : Nat), (∀ j (hj : j < xs.length), ∃ ρ1, putTg (E (k + j)) tg xs[j] = some ρ1 ∧ exSs Φ b ρ1 = .nx (E (k + j + 1))) → (∀ j, tgFree (E j) tg = true) → forK Φ tg b xs (E k) = .nx (E (k + xs.length))
  | [], k, _, _ => rfl
  | x :: xs, k, h, hf => by
    obtain ⟨ρ1, e1, e2⟩ := h 0 (by simp)
    rw [Nat.add_zero] at e1 e2
    rw [forK_cons x xs e1 e2 (hf _)]
    have ih := forK_nat xs (k + 1) (fun j hj => by
      obtain ⟨ρ1, e1, e2⟩ := h (j + 1) (by simpa using hj)
      refine ⟨ρ1, ?_, ?_⟩
      · rw [show k + 1 + j = k + (j + 1) by omega]; simpa using e1
      · rw [e2]; congr 2; omega) hf
    rw [show k + (x :: xs).length = k + 1 + xs.length by rw [List.length_cons]; omega]
    exact ih
theorem forK_range {tg : Tg} {b : Ss} (E : Nat → Env) (a : Int) (n : Nat) (h : ∀ k, k < n → ∃ ρ1, putTg (E k) tg (.int (a + (k : Int))) = some ρ1 ∧ exSs Φ b ρ1 = .nx (E (k + 1))) (hf : ∀ j, tgFree (E j) tg = true) : forK Φ tg b (rngI a n) (E 0) = .nx (E n) := by
  have hl : (rngI a n).length = n := by simp [rngI]
  have := forK_nat (Φ := Φ) (E := E) (tg := tg) (b := b) (rngI a n) 0 (fun j hj => by
    rw [hl] at hj
    have e : (rngI a n)[j]'(by rw [hl]; exact hj) = .int (a + (j : Int)) := by simp [rngI]
    rw [e, Nat.zero_add]
    exact h j hj) hf
  rw [hl, Nat.zero_add] at this
  exact this
/-- a while loop that keeps something and falls -/
theorem whK_inv {I : Env → Prop} {m : Env → Nat} {c : E} {b : Ss} (h : ∀ ρ, I ρ → ∃ k, ev Φ true c ρ = .ok (.v (.bool k)) ρ ∧ (k = true → ∃ ρ2, exSs Φ b ρ = .nx ρ2 ∧ I ρ2 ∧ m ρ2 < m ρ)) :
    ∀ {n : Nat} {ρ : Env}, I ρ → m ρ < n → ∃ ρ2, whK Φ c b n ρ = .nx ρ2 ∧ I ρ2 ∧ ev Φ true c ρ2 = .ok (.v (.bool false)) ρ2
  | 0, ρ, _, hm => absurd hm (Nat.not_lt_zero _)
  | n + 1, ρ, hI, hm => by
    obtain ⟨k, e, hk⟩ := h ρ hI
    cases k with
    | false =>
      refine ⟨ρ, ?_, hI, e⟩
      show loopW _ _ (n + 1) ρ = _
      unfold loopW
      rw [e]; rfl
    | true =>
      obtain ⟨ρ2, e2, hI2, hm2⟩ := hk rfl
      obtain ⟨ρ3, g1, g2, g3⟩ := whK_inv h (n := n) (ρ := ρ2) hI2 (by omega)
      refine ⟨ρ3, ?_, g2, g3⟩
      show loopW _ _ (n + 1) ρ = _
      unfold loopW
      rw [e]
      simp only [R.fl_ok, e2]
      exact g1
/-- a comprehension without a test -/
theorem compK_map {α : Type} {emb : α → D} {f : α → D} {tg : Tg} {e : E} {ρ : Env} : ∀ {l : List α} {acc : List D}, (∀ x ∈ l, ∃ ρ1 r, putTg ρ tg (emb x) = some ρ1 ∧ ev Φ false e ρ1 = .ok r ρ1 ∧ frz ρ1 r = .ok (f x) ρ1 ∧ wipeE ρ1 tg.is = ρ) → acc.length + l.length ≤ sizeLine →
    compK Φ e tg (.c (.bool true)) (l.map emb) ρ acc = .ok (acc ++ l.map f) ρ
  | [], acc, _, _ => by simp [compK, compGo]
  | x :: l, acc, h, hz => by
    obtain ⟨ρ1, r, e1, e2, e3, e4⟩ := h x List.mem_cons_self
    rw [List.length_cons] at hz
    have ih := compK_map (tg := tg) (e := e) (f := f) (emb := emb) (ρ := ρ) (l := l) (acc := acc ++ [f x]) (fun y hy => h y (List.mem_cons_of_mem _ hy)) (by rw [List.length_append]; simp; omega)
    show compGo tg _ _ (emb x :: l.map emb) ρ acc = _
    unfold compGo
    rw [e1]
    simp only [st_c, tst_bool, e2, e3]
    rw [if_pos (by omega), e4]
    refine Eq.trans ih ?_
    simp
/-- a comprehension with a test -/
theorem compK_filter {α : Type} {emb : α → D} {f : α → D} {p : α → Bool} {tg : Tg} {e cnd : E} {ρ : Env} : ∀ {l : List α} {acc : List D}, (∀ x ∈ l, ∃ ρ1, putTg ρ tg (emb x) = some ρ1 ∧ ev Φ true cnd ρ1 = .ok (.v (.bool (p x))) ρ1 ∧ (p x = true → ∃ r, ev Φ false e ρ1 = .ok r ρ1 ∧ frz ρ1 r = .ok (f x) ρ1) ∧ wipeE ρ1 tg.is = ρ) → acc.length + l.length ≤ sizeLine →
    compK Φ e tg cnd (l.map emb) ρ acc = .ok (acc ++ (l.filter p).map f) ρ
  | [], acc, _, _ => by simp [compK, compGo]
  | x :: l, acc, h, hz => by
    obtain ⟨ρ1, e1, e2, e3, e4⟩ := h x List.mem_cons_self
    rw [List.length_cons] at hz
    show compGo tg _ _ (emb x :: l.map emb) ρ acc = _
    unfold compGo
    rw [e1]
    cases hp : p x with
    | true =>
      obtain ⟨r, g1, g2⟩ := e3 hp
      have ih := compK_filter (tg := tg) (e := e) (cnd := cnd) (p := p) (f := f) (emb := emb) (ρ := ρ) (l := l) (acc := acc ++ [f x]) (fun y hy => h y (List.mem_cons_of_mem _ hy)) (by rw [List.length_append]; simp; omega)
      rw [hp] at e2
      simp only [e2, g1, g2]
      rw [if_pos (by omega), e4]
      refine Eq.trans ih ?_
      simp [hp]
    | false =>
      have ih := compK_filter (tg := tg) (e := e) (cnd := cnd) (p := p) (f := f) (emb := emb) (ρ := ρ) (l := l) (acc := acc) (fun y hy => h y (List.mem_cons_of_mem _ hy)) (by omega)
      rw [hp] at e2
      simp only [e2]
      rw [e4]
      refine Eq.trans ih ?_
      simp [hp]
end
end M

set_option Elab.async false
set_option linter.all false
set_option maxRecDepth 100000
set_option maxHeartbeats 400000
/-! the tape of the laws to k20 and from k90 on: what a draw promises -/
namespace M
open PySem L2
/-- what the draws' store is after so many draws at most -/
structure Store (T : Nat → Cell → Prop) : Prop where
  mono : ∀ {n m : Nat} {c : Cell}, T n c → n ≤ m → T m c
/-- what a draw promises: a number below, and the store goes on -/
def DrawOk (T : Nat → Cell → Prop) (f : Sem) : Prop := ∀ (n : Nat) (c : Cell) (m : Int), T n c → n < 2 ^ 40 → 1 ≤ m → m < 2 ^ 30 → ∃ r c', T (n + 1) c' ∧ 0 ≤ r ∧ r < m ∧ f [.own c, .val (.int m)] = .ok (.v (.int r)) [c']
theorem pow18 : powOk 10 18 = true := by decide +kernel
end M

set_option Elab.async false
set_option linter.all false
set_option maxRecDepth 100000
set_option maxHeartbeats 400000
/-! lists as they are walked; the tape and great numbers -/
namespace M
open PySem L2
theorem cut_from (xs : List D) (n : Nat) : cutD xs (some (n : Int)) none = xs.drop n := by
  unfold cutD
  rw [HT.sIx_none, HT.sIx_nat]
  rw [List.take_of_length_le (by rw [List.length_drop]; omega)]
  by_cases h : n ≤ xs.length
  · rw [Nat.min_eq_left h]
  · rw [Nat.min_eq_right (by omega), List.drop_of_length_le (Nat.le_refl _), List.drop_of_length_le (by omega)]
theorem cut_to (xs : List D) (n : Nat) : cutD xs none (some (n : Int)) = xs.take n := by
  unfold cutD
  rw [HT.sIx_none, HT.sIx_nat, List.drop_zero, Nat.sub_zero]
  by_cases h : n ≤ xs.length
  · rw [Nat.min_eq_left h]
  · rw [Nat.min_eq_right (by omega), List.take_of_length_le (Nat.le_refl _), List.take_of_length_le (by omega)]
theorem slD_l (xs : List D) (lo hi : Option Int) : slD (.list xs) lo hi = some (.fresh (.l (cutD xs lo hi))) := rfl
theorem slD_t (xs : List D) (lo hi : Option Int) : slD (.tuple xs) lo hi = some (.v (.tuple (cutD xs lo hi))) := rfl
theorem len_rngI (a : Int) (n : Nat) : (rngI a n).length = n := by simp [rngI]
theorem sz_of {n : Nat} (h : n ≤ 10000000) : n ≤ sizeLine := by rw [sizeLine_eq]; omega
theorem phi_at {ds : List DefM} {j : Nat} {d : DefM} (h : ds[j]? = some d) : ∀ {k : Nat}, j < k → PhiOf ds k j = body (PhiOf ds j) d.N.length d.ps.length d.b
  | 0, hk => by omega
  | k + 1, hk => by
    have e0 : PhiOf ds (k + 1) j = if j = k then (match ds[k]? with | some d => body (PhiOf ds k) d.N.length d.ps.length d.b | none => fun _ => .bad) else PhiOf ds k j := rfl
    rw [e0]
    by_cases e : j = k
    · subst e
      rw [if_pos rfl, h]
    · rw [if_neg e]
      exact phi_at h (by omega)
end M

set_option Elab.async false
set_option linter.all false
set_option maxRecDepth 100000
set_option maxHeartbeats 400000
/-! the feed of the laws from k30 to k80: what a draw promises -/
namespace M
open PySem L2
def feedC (ns : List Int) (a l t : Int) : Cell := .d [(.inr "cells", .list (ns.map PyData.int)), (.inr "at", .int a), (.inr "left", .int l), (.inr "turn", .int t)]
/-- a feed after so many draws at most -/
def Feed (n : Nat) (c : Cell) : Prop := ∃ (ns : List Int) (a l t : Int), 0 ≤ a ∧ 0 ≤ l ∧ 0 ≤ t ∧ t ≤ n ∧ c = feedC ns a l t
theorem ix_cells (ns : List Int) (a l t : Int) : ixD (feedC ns a l t).toD (.str "cells") = some (.list (ns.map PyData.int)) := (rfl)
theorem ix_at (ns : List Int) (a l t : Int) : ixD (feedC ns a l t).toD (.str "at") = some (.int a) := (rfl)
theorem ix_left (ns : List Int) (a l t : Int) : ixD (feedC ns a l t).toD (.str "left") = some (.int l) := (rfl)
theorem ix_turn (ns : List Int) (a l t : Int) : ixD (feedC ns a l t).toD (.str "turn") = some (.int t) := (rfl)
theorem set_at (ns : List Int) (a l t x : Int) : setC (feedC ns a l t) (.str "at") (.int x) = some (feedC ns x l t) := (rfl)
theorem set_left (ns : List Int) (a l t x : Int) : setC (feedC ns a l t) (.str "left") (.int x) = some (feedC ns a x t) := (rfl)
theorem set_turn (ns : List Int) (a l t x : Int) : setC (feedC ns a l t) (.str "turn") (.int x) = some (feedC ns a l x) := (rfl)
theorem shaped_ints (ns : List Int) : SeqAt.shaped (.list (ns.map PyData.int)) = true := by
  unfold SeqAt.shaped
  rw [Bool.and_eq_true, decide_eq_true_eq]
  have h : ∀ ns : List Int, PyData.canLayAll0 (ns.map PyData.int) = true ∧ PyData.depthAll (ns.map PyData.int) = 0 := fun ns => by
    induction ns with
    | nil => exact ⟨rfl, rfl⟩
    | cons n r ih => simp only [List.map_cons, PyData.canLayAll0, PyData.canLay0, PyData.depthAll, PyData.depth, ih, Bool.and_true, and_self, Nat.max_self]
  refine ⟨?_, ?_⟩
  · simp only [PyData.canLay0, h]
  · simp only [PyData.depth, h]; decide
theorem cm_nenil (ns : List Int) : cmpD .ne (.list (ns.map PyData.int)) (.list []) = some (!decide (ns = [])) := by
  have e : cmpD .ne (.list (ns.map PyData.int)) (.list []) = if SeqAt.shaped (.list (ns.map PyData.int)) ∧ SeqAt.shaped (.list []) then some (!PyData.eqv (.list (ns.map PyData.int)) (.list [])) else (nilE (.list (ns.map PyData.int)) (.list [])).map (!·) := rfl
  rw [e, if_pos ⟨shaped_ints ns, shaped_ints []⟩]
  cases ns with
  | nil => rfl
  | cons a r => rfl
def bFeed : Ss := 
  (.cons (.ret (.dct [(.inr "cells"), (.inr "at"), (.inr "left"), (.inr "turn")] (.cons (.blt .list (.cons (.sl (.v 0) .no (.c (.int 63))) .nil)) (.cons (.c (.int 0)) (.cons (.c (.int 0)) (.cons (.c (.int 0)) .nil)))))) .nil)
theorem feed_ok (Φ : Phi) (ns : List Int) (hl : ns.length ≤ 63) : ∃ c, Feed 0 c ∧ body Φ 1 1 bFeed [.val (.list (ns.map PyData.int))] = .ok (.fresh c) [] := by
  have hc : cutD (ns.map PyData.int) none (some 63) = ns.map PyData.int := by
    rw [show (63 : Int) = ((63 : Nat) : Int) from rfl, cut_to]
    exact List.take_of_length_le (by rw [List.length_map]; exact hl)
  generalize hy : body Φ 1 1 bFeed [.val (.list (ns.map PyData.int))] = y
  have hk : ([(.inr "cells"), (.inr "at"), (.inr "left"), (.inr "turn")] : List Key).length = [PyData.list (ns.map PyData.int), .int 0, .int 0, .int 0].length ∧ ([(.inr "cells"), (.inr "at"), (.inr "left"), (.inr "turn")] : List Key).Nodup := ⟨rfl, by decide +kernel⟩
  have hd2 : dct1 [(.inr "cells"), (.inr "at"), (.inr "left"), (.inr "turn")] (.ok [PyData.list (ns.map PyData.int), .int 0, .int 0, .int 0] [.val (.list (ns.map PyData.int))]) = R.ok (.fresh (feedC ns 0 0 0)) [.val (.list (ns.map PyData.int))] := by rw [dct1_ok, if_pos hk]; rfl
  simp only [Int.reduceLT, Int.reduceLE, Int.reduceEq, Int.reduceNe, Int.reduceAdd, Int.reduceMul, Int.reduceSub, Int.reduceNeg, Int.reducePow, Int.reduceToNat, Nat.reduceAdd, Nat.reduceSub, Nat.reduceMul, Nat.reduceLT, Nat.reduceLeDiff, Nat.reduceEqDiff, Nat.reducePow, Int.cast_ofNat_Int, tst_false, tst_bool, R.of_some, R.of_none, List.getElem?_cons_zero, List.getElem?_cons_succ, List.set_cons_zero, List.set_cons_succ, List.length_cons, List.length_nil, List.cons_append, List.nil_append, List.replicate_zero, List.replicate_succ, Bool.not_true, Bool.not_false, decide_true, decide_false, Nat.zero_add, Nat.add_zero, List.all_cons, List.all_nil, Bool.and_true, Bool.true_and, Bool.and_self, st_bin, bin1_ok, bin2_ok, bin3_ok, st_neg, neg1_ok, st_cmp, cmp1_ok, cmp2_ok, cmp3_ok, st_chain, chn1_ok, chn2_ok, chn2b_ok, chn3_t, chn3_f, chn4_ok, st_and, and1_t, and1_f, st_or, or1_t, or1_f, st_not, not1_ok, st_ite, ite1_t, ite1_f, st_tup, tup1_ok, st_lst, lst1_ok, st_dct, dct0_ok, st_dc1, dcp1_i, dcp1_b, dcp1_s, st_dget, dget1_ok, dget2_ok, dget3_ok, st_rep, rep1_ok, st_ix, ix1_ok, ix2_ok, ix3_ok, st_sl, sl1_ok, sl2_ok, sl2b_ok, sl3_ok, sl4_ok, part_no, part_c, part_v, part_bin, part_neg, st_no, st_rev, rev1_ok, st_c, st_v, st_g, st_call, st_callp, callp1_ok, callp2_ok, callp2_ok2, call1_ok, callA_0, callA_1, callB_ok, callB_exc, callC_v, callC_f, callX_ok, slots_nil, slots_v, slots_f, slots_s, args_nil, args_cons, argC_ok, arg_v, arg_f, arg_s, argS_ok, put_nil, put_cons, put2_ok, st_blt, blt1_ok, blt2_ok, pks_nil, pks_cons, pkC_ok, st_lrng, lrng1_ok, st_isi, isi1_ok, isi2_ok, st_meth, meth1_ok, meth2_ok, meth3_ok, meth4_ok, meth_app, st_ext, ext0_ok, ext1_ok, st_comp, comp1_ok, comp2_ok, st_evs_nil, st_evs, evs1_ok, evs2_ok, settle_v, settle_f, settle_s, toD_l, st_evd_nil, st_evd, evd1_ok, evd2_ok, evd3_ok, frz_v, frz_f, frz_s, frzS_o, frzS_v, nm_s, nmS_v, nmS_o, pk_v, pk_f, pk_s, pkS_o, pkS_v, tst_ok, tst2_ok, truth_b, bindS, st_of, src0_ok, src1_l, src1_t, st_rng1, st_rng2, rg2_ok, st_rng3, rg3_ok, rg3b_ok, st_enum, en0_ok, en1_l, en1_t, st_zip, zp0_ok, zp1_ok, zp2_ok, zp3_ll, zp3_lt, zp3_tl, zp3_tt, st_srev, rv0_ok, rv1_l, rv1_t, st_cons, st_nil, seq_nx, seq_rt, seq_bk, seq_ct, seq_exc, st_mov, mov0_ok, mov1_u, mov1_v, mov1_o, st_asg, asg1_ok, asg2_fu, asg2_fv, asg2_fo, asg2_vu, asg2_vv, asg2_vo, asg2_su, asg2_sv, asg2_so, asg3_ok, st_par, par1_ok, par2_ok, par3_ok, par4_ok, st_unp, unp1_ok, unp2_ok, unp3_ok, tg_n, tg_2, tg_3, st_set, set0_ok, set1_ok, set2_ok, set3_ok, set4_ok, set5_ok, st_ex, ex1_ok, st_ret, ret1_ok, st_ret0, st_if, if1_t, if1_f, st_for, for1_ok, st_brk, st_cont, st_pass, st_kill, kill_nil, kill_cons, back_nil, back_cons, back2_ok, is_n, is_t, free_n, free_t, free_v, free_u, bo_add, bo_sub, cm_lt, cm_le, cm_gt, cm_ge, cm_eqi, cm_nei, cm_eqs, cm_nes, cm_isb, cm_isnotb, mapS, ix_l, ix_t, at_0, at_1, at_2, lk_cons, fn_lenl, fn_lent, fn_abs, fn_max, fn_min, fn_tupl, fn_tupt, fn_lisl, fn_list, fn_strs, fn_inti, fn_intb, body_0, body_1, body_2, body_3, body_4, body_5, body_6, end1_rt, end1_nx, end1_x, end2_v, end2_f, end2_s, end3_o, end3_v, endX_ok, outs_nil, outs_v, outs_o, out2_ok, as_nil, as_v, as_o, st_raise, raise_1s, raise_1i, raise_2si, raise_2ii, st_try, try_nx, try_rt, try_bk, try_ct, bFeed, slD_l, hc, hd2] at hy
  subst hy
  exact ⟨_, ⟨ns, 0, 0, 0, by decide, by decide, by decide, by decide, rfl⟩, rfl⟩
/-! ### the draw of k60 to k80 -/
def bMixG : Ss := (.cons (.asg 6 (.bin .mod (.bin .mul (.bin .add (.bin .mod (.v 3) (.c (.int 2147483629))) (.c (.int 1))) (.bin .add (.bin .mul (.v 7) (.v 7)) (.c (.int 48271)))) (.c (.int 2147483647))))
  (.cons (.asg 6 (.bin .mod (.bin .pow (.v 6) (.c (.int 5))) (.c (.int 2147483647))))
  (.cons (.asg 6 (.bin .mod (.bin .pow (.bin .add (.v 6) (.bin .mul (.c (.int 7919)) (.v 7))) (.c (.int 3))) (.c (.int 2147483587))))
  (.cons (.ret (.bin .mod (.bin .fdiv (.v 6) (.c (.int 64))) (.v 1))) .nil))))
def bTestG : Ss := (.cons (.if_ (.and_ (.cmp .ge (.v 3) (.bin .pow (.c (.int 10)) (.c (.int 18)))) (.cmp .lt (.v 2) (.blt .len (.cons (.v 4) .nil)))) (
    (.cons (.set 0 (.c (.str "left")) (.bin .fdiv (.v 3) (.v 1)))
    (.cons (.ret (.bin .mod (.v 3) (.v 1))) .nil))) .nil) bMixG)
def bDrawG : Ss := 
  (.cons (.set 0 (.c (.str "turn")) (.bin .add (.ix (.v 0) (.c (.str "turn"))) (.c (.int 1))))
  (.cons (.asg 7 (.ix (.v 0) (.c (.str "turn"))))
  (.cons (.if_ (.cmp .gt (.ix (.v 0) (.c (.str "left"))) (.c (.int 0))) (
    (.cons (.asg 5 (.bin .mod (.ix (.v 0) (.c (.str "left"))) (.v 1)))
    (.cons (.set 0 (.c (.str "left")) (.bin .fdiv (.ix (.v 0) (.c (.str "left"))) (.v 1)))
    (.cons (.ret (.v 5)) .nil)))) .nil)
  (.cons (.asg 2 (.ix (.v 0) (.c (.str "at"))))
  (.cons (.asg 4 (.ix (.v 0) (.c (.str "cells"))))
  (.cons (.set 0 (.c (.str "at")) (.bin .add (.v 2) (.c (.int 1))))
  (.cons (.asg 3 (.ite (.cmp .ne (.v 4) (.lst .nil)) (.ix (.v 4) (.bin .mod (.v 2) (.blt .len (.cons (.v 4) .nil)))) (.bin .mul (.c (.int 7)) (.v 7))))
  bTestG)))))))
theorem mixG (Φ : Phi) (many at0 cell t : Int) (hm : 1 ≤ many) (hm2 : many < 2 ^ 30) (h0 : 0 ≤ t) (ht : t < 2 ^ 50) (ρ0 ρ4 : Slot) : ∃ r s6, 0 ≤ r ∧ r < many ∧ exSs Φ bMixG [ρ0, .val (.int many), .val (.int at0), .val (.int cell), ρ4, .un, .un, .val (.int t)] = .rt (.v (.int r)) [ρ0, .val (.int many), .val (.int at0), .val (.int cell), ρ4, .un, s6, .val (.int t)] := by
  generalize hy : exSs Φ bMixG [ρ0, .val (.int many), .val (.int at0), .val (.int cell), ρ4, .un, .un, .val (.int t)] = y
  have c1 : 0 ≤ cell.fmod 2147483629 := fmod_lo (by omega)
  have c2 : cell.fmod 2147483629 < 2147483629 := fmod_hi (by omega)
  have tt : mulOk t t = true := mulOk_l (by omega)
  have k1 : mulOk (cell.fmod 2147483629 + 1) (t * t + 48271) = true := mulOk_l (by omega)
  generalize hm1 : ((cell.fmod 2147483629 + 1) * (t * t + 48271)).fmod 2147483647 = m1
  have m1a : 0 ≤ m1 := by rw [← hm1]; exact fmod_lo (by omega)
  have m1b : m1 < 2147483647 := by rw [← hm1]; exact fmod_hi (by omega)
  have k2 : powOk m1 5 = true := powOk_of 31 (by omega) (by decide) (by decide)
  generalize hm2 : (m1 ^ (5 : Int).toNat).fmod 2147483647 = m2
  have m2a : 0 ≤ m2 := by rw [← hm2]; exact fmod_lo (by omega)
  have m2b : m2 < 2147483647 := by rw [← hm2]; exact fmod_hi (by omega)
  have k3 : mulOk 7919 t = true := mulOk_l (by decide)
  have k4 : powOk (m2 + 7919 * t) 3 = true := powOk_of 70 (by omega) (by decide) (by decide)
  have e5 : (5 : Int).toNat = 5 := rfl
  rw [e5] at hm2
  simp only [Int.reduceLT, Int.reduceLE, Int.reduceEq, Int.reduceNe, Int.reduceAdd, Int.reduceMul, Int.reduceSub, Int.reduceNeg, Int.reducePow, Int.reduceToNat, Nat.reduceAdd, Nat.reduceSub, Nat.reduceMul, Nat.reduceLT, Nat.reduceLeDiff, Nat.reduceEqDiff, Nat.reducePow, Int.cast_ofNat_Int, tst_false, tst_bool, R.of_some, R.of_none, List.getElem?_cons_zero, List.getElem?_cons_succ, List.set_cons_zero, List.set_cons_succ, List.length_cons, List.length_nil, List.cons_append, List.nil_append, List.replicate_zero, List.replicate_succ, Bool.not_true, Bool.not_false, decide_true, decide_false, Nat.zero_add, Nat.add_zero, List.all_cons, List.all_nil, Bool.and_true, Bool.true_and, Bool.and_self, st_bin, bin1_ok, bin2_ok, bin3_ok, st_neg, neg1_ok, st_cmp, cmp1_ok, cmp2_ok, cmp3_ok, st_chain, chn1_ok, chn2_ok, chn2b_ok, chn3_t, chn3_f, chn4_ok, st_and, and1_t, and1_f, st_or, or1_t, or1_f, st_not, not1_ok, st_ite, ite1_t, ite1_f, st_tup, tup1_ok, st_lst, lst1_ok, st_dct, dct0_ok, st_dc1, dcp1_i, dcp1_b, dcp1_s, st_dget, dget1_ok, dget2_ok, dget3_ok, st_rep, rep1_ok, st_ix, ix1_ok, ix2_ok, ix3_ok, st_sl, sl1_ok, sl2_ok, sl2b_ok, sl3_ok, sl4_ok, part_no, part_c, part_v, part_bin, part_neg, st_no, st_rev, rev1_ok, st_c, st_v, st_g, st_call, st_callp, callp1_ok, callp2_ok, callp2_ok2, call1_ok, callA_0, callA_1, callB_ok, callB_exc, callC_v, callC_f, callX_ok, slots_nil, slots_v, slots_f, slots_s, args_nil, args_cons, argC_ok, arg_v, arg_f, arg_s, argS_ok, put_nil, put_cons, put2_ok, st_blt, blt1_ok, blt2_ok, pks_nil, pks_cons, pkC_ok, st_lrng, lrng1_ok, st_isi, isi1_ok, isi2_ok, st_meth, meth1_ok, meth2_ok, meth3_ok, meth4_ok, meth_app, st_ext, ext0_ok, ext1_ok, st_comp, comp1_ok, comp2_ok, st_evs_nil, st_evs, evs1_ok, evs2_ok, settle_v, settle_f, settle_s, toD_l, st_evd_nil, st_evd, evd1_ok, evd2_ok, evd3_ok, frz_v, frz_f, frz_s, frzS_o, frzS_v, nm_s, nmS_v, nmS_o, pk_v, pk_f, pk_s, pkS_o, pkS_v, tst_ok, tst2_ok, truth_b, bindS, st_of, src0_ok, src1_l, src1_t, st_rng1, st_rng2, rg2_ok, st_rng3, rg3_ok, rg3b_ok, st_enum, en0_ok, en1_l, en1_t, st_zip, zp0_ok, zp1_ok, zp2_ok, zp3_ll, zp3_lt, zp3_tl, zp3_tt, st_srev, rv0_ok, rv1_l, rv1_t, st_cons, st_nil, seq_nx, seq_rt, seq_bk, seq_ct, seq_exc, st_mov, mov0_ok, mov1_u, mov1_v, mov1_o, st_asg, asg1_ok, asg2_fu, asg2_fv, asg2_fo, asg2_vu, asg2_vv, asg2_vo, asg2_su, asg2_sv, asg2_so, asg3_ok, st_par, par1_ok, par2_ok, par3_ok, par4_ok, st_unp, unp1_ok, unp2_ok, unp3_ok, tg_n, tg_2, tg_3, st_set, set0_ok, set1_ok, set2_ok, set3_ok, set4_ok, set5_ok, st_ex, ex1_ok, st_ret, ret1_ok, st_ret0, st_if, if1_t, if1_f, st_for, for1_ok, st_brk, st_cont, st_pass, st_kill, kill_nil, kill_cons, back_nil, back_cons, back2_ok, is_n, is_t, free_n, free_t, free_v, free_u, bo_add, bo_sub, cm_lt, cm_le, cm_gt, cm_ge, cm_eqi, cm_nei, cm_eqs, cm_nes, cm_isb, cm_isnotb, mapS, ix_l, ix_t, at_0, at_1, at_2, lk_cons, fn_lenl, fn_lent, fn_abs, fn_max, fn_min, fn_tupl, fn_tupt, fn_lisl, fn_list, fn_strs, fn_inti, fn_intb, body_0, body_1, body_2, body_3, body_4, body_5, body_6, end1_rt, end1_nx, end1_x, end2_v, end2_f, end2_s, end3_o, end3_v, endX_ok, outs_nil, outs_v, outs_o, out2_ok, as_nil, as_v, as_o, st_raise, raise_1s, raise_1i, raise_2si, raise_2ii, st_try, try_nx, try_rt, try_bk, try_ct, bMixG, bo_mod (show (2147483629 : Int) ≠ 0 by decide), bo_mod (show (2147483647 : Int) ≠ 0 by decide), bo_mod (show (2147483587 : Int) ≠ 0 by decide), bo_mod (show many ≠ 0 by omega), bo_div (show (64 : Int) ≠ 0 by decide) (noPy (by decide)), bo_mul tt, bo_mul k1, hm1, bo_pow k2, hm2, bo_mul k3, bo_pow k4] at hy
  subst hy
  exact ⟨_, _, fmod_lo (by omega), fmod_hi (by omega), rfl⟩
theorem draw_feedG (Φ : Phi) : DrawOk Feed (body Φ 8 2 bDrawG) := by
  rintro nn c many ⟨ns, a, l, t, ha, hl, ht, htn, rfl⟩ hnn h1 h2
  have ny : ∀ z, Builtin.divisionGoesByPylong z many = false := fun z => noPy (by omega)
  have hm : many ≠ 0 := by omega
  generalize hy : body Φ 8 2 bDrawG [.own (feedC ns a l t), .val (.int many)] = y
  by_cases hl0 : 0 < l
  · simp only [Int.reduceLT, Int.reduceLE, Int.reduceEq, Int.reduceNe, Int.reduceAdd, Int.reduceMul, Int.reduceSub, Int.reduceNeg, Int.reducePow, Int.reduceToNat, Nat.reduceAdd, Nat.reduceSub, Nat.reduceMul, Nat.reduceLT, Nat.reduceLeDiff, Nat.reduceEqDiff, Nat.reducePow, Int.cast_ofNat_Int, tst_false, tst_bool, R.of_some, R.of_none, List.getElem?_cons_zero, List.getElem?_cons_succ, List.set_cons_zero, List.set_cons_succ, List.length_cons, List.length_nil, List.cons_append, List.nil_append, List.replicate_zero, List.replicate_succ, Bool.not_true, Bool.not_false, decide_true, decide_false, Nat.zero_add, Nat.add_zero, List.all_cons, List.all_nil, Bool.and_true, Bool.true_and, Bool.and_self, st_bin, bin1_ok, bin2_ok, bin3_ok, st_neg, neg1_ok, st_cmp, cmp1_ok, cmp2_ok, cmp3_ok, st_chain, chn1_ok, chn2_ok, chn2b_ok, chn3_t, chn3_f, chn4_ok, st_and, and1_t, and1_f, st_or, or1_t, or1_f, st_not, not1_ok, st_ite, ite1_t, ite1_f, st_tup, tup1_ok, st_lst, lst1_ok, st_dct, dct0_ok, st_dc1, dcp1_i, dcp1_b, dcp1_s, st_dget, dget1_ok, dget2_ok, dget3_ok, st_rep, rep1_ok, st_ix, ix1_ok, ix2_ok, ix3_ok, st_sl, sl1_ok, sl2_ok, sl2b_ok, sl3_ok, sl4_ok, part_no, part_c, part_v, part_bin, part_neg, st_no, st_rev, rev1_ok, st_c, st_v, st_g, st_call, st_callp, callp1_ok, callp2_ok, callp2_ok2, call1_ok, callA_0, callA_1, callB_ok, callB_exc, callC_v, callC_f, callX_ok, slots_nil, slots_v, slots_f, slots_s, args_nil, args_cons, argC_ok, arg_v, arg_f, arg_s, argS_ok, put_nil, put_cons, put2_ok, st_blt, blt1_ok, blt2_ok, pks_nil, pks_cons, pkC_ok, st_lrng, lrng1_ok, st_isi, isi1_ok, isi2_ok, st_meth, meth1_ok, meth2_ok, meth3_ok, meth4_ok, meth_app, st_ext, ext0_ok, ext1_ok, st_comp, comp1_ok, comp2_ok, st_evs_nil, st_evs, evs1_ok, evs2_ok, settle_v, settle_f, settle_s, toD_l, st_evd_nil, st_evd, evd1_ok, evd2_ok, evd3_ok, frz_v, frz_f, frz_s, frzS_o, frzS_v, nm_s, nmS_v, nmS_o, pk_v, pk_f, pk_s, pkS_o, pkS_v, tst_ok, tst2_ok, truth_b, bindS, st_of, src0_ok, src1_l, src1_t, st_rng1, st_rng2, rg2_ok, st_rng3, rg3_ok, rg3b_ok, st_enum, en0_ok, en1_l, en1_t, st_zip, zp0_ok, zp1_ok, zp2_ok, zp3_ll, zp3_lt, zp3_tl, zp3_tt, st_srev, rv0_ok, rv1_l, rv1_t, st_cons, st_nil, seq_nx, seq_rt, seq_bk, seq_ct, seq_exc, st_mov, mov0_ok, mov1_u, mov1_v, mov1_o, st_asg, asg1_ok, asg2_fu, asg2_fv, asg2_fo, asg2_vu, asg2_vv, asg2_vo, asg2_su, asg2_sv, asg2_so, asg3_ok, st_par, par1_ok, par2_ok, par3_ok, par4_ok, st_unp, unp1_ok, unp2_ok, unp3_ok, tg_n, tg_2, tg_3, st_set, set0_ok, set1_ok, set2_ok, set3_ok, set4_ok, set5_ok, st_ex, ex1_ok, st_ret, ret1_ok, st_ret0, st_if, if1_t, if1_f, st_for, for1_ok, st_brk, st_cont, st_pass, st_kill, kill_nil, kill_cons, back_nil, back_cons, back2_ok, is_n, is_t, free_n, free_t, free_v, free_u, bo_add, bo_sub, cm_lt, cm_le, cm_gt, cm_ge, cm_eqi, cm_nei, cm_eqs, cm_nes, cm_isb, cm_isnotb, mapS, ix_l, ix_t, at_0, at_1, at_2, lk_cons, fn_lenl, fn_lent, fn_abs, fn_max, fn_min, fn_tupl, fn_tupt, fn_lisl, fn_list, fn_strs, fn_inti, fn_intb, body_0, body_1, body_2, body_3, body_4, body_5, body_6, end1_rt, end1_nx, end1_x, end2_v, end2_f, end2_s, end3_o, end3_v, endX_ok, outs_nil, outs_v, outs_o, out2_ok, as_nil, as_v, as_o, st_raise, raise_1s, raise_1i, raise_2si, raise_2ii, st_try, try_nx, try_rt, try_bk, try_ct, bDrawG, ix_turn, ix_left, set_turn, set_left, bo_mod hm, bo_div hm (ny _), hl0] at hy
    subst hy
    exact ⟨_, _, ⟨ns, a, l.fdiv many, t + 1, ha, Int.fdiv_nonneg hl (by omega), by omega, by omega, rfl⟩, fmod_lo (by omega), fmod_hi (by omega), rfl⟩
  have e18 : (10 : Int) ^ (18 : Int).toNat = 1000000000000000000 := by decide +kernel
  have done : ∀ (cell l' : Int), 0 ≤ l' → end1 [.own (feedC ns a l t), .val (.int many)] (exSs Φ bMixG [.own (some 0) false (feedC ns (a + 1) l' (t + 1)), .val (.int many), .val (.int a), .val (.int cell), .val (.list (ns.map PyData.int)), .un, .un, .val (.int (t + 1))]) = y → ∃ r c', Feed (nn + 1) c' ∧ 0 ≤ r ∧ r < many ∧ y = .ok (.v (.int r)) [c'] := by
    intro cell l' hl' hy
    obtain ⟨r, s5, r1, r2, e⟩ := mixG Φ many a cell (t + 1) h1 h2 (by omega) (by omega) (.own (some 0) false (feedC ns (a + 1) l' (t + 1))) (.val (.list (ns.map PyData.int)))
    simp only [Int.reduceLT, Int.reduceLE, Int.reduceEq, Int.reduceNe, Int.reduceAdd, Int.reduceMul, Int.reduceSub, Int.reduceNeg, Int.reducePow, Int.reduceToNat, Nat.reduceAdd, Nat.reduceSub, Nat.reduceMul, Nat.reduceLT, Nat.reduceLeDiff, Nat.reduceEqDiff, Nat.reducePow, Int.cast_ofNat_Int, tst_false, tst_bool, R.of_some, R.of_none, List.getElem?_cons_zero, List.getElem?_cons_succ, List.set_cons_zero, List.set_cons_succ, List.length_cons, List.length_nil, List.cons_append, List.nil_append, List.replicate_zero, List.replicate_succ, Bool.not_true, Bool.not_false, decide_true, decide_false, Nat.zero_add, Nat.add_zero, List.all_cons, List.all_nil, Bool.and_true, Bool.true_and, Bool.and_self, st_bin, bin1_ok, bin2_ok, bin3_ok, st_neg, neg1_ok, st_cmp, cmp1_ok, cmp2_ok, cmp3_ok, st_chain, chn1_ok, chn2_ok, chn2b_ok, chn3_t, chn3_f, chn4_ok, st_and, and1_t, and1_f, st_or, or1_t, or1_f, st_not, not1_ok, st_ite, ite1_t, ite1_f, st_tup, tup1_ok, st_lst, lst1_ok, st_dct, dct0_ok, st_dc1, dcp1_i, dcp1_b, dcp1_s, st_dget, dget1_ok, dget2_ok, dget3_ok, st_rep, rep1_ok, st_ix, ix1_ok, ix2_ok, ix3_ok, st_sl, sl1_ok, sl2_ok, sl2b_ok, sl3_ok, sl4_ok, part_no, part_c, part_v, part_bin, part_neg, st_no, st_rev, rev1_ok, st_c, st_v, st_g, st_call, st_callp, callp1_ok, callp2_ok, callp2_ok2, call1_ok, callA_0, callA_1, callB_ok, callB_exc, callC_v, callC_f, callX_ok, slots_nil, slots_v, slots_f, slots_s, args_nil, args_cons, argC_ok, arg_v, arg_f, arg_s, argS_ok, put_nil, put_cons, put2_ok, st_blt, blt1_ok, blt2_ok, pks_nil, pks_cons, pkC_ok, st_lrng, lrng1_ok, st_isi, isi1_ok, isi2_ok, st_meth, meth1_ok, meth2_ok, meth3_ok, meth4_ok, meth_app, st_ext, ext0_ok, ext1_ok, st_comp, comp1_ok, comp2_ok, st_evs_nil, st_evs, evs1_ok, evs2_ok, settle_v, settle_f, settle_s, toD_l, st_evd_nil, st_evd, evd1_ok, evd2_ok, evd3_ok, frz_v, frz_f, frz_s, frzS_o, frzS_v, nm_s, nmS_v, nmS_o, pk_v, pk_f, pk_s, pkS_o, pkS_v, tst_ok, tst2_ok, truth_b, bindS, st_of, src0_ok, src1_l, src1_t, st_rng1, st_rng2, rg2_ok, st_rng3, rg3_ok, rg3b_ok, st_enum, en0_ok, en1_l, en1_t, st_zip, zp0_ok, zp1_ok, zp2_ok, zp3_ll, zp3_lt, zp3_tl, zp3_tt, st_srev, rv0_ok, rv1_l, rv1_t, st_cons, st_nil, seq_nx, seq_rt, seq_bk, seq_ct, seq_exc, st_mov, mov0_ok, mov1_u, mov1_v, mov1_o, st_asg, asg1_ok, asg2_fu, asg2_fv, asg2_fo, asg2_vu, asg2_vv, asg2_vo, asg2_su, asg2_sv, asg2_so, asg3_ok, st_par, par1_ok, par2_ok, par3_ok, par4_ok, st_unp, unp1_ok, unp2_ok, unp3_ok, tg_n, tg_2, tg_3, st_set, set0_ok, set1_ok, set2_ok, set3_ok, set4_ok, set5_ok, st_ex, ex1_ok, st_ret, ret1_ok, st_ret0, st_if, if1_t, if1_f, st_for, for1_ok, st_brk, st_cont, st_pass, st_kill, kill_nil, kill_cons, back_nil, back_cons, back2_ok, is_n, is_t, free_n, free_t, free_v, free_u, bo_add, bo_sub, cm_lt, cm_le, cm_gt, cm_ge, cm_eqi, cm_nei, cm_eqs, cm_nes, cm_isb, cm_isnotb, mapS, ix_l, ix_t, at_0, at_1, at_2, lk_cons, fn_lenl, fn_lent, fn_abs, fn_max, fn_min, fn_tupl, fn_tupt, fn_lisl, fn_list, fn_strs, fn_inti, fn_intb, body_0, body_1, body_2, body_3, body_4, body_5, body_6, end1_rt, end1_nx, end1_x, end2_v, end2_f, end2_s, end3_o, end3_v, endX_ok, outs_nil, outs_v, outs_o, out2_ok, as_nil, as_v, as_o, st_raise, raise_1s, raise_1i, raise_2si, raise_2ii, st_try, try_nx, try_rt, try_bk, try_ct, e] at hy
    subst hy
    exact ⟨_, _, ⟨ns, a + 1, l', t + 1, by omega, hl', by omega, by omega, rfl⟩, r1, r2, rfl⟩
  have test : ∀ (cell : Int), end1 [.own (feedC ns a l t), .val (.int many)] (exSs Φ bTestG [.own (some 0) false (feedC ns (a + 1) l (t + 1)), .val (.int many), .val (.int a), .val (.int cell), .val (.list (ns.map PyData.int)), .un, .un, .val (.int (t + 1))]) = y → ∃ r c', Feed (nn + 1) c' ∧ 0 ≤ r ∧ r < many ∧ y = .ok (.v (.int r)) [c'] := by
    intro cell hy
    by_cases hc1 : 1000000000000000000 ≤ cell
    · by_cases hc2 : a < ns.length
      · simp only [Int.reduceLT, Int.reduceLE, Int.reduceEq, Int.reduceNe, Int.reduceAdd, Int.reduceMul, Int.reduceSub, Int.reduceNeg, Int.reducePow, Int.reduceToNat, Nat.reduceAdd, Nat.reduceSub, Nat.reduceMul, Nat.reduceLT, Nat.reduceLeDiff, Nat.reduceEqDiff, Nat.reducePow, Int.cast_ofNat_Int, tst_false, tst_bool, R.of_some, R.of_none, List.getElem?_cons_zero, List.getElem?_cons_succ, List.set_cons_zero, List.set_cons_succ, List.length_cons, List.length_nil, List.cons_append, List.nil_append, List.replicate_zero, List.replicate_succ, Bool.not_true, Bool.not_false, decide_true, decide_false, Nat.zero_add, Nat.add_zero, List.all_cons, List.all_nil, Bool.and_true, Bool.true_and, Bool.and_self, st_bin, bin1_ok, bin2_ok, bin3_ok, st_neg, neg1_ok, st_cmp, cmp1_ok, cmp2_ok, cmp3_ok, st_chain, chn1_ok, chn2_ok, chn2b_ok, chn3_t, chn3_f, chn4_ok, st_and, and1_t, and1_f, st_or, or1_t, or1_f, st_not, not1_ok, st_ite, ite1_t, ite1_f, st_tup, tup1_ok, st_lst, lst1_ok, st_dct, dct0_ok, st_dc1, dcp1_i, dcp1_b, dcp1_s, st_dget, dget1_ok, dget2_ok, dget3_ok, st_rep, rep1_ok, st_ix, ix1_ok, ix2_ok, ix3_ok, st_sl, sl1_ok, sl2_ok, sl2b_ok, sl3_ok, sl4_ok, part_no, part_c, part_v, part_bin, part_neg, st_no, st_rev, rev1_ok, st_c, st_v, st_g, st_call, st_callp, callp1_ok, callp2_ok, callp2_ok2, call1_ok, callA_0, callA_1, callB_ok, callB_exc, callC_v, callC_f, callX_ok, slots_nil, slots_v, slots_f, slots_s, args_nil, args_cons, argC_ok, arg_v, arg_f, arg_s, argS_ok, put_nil, put_cons, put2_ok, st_blt, blt1_ok, blt2_ok, pks_nil, pks_cons, pkC_ok, st_lrng, lrng1_ok, st_isi, isi1_ok, isi2_ok, st_meth, meth1_ok, meth2_ok, meth3_ok, meth4_ok, meth_app, st_ext, ext0_ok, ext1_ok, st_comp, comp1_ok, comp2_ok, st_evs_nil, st_evs, evs1_ok, evs2_ok, settle_v, settle_f, settle_s, toD_l, st_evd_nil, st_evd, evd1_ok, evd2_ok, evd3_ok, frz_v, frz_f, frz_s, frzS_o, frzS_v, nm_s, nmS_v, nmS_o, pk_v, pk_f, pk_s, pkS_o, pkS_v, tst_ok, tst2_ok, truth_b, bindS, st_of, src0_ok, src1_l, src1_t, st_rng1, st_rng2, rg2_ok, st_rng3, rg3_ok, rg3b_ok, st_enum, en0_ok, en1_l, en1_t, st_zip, zp0_ok, zp1_ok, zp2_ok, zp3_ll, zp3_lt, zp3_tl, zp3_tt, st_srev, rv0_ok, rv1_l, rv1_t, st_cons, st_nil, seq_nx, seq_rt, seq_bk, seq_ct, seq_exc, st_mov, mov0_ok, mov1_u, mov1_v, mov1_o, st_asg, asg1_ok, asg2_fu, asg2_fv, asg2_fo, asg2_vu, asg2_vv, asg2_vo, asg2_su, asg2_sv, asg2_so, asg3_ok, st_par, par1_ok, par2_ok, par3_ok, par4_ok, st_unp, unp1_ok, unp2_ok, unp3_ok, tg_n, tg_2, tg_3, st_set, set0_ok, set1_ok, set2_ok, set3_ok, set4_ok, set5_ok, st_ex, ex1_ok, st_ret, ret1_ok, st_ret0, st_if, if1_t, if1_f, st_for, for1_ok, st_brk, st_cont, st_pass, st_kill, kill_nil, kill_cons, back_nil, back_cons, back2_ok, is_n, is_t, free_n, free_t, free_v, free_u, bo_add, bo_sub, cm_lt, cm_le, cm_gt, cm_ge, cm_eqi, cm_nei, cm_eqs, cm_nes, cm_isb, cm_isnotb, mapS, ix_l, ix_t, at_0, at_1, at_2, lk_cons, fn_lenl, fn_lent, fn_abs, fn_max, fn_min, fn_tupl, fn_tupt, fn_lisl, fn_list, fn_strs, fn_inti, fn_intb, body_0, body_1, body_2, body_3, body_4, body_5, body_6, end1_rt, end1_nx, end1_x, end2_v, end2_f, end2_s, end3_o, end3_v, endX_ok, outs_nil, outs_v, outs_o, out2_ok, as_nil, as_v, as_o, st_raise, raise_1s, raise_1i, raise_2si, raise_2ii, st_try, try_nx, try_rt, try_bk, try_ct, bTestG, e18, bo_pow pow18, List.length_map, hc1, hc2, set_left, bo_mod hm, bo_div hm (ny _)] at hy
        subst hy
        exact ⟨_, _, ⟨ns, a + 1, cell.fdiv many, t + 1, by omega, Int.fdiv_nonneg (by omega) (by omega), by omega, by omega, rfl⟩, fmod_lo (by omega), fmod_hi (by omega), rfl⟩
      · simp only [Int.reduceLT, Int.reduceLE, Int.reduceEq, Int.reduceNe, Int.reduceAdd, Int.reduceMul, Int.reduceSub, Int.reduceNeg, Int.reducePow, Int.reduceToNat, Nat.reduceAdd, Nat.reduceSub, Nat.reduceMul, Nat.reduceLT, Nat.reduceLeDiff, Nat.reduceEqDiff, Nat.reducePow, Int.cast_ofNat_Int, tst_false, tst_bool, R.of_some, R.of_none, List.getElem?_cons_zero, List.getElem?_cons_succ, List.set_cons_zero, List.set_cons_succ, List.length_cons, List.length_nil, List.cons_append, List.nil_append, List.replicate_zero, List.replicate_succ, Bool.not_true, Bool.not_false, decide_true, decide_false, Nat.zero_add, Nat.add_zero, List.all_cons, List.all_nil, Bool.and_true, Bool.true_and, Bool.and_self, st_bin, bin1_ok, bin2_ok, bin3_ok, st_neg, neg1_ok, st_cmp, cmp1_ok, cmp2_ok, cmp3_ok, st_chain, chn1_ok, chn2_ok, chn2b_ok, chn3_t, chn3_f, chn4_ok, st_and, and1_t, and1_f, st_or, or1_t, or1_f, st_not, not1_ok, st_ite, ite1_t, ite1_f, st_tup, tup1_ok, st_lst, lst1_ok, st_dct, dct0_ok, st_dc1, dcp1_i, dcp1_b, dcp1_s, st_dget, dget1_ok, dget2_ok, dget3_ok, st_rep, rep1_ok, st_ix, ix1_ok, ix2_ok, ix3_ok, st_sl, sl1_ok, sl2_ok, sl2b_ok, sl3_ok, sl4_ok, part_no, part_c, part_v, part_bin, part_neg, st_no, st_rev, rev1_ok, st_c, st_v, st_g, st_call, st_callp, callp1_ok, callp2_ok, callp2_ok2, call1_ok, callA_0, callA_1, callB_ok, callB_exc, callC_v, callC_f, callX_ok, slots_nil, slots_v, slots_f, slots_s, args_nil, args_cons, argC_ok, arg_v, arg_f, arg_s, argS_ok, put_nil, put_cons, put2_ok, st_blt, blt1_ok, blt2_ok, pks_nil, pks_cons, pkC_ok, st_lrng, lrng1_ok, st_isi, isi1_ok, isi2_ok, st_meth, meth1_ok, meth2_ok, meth3_ok, meth4_ok, meth_app, st_ext, ext0_ok, ext1_ok, st_comp, comp1_ok, comp2_ok, st_evs_nil, st_evs, evs1_ok, evs2_ok, settle_v, settle_f, settle_s, toD_l, st_evd_nil, st_evd, evd1_ok, evd2_ok, evd3_ok, frz_v, frz_f, frz_s, frzS_o, frzS_v, nm_s, nmS_v, nmS_o, pk_v, pk_f, pk_s, pkS_o, pkS_v, tst_ok, tst2_ok, truth_b, bindS, st_of, src0_ok, src1_l, src1_t, st_rng1, st_rng2, rg2_ok, st_rng3, rg3_ok, rg3b_ok, st_enum, en0_ok, en1_l, en1_t, st_zip, zp0_ok, zp1_ok, zp2_ok, zp3_ll, zp3_lt, zp3_tl, zp3_tt, st_srev, rv0_ok, rv1_l, rv1_t, st_cons, st_nil, seq_nx, seq_rt, seq_bk, seq_ct, seq_exc, st_mov, mov0_ok, mov1_u, mov1_v, mov1_o, st_asg, asg1_ok, asg2_fu, asg2_fv, asg2_fo, asg2_vu, asg2_vv, asg2_vo, asg2_su, asg2_sv, asg2_so, asg3_ok, st_par, par1_ok, par2_ok, par3_ok, par4_ok, st_unp, unp1_ok, unp2_ok, unp3_ok, tg_n, tg_2, tg_3, st_set, set0_ok, set1_ok, set2_ok, set3_ok, set4_ok, set5_ok, st_ex, ex1_ok, st_ret, ret1_ok, st_ret0, st_if, if1_t, if1_f, st_for, for1_ok, st_brk, st_cont, st_pass, st_kill, kill_nil, kill_cons, back_nil, back_cons, back2_ok, is_n, is_t, free_n, free_t, free_v, free_u, bo_add, bo_sub, cm_lt, cm_le, cm_gt, cm_ge, cm_eqi, cm_nei, cm_eqs, cm_nes, cm_isb, cm_isnotb, mapS, ix_l, ix_t, at_0, at_1, at_2, lk_cons, fn_lenl, fn_lent, fn_abs, fn_max, fn_min, fn_tupl, fn_tupt, fn_lisl, fn_list, fn_strs, fn_inti, fn_intb, body_0, body_1, body_2, body_3, body_4, body_5, body_6, end1_rt, end1_nx, end1_x, end2_v, end2_f, end2_s, end3_o, end3_v, endX_ok, outs_nil, outs_v, outs_o, out2_ok, as_nil, as_v, as_o, st_raise, raise_1s, raise_1i, raise_2si, raise_2ii, st_try, try_nx, try_rt, try_bk, try_ct, bTestG, e18, bo_pow pow18, List.length_map, hc1, hc2] at hy
        exact done _ _ hl hy
    · simp only [Int.reduceLT, Int.reduceLE, Int.reduceEq, Int.reduceNe, Int.reduceAdd, Int.reduceMul, Int.reduceSub, Int.reduceNeg, Int.reducePow, Int.reduceToNat, Nat.reduceAdd, Nat.reduceSub, Nat.reduceMul, Nat.reduceLT, Nat.reduceLeDiff, Nat.reduceEqDiff, Nat.reducePow, Int.cast_ofNat_Int, tst_false, tst_bool, R.of_some, R.of_none, List.getElem?_cons_zero, List.getElem?_cons_succ, List.set_cons_zero, List.set_cons_succ, List.length_cons, List.length_nil, List.cons_append, List.nil_append, List.replicate_zero, List.replicate_succ, Bool.not_true, Bool.not_false, decide_true, decide_false, Nat.zero_add, Nat.add_zero, List.all_cons, List.all_nil, Bool.and_true, Bool.true_and, Bool.and_self, st_bin, bin1_ok, bin2_ok, bin3_ok, st_neg, neg1_ok, st_cmp, cmp1_ok, cmp2_ok, cmp3_ok, st_chain, chn1_ok, chn2_ok, chn2b_ok, chn3_t, chn3_f, chn4_ok, st_and, and1_t, and1_f, st_or, or1_t, or1_f, st_not, not1_ok, st_ite, ite1_t, ite1_f, st_tup, tup1_ok, st_lst, lst1_ok, st_dct, dct0_ok, st_dc1, dcp1_i, dcp1_b, dcp1_s, st_dget, dget1_ok, dget2_ok, dget3_ok, st_rep, rep1_ok, st_ix, ix1_ok, ix2_ok, ix3_ok, st_sl, sl1_ok, sl2_ok, sl2b_ok, sl3_ok, sl4_ok, part_no, part_c, part_v, part_bin, part_neg, st_no, st_rev, rev1_ok, st_c, st_v, st_g, st_call, st_callp, callp1_ok, callp2_ok, callp2_ok2, call1_ok, callA_0, callA_1, callB_ok, callB_exc, callC_v, callC_f, callX_ok, slots_nil, slots_v, slots_f, slots_s, args_nil, args_cons, argC_ok, arg_v, arg_f, arg_s, argS_ok, put_nil, put_cons, put2_ok, st_blt, blt1_ok, blt2_ok, pks_nil, pks_cons, pkC_ok, st_lrng, lrng1_ok, st_isi, isi1_ok, isi2_ok, st_meth, meth1_ok, meth2_ok, meth3_ok, meth4_ok, meth_app, st_ext, ext0_ok, ext1_ok, st_comp, comp1_ok, comp2_ok, st_evs_nil, st_evs, evs1_ok, evs2_ok, settle_v, settle_f, settle_s, toD_l, st_evd_nil, st_evd, evd1_ok, evd2_ok, evd3_ok, frz_v, frz_f, frz_s, frzS_o, frzS_v, nm_s, nmS_v, nmS_o, pk_v, pk_f, pk_s, pkS_o, pkS_v, tst_ok, tst2_ok, truth_b, bindS, st_of, src0_ok, src1_l, src1_t, st_rng1, st_rng2, rg2_ok, st_rng3, rg3_ok, rg3b_ok, st_enum, en0_ok, en1_l, en1_t, st_zip, zp0_ok, zp1_ok, zp2_ok, zp3_ll, zp3_lt, zp3_tl, zp3_tt, st_srev, rv0_ok, rv1_l, rv1_t, st_cons, st_nil, seq_nx, seq_rt, seq_bk, seq_ct, seq_exc, st_mov, mov0_ok, mov1_u, mov1_v, mov1_o, st_asg, asg1_ok, asg2_fu, asg2_fv, asg2_fo, asg2_vu, asg2_vv, asg2_vo, asg2_su, asg2_sv, asg2_so, asg3_ok, st_par, par1_ok, par2_ok, par3_ok, par4_ok, st_unp, unp1_ok, unp2_ok, unp3_ok, tg_n, tg_2, tg_3, st_set, set0_ok, set1_ok, set2_ok, set3_ok, set4_ok, set5_ok, st_ex, ex1_ok, st_ret, ret1_ok, st_ret0, st_if, if1_t, if1_f, st_for, for1_ok, st_brk, st_cont, st_pass, st_kill, kill_nil, kill_cons, back_nil, back_cons, back2_ok, is_n, is_t, free_n, free_t, free_v, free_u, bo_add, bo_sub, cm_lt, cm_le, cm_gt, cm_ge, cm_eqi, cm_nei, cm_eqs, cm_nes, cm_isb, cm_isnotb, mapS, ix_l, ix_t, at_0, at_1, at_2, lk_cons, fn_lenl, fn_lent, fn_abs, fn_max, fn_min, fn_tupl, fn_tupt, fn_lisl, fn_list, fn_strs, fn_inti, fn_intb, body_0, body_1, body_2, body_3, body_4, body_5, body_6, end1_rt, end1_nx, end1_x, end2_v, end2_f, end2_s, end3_o, end3_v, endX_ok, outs_nil, outs_v, outs_o, out2_ok, as_nil, as_v, as_o, st_raise, raise_1s, raise_1i, raise_2si, raise_2ii, st_try, try_nx, try_rt, try_bk, try_ct, bTestG, e18, bo_pow pow18, hc1] at hy
      exact done _ _ hl hy
  have k7 : mulOk 7 (t + 1) = true := mulOk_l (by decide)
  have toD0 : ∀ xs, (Cell.l xs).toD = .list xs := fun _ => rfl
  by_cases hn : ns = []
  · have hcm : cmpD .ne (.list (ns.map PyData.int)) (.list []) = some false := by rw [cm_nenil]; simp [hn]
    simp only [Int.reduceLT, Int.reduceLE, Int.reduceEq, Int.reduceNe, Int.reduceAdd, Int.reduceMul, Int.reduceSub, Int.reduceNeg, Int.reducePow, Int.reduceToNat, Nat.reduceAdd, Nat.reduceSub, Nat.reduceMul, Nat.reduceLT, Nat.reduceLeDiff, Nat.reduceEqDiff, Nat.reducePow, Int.cast_ofNat_Int, tst_false, tst_bool, R.of_some, R.of_none, List.getElem?_cons_zero, List.getElem?_cons_succ, List.set_cons_zero, List.set_cons_succ, List.length_cons, List.length_nil, List.cons_append, List.nil_append, List.replicate_zero, List.replicate_succ, Bool.not_true, Bool.not_false, decide_true, decide_false, Nat.zero_add, Nat.add_zero, List.all_cons, List.all_nil, Bool.and_true, Bool.true_and, Bool.and_self, st_bin, bin1_ok, bin2_ok, bin3_ok, st_neg, neg1_ok, st_cmp, cmp1_ok, cmp2_ok, cmp3_ok, st_chain, chn1_ok, chn2_ok, chn2b_ok, chn3_t, chn3_f, chn4_ok, st_and, and1_t, and1_f, st_or, or1_t, or1_f, st_not, not1_ok, st_ite, ite1_t, ite1_f, st_tup, tup1_ok, st_lst, lst1_ok, st_dct, dct0_ok, st_dc1, dcp1_i, dcp1_b, dcp1_s, st_dget, dget1_ok, dget2_ok, dget3_ok, st_rep, rep1_ok, st_ix, ix1_ok, ix2_ok, ix3_ok, st_sl, sl1_ok, sl2_ok, sl2b_ok, sl3_ok, sl4_ok, part_no, part_c, part_v, part_bin, part_neg, st_no, st_rev, rev1_ok, st_c, st_v, st_g, st_call, st_callp, callp1_ok, callp2_ok, callp2_ok2, call1_ok, callA_0, callA_1, callB_ok, callB_exc, callC_v, callC_f, callX_ok, slots_nil, slots_v, slots_f, slots_s, args_nil, args_cons, argC_ok, arg_v, arg_f, arg_s, argS_ok, put_nil, put_cons, put2_ok, st_blt, blt1_ok, blt2_ok, pks_nil, pks_cons, pkC_ok, st_lrng, lrng1_ok, st_isi, isi1_ok, isi2_ok, st_meth, meth1_ok, meth2_ok, meth3_ok, meth4_ok, meth_app, st_ext, ext0_ok, ext1_ok, st_comp, comp1_ok, comp2_ok, st_evs_nil, st_evs, evs1_ok, evs2_ok, settle_v, settle_f, settle_s, toD_l, st_evd_nil, st_evd, evd1_ok, evd2_ok, evd3_ok, frz_v, frz_f, frz_s, frzS_o, frzS_v, nm_s, nmS_v, nmS_o, pk_v, pk_f, pk_s, pkS_o, pkS_v, tst_ok, tst2_ok, truth_b, bindS, st_of, src0_ok, src1_l, src1_t, st_rng1, st_rng2, rg2_ok, st_rng3, rg3_ok, rg3b_ok, st_enum, en0_ok, en1_l, en1_t, st_zip, zp0_ok, zp1_ok, zp2_ok, zp3_ll, zp3_lt, zp3_tl, zp3_tt, st_srev, rv0_ok, rv1_l, rv1_t, st_cons, st_nil, seq_nx, seq_rt, seq_bk, seq_ct, seq_exc, st_mov, mov0_ok, mov1_u, mov1_v, mov1_o, st_asg, asg1_ok, asg2_fu, asg2_fv, asg2_fo, asg2_vu, asg2_vv, asg2_vo, asg2_su, asg2_sv, asg2_so, asg3_ok, st_par, par1_ok, par2_ok, par3_ok, par4_ok, st_unp, unp1_ok, unp2_ok, unp3_ok, tg_n, tg_2, tg_3, st_set, set0_ok, set1_ok, set2_ok, set3_ok, set4_ok, set5_ok, st_ex, ex1_ok, st_ret, ret1_ok, st_ret0, st_if, if1_t, if1_f, st_for, for1_ok, st_brk, st_cont, st_pass, st_kill, kill_nil, kill_cons, back_nil, back_cons, back2_ok, is_n, is_t, free_n, free_t, free_v, free_u, bo_add, bo_sub, cm_lt, cm_le, cm_gt, cm_ge, cm_eqi, cm_nei, cm_eqs, cm_nes, cm_isb, cm_isnotb, mapS, ix_l, ix_t, at_0, at_1, at_2, lk_cons, fn_lenl, fn_lent, fn_abs, fn_max, fn_min, fn_tupl, fn_tupt, fn_lisl, fn_list, fn_strs, fn_inti, fn_intb, body_0, body_1, body_2, body_3, body_4, body_5, body_6, end1_rt, end1_nx, end1_x, end2_v, end2_f, end2_s, end3_o, end3_v, endX_ok, outs_nil, outs_v, outs_o, out2_ok, as_nil, as_v, as_o, st_raise, raise_1s, raise_1i, raise_2si, raise_2ii, st_try, try_nx, try_rt, try_bk, try_ct, bDrawG, ix_turn, ix_left, ix_at, ix_cells, set_turn, set_left, set_at, hl0, hcm, bo_mul k7] at hy
    exact test _ hy
  · have hcm : cmpD .ne (.list (ns.map PyData.int)) (.list []) = some true := by rw [cm_nenil]; simp [hn]
    have hlen : 0 < ns.length := List.length_pos_iff.mpr hn
    have hlen2 : (0 : Int) < (ns.length : Int) := by omega
    have q1 : 0 ≤ a.fmod ns.length := fmod_lo hlen2
    have q2 : a.fmod ns.length < ns.length := fmod_hi hlen2
    obtain ⟨j, hj⟩ := Int.eq_ofNat_of_zero_le q1
    have hj2 : j < ns.length := by omega
    have hat : atI (ns.map PyData.int) (a.fmod ns.length) = some (.int ns[j]) := by
      rw [hj]
      exact atI_nat (by rw [List.getElem?_map, List.getElem?_eq_getElem hj2]; rfl)
    have hne : (ns.length : Int) ≠ 0 := by omega
    simp only [Int.reduceLT, Int.reduceLE, Int.reduceEq, Int.reduceNe, Int.reduceAdd, Int.reduceMul, Int.reduceSub, Int.reduceNeg, Int.reducePow, Int.reduceToNat, Nat.reduceAdd, Nat.reduceSub, Nat.reduceMul, Nat.reduceLT, Nat.reduceLeDiff, Nat.reduceEqDiff, Nat.reducePow, Int.cast_ofNat_Int, tst_false, tst_bool, R.of_some, R.of_none, List.getElem?_cons_zero, List.getElem?_cons_succ, List.set_cons_zero, List.set_cons_succ, List.length_cons, List.length_nil, List.cons_append, List.nil_append, List.replicate_zero, List.replicate_succ, Bool.not_true, Bool.not_false, decide_true, decide_false, Nat.zero_add, Nat.add_zero, List.all_cons, List.all_nil, Bool.and_true, Bool.true_and, Bool.and_self, st_bin, bin1_ok, bin2_ok, bin3_ok, st_neg, neg1_ok, st_cmp, cmp1_ok, cmp2_ok, cmp3_ok, st_chain, chn1_ok, chn2_ok, chn2b_ok, chn3_t, chn3_f, chn4_ok, st_and, and1_t, and1_f, st_or, or1_t, or1_f, st_not, not1_ok, st_ite, ite1_t, ite1_f, st_tup, tup1_ok, st_lst, lst1_ok, st_dct, dct0_ok, st_dc1, dcp1_i, dcp1_b, dcp1_s, st_dget, dget1_ok, dget2_ok, dget3_ok, st_rep, rep1_ok, st_ix, ix1_ok, ix2_ok, ix3_ok, st_sl, sl1_ok, sl2_ok, sl2b_ok, sl3_ok, sl4_ok, part_no, part_c, part_v, part_bin, part_neg, st_no, st_rev, rev1_ok, st_c, st_v, st_g, st_call, st_callp, callp1_ok, callp2_ok, callp2_ok2, call1_ok, callA_0, callA_1, callB_ok, callB_exc, callC_v, callC_f, callX_ok, slots_nil, slots_v, slots_f, slots_s, args_nil, args_cons, argC_ok, arg_v, arg_f, arg_s, argS_ok, put_nil, put_cons, put2_ok, st_blt, blt1_ok, blt2_ok, pks_nil, pks_cons, pkC_ok, st_lrng, lrng1_ok, st_isi, isi1_ok, isi2_ok, st_meth, meth1_ok, meth2_ok, meth3_ok, meth4_ok, meth_app, st_ext, ext0_ok, ext1_ok, st_comp, comp1_ok, comp2_ok, st_evs_nil, st_evs, evs1_ok, evs2_ok, settle_v, settle_f, settle_s, toD_l, st_evd_nil, st_evd, evd1_ok, evd2_ok, evd3_ok, frz_v, frz_f, frz_s, frzS_o, frzS_v, nm_s, nmS_v, nmS_o, pk_v, pk_f, pk_s, pkS_o, pkS_v, tst_ok, tst2_ok, truth_b, bindS, st_of, src0_ok, src1_l, src1_t, st_rng1, st_rng2, rg2_ok, st_rng3, rg3_ok, rg3b_ok, st_enum, en0_ok, en1_l, en1_t, st_zip, zp0_ok, zp1_ok, zp2_ok, zp3_ll, zp3_lt, zp3_tl, zp3_tt, st_srev, rv0_ok, rv1_l, rv1_t, st_cons, st_nil, seq_nx, seq_rt, seq_bk, seq_ct, seq_exc, st_mov, mov0_ok, mov1_u, mov1_v, mov1_o, st_asg, asg1_ok, asg2_fu, asg2_fv, asg2_fo, asg2_vu, asg2_vv, asg2_vo, asg2_su, asg2_sv, asg2_so, asg3_ok, st_par, par1_ok, par2_ok, par3_ok, par4_ok, st_unp, unp1_ok, unp2_ok, unp3_ok, tg_n, tg_2, tg_3, st_set, set0_ok, set1_ok, set2_ok, set3_ok, set4_ok, set5_ok, st_ex, ex1_ok, st_ret, ret1_ok, st_ret0, st_if, if1_t, if1_f, st_for, for1_ok, st_brk, st_cont, st_pass, st_kill, kill_nil, kill_cons, back_nil, back_cons, back2_ok, is_n, is_t, free_n, free_t, free_v, free_u, bo_add, bo_sub, cm_lt, cm_le, cm_gt, cm_ge, cm_eqi, cm_nei, cm_eqs, cm_nes, cm_isb, cm_isnotb, mapS, ix_l, ix_t, at_0, at_1, at_2, lk_cons, fn_lenl, fn_lent, fn_abs, fn_max, fn_min, fn_tupl, fn_tupt, fn_lisl, fn_list, fn_strs, fn_inti, fn_intb, body_0, body_1, body_2, body_3, body_4, body_5, body_6, end1_rt, end1_nx, end1_x, end2_v, end2_f, end2_s, end3_o, end3_v, endX_ok, outs_nil, outs_v, outs_o, out2_ok, as_nil, as_v, as_o, st_raise, raise_1s, raise_1i, raise_2si, raise_2ii, st_try, try_nx, try_rt, try_bk, try_ct, bDrawG, ix_turn, ix_left, ix_at, ix_cells, set_turn, set_left, set_at, hl0, hcm, List.length_map, bo_mod hne, hat] at hy
    exact test _ hy
/-! ### the draw of k30 to k50, by two numbers of its own -/
end M

set_option Elab.async false
set_option linter.all false
set_option maxRecDepth 100000
set_option maxHeartbeats 400000
/-! that a text of a thing can be made -/
namespace M
open PySem L2
mutual
/-- whole numbers of at most b figures, no texts, no dicts -/
def small (b : Nat) : D → Bool
  | .none => true
  | .bool _ => true
  | .int i => decide (i.natAbs < 10 ^ b)
  | .str _ => false
  | .list xs => smallA b xs
  | .tuple xs => smallA b xs
  | .dict _ => false
def smallA (b : Nat) : List D → Bool
  | [] => true
  | x :: xs => small b x && smallA b xs
end
mutual
def cnt : D → Nat
  | .list xs => 1 + cntA xs
  | .tuple xs => 1 + cntA xs
  | .none => 1
  | .bool _ => 1
  | .int _ => 1
  | .str _ => 50
  | .dict kvs => 1 + cntKv kvs
def cntA : List D → Nat
  | [] => 0
  | x :: xs => cnt x + cntA xs
def cntKv : List (D × D) → Nat
  | [] => 0
  | (k, v) :: r => cnt k + cnt v + cntKv r
end
mutual
theorem shown_small {b : Nat} (hb : 8 ≤ b) : ∀ d : D, small b d = true → d.shown.length + 2 ≤ (b + 5) * cnt d
  | .none, _ => by
    have e : (PyData.shown .none).length = 4 := rfl
    simp only [cnt]; omega
  | .bool k, _ => by
    have e : (PyData.shown (.bool k)).length ≤ 5 := by cases k <;> decide
    simp only [cnt]; omega
  | .int i, h => by
    have h : i.natAbs < 10 ^ b := by simpa [small] using h
    have e := int_text_length_le10 (k := b) (by omega) h
    have e2 : (PyData.shown (.int i)).length ≤ b + 1 := by
      show (Str.ofString (toString i)).length ≤ _
      rw [ofString_length]; exact e
    simp only [cnt]; omega
  | .str x, h => by simp [small] at h
  | .dict x, h => by simp [small] at h
  | .list xs, h => by
    have h1 := shownA_small hb xs (by simpa [small] using h)
    have h2 := listText_len_le (PyData.shownAll xs)
    have h3 := PyData.shownAll_length xs
    have e : (b + 5) * (1 + cntA xs) = (b + 5) + (b + 5) * cntA xs := by rw [Nat.mul_add, Nat.mul_one]
    simp only [PyData.shown, cnt]
    omega
  | .tuple xs, h => by
    have h1 := shownA_small hb xs (by simpa [small] using h)
    have h2 := tupleText_len_le (PyData.shownAll xs)
    have h3 := PyData.shownAll_length xs
    have e : (b + 5) * (1 + cntA xs) = (b + 5) + (b + 5) * cntA xs := by rw [Nat.mul_add, Nat.mul_one]
    simp only [PyData.shown, cnt]
    omega
theorem shownA_small {b : Nat} (hb : 8 ≤ b) : ∀ xs : List D, smallA b xs = true → ((PyData.shownAll xs).map (·.length)).sum + 2 * xs.length ≤ (b + 5) * cntA xs
  | [], _ => by simp [PyData.shownAll, cntA]
  | x :: xs, h => by
    have h' : small b x = true ∧ smallA b xs = true := by simpa [smallA] using h
    have h1 := shown_small hb x h'.1
    have h2 := shownA_small hb xs h'.2
    have e : (b + 5) * (cnt x + cntA xs) = (b + 5) * cnt x + (b + 5) * cntA xs := Nat.mul_add _ _ _
    simp only [PyData.shownAll, cntA, List.map_cons, List.sum_cons, List.length_cons]
    omega
end
theorem p3800 : (10 : Nat) ^ 3800 < 2 ^ 12899 := by decide +kernel
theorem log_lt {b n : Nat} (hb : b ≤ 3800) (h : n < 10 ^ b) : n.log2 < 12900 := by
  have h2 : n < 2 ^ 12899 := Nat.lt_of_lt_of_le h (Nat.le_trans (Nat.pow_le_pow_right (by decide) hb) (Nat.le_of_lt p3800))
  by_cases h0 : n = 0
  · rw [h0]; decide
  · exact Nat.lt_trans ((Nat.log2_lt h0).mpr h2) (by decide)
mutual
theorem small_show {b : Nat} (hb : b ≤ 3800) : ∀ d : D, small b d = true → shw d = true
  | .none, _ => rfl
  | .bool _, _ => rfl
  | .int i, h => by
    have h : i.natAbs < 10 ^ b := by simpa [small] using h
    show decide _ = true
    exact decide_eq_true (log_lt hb h)
  | .str x, h => by simp [small] at h
  | .dict x, h => by simp [small] at h
  | .list xs, h => by
    have := smallA_show hb xs (by simpa [small] using h)
    simpa [shw] using this
  | .tuple xs, h => by
    have := smallA_show hb xs (by simpa [small] using h)
    simpa [shw] using this
theorem smallA_show {b : Nat} (hb : b ≤ 3800) : ∀ xs : List D, smallA b xs = true → shws xs = true
  | [], _ => rfl
  | x :: xs, h => by
    have h' : small b x = true ∧ smallA b xs = true := by simpa [smallA] using h
    have h1 := small_show hb x h'.1
    have h2 := smallA_show hb xs h'.2
    simp [shws, h1, h2]
end
theorem fits_of {b : Nat} {d : D} (hb : 8 ≤ b) (hb2 : b ≤ 3800) (h : small b d = true) (hd : d.depth ≤ 64) (hc : (b + 5) * cnt d ≤ 16000000) : Fits d := by
  have := shown_small hb d h
  exact ⟨small_show hb2 d h, hd, by rw [sizeLine_eq]; omega⟩
theorem depthA_map {α : Type} {k : Nat} {f : α → D} : ∀ {l : List α}, (∀ x ∈ l, (f x).depth ≤ k) → PyData.depthAll (l.map f) ≤ k
  | [], _ => by simp [PyData.depthAll]
  | x :: l, h => by
    have h1 := h x List.mem_cons_self
    have h2 := depthA_map fun y hy => h y (List.mem_cons_of_mem _ hy)
    rw [List.map_cons, PyData.depthAll]
    exact Nat.max_le.mpr ⟨h1, h2⟩
theorem small_int {b : Nat} {i : Int} (h : i.natAbs < 10 ^ b) : small b (.int i) = true := by simp [small, h]
theorem fits_int {b : Nat} {i : Int} (hb : 8 ≤ b) (hb2 : b ≤ 3800) (h : i.natAbs < 10 ^ b) : Fits (.int i) :=
  fits_of hb hb2 (small_int h) (by simp [PyData.depth]) (by simp only [cnt]; omega)
end M

set_option Elab.async false
set_option linter.all false
set_option maxRecDepth 100000
set_option maxHeartbeats 400000
/-! shares: tops over bottoms -/
namespace M
open PySem L2
def shD (q : Rat) : D := .tuple [.int q.num, .int (q.den : Int)]
/-- tops and bottoms below 2 ^ n -/
def Bd (n : Nat) (q : Rat) : Prop := q.num.natAbs < 2 ^ n ∧ q.den < 2 ^ n
/-! ### the greatest common divisor -/
theorem fmod_nat (a b : Nat) : (a : Int).fmod (b : Int) = ((a % b : Nat) : Int) := by
  rw [Int.fmod_eq_emod_of_nonneg _ (by omega)]; rfl
/-! ### the laws' own -/
/-! ### the four ways -/
def Op2Ok (g : Rat → Rat → Rat) (f : Sem) : Prop := ∀ (p q : Rat) (n m : Nat), Bd n p → Bd m q → n + m ≤ 8999 → f [.val (shD p), .val (shD q)] = .ok (.v (shD (g p q))) []
theorem den_pos (q : Rat) : (0 : Int) < (q.den : Int) := by have := q.den_pos; omega
theorem mul_lt_pow {a b n m : Nat} (h1 : a < 2 ^ n) (h2 : b < 2 ^ m) : a * b < 2 ^ (n + m) := by rw [Nat.pow_add]; exact Nat.mul_lt_mul'' h1 h2
theorem mul_lt_powI {a b : Int} {n m : Nat} (h1 : a.natAbs < 2 ^ n) (h2 : b.natAbs < 2 ^ m) : (a * b).natAbs < 2 ^ (n + m) := by rw [Int.natAbs_mul]; exact mul_lt_pow h1 h2
theorem pow_le {n m : Nat} (h : n ≤ m) : (2 : Nat) ^ n ≤ 2 ^ m := Nat.pow_le_pow_right (by decide) h
theorem add_lt_powI {a b : Int} {n : Nat} (h1 : a.natAbs < 2 ^ n) (h2 : b.natAbs < 2 ^ n) : (a + b).natAbs < 2 ^ (n + 1) := by rw [Nat.pow_succ]; omega
theorem divInt_mk (t : Int) (n : Nat) : Rat.divInt t (n : Int) = mkRat t n := Rat.divInt_ofNat t n
section
variable {Φ : Phi} {j : Nat}
end
/-! ### bounds -/
theorem bd_divInt {t b : Int} {n : Nat} (hb : b ≠ 0) (h1 : t.natAbs < 2 ^ n) (h2 : b.natAbs < 2 ^ n) : Bd n (Rat.divInt t b) := by
  constructor
  · rw [Rat.num_divInt]
    have e : (b.sign * t).natAbs = t.natAbs := by
      rw [Int.natAbs_mul, Int.natAbs_sign_of_ne_zero hb, Nat.one_mul]
    exact Nat.lt_of_le_of_lt (Nat.le_trans (Int.natAbs_ediv_le_natAbs _ _) (Nat.le_of_eq e)) h1
  · rw [Rat.den_divInt, if_neg hb]
    exact Nat.lt_of_le_of_lt (Nat.div_le_self _ _) h2
theorem Bd.mono {n m : Nat} {q : Rat} (h : Bd n q) (hm : n ≤ m) : Bd m q := ⟨Nat.lt_of_lt_of_le h.1 (pow_le hm), Nat.lt_of_lt_of_le h.2 (pow_le hm)⟩
theorem Bd.add {n m : Nat} {p q : Rat} (hp : Bd n p) (hq : Bd m q) : Bd (n + m + 1) (p + q) := by
  rw [Rat.add_def', ← divInt_mk]
  have b1 : (p.num * (q.den : Int)).natAbs < 2 ^ (n + m) := mul_lt_powI hp.1 (by simpa using hq.2)
  have b2 : (q.num * (p.den : Int)).natAbs < 2 ^ (n + m) := by rw [Nat.add_comm]; exact mul_lt_powI hq.1 (by simpa using hp.2)
  have b3 : (p.den * q.den) < 2 ^ (n + m) := mul_lt_pow hp.2 hq.2
  refine bd_divInt ?_ (add_lt_powI b1 b2) (Nat.lt_of_lt_of_le (by rw [Int.natAbs_natCast]; exact b3) (pow_le (by omega)))
  have := Nat.mul_pos p.den_pos q.den_pos
  omega
theorem Bd.neg {n : Nat} {p : Rat} (hp : Bd n p) : Bd n (-p) := ⟨by rw [Rat.neg_num, Int.natAbs_neg]; exact hp.1, by rw [Rat.neg_den]; exact hp.2⟩
theorem Bd.sub {n m : Nat} {p q : Rat} (hp : Bd n p) (hq : Bd m q) : Bd (n + m + 1) (p - q) := by
  rw [Rat.sub_eq_add_neg]; exact hp.add hq.neg
theorem Bd.mul {n m : Nat} {p q : Rat} (hp : Bd n p) (hq : Bd m q) : Bd (n + m) (p * q) := by
  rw [Rat.mul_def', ← divInt_mk]
  refine bd_divInt ?_ (mul_lt_powI hp.1 hq.1) (by rw [Int.natAbs_natCast]; exact mul_lt_pow hp.2 hq.2)
  have := Nat.mul_pos p.den_pos q.den_pos
  omega
end M

set_option Elab.async false
set_option linter.all false
set_option maxRecDepth 100000
set_option maxHeartbeats 400000
/-! shares by draws, the laws' look at them -/
namespace M
open PySem L2
/-! ### the laws' look at a share -/
end M

set_option Elab.async false
set_option linter.all false
set_option maxRecDepth 100000
set_option maxHeartbeats 400000
/-! choices: in how many ways so many are taken -/
namespace M
open PySem L2
def ch : Nat → Nat → Nat
  | _, 0 => 1
  | 0, _ + 1 => 0
  | n + 1, k + 1 => ch n k + ch n (k + 1)
theorem ch_zero (n : Nat) : ch n 0 = 1 := by cases n <;> rfl
theorem ch_le : ∀ n k : Nat, ch n k ≤ 2 ^ n
  | n, 0 => by rw [ch_zero]; exact Nat.one_le_two_pow
  | 0, k + 1 => by simp [ch]
  | n + 1, k + 1 => by
    have h1 := ch_le n k
    have h2 := ch_le n (k + 1)
    simp only [ch]
    rw [Nat.pow_succ]
    omega
/-! ### choices_of -/
/-! ### the step back -/
end M

set_option Elab.async false
set_option linter.all false
set_option maxRecDepth 100000
set_option maxHeartbeats 400000
/-! the row of numbers -/
namespace M
open PySem L2
/-! ### texts of lists of shares -/
end M

set_option Elab.async false
set_option linter.all false
set_option maxRecDepth 1000000
set_option maxHeartbeats 400000
/-! more: comprehensions that draw, rows of neighbours' sums, sizes by a common bottom -/
namespace M
open PySem L2
/-! ### rows of neighbours' sums -/
/-! ### sizes by a common bottom -/
def comB : Int := 72201776446800
def Com (A : Nat) (q : Rat) : Prop := ∃ z : Int, z.natAbs ≤ A ∧ q = (z : Rat) * Rat.divInt 1 comB
theorem Com.add {A B : Nat} {p q : Rat} (hp : Com A p) (hq : Com B q) : Com (A + B) (p + q) := by
  obtain ⟨y, hy, rfl⟩ := hp
  obtain ⟨z, hz, rfl⟩ := hq
  exact ⟨y + z, by omega, by rw [Rat.intCast_add, Rat.add_mul]⟩
end M

set_option Elab.async false
set_option linter.all false
set_option maxRecDepth 1000000
set_option maxHeartbeats 400000
/-! polynomials: tuples of shares without a nought at the end -/
namespace M
open PySem L2
def trimN : List Rat → Nat
  | [] => 0
  | q :: l => if trimN l = 0 then (if q = 0 then 0 else 1) else trimN l + 1
def trim (l : List Rat) : List Rat := l.take (trimN l)
theorem trimN_le : ∀ l, trimN l ≤ l.length
  | [] => Nat.le_refl 0
  | q :: l => by
    have := trimN_le l
    rw [trimN, List.length_cons]
    split
    · split <;> omega
    · omega
/-! ### number_of, poly_scaled, poly_plus -/
def pscale (l : List Rat) (s : Rat) : List Rat := trim (l.map fun q => q * s)
def padd (l r : List Rat) : List Rat := trim ((List.range (max l.length r.length)).map fun k => l.getD k 0 + r.getD k 0)
end M

set_option Elab.async false
set_option linter.all false
set_option maxRecDepth 100000
set_option maxHeartbeats 400000
/-! polynomials as lists of shares: values, roots, what is done with them; sizes by a common bottom (no program here) -/
namespace M
open PySem L2
/-! ### sums -/
def rsum : Nat → (Nat → Rat) → Rat
  | 0, _ => 0
  | n + 1, f => rsum n f + f n
theorem rsum_congr {n : Nat} {f g : Nat → Rat} (h : ∀ k, k < n → f k = g k) : rsum n f = rsum n g := by
  induction n with
  | zero => rfl
  | succ n ih => rw [rsum, rsum, ih (fun k hk => h k (by omega)), h n (by omega)]
theorem rsum_mul (n : Nat) (f : Nat → Rat) (c : Rat) : rsum n (fun k => f k * c) = rsum n f * c := by
  induction n with
  | zero => simp [rsum]
  | succ n ih => simp only [rsum, ih]; grind
theorem rsum_shift (n : Nat) (f : Nat → Rat) : rsum (n + 1) f = f 0 + rsum n (fun k => f (k + 1)) := by
  induction n with
  | zero => simp only [rsum]; grind
  | succ n ih => rw [rsum, ih, rsum]; grind
/-! ### values -/
def pval : List Rat → Rat → Rat
  | [], _ => 0
  | c :: l, x => pval l x * x + c
theorem pval_eq : ∀ (l : List Rat) (x : Rat), pval l x = rsum l.length (fun k => l.getD k 0 * x ^ k)
  | [], x => rfl
  | c :: l, x => by
    rw [pval, pval_eq l x, List.length_cons, rsum_shift]
    have : rsum l.length (fun k => (c :: l).getD (k + 1) 0 * x ^ (k + 1)) = rsum l.length (fun k => l.getD k 0 * x ^ k * x) := rsum_congr fun k _ => by
      rw [List.getD_cons_succ]; grind
    rw [this, rsum_mul, List.getD_cons_zero]; grind
theorem getD_out {l : List Rat} {k : Nat} (h : l.length ≤ k) : l.getD k 0 = 0 := by
  rw [List.getD_eq_getElem?_getD, List.getElem?_eq_none h]; rfl
theorem getD_in {l : List Rat} {k : Nat} (h : k < l.length) : l.getD k 0 = l[k] := by
  rw [List.getD_eq_getElem?_getD, List.getElem?_eq_getElem h]; rfl
def pf (n : Nat) (f : Nat → Rat) : List Rat := (List.range n).map f
theorem pf_len (n : Nat) (f : Nat → Rat) : (pf n f).length = n := by simp [pf]
theorem pf_mem {n : Nat} {f : Nat → Rat} {q : Rat} (h : q ∈ pf n f) : ∃ k, k < n ∧ q = f k := by
  obtain ⟨k, hk, rfl⟩ := List.mem_map.mp h
  exact ⟨k, List.mem_range.mp hk, rfl⟩
/-! ### roots -/
theorem intCast_inj' {a b : Int} (h : (a : Rat) = (b : Rat)) : a = b := by
  have := congrArg Rat.num h
  simpa using this
/-! ### without noughts at the end -/
theorem trim_len (l : List Rat) : (trim l).length = trimN l := by
  unfold trim; rw [List.length_take, Nat.min_eq_left (trimN_le l)]
theorem trim_le (l : List Rat) : (trim l).length ≤ l.length := by rw [trim_len]; exact trimN_le l
theorem trim_mem {l : List Rat} {q : Rat} (h : q ∈ trim l) : q ∈ l := List.mem_of_mem_take h
/-- a polynomial: no nought at its end -/
def Tr (l : List Rat) : Prop := trim l = l
/-! ### plus, minus, times a number -/
def psub (l r : List Rat) : List Rat := trim ((List.range (max l.length r.length)).map fun k => l.getD k 0 - r.getD k 0)
/-! ### adding at places -/
def updR (s : Nat → Rat) (m : Nat) (v : Rat) : Nat → Rat := fun k => if k = m then v else s k
/-- s with each v added at its place -/
def acc (s : Nat → Rat) (ps : List (Nat × Rat)) : Nat → Rat := ps.foldl (fun s p => updR s p.1 (s p.1 + p.2)) s
theorem acc_cons (s : Nat → Rat) (p : Nat × Rat) (ps : List (Nat × Rat)) : acc s (p :: ps) = acc (updR s p.1 (s p.1 + p.2)) ps := rfl
/-! ### the product -/
def ptPs (l r : List Rat) (i : Nat) : List (Nat × Rat) := (List.range r.length).map fun j => (i + j, l.getD i 0 * r.getD j 0)
def ptAll (l r : List Rat) : List (Nat × Rat) := (List.range l.length).flatMap (ptPs l r)
def pmul (l r : List Rat) : List Rat := trim (pf (l.length + r.length) (acc (fun _ => 0) (ptAll l r)))
/-! ### moved -/
def pmPs (l : List Rat) (h : Rat) (k : Nat) : List (Nat × Rat) := (List.range (k + 1)).map fun j => (j, l.getD k 0 * (h ^ (k - j) * ((ch k j : Int) : Rat)))
def pmAll (l : List Rat) (h : Rat) : List (Nat × Rat) := (List.range l.length).flatMap (pmPs l h)
def pmove (l : List Rat) (h : Rat) : List Rat := trim (pf l.length (acc (fun _ => 0) (pmAll l h)))
/-! ### stretched, mirrored -/
def pstr (l : List Rat) (m : Rat) : List Rat := trim (pf l.length (fun k => l.getD k 0 * m ^ k))
/-! ### step, back step, pair -/
def pstep (l : List Rat) : List Rat := psub (pmove l 1) l
def pback (l : List Rat) : List Rat := psub l (pmove l (-1))
/-! ### sizes by a common bottom -/
def CobN (D A : Nat) (q : Rat) : Prop := ∃ z : Int, z.natAbs ≤ A ∧ q * ((D : Int) : Rat) = (z : Rat)
theorem CobN.mono {D A B : Nat} {q : Rat} (h : CobN D A q) (hl : A ≤ B) : CobN D B q := by
  obtain ⟨z, hz, e⟩ := h
  exact ⟨z, Nat.le_trans hz hl, e⟩
theorem CobN.add {D A B : Nat} {p q : Rat} (hp : CobN D A p) (hq : CobN D B q) : CobN D (A + B) (p + q) := by
  obtain ⟨y, hy, e1⟩ := hp
  obtain ⟨z, hz, e2⟩ := hq
  exact ⟨y + z, by omega, by rw [Rat.intCast_add, ← e1, ← e2]; grind⟩
theorem CobN.sub {D A B : Nat} {p q : Rat} (hp : CobN D A p) (hq : CobN D B q) : CobN D (A + B) (p - q) := by
  obtain ⟨y, hy, e1⟩ := hp
  obtain ⟨z, hz, e2⟩ := hq
  exact ⟨y - z, by omega, by rw [Rat.intCast_sub, ← e1, ← e2]; grind⟩
theorem CobN.neg {D A : Nat} {p : Rat} (hp : CobN D A p) : CobN D A (-p) := by
  obtain ⟨y, hy, e1⟩ := hp
  exact ⟨-y, by omega, by rw [Rat.intCast_neg, ← e1]; grind⟩
theorem natc_mul (a b : Nat) : (((a * b : Nat) : Int) : Rat) = ((a : Int) : Rat) * ((b : Int) : Rat) := by
  rw [Int.natCast_mul, Rat.intCast_mul]
theorem CobN.mul {D E A B : Nat} {p q : Rat} (hp : CobN D A p) (hq : CobN E B q) : CobN (D * E) (A * B) (p * q) := by
  obtain ⟨y, hy, e1⟩ := hp
  obtain ⟨z, hz, e2⟩ := hq
  refine ⟨y * z, by rw [Int.natAbs_mul]; exact Nat.mul_le_mul hy hz, ?_⟩
  rw [Rat.intCast_mul, ← e1, ← e2, natc_mul]; grind
theorem CobN.zero (D A : Nat) : CobN D A 0 := ⟨0, by simp, by rw [show ((0 : Int) : Rat) = 0 from rfl]; grind⟩
theorem CobN.int {A : Nat} {z : Int} (h : z.natAbs ≤ A) : CobN 1 A (z : Rat) := ⟨z, h, by rw [show (((1 : Nat) : Int) : Rat) = 1 from rfl]; grind⟩
theorem CobN.lift {D A : Nat} {q : Rat} (h : CobN D A q) (E : Nat) : CobN (D * E) (A * E) q := by
  have e : q * 1 = q := by grind
  rw [← e]
  refine h.mul (E := E) (B := E) (q := 1) ⟨(E : Int), by simp, by grind⟩
theorem CobN.pow {D A : Nat} {q : Rat} (h : CobN D A q) : ∀ n : Nat, CobN (D ^ n) (A ^ n) (q ^ n)
  | 0 => ⟨1, by simp, by rw [Rat.pow_zero, Nat.pow_zero]; rw [show (((1 : Nat) : Int) : Rat) = 1 from rfl, show ((1 : Int) : Rat) = 1 from rfl]; grind⟩
  | n + 1 => by
    rw [Rat.pow_succ, Nat.pow_succ, Nat.pow_succ]
    exact (h.pow n).mul h
theorem rat_num_mul (q : Rat) : q * ((q.den : Int) : Rat) = (q.num : Rat) := by
  have h := Rat.num_divInt_den q
  rw [Rat.divInt_eq_div] at h
  have h0 : ((q.den : Int) : Rat) ≠ 0 := fun e => by
    have := intCast_inj' (b := 0) e
    have := q.den_nz
    omega
  generalize hn : (q.num : Rat) = x at *
  generalize hd : ((q.den : Int) : Rat) = y at *
  rw [← h]; grind
theorem cobN_self (q : Rat) : CobN q.den q.num.natAbs q := ⟨q.num, Nat.le_refl _, rat_num_mul q⟩
theorem rsum_cob {D A : Nat} {n : Nat} {f : Nat → Rat} (h : ∀ k, k < n → CobN D A (f k)) : CobN D (n * A) (rsum n f) := by
  induction n with
  | zero => exact (CobN.zero D 0).mono (by omega)
  | succ n ih =>
    rw [rsum]
    exact ((ih fun k hk => h k (by omega)).add (h n (by omega))).mono (by rw [Nat.add_mul, Nat.one_mul]; exact Nat.le_refl _)
theorem acc_cob {D A : Nat} : ∀ (ps : List (Nat × Rat)) (s : Nat → Rat) (t : Nat), (∀ k, CobN D (t * A) (s k)) → (∀ p ∈ ps, CobN D A p.2) → ∀ k, CobN D ((t + ps.length) * A) (acc s ps k)
  | [], s, t, hs, _, k => hs k
  | p :: ps, s, t, hs, hp, k => by
    have := acc_cob ps (updR s p.1 (s p.1 + p.2)) (t + 1) (fun j => by
      unfold updR
      split
      · exact ((hs p.1).add (hp p List.mem_cons_self)).mono (by rw [Nat.add_mul, Nat.one_mul]; exact Nat.le_refl _)
      · exact (hs j).mono (Nat.mul_le_mul_right _ (by omega))) (fun q hq => hp q (List.mem_cons_of_mem _ hq)) k
    rw [acc_cons]
    refine this.mono (Nat.mul_le_mul_right _ ?_)
    rw [List.length_cons]; omega
theorem acc_cob0 {D A : Nat} {ps : List (Nat × Rat)} (hp : ∀ p ∈ ps, CobN D A p.2) (k : Nat) : CobN D (ps.length * A) (acc (fun _ => 0) ps k) := by
  have := acc_cob ps (fun _ => 0) 0 (fun _ => CobN.zero _ _) hp k
  rwa [Nat.zero_add] at this
/-- a polynomial over the bottom D below 2 ^ d, its tops up to 2 ^ a, of at most N numbers -/
structure Pz (D d a N : Nat) (l : List Rat) : Prop where
  D0 : D ≠ 0
  Dd : D < 2 ^ d
  c : ∀ q ∈ l, CobN D (2 ^ a) q
  len : l.length ≤ N
section
variable {D d a N : Nat} {l r : List Rat}
theorem Pz.get (h : Pz D d a N l) (k : Nat) : CobN D (2 ^ a) (l.getD k 0) := by
  by_cases hk : k < l.length
  · rw [getD_in hk]; exact h.c _ (List.getElem_mem hk)
  · rw [getD_out (by omega)]; exact CobN.zero _ _
theorem Pz.mono (h : Pz D d a N l) {d' a' N' : Nat} (h1 : d ≤ d') (h2 : a ≤ a') (h3 : N ≤ N') : Pz D d' a' N' l := ⟨h.D0, Nat.lt_of_lt_of_le h.Dd (pow_le h1), fun q hq => (h.c q hq).mono (pow_le h2), Nat.le_trans h.len h3⟩
theorem Pz.trim (h : Pz D d a N l) : Pz D d a N (trim l) := ⟨h.D0, h.Dd, fun q hq => h.c q (trim_mem hq), Nat.le_trans (trim_le l) h.len⟩
theorem Pz.nil (D0 : D ≠ 0) (Dd : D < 2 ^ d) : Pz D d a N [] := ⟨D0, Dd, fun q hq => (by cases hq), Nat.zero_le _⟩
theorem Pz.lift (h : Pz D d a N l) {E e : Nat} (E0 : E ≠ 0) (Ed : E < 2 ^ e) : Pz (D * E) (d + e) (a + e) N l := ⟨Nat.mul_ne_zero h.D0 E0, mul_lt_pow h.Dd Ed, fun q hq => ((h.c q hq).lift E).mono (by rw [Nat.pow_add]; exact Nat.mul_le_mul_left _ (Nat.le_of_lt Ed)), h.len⟩
theorem Pz.pf {n : Nat} {f : Nat → Rat} (D0 : D ≠ 0) (Dd : D < 2 ^ d) (hn : n ≤ N) (h : ∀ k, k < n → CobN D (2 ^ a) (f k)) : Pz D d a N (pf n f) := ⟨D0, Dd, fun q hq => by
  obtain ⟨k, hk, rfl⟩ := pf_mem hq
  exact h k hk, by rw [pf_len]; exact hn⟩
theorem Pz.add (h : Pz D d a N l) (h2 : Pz D d a N r) : Pz D d (a + 1) N (padd l r) := by
  refine Pz.trim (Pz.pf h.D0 h.Dd (Nat.max_le.mpr ⟨h.len, h2.len⟩) fun k _ => ?_)
  rw [Nat.pow_succ, Nat.mul_two]
  exact (h.get k).add (h2.get k)
theorem Pz.sub (h : Pz D d a N l) (h2 : Pz D d a N r) : Pz D d (a + 1) N (psub l r) := by
  refine Pz.trim (Pz.pf h.D0 h.Dd (Nat.max_le.mpr ⟨h.len, h2.len⟩) fun k _ => ?_)
  rw [Nat.pow_succ, Nat.mul_two]
  exact (h.get k).sub (h2.get k)
theorem len_flat {α β : Type} {f : α → List β} {m : Nat} : ∀ {l : List α}, (∀ x ∈ l, (f x).length ≤ m) → (l.flatMap f).length ≤ l.length * m
  | [], _ => by simp
  | x :: l, h => by
    have h1 := h x List.mem_cons_self
    have h2 := len_flat (f := f) (m := m) (l := l) fun y hy => h y (List.mem_cons_of_mem _ hy)
    rw [List.flatMap_cons, List.length_append, List.length_cons, Nat.add_mul, Nat.one_mul]; omega
theorem Pz.mul {E e b M t : Nat} (h : Pz D d a N l) (h2 : Pz E e b M r) (ht : N * M ≤ 2 ^ t) : Pz (D * E) (d + e) (a + b + t) (N + M) (pmul l r) := by
  refine Pz.trim (Pz.pf (Nat.mul_ne_zero h.D0 h2.D0) (mul_lt_pow h.Dd h2.Dd) (Nat.add_le_add h.len h2.len) fun k _ => ?_)
  have hp : ∀ p ∈ ptAll l r, CobN (D * E) (2 ^ a * 2 ^ b) p.2 := fun p hp => by
    obtain ⟨i, hi, hp⟩ := List.mem_flatMap.mp hp
    obtain ⟨j, hj, rfl⟩ := List.mem_map.mp hp
    exact (h.get i).mul (h2.get j)
  refine (acc_cob0 hp k).mono ?_
  have hl : (ptAll l r).length ≤ l.length * r.length := by
    have := len_flat (f := ptPs l r) (m := r.length) (l := List.range l.length) fun i _ => by simp [ptPs]
    rwa [List.length_range] at this
  have h3 : (ptAll l r).length ≤ 2 ^ t := Nat.le_trans hl (Nat.le_trans (Nat.mul_le_mul h.len h2.len) ht)
  rw [Nat.pow_add, Nat.pow_add, Nat.mul_comm]
  exact Nat.mul_le_mul_left _ h3
/-- a power of a number, over the bottom's greatest power -/
theorem cob_pow {E m K i : Nat} {q : Rat} (h : CobN E (2 ^ m) q) (hE : E ≤ 2 ^ m) (hi : i ≤ K) : CobN (E ^ K) (2 ^ (m * K)) (q ^ i) := by
  have h1 := (h.pow i).lift (E ^ (K - i))
  rw [← Nat.pow_add, show i + (K - i) = K by omega] at h1
  refine h1.mono ?_
  have : E ^ (K - i) ≤ (2 ^ m) ^ (K - i) := Nat.pow_le_pow_left hE _
  refine Nat.le_trans (Nat.mul_le_mul_left _ this) ?_
  rw [← Nat.pow_add, show i + (K - i) = K by omega, ← Nat.pow_mul]
  exact Nat.le_refl _
theorem pmAll_len : (pmAll l q).length ≤ l.length * l.length := by
  have := len_flat (f := pmPs l q) (m := l.length) (l := List.range l.length) fun i hi => by
    have := List.mem_range.mp hi
    simp [pmPs]; omega
  rwa [List.length_range] at this
theorem pm_cob {E m K : Nat} {q : Rat} (h : Pz D d a N l) (hq : CobN E (2 ^ m) q) (hE : E ≤ 2 ^ m) (hN : N ≤ K + 1) : ∀ p ∈ pmAll l q, CobN (D * E ^ K) (2 ^ (a + m * K + K)) p.2 := fun p hp => by
  obtain ⟨i, hi, hp⟩ := List.mem_flatMap.mp hp
  obtain ⟨j, hj, rfl⟩ := List.mem_map.mp hp
  have hi := List.mem_range.mp hi
  have hl := h.len
  have h1 : CobN 1 (2 ^ K) ((ch i j : Int) : Rat) := CobN.int (by
    rw [Int.natAbs_natCast]
    exact Nat.le_trans (ch_le i j) (pow_le (by omega)))
  have h2 := (cob_pow hq hE (show i - j ≤ K by omega)).mul h1
  have h3 := (h.get i).mul h2
  rw [Nat.mul_one, ← Nat.pow_add, ← Nat.pow_add] at h3
  rw [Nat.add_assoc]
  exact h3
theorem Pz.move {E m K t : Nat} {q : Rat} (h : Pz D d a N l) (hq : CobN E (2 ^ m) q) (E0 : E ≠ 0) (hE : E ≤ 2 ^ m) (hN : N ≤ K + 1) (ht : N * N ≤ 2 ^ t) : Pz (D * E ^ K) (d + m * K) (a + m * K + K + t) N (pmove l q) := by
  have hE2 : D * E ^ K < 2 ^ (d + m * K) := by
    rw [Nat.pow_add, Nat.pow_mul]
    exact Nat.mul_lt_mul_of_lt_of_le h.Dd (Nat.pow_le_pow_left hE K) (Nat.pow_pos (Nat.pow_pos (by decide)))
  refine Pz.trim (Pz.pf (Nat.mul_ne_zero h.D0 (Nat.ne_of_gt (Nat.pow_pos (Nat.pos_of_ne_zero E0)))) hE2 h.len fun k _ => ?_)
  refine (acc_cob0 (pm_cob h hq hE hN) k).mono ?_
  have h3 : (pmAll l q).length ≤ 2 ^ t := Nat.le_trans pmAll_len (Nat.le_trans (Nat.mul_le_mul h.len h.len) ht)
  rw [Nat.pow_add _ _ t, Nat.mul_comm]
  exact Nat.mul_le_mul_left _ h3
theorem Pz.moveZ {m K t : Nat} {z : Int} (h : Pz D d a N l) (hz : z.natAbs ≤ 2 ^ m) (hN : N ≤ K + 1) (ht : N * N ≤ 2 ^ t) : Pz D d (a + m * K + K + t) N (pmove l (z : Rat)) := by
  have := h.move (CobN.int hz) (by decide) Nat.one_le_two_pow hN ht
  rw [Nat.one_pow, Nat.mul_one] at this
  exact ⟨h.D0, h.Dd, this.c, this.len⟩
theorem Pz.str {E m K : Nat} {q : Rat} (h : Pz D d a N l) (hq : CobN E (2 ^ m) q) (E0 : E ≠ 0) (hE : E ≤ 2 ^ m) (hN : N ≤ K + 1) : Pz (D * E ^ K) (d + m * K) (a + m * K) N (pstr l q) := by
  have hl := h.len
  have hE2 : D * E ^ K < 2 ^ (d + m * K) := by
    rw [Nat.pow_add, Nat.pow_mul]
    exact Nat.mul_lt_mul_of_lt_of_le h.Dd (Nat.pow_le_pow_left hE K) (Nat.pow_pos (Nat.pow_pos (by decide)))
  refine Pz.trim (Pz.pf (Nat.mul_ne_zero h.D0 (Nat.ne_of_gt (Nat.pow_pos (Nat.pos_of_ne_zero E0)))) hE2 h.len fun k hk => ?_)
  have h3 := (h.get k).mul (cob_pow hq hE (show k ≤ K by omega))
  rwa [← Nat.pow_add] at h3
theorem Pz.val {E m K t : Nat} {q : Rat} (h : Pz D d a N l) (hq : CobN E (2 ^ m) q) (hE : E ≤ 2 ^ m) (hN : N ≤ K + 1) (ht : N ≤ 2 ^ t) : CobN (D * E ^ K) (2 ^ (a + m * K + t)) (pval l q) := by
  have hl := h.len
  rw [pval_eq]
  refine (rsum_cob (D := D * E ^ K) (A := 2 ^ (a + m * K)) fun k hk => ?_).mono ?_
  · have h3 := (h.get k).mul (cob_pow hq hE (show k ≤ K by omega))
    rwa [← Nat.pow_add] at h3
  · rw [Nat.pow_add _ _ t, Nat.mul_comm]
    exact Nat.mul_le_mul_left _ (by omega)
theorem Pz.drop (h : Pz D d a N l) (k : Nat) : Pz D d a N (l.drop k) := ⟨h.D0, h.Dd, fun q hq => h.c q (List.mem_of_mem_drop hq), by have := h.len; rw [List.length_drop]; omega⟩
end
def dens : List Rat → Nat
  | [] => 1
  | q :: l => q.den * dens l
theorem dens_pos : ∀ l, dens l ≠ 0
  | [] => by decide
  | q :: l => Nat.mul_ne_zero q.den_nz (dens_pos l)
theorem dens_dvd {q : Rat} : ∀ {l : List Rat}, q ∈ l → q.den ∣ dens l
  | p :: l, h => by
    rcases List.mem_cons.mp h with rfl | h
    · exact Nat.dvd_mul_right _ _
    · exact Nat.dvd_trans (dens_dvd h) (Nat.dvd_mul_left _ _)
theorem dens_lt {s : Nat} : ∀ {l : List Rat}, (∀ q ∈ l, Bd s q) → dens l < 2 ^ (s * l.length + 1)
  | [], _ => by simp [dens]
  | q :: l, h => by
    have h1 := (h q List.mem_cons_self).2
    have h2 := dens_lt (l := l) fun p hp => h p (List.mem_cons_of_mem _ hp)
    have := mul_lt_pow h1 h2
    rw [List.length_cons, show s * (l.length + 1) + 1 = s + (s * l.length + 1) by rw [Nat.mul_add, Nat.mul_one]; omega]
    exact this
theorem Pz.of {s N : Nat} {l : List Rat} (h : ∀ q ∈ l, Bd s q) (hl : l.length ≤ N) : Pz (dens l) (s * N + 1) (s + (s * N + 1)) N l := by
  have hd : dens l < 2 ^ (s * N + 1) := Nat.lt_of_lt_of_le (dens_lt h) (pow_le (Nat.add_le_add_right (Nat.mul_le_mul_left _ hl) 1))
  refine ⟨dens_pos l, hd, fun q hq => ?_, hl⟩
  obtain ⟨k, hk⟩ := dens_dvd hq
  rw [hk]
  have h1 := (cobN_self q).lift k
  refine h1.mono ?_
  rw [Nat.pow_add]
  refine Nat.mul_le_mul (Nat.le_of_lt (h q hq).1) ?_
  rw [hk] at hd
  exact Nat.le_of_lt (Nat.lt_of_le_of_lt (Nat.le_mul_of_pos_left _ q.den_pos) hd)
end M

set_option Elab.async false
set_option linter.all false
set_option maxRecDepth 1000000
set_option maxHeartbeats 400000
/-! the program's polynomials: what its functions promise -/
namespace M
open PySem L2
/-! ### trimmed, of a list that is lent -/
/-! ### power_of -/
/-! ### power_poly -/
/-! ### poly_minus -/
/-! ### value_at, and the laws' own -/
section
variable {Φ : Phi} {pl ti : Nat} (hp : Op2Ok (· + ·) (Φ pl)) (ht : Op2Ok (· * ·) (Φ ti))
include hp ht
end
end M

set_option Elab.async false
set_option linter.all false
set_option maxRecDepth 1000000
set_option maxHeartbeats 400000
/-! the program's polynomials: products, moved ones and the rest -/
namespace M
open PySem L2
/-! ### adding at places, step by step -/
/-! ### poly_times -/
end M

set_option Elab.async false
set_option linter.all false
set_option maxRecDepth 1000000
set_option maxHeartbeats 400000
/-! the program's polynomials: moved, stretched, mirrored, steps, means -/
namespace M
open PySem L2
/-! ### poly_moved -/
/-! ### stretched, mirrored -/
/-! ### step, back step, pair -/
theorem Pz.mov1 {D d a N : Nat} {l : List Rat} (h : Pz D d a N l) (hN : N ≤ 61) : Pz D d (a + 72) N (pmove l 1) := by
  have hNN : N * N ≤ 61 * 61 := Nat.mul_le_mul hN hN
  exact (h.moveZ (z := 1) (m := 0) (K := 60) (t := 12) (by decide) (by omega) (by omega)).mono (by omega) (by omega) (Nat.le_refl _)
theorem Pz.movm1 {D d a N : Nat} {l : List Rat} (h : Pz D d a N l) (hN : N ≤ 61) : Pz D d (a + 72) N (pmove l (-1)) := by
  have hNN : N * N ≤ 61 * 61 := Nat.mul_le_mul hN hN
  exact (h.moveZ (z := -1) (m := 0) (K := 60) (t := 12) (by decide) (by omega) (by omega)).mono (by omega) (by omega) (Nat.le_refl _)
theorem Pz.step {D d a N : Nat} {l : List Rat} (h : Pz D d a N l) (hN : N ≤ 61) : Pz D d (a + 73) N (pstep l) := (h.mov1 hN).sub (h.mono (Nat.le_refl _) (by omega) (Nat.le_refl _))
theorem Pz.back {D d a N : Nat} {l : List Rat} (h : Pz D d a N l) (hN : N ≤ 61) : Pz D d (a + 73) N (pback l) := (h.mono (Nat.le_refl _) (by omega) (Nat.le_refl _)).sub (h.movm1 hN)
/-! ### mean_of -/
end M

set_option Elab.async false
set_option linter.all false
set_option maxRecDepth 1000000
set_option maxHeartbeats 400000
/-! the laws' own polynomials: drawn ones, trimmed ones -/
namespace M
open PySem L2
/-! ### a polynomial by draws -/
/-! ### the laws' own trimming -/
end M

set_option Elab.async false
set_option linter.all false
set_option maxRecDepth 1000000
set_option maxHeartbeats 400000
/-! that a text can be made of nested tuples -/
namespace M
open PySem L2
/-- numbers of at most 577 figures, so deep, so many in all -/
structure Ft (k c : Nat) (d : D) : Prop where
  s : small 577 d = true
  dp : d.depth ≤ k
  ct : cnt d ≤ c
theorem b577 {n : Nat} (hn : n ≤ 1900) {z : Nat} (h : z < 2 ^ n) : z < 10 ^ 577 := by
  have e : (2 : Nat) ^ 1900 < 10 ^ 577 := by decide +kernel
  exact Nat.lt_trans (Nat.lt_of_lt_of_le h (pow_le hn)) e
theorem Ft.int {n : Nat} {z : Int} (hn : n ≤ 1900) (h : z.natAbs < 2 ^ n) : Ft 0 1 (.int z) :=
  ⟨small_int (b577 hn h), by simp [PyData.depth], by simp [cnt]⟩
theorem Ft.bool (b : Bool) : Ft 0 1 (.bool b) := ⟨rfl, by simp [PyData.depth], by simp [cnt]⟩
theorem Ft.none : Ft 0 1 .none := ⟨rfl, by simp [PyData.depth], by simp [cnt]⟩
theorem Ft.sh {n : Nat} {q : Rat} (hn : n ≤ 1900) (h : Bd n q) : Ft 1 3 (shD q) := by
  refine ⟨?_, by simp [shD, PyData.depth, PyData.depthAll], by simp [shD, cnt, cntA]⟩
  simp only [shD, small, smallA, Bool.and_true, Bool.and_eq_true, decide_eq_true_eq]
  exact ⟨b577 hn h.1, by simpa using b577 hn h.2⟩
theorem smallA_all {b : Nat} : ∀ {l : List D}, (∀ x ∈ l, small b x = true) → smallA b l = true
  | [], _ => rfl
  | x :: l, h => by
    rw [smallA, h x List.mem_cons_self, smallA_all fun y hy => h y (List.mem_cons_of_mem _ hy)]; rfl
theorem depthA_all {k : Nat} : ∀ {l : List D}, (∀ x ∈ l, x.depth ≤ k) → PyData.depthAll l ≤ k
  | [], _ => by simp [PyData.depthAll]
  | x :: l, h => by
    rw [PyData.depthAll]
    exact Nat.max_le.mpr ⟨h x List.mem_cons_self, depthA_all fun y hy => h y (List.mem_cons_of_mem _ hy)⟩
theorem cntA_all {k : Nat} : ∀ {l : List D}, (∀ x ∈ l, cnt x ≤ k) → cntA l ≤ k * l.length
  | [], _ => by simp [cntA]
  | x :: l, h => by
    have h1 := h x List.mem_cons_self
    have h2 := cntA_all fun y hy => h y (List.mem_cons_of_mem _ hy)
    rw [cntA, List.length_cons, Nat.mul_add, Nat.mul_one]
    omega
theorem Ft.tup {k c : Nat} {l : List D} (h : ∀ x ∈ l, Ft k c x) : Ft (k + 1) (1 + c * l.length) (.tuple l) := by
  refine ⟨?_, ?_, ?_⟩
  · rw [small]; exact smallA_all fun x hx => (h x hx).s
  · have := depthA_all fun x hx => (h x hx).dp
    simp only [PyData.depth]; omega
  · have := cntA_all fun x hx => (h x hx).ct
    simp only [cnt]; omega
theorem Ft.lst {k c : Nat} {l : List D} (h : ∀ x ∈ l, Ft k c x) : Ft (k + 1) (1 + c * l.length) (.list l) := by
  refine ⟨?_, ?_, ?_⟩
  · rw [small]; exact smallA_all fun x hx => (h x hx).s
  · have := depthA_all fun x hx => (h x hx).dp
    simp only [PyData.depth]; omega
  · have := cntA_all fun x hx => (h x hx).ct
    simp only [cnt]; omega
theorem Pz.neg {D d a N : Nat} {l : List Rat} (h : Pz D d a N l) : Pz D d a N (l.map (- ·)) := ⟨h.D0, h.Dd, fun q hq => by
  obtain ⟨p, hp, rfl⟩ := List.mem_map.mp hq
  exact (h.c p hp).neg, by rw [List.length_map]; exact h.len⟩
theorem Pz.app {D d a N M : Nat} {l r : List Rat} (h : Pz D d a N l) (h2 : Pz D d a M r) : Pz D d a (N + M) (l ++ r) := ⟨h.D0, h.Dd, fun q hq => by
  rcases List.mem_append.mp hq with hq | hq
  · exact h.c q hq
  · exact h2.c q hq, by rw [List.length_append]; exact Nat.add_le_add h.len h2.len⟩
end M

set_option Elab.async false
set_option linter.all false
set_option maxRecDepth 1000000
set_option maxHeartbeats 400000
/-! columns of differences, polynomials through values, numbers of stepping back -/
namespace M
open PySem L2
/-! ### differences of a function -/
/-! ### columns -/
/-! ### x (x + s) (x + 2 s) .. over its count -/
def rp (s : Int) : Nat → List Rat
  | 0 => [1]
  | k + 1 => pscale (pmul (rp s k) [(((k : Int) * s : Int) : Rat), 1]) (Rat.divInt 1 ((k + 1 : Nat) : Int))
/-! ### rising_sum -/
/-! ### what these products are -/
/-- the points -/
def xs (s : Int) (j : Nat) : Rat := ((0 - s * (j : Int) : Int) : Rat)
/-! ### poly_through -/
/-! ### numbers of stepping back -/
end M

set_option Elab.async false
set_option linter.all false
set_option maxRecDepth 1000000
set_option maxHeartbeats 400000
/-! the row's polynomials and what is summed by them (no program here) -/
namespace M
open PySem L2
/-! ### choices -/
/-! ### sums turned about -/
/-! ### the row -/
/-! ### the row's polynomials -/
/-! ### constants that grow by choices are nought -/
/-! ### alike by steps, by pairs -/
/-! ### summed -/
end M

set_option Elab.async false
set_option linter.all false
set_option maxRecDepth 1000000
set_option maxHeartbeats 400000
/-! signs in turn; sizes of what is summed (no program here) -/
namespace M
open PySem L2
/-! ### signed -/
/-! ### sizes -/
section
variable {D d a N : Nat} {l : List Rat}
end
end M

set_option Elab.async false
set_option linter.all false
set_option maxRecDepth 1000000
set_option maxHeartbeats 400000
/-! sums by the row: what the program's functions promise -/
namespace M
open PySem L2
/-! ### choose -/
/-! ### summed -/
/-! ### row_poly -/
/-! ### signed -/
end M

set_option Elab.async false
set_option linter.all false
set_option maxRecDepth 1000000
set_option maxHeartbeats 400000
/-! the later laws' own functions on polynomials -/
namespace M
open PySem L2
/-! ### numbers and polynomials by draws -/
/-! ### a number there, one and so many times another -/
/-! ### moved, by one factor x + h more each time -/
/-! ### the laws' look at shares and polynomials -/
end M

set_option Elab.async false
set_option linter.all false
set_option maxRecDepth 1000000
set_option maxHeartbeats 400000
/-! the row's polynomials mirrored, stretched; turn polynomials (no program here) -/
namespace M
open PySem L2
/-! ### mirrored at 1 -/
/-! ### stretched -/
end M

set_option Elab.async false
set_option linter.all false
set_option maxRecDepth 1000000
set_option maxHeartbeats 400000
/-! powers of whole numbers; polynomials spread; power sums -/
namespace M
open PySem L2
/-! ### whole powers -/
/-! ### spread -/
end M

set_option Elab.async false
set_option linter.all false
set_option maxRecDepth 1000000
set_option maxHeartbeats 400000
/-! sums of powers -/
namespace M
open PySem L2
/-! ### the program's -/
/-! ### how many, far -/
end M

set_option Elab.async false
set_option linter.all false
set_option maxRecDepth 1000000
set_option maxHeartbeats 400000
/-! primes by trial, the primes beneath a place -/
namespace M
open PySem L2
def isPr (n : Nat) : Bool := decide (2 ≤ n) && (List.range n).all fun d => decide (d < 2) || decide (n % d ≠ 0)
/-! ### the primes of a place -/
def pbn (n : Nat) : List Nat := if n = 1 then [2] else if n = 0 ∨ n % 2 = 1 then [] else ((List.range n).filter fun k => decide (n % (k + 1) = 0) && isPr (k + 2)).map (· + 2)
/-! ### whole_of -/
/-! ### lowest terms with the sign above -/
end M

set_option Elab.async false
set_option linter.all false
set_option maxRecDepth 1000000
set_option maxHeartbeats 400000
/-! rests of powers; sums over the numbers below -/
namespace M
open PySem L2
/-! ### sums of naturals -/
/-! ### the rest of a power -/
end M

set_option Elab.async false
set_option linter.all false
set_option maxRecDepth 1000000
set_option maxHeartbeats 400000
/-! far places, cut sums, the laws' lists of primes -/
namespace M
open PySem L2
/-! ### a list that grows -/
/-! ### numbers -/
theorem modN {x p : Nat} (h : 1 ≤ p) : binD .mod (.int (x : Int)) (.int (p : Int)) = some (.v (.int ((x % p : Nat) : Int))) := by
  rw [bo_mod (by omega), fmod_nat]
/-! ### cut sums -/
/-! the other way -/
/-! ### primes to a number, the law's own -/
/-! ### numbers in pieces, far places -/
/-! ### one round of the prime less 1 -/
end M

set_option Elab.async false
set_option linter.all false
set_option maxRecDepth 1000000
set_option maxHeartbeats 400000
/-! the program's looks at shares and polynomials; papers of sums that are right -/
namespace M
open PySem L2
/-! ### lets_summed, lets_signed of what is right -/
/-! ### signed_below -/
end M

set_option Elab.async false
set_option linter.all false
set_option maxRecDepth 100000
set_option maxHeartbeats 400000
/-! the rows of the table: three ways -/
namespace M
open PySem L2
/-- the row behind a row -/
def behI (r : List Int) : List Int := (List.range (r.length + 1)).map fun k => (r.drop (r.length - k)).sum
theorem behI_len (r : List Int) : (behI r).length = r.length + 1 := by simp [behI]
abbrev intsD (r : List Int) : List D := r.map PyData.int
theorem intsD_cons (x : Int) (r : List Int) : intsD (x :: r) = .int x :: intsD r := rfl
theorem intsD_rev (r : List Int) : intsD r.reverse = (intsD r).reverse := List.map_reverse
/-! ### step by step -/
def bSteps : Ss := 
  (.cons (.asg 1 (.lst (.cons (.c (.int 0)) .nil)))
  (.cons (.for_ (.n 2) (.rev (.v 0)) (
    (.cons (.ex (.meth .append 1 (.cons (.bin .add (.ix (.v 1) (.neg (.c (.int 1)))) (.v 2)) .nil)))
    (.cons (.kill [2]) .nil))))
  (.cons (.ret (.blt .tuple (.cons (.v 1) .nil))) .nil)))
/-- running sums from a number on -/
def runI : Int → List Int → List Int
  | _, [] => []
  | s, x :: r => (s + x) :: runI (s + x) r
theorem runI_len : ∀ (s : Int) (r : List Int), (runI s r).length = r.length
  | _, [] => rfl
  | s, x :: r => by simp [runI, runI_len]
theorem runI_get : ∀ (r : List Int) (s : Int) (k : Nat), k < r.length → (runI s r)[k]? = some (s + (r.take (k + 1)).sum)
  | [], s, k, h => by simp at h
  | x :: r, s, 0, h => by simp [runI]
  | x :: r, s, k + 1, h => by
    simp only [runI, List.getElem?_cons_succ, List.take_succ_cons, List.sum_cons]
    rw [runI_get r (s + x) k (by simpa using h)]
    congr 1; omega
theorem sum_rev (l : List Int) : l.reverse.sum = l.sum := by
  induction l with
  | nil => rfl
  | cons a l ih => rw [List.reverse_cons, List.sum_append, ih]; simp; omega
theorem run_beh (r : List Int) : 0 :: runI 0 r.reverse = behI r := by
  apply List.ext_getElem?
  intro k
  cases k with
  | zero => simp [behI]
  | succ k =>
    rw [List.getElem?_cons_succ]
    by_cases h : k < r.length
    · rw [runI_get _ _ _ (by simpa using h)]
      unfold behI
      rw [List.getElem?_map, List.getElem?_range (by omega)]
      simp only [Option.map_some, Int.zero_add]
      congr 1
      rw [List.take_reverse, sum_rev]
    · rw [List.getElem?_eq_none (by rw [runI_len, List.length_reverse]; omega), List.getElem?_eq_none (by rw [behI_len]; omega)]
theorem at_lastD (xs : List D) (v : D) : atI (xs ++ [v]) (-1) = some v := atI_last xs v
theorem steps_turn (Φ : Phi) (s0 : Slot) (acc : List D) (s x : Int) (h : acc.length < 990) : exSs Φ (.cons (.ex (.meth .append 1 (.cons (.bin .add (.ix (.v 1) (.neg (.c (.int 1)))) (.v 2)) .nil))) (.cons (.kill [2]) .nil)) [s0, .own none false (.l (acc ++ [.int s])), .val (.int x)] = .nx [s0, .own none false (.l (acc ++ [.int s] ++ [.int (s + x)])), .un] := by
  simp (disch := (first | assumption | (simp only [free_n, free_t, free_v, free_u, List.getElem?_cons_zero, List.getElem?_cons_succ, List.all_cons, List.all_nil, Bool.and_true, Bool.and_self]; done) | (simp only [List.length_cons, List.length_nil, List.length_append, List.length_map, List.length_zip, List.length_drop, List.length_take, List.length_range, List.length_reverse, List.length_set, List.length_replicate, List.length_zipIdx, List.length_tail, len_rngI]; omega) | exact sz_of (by simp only [List.length_cons, List.length_nil, List.length_append, List.length_map, List.length_zip, List.length_drop, List.length_take, List.length_range, List.length_reverse, List.length_set, List.length_replicate, List.length_zipIdx, List.length_tail, len_rngI]; omega) | omega | exact mulOk_l (by omega) | exact mulOk_r (by omega) | exact noPy (by omega) | exact okR_small (by omega) (by omega) | (apply And.intro <;> omega))) only [Int.reduceLT, Int.reduceLE, Int.reduceEq, Int.reduceNe, Int.reduceAdd, Int.reduceMul, Int.reduceSub, Int.reduceNeg, Int.reducePow, Int.reduceToNat, Nat.reduceAdd, Nat.reduceSub, Nat.reduceMul, Nat.reduceLT, Nat.reduceLeDiff, Nat.reduceEqDiff, Nat.reducePow, Int.cast_ofNat_Int, tst_false, tst_bool, R.of_some, R.of_none, List.getElem?_cons_zero, List.getElem?_cons_succ, List.set_cons_zero, List.set_cons_succ, List.length_cons, List.length_nil, List.cons_append, List.nil_append, List.replicate_zero, List.replicate_succ, Bool.not_true, Bool.not_false, decide_true, decide_false, Nat.zero_add, Nat.add_zero, List.all_cons, List.all_nil, Bool.and_true, Bool.true_and, Bool.and_self, st_bin, bin1_ok, bin2_ok, bin3_ok, st_neg, neg1_ok, st_cmp, cmp1_ok, cmp2_ok, cmp3_ok, st_chain, chn1_ok, chn2_ok, chn2b_ok, chn3_t, chn3_f, chn4_ok, st_and, and1_t, and1_f, st_or, or1_t, or1_f, st_not, not1_ok, st_ite, ite1_t, ite1_f, st_tup, tup1_ok, st_lst, lst1_ok, st_dct, dct0_ok, st_dc1, dcp1_i, dcp1_b, dcp1_s, st_dget, dget1_ok, dget2_ok, dget3_ok, st_rep, rep1_ok, st_ix, ix1_ok, ix2_ok, ix3_ok, st_sl, sl1_ok, sl2_ok, sl2b_ok, sl3_ok, sl4_ok, part_no, part_c, part_v, part_bin, part_neg, st_no, st_rev, rev1_ok, st_c, st_v, st_g, st_call, st_callp, callp1_ok, callp2_ok, callp2_ok2, call1_ok, callA_0, callA_1, callB_ok, callB_exc, callC_v, callC_f, callX_ok, slots_nil, slots_v, slots_f, slots_s, args_nil, args_cons, argC_ok, arg_v, arg_f, arg_s, argS_ok, put_nil, put_cons, put2_ok, st_blt, blt1_ok, blt2_ok, pks_nil, pks_cons, pkC_ok, st_lrng, lrng1_ok, st_isi, isi1_ok, isi2_ok, st_meth, meth1_ok, meth2_ok, meth3_ok, meth4_ok, meth_app, st_ext, ext0_ok, ext1_ok, st_comp, comp1_ok, comp2_ok, st_evs_nil, st_evs, evs1_ok, evs2_ok, settle_v, settle_f, settle_s, toD_l, st_evd_nil, st_evd, evd1_ok, evd2_ok, evd3_ok, frz_v, frz_f, frz_s, frzS_o, frzS_v, nm_s, nmS_v, nmS_o, pk_v, pk_f, pk_s, pkS_o, pkS_v, tst_ok, tst2_ok, truth_b, bindS, st_of, src0_ok, src1_l, src1_t, st_rng1, st_rng2, rg2_ok, st_rng3, rg3_ok, rg3b_ok, st_enum, en0_ok, en1_l, en1_t, st_zip, zp0_ok, zp1_ok, zp2_ok, zp3_ll, zp3_lt, zp3_tl, zp3_tt, st_srev, rv0_ok, rv1_l, rv1_t, st_cons, st_nil, seq_nx, seq_rt, seq_bk, seq_ct, seq_exc, st_mov, mov0_ok, mov1_u, mov1_v, mov1_o, st_asg, asg1_ok, asg2_fu, asg2_fv, asg2_fo, asg2_vu, asg2_vv, asg2_vo, asg2_su, asg2_sv, asg2_so, asg3_ok, st_par, par1_ok, par2_ok, par3_ok, par4_ok, st_unp, unp1_ok, unp2_ok, unp3_ok, tg_n, tg_2, tg_3, st_set, set0_ok, set1_ok, set2_ok, set3_ok, set4_ok, set5_ok, st_ex, ex1_ok, st_ret, ret1_ok, st_ret0, st_if, if1_t, if1_f, st_for, for1_ok, st_brk, st_cont, st_pass, st_kill, kill_nil, kill_cons, back_nil, back_cons, back2_ok, is_n, is_t, free_n, free_t, free_v, free_u, bo_add, bo_sub, cm_lt, cm_le, cm_gt, cm_ge, cm_eqi, cm_nei, cm_eqs, cm_nes, cm_isb, cm_isnotb, mapS, ix_l, ix_t, at_0, at_1, at_2, lk_cons, fn_lenl, fn_lent, fn_abs, fn_max, fn_min, fn_tupl, fn_tupt, fn_lisl, fn_list, fn_strs, fn_inti, fn_intb, body_0, body_1, body_2, body_3, body_4, body_5, body_6, end1_rt, end1_nx, end1_x, end2_v, end2_f, end2_s, end3_o, end3_v, endX_ok, outs_nil, outs_v, outs_o, out2_ok, as_nil, as_v, as_o, st_raise, raise_1s, raise_1i, raise_2si, raise_2ii, st_try, try_nx, try_rt, try_bk, try_ct, bo_mul, bo_mod, bo_div, bo_ll, bo_tt, rg1_ok, rg2b_ok, lrng2_ok, ext2_ok, rep2_ok, at_lastD]
theorem steps_loop (Φ : Phi) (s0 : Slot) : ∀ (r : List Int) (acc : List D) (s : Int), acc.length + r.length < 980 → forK Φ (.n 2) (.cons (.ex (.meth .append 1 (.cons (.bin .add (.ix (.v 1) (.neg (.c (.int 1)))) (.v 2)) .nil))) (.cons (.kill [2]) .nil)) (intsD r) [s0, .own none false (.l (acc ++ [.int s])), .un] = .nx [s0, .own none false (.l (acc ++ [.int s] ++ intsD (runI s r))), .un]
  | [], acc, s, _ => by simp [forK_nil, runI]
  | x :: r, acc, s, h => by
    rw [List.length_cons] at h
    have ih := steps_loop Φ s0 r (acc ++ [.int s]) (s + x) (by simp only [List.length_append, List.length_cons, List.length_nil]; omega)
    have e := steps_turn Φ s0 acc s x (by omega)
    rw [intsD_cons, forK_cons _ _ (tg_n _ _ _) e rfl, ih]
    simp [runI]
theorem steps_ok (Φ : Phi) (r : List Int) (hr : r.length ≤ 900) : body Φ 3 1 bSteps [.val (.tuple (intsD r))] = .ok (.v (.tuple (intsD (behI r)))) [] := by
  generalize hy : body Φ 3 1 bSteps [.val (.tuple (intsD r))] = y
  have l := steps_loop Φ (.val (.tuple (intsD r))) r.reverse [] 0 (by simp only [List.length_nil, List.length_reverse]; omega)
  simp only [List.nil_append] at l
  rw [intsD_rev] at l
  simp (disch := (first | assumption | (simp only [free_n, free_t, free_v, free_u, List.getElem?_cons_zero, List.getElem?_cons_succ, List.all_cons, List.all_nil, Bool.and_true, Bool.and_self]; done) | (simp only [List.length_cons, List.length_nil, List.length_append, List.length_map, List.length_zip, List.length_drop, List.length_take, List.length_range, List.length_reverse, List.length_set, List.length_replicate, List.length_zipIdx, List.length_tail, len_rngI]; omega) | exact sz_of (by simp only [List.length_cons, List.length_nil, List.length_append, List.length_map, List.length_zip, List.length_drop, List.length_take, List.length_range, List.length_reverse, List.length_set, List.length_replicate, List.length_zipIdx, List.length_tail, len_rngI]; omega) | omega | exact mulOk_l (by omega) | exact mulOk_r (by omega) | exact noPy (by omega) | exact okR_small (by omega) (by omega) | (apply And.intro <;> omega))) only [Int.reduceLT, Int.reduceLE, Int.reduceEq, Int.reduceNe, Int.reduceAdd, Int.reduceMul, Int.reduceSub, Int.reduceNeg, Int.reducePow, Int.reduceToNat, Nat.reduceAdd, Nat.reduceSub, Nat.reduceMul, Nat.reduceLT, Nat.reduceLeDiff, Nat.reduceEqDiff, Nat.reducePow, Int.cast_ofNat_Int, tst_false, tst_bool, R.of_some, R.of_none, List.getElem?_cons_zero, List.getElem?_cons_succ, List.set_cons_zero, List.set_cons_succ, List.length_cons, List.length_nil, List.cons_append, List.nil_append, List.replicate_zero, List.replicate_succ, Bool.not_true, Bool.not_false, decide_true, decide_false, Nat.zero_add, Nat.add_zero, List.all_cons, List.all_nil, Bool.and_true, Bool.true_and, Bool.and_self, st_bin, bin1_ok, bin2_ok, bin3_ok, st_neg, neg1_ok, st_cmp, cmp1_ok, cmp2_ok, cmp3_ok, st_chain, chn1_ok, chn2_ok, chn2b_ok, chn3_t, chn3_f, chn4_ok, st_and, and1_t, and1_f, st_or, or1_t, or1_f, st_not, not1_ok, st_ite, ite1_t, ite1_f, st_tup, tup1_ok, st_lst, lst1_ok, st_dct, dct0_ok, st_dc1, dcp1_i, dcp1_b, dcp1_s, st_dget, dget1_ok, dget2_ok, dget3_ok, st_rep, rep1_ok, st_ix, ix1_ok, ix2_ok, ix3_ok, st_sl, sl1_ok, sl2_ok, sl2b_ok, sl3_ok, sl4_ok, part_no, part_c, part_v, part_bin, part_neg, st_no, st_rev, rev1_ok, st_c, st_v, st_g, st_call, st_callp, callp1_ok, callp2_ok, callp2_ok2, call1_ok, callA_0, callA_1, callB_ok, callB_exc, callC_v, callC_f, callX_ok, slots_nil, slots_v, slots_f, slots_s, args_nil, args_cons, argC_ok, arg_v, arg_f, arg_s, argS_ok, put_nil, put_cons, put2_ok, st_blt, blt1_ok, blt2_ok, pks_nil, pks_cons, pkC_ok, st_lrng, lrng1_ok, st_isi, isi1_ok, isi2_ok, st_meth, meth1_ok, meth2_ok, meth3_ok, meth4_ok, meth_app, st_ext, ext0_ok, ext1_ok, st_comp, comp1_ok, comp2_ok, st_evs_nil, st_evs, evs1_ok, evs2_ok, settle_v, settle_f, settle_s, toD_l, st_evd_nil, st_evd, evd1_ok, evd2_ok, evd3_ok, frz_v, frz_f, frz_s, frzS_o, frzS_v, nm_s, nmS_v, nmS_o, pk_v, pk_f, pk_s, pkS_o, pkS_v, tst_ok, tst2_ok, truth_b, bindS, st_of, src0_ok, src1_l, src1_t, st_rng1, st_rng2, rg2_ok, st_rng3, rg3_ok, rg3b_ok, st_enum, en0_ok, en1_l, en1_t, st_zip, zp0_ok, zp1_ok, zp2_ok, zp3_ll, zp3_lt, zp3_tl, zp3_tt, st_srev, rv0_ok, rv1_l, rv1_t, st_cons, st_nil, seq_nx, seq_rt, seq_bk, seq_ct, seq_exc, st_mov, mov0_ok, mov1_u, mov1_v, mov1_o, st_asg, asg1_ok, asg2_fu, asg2_fv, asg2_fo, asg2_vu, asg2_vv, asg2_vo, asg2_su, asg2_sv, asg2_so, asg3_ok, st_par, par1_ok, par2_ok, par3_ok, par4_ok, st_unp, unp1_ok, unp2_ok, unp3_ok, tg_n, tg_2, tg_3, st_set, set0_ok, set1_ok, set2_ok, set3_ok, set4_ok, set5_ok, st_ex, ex1_ok, st_ret, ret1_ok, st_ret0, st_if, if1_t, if1_f, st_for, for1_ok, st_brk, st_cont, st_pass, st_kill, kill_nil, kill_cons, back_nil, back_cons, back2_ok, is_n, is_t, free_n, free_t, free_v, free_u, bo_add, bo_sub, cm_lt, cm_le, cm_gt, cm_ge, cm_eqi, cm_nei, cm_eqs, cm_nes, cm_isb, cm_isnotb, mapS, ix_l, ix_t, at_0, at_1, at_2, lk_cons, fn_lenl, fn_lent, fn_abs, fn_max, fn_min, fn_tupl, fn_tupt, fn_lisl, fn_list, fn_strs, fn_inti, fn_intb, body_0, body_1, body_2, body_3, body_4, body_5, body_6, end1_rt, end1_nx, end1_x, end2_v, end2_f, end2_s, end3_o, end3_v, endX_ok, outs_nil, outs_v, outs_o, out2_ok, as_nil, as_v, as_o, st_raise, raise_1s, raise_1i, raise_2si, raise_2ii, st_try, try_nx, try_rt, try_bk, try_ct, bo_mul, bo_mod, bo_div, bo_ll, bo_tt, rg1_ok, rg2b_ok, lrng2_ok, ext2_ok, rep2_ok, bSteps, l] at hy
  subst hy
  rw [← run_beh]
  rfl
/-! ### as the laws add -/
end M

set_option Elab.async false
set_option linter.all false
set_option maxRecDepth 1000000
set_option maxHeartbeats 400000
/-! the table and the counts of rows that go up and down; what stands beneath; rests of shares -/
namespace M
open PySem L2
def tabI : Nat → List Int
  | 0 => [1]
  | n + 1 => behI (tabI n)
theorem tabI_len : ∀ n, (tabI n).length = n + 1
  | 0 => rfl
  | n + 1 => by rw [tabI, behI_len, tabI_len n]
def zz (n : Nat) : Int := (tabI n).getD n 0
/-- the rows of the table -/
def tb (k : Nat) : D := .tuple (intsD (tabI k))
def rows (n : Nat) : List D := (List.range n).map tb ++ [tb n]
theorem rows_len (n : Nat) : (rows n).length = n + 1 := by simp [rows]
theorem rows_snoc (n : Nat) : rows n ++ [tb (n + 1)] = rows (n + 1) := by
  unfold rows
  rw [List.range_succ, List.map_append]; rfl
theorem rows_last (n : Nat) : atI (rows n) (-1) = some (tb n) := at_lastD _ _
theorem rows_at {n k : Nat} (hk : k ≤ n) : atI (rows n) (k : Int) = some (tb k) := by
  rw [at_n]
  unfold rows
  rcases Nat.lt_or_ge k n with h | h
  · rw [List.getElem?_append_left (by simpa using h), List.getElem?_map, List.getElem?_range h]; rfl
  · have : k = n := by omega
    subst this
    rw [List.getElem?_append_right (by simp)]; simp
theorem tb_at (n : Nat) : atI (intsD (tabI n)) (n : Int) = some (.int (zz n)) := by
  have := tabI_len n
  rw [at_n, List.getElem?_map, List.getElem?_eq_getElem (by omega)]
  unfold zz
  rw [List.getD_eq_getElem?_getD, List.getElem?_eq_getElem (by omega)]; rfl
def BehOk (f : Sem) : Prop := ∀ r : List Int, r.length ≤ 900 → f [.val (.tuple (intsD r))] = .ok (.v (.tuple (intsD (behI r)))) []
def TabOk (f : Sem) : Prop := ∀ n : Nat, n ≤ 40 → f [.val (.int (n : Int))] = .ok (.v (.tuple (rows n))) []
def ZzOk (f : Sem) : Prop := ∀ n : Nat, n ≤ 40 → f [.val (.int (n : Int))] = .ok (.v (.int (zz n))) []
def cTb : E := (.cmp .le (.blt .len (.cons (.v 1) .nil)) (.v 0))
def bTbI (j : Nat) : Ss := ((.cons (.ex (.meth .append 1 (.cons (.call j (.cons (.ix (.v 1) (.neg (.c (.int 1)))) .nil)) .nil))) .nil))
def bTb (j : Nat) : Ss := (.cons (.asg 1 (.lst (.cons (.tup (.cons (.c (.int 1)) .nil)) .nil))) (.cons (.wh cTb (bTbI j)) (.cons (.ret (.blt .tuple (.cons (.v 1) .nil))) .nil)))
def bTn (j : Nat) : Ss := (.cons (.ret (.ix (.ix (.call j (.cons (.v 0) .nil)) (.v 0)) (.v 0))) .nil)
theorem stepsB_ok (Φ : Phi) : BehOk (body Φ 3 1 bSteps) := fun r hr => steps_ok Φ r hr
section
variable {Φ : Phi}
theorem tbs {n : Nat} {f : Sem} (h : BehOk f) (hn : n ≤ 40) : f [.val (tb n)] = .ok (.v (tb (n + 1))) [] := h (tabI n) (by rw [tabI_len]; omega)
theorem table_ok {sj : Nat} (w19 : BehOk (Φ sj)) : TabOk (body Φ 2 1 (bTb sj)) := by
  intro n hn
  have cev : ∀ k, k ≤ n → ev Φ true cTb [.val (.int (n : Int)), .own none false (.l (rows k))] = .ok (.v (.bool (decide (k < n)))) [.val (.int (n : Int)), .own none false (.l (rows k))] := fun k hk => by
    have e : cmpD .le (.int ((rows k).length : Int)) (.int (n : Int)) = some (decide (k < n)) := by
      rw [rows_len]
      show some (decide (((k + 1 : Nat) : Int) ≤ (n : Int))) = _
      congr 1
      rw [decide_eq_decide]; omega
    simp only [Int.reduceLT, Int.reduceLE, Int.reduceEq, Int.reduceNe, Int.reduceAdd, Int.reduceMul, Int.reduceSub, Int.reduceNeg, Int.reducePow, Int.reduceToNat, Nat.reduceAdd, Nat.reduceSub, Nat.reduceMul, Nat.reduceLT, Nat.reduceLeDiff, Nat.reduceEqDiff, Nat.reducePow, Int.cast_ofNat_Int, tst_false, tst_bool, R.of_some, R.of_none, List.getElem?_cons_zero, List.getElem?_cons_succ, List.set_cons_zero, List.set_cons_succ, List.length_cons, List.length_nil, List.cons_append, List.nil_append, List.replicate_zero, List.replicate_succ, Bool.not_true, Bool.not_false, decide_true, decide_false, Nat.zero_add, Nat.add_zero, List.all_cons, List.all_nil, Bool.and_true, Bool.true_and, Bool.and_self, st_bin, bin1_ok, bin2_ok, bin3_ok, st_neg, neg1_ok, st_cmp, cmp1_ok, cmp2_ok, cmp3_ok, st_chain, chn1_ok, chn2_ok, chn2b_ok, chn3_t, chn3_f, chn4_ok, st_and, and1_t, and1_f, st_or, or1_t, or1_f, st_not, not1_ok, st_ite, ite1_t, ite1_f, st_tup, tup1_ok, st_lst, lst1_ok, st_dct, dct0_ok, st_dc1, dcp1_i, dcp1_b, dcp1_s, st_dget, dget1_ok, dget2_ok, dget3_ok, st_rep, rep1_ok, st_ix, ix1_ok, ix2_ok, ix3_ok, st_sl, sl1_ok, sl2_ok, sl2b_ok, sl3_ok, sl4_ok, part_no, part_c, part_v, part_bin, part_neg, st_no, st_rev, rev1_ok, st_c, st_v, st_g, st_call, st_callp, callp1_ok, callp2_ok, callp2_ok2, call1_ok, callA_0, callA_1, callB_ok, callB_exc, callC_v, callC_f, callX_ok, slots_nil, slots_v, slots_f, slots_s, args_nil, args_cons, argC_ok, arg_v, arg_f, arg_s, argS_ok, put_nil, put_cons, put2_ok, st_blt, blt1_ok, blt2_ok, pks_nil, pks_cons, pkC_ok, st_lrng, lrng1_ok, st_isi, isi1_ok, isi2_ok, st_meth, meth1_ok, meth2_ok, meth3_ok, meth4_ok, meth_app, st_ext, ext0_ok, ext1_ok, st_comp, comp1_ok, comp2_ok, st_evs_nil, st_evs, evs1_ok, evs2_ok, settle_v, settle_f, settle_s, toD_l, st_evd_nil, st_evd, evd1_ok, evd2_ok, evd3_ok, frz_v, frz_f, frz_s, frzS_o, frzS_v, nm_s, nmS_v, nmS_o, pk_v, pk_f, pk_s, pkS_o, pkS_v, tst_ok, tst2_ok, truth_b, bindS, st_of, src0_ok, src1_l, src1_t, st_rng1, st_rng2, rg2_ok, st_rng3, rg3_ok, rg3b_ok, st_enum, en0_ok, en1_l, en1_t, st_zip, zp0_ok, zp1_ok, zp2_ok, zp3_ll, zp3_lt, zp3_tl, zp3_tt, st_srev, rv0_ok, rv1_l, rv1_t, st_cons, st_nil, seq_nx, seq_rt, seq_bk, seq_ct, seq_exc, st_mov, mov0_ok, mov1_u, mov1_v, mov1_o, st_asg, asg1_ok, asg2_fu, asg2_fv, asg2_fo, asg2_vu, asg2_vv, asg2_vo, asg2_su, asg2_sv, asg2_so, asg3_ok, st_par, par1_ok, par2_ok, par3_ok, par4_ok, st_unp, unp1_ok, unp2_ok, unp3_ok, tg_n, tg_2, tg_3, st_set, set0_ok, set1_ok, set2_ok, set3_ok, set4_ok, set5_ok, st_ex, ex1_ok, st_ret, ret1_ok, st_ret0, st_if, if1_t, if1_f, st_for, for1_ok, st_brk, st_cont, st_pass, st_kill, kill_nil, kill_cons, back_nil, back_cons, back2_ok, is_n, is_t, free_n, free_t, free_v, free_u, bo_add, bo_sub, cm_lt, cm_le, cm_gt, cm_ge, cm_eqi, cm_nei, cm_eqs, cm_nes, cm_isb, cm_isnotb, mapS, ix_l, ix_t, at_0, at_1, at_2, lk_cons, fn_lenl, fn_lent, fn_abs, fn_max, fn_min, fn_tupl, fn_tupt, fn_lisl, fn_list, fn_strs, fn_inti, fn_intb, body_0, body_1, body_2, body_3, body_4, body_5, body_6, end1_rt, end1_nx, end1_x, end2_v, end2_f, end2_s, end3_o, end3_v, endX_ok, outs_nil, outs_v, outs_o, out2_ok, as_nil, as_v, as_o, st_raise, raise_1s, raise_1i, raise_2si, raise_2ii, st_try, try_nx, try_rt, try_bk, try_ct, cTb, e]
  obtain ⟨ρ2, e, ⟨k, hk, rfl⟩, e2⟩ := whK_inv (Φ := Φ) (c := cTb) (b := (bTbI sj)) (I := fun ρ => ∃ k, k ≤ n ∧ ρ = [.val (.int (n : Int)), .own none false (.l (rows k))])
    (m := fun ρ => match ρ with | [_, .own _ _ (.l xs)] => n + 1 - xs.length | _ => 0) (by
      rintro ρ ⟨k, hk, rfl⟩
      refine ⟨_, cev k hk, fun h => ?_⟩
      have hk1 : k < n := of_decide_eq_true h
      have hlen : (rows k).length < 1000 := by rw [rows_len]; omega
      refine ⟨[.val (.int (n : Int)), .own none false (.l (rows (k + 1)))], ?_, ⟨k + 1, hk1, rfl⟩, ?_⟩
      · have e := tbs w19 (n := k) (by omega)
        rw [← rows_snoc]
        simp (disch := (first | assumption | (simp only [free_n, free_t, free_v, free_u, List.getElem?_cons_zero, List.getElem?_cons_succ, List.all_cons, List.all_nil, Bool.and_true, Bool.and_self]; done) | (simp only [List.length_cons, List.length_nil, List.length_append, List.length_map, List.length_zip, List.length_drop, List.length_take, List.length_range, List.length_reverse, List.length_set, List.length_replicate, List.length_zipIdx, List.length_tail, len_rngI]; omega) | exact sz_of (by simp only [List.length_cons, List.length_nil, List.length_append, List.length_map, List.length_zip, List.length_drop, List.length_take, List.length_range, List.length_reverse, List.length_set, List.length_replicate, List.length_zipIdx, List.length_tail, len_rngI]; omega) | omega | exact mulOk_l (by omega) | exact mulOk_r (by omega) | exact noPy (by omega) | exact okR_small (by omega) (by omega) | (apply And.intro <;> omega))) only [Int.reduceLT, Int.reduceLE, Int.reduceEq, Int.reduceNe, Int.reduceAdd, Int.reduceMul, Int.reduceSub, Int.reduceNeg, Int.reducePow, Int.reduceToNat, Nat.reduceAdd, Nat.reduceSub, Nat.reduceMul, Nat.reduceLT, Nat.reduceLeDiff, Nat.reduceEqDiff, Nat.reducePow, Int.cast_ofNat_Int, tst_false, tst_bool, R.of_some, R.of_none, List.getElem?_cons_zero, List.getElem?_cons_succ, List.set_cons_zero, List.set_cons_succ, List.length_cons, List.length_nil, List.cons_append, List.nil_append, List.replicate_zero, List.replicate_succ, Bool.not_true, Bool.not_false, decide_true, decide_false, Nat.zero_add, Nat.add_zero, List.all_cons, List.all_nil, Bool.and_true, Bool.true_and, Bool.and_self, st_bin, bin1_ok, bin2_ok, bin3_ok, st_neg, neg1_ok, st_cmp, cmp1_ok, cmp2_ok, cmp3_ok, st_chain, chn1_ok, chn2_ok, chn2b_ok, chn3_t, chn3_f, chn4_ok, st_and, and1_t, and1_f, st_or, or1_t, or1_f, st_not, not1_ok, st_ite, ite1_t, ite1_f, st_tup, tup1_ok, st_lst, lst1_ok, st_dct, dct0_ok, st_dc1, dcp1_i, dcp1_b, dcp1_s, st_dget, dget1_ok, dget2_ok, dget3_ok, st_rep, rep1_ok, st_ix, ix1_ok, ix2_ok, ix3_ok, st_sl, sl1_ok, sl2_ok, sl2b_ok, sl3_ok, sl4_ok, part_no, part_c, part_v, part_bin, part_neg, st_no, st_rev, rev1_ok, st_c, st_v, st_g, st_call, st_callp, callp1_ok, callp2_ok, callp2_ok2, call1_ok, callA_0, callA_1, callB_ok, callB_exc, callC_v, callC_f, callX_ok, slots_nil, slots_v, slots_f, slots_s, args_nil, args_cons, argC_ok, arg_v, arg_f, arg_s, argS_ok, put_nil, put_cons, put2_ok, st_blt, blt1_ok, blt2_ok, pks_nil, pks_cons, pkC_ok, st_lrng, lrng1_ok, st_isi, isi1_ok, isi2_ok, st_meth, meth1_ok, meth2_ok, meth3_ok, meth4_ok, meth_app, st_ext, ext0_ok, ext1_ok, st_comp, comp1_ok, comp2_ok, st_evs_nil, st_evs, evs1_ok, evs2_ok, settle_v, settle_f, settle_s, toD_l, st_evd_nil, st_evd, evd1_ok, evd2_ok, evd3_ok, frz_v, frz_f, frz_s, frzS_o, frzS_v, nm_s, nmS_v, nmS_o, pk_v, pk_f, pk_s, pkS_o, pkS_v, tst_ok, tst2_ok, truth_b, bindS, st_of, src0_ok, src1_l, src1_t, st_rng1, st_rng2, rg2_ok, st_rng3, rg3_ok, rg3b_ok, st_enum, en0_ok, en1_l, en1_t, st_zip, zp0_ok, zp1_ok, zp2_ok, zp3_ll, zp3_lt, zp3_tl, zp3_tt, st_srev, rv0_ok, rv1_l, rv1_t, st_cons, st_nil, seq_nx, seq_rt, seq_bk, seq_ct, seq_exc, st_mov, mov0_ok, mov1_u, mov1_v, mov1_o, st_asg, asg1_ok, asg2_fu, asg2_fv, asg2_fo, asg2_vu, asg2_vv, asg2_vo, asg2_su, asg2_sv, asg2_so, asg3_ok, st_par, par1_ok, par2_ok, par3_ok, par4_ok, st_unp, unp1_ok, unp2_ok, unp3_ok, tg_n, tg_2, tg_3, st_set, set0_ok, set1_ok, set2_ok, set3_ok, set4_ok, set5_ok, st_ex, ex1_ok, st_ret, ret1_ok, st_ret0, st_if, if1_t, if1_f, st_for, for1_ok, st_brk, st_cont, st_pass, st_kill, kill_nil, kill_cons, back_nil, back_cons, back2_ok, is_n, is_t, free_n, free_t, free_v, free_u, bo_add, bo_sub, cm_lt, cm_le, cm_gt, cm_ge, cm_eqi, cm_nei, cm_eqs, cm_nes, cm_isb, cm_isnotb, mapS, ix_l, ix_t, at_0, at_1, at_2, lk_cons, fn_lenl, fn_lent, fn_abs, fn_max, fn_min, fn_tupl, fn_tupt, fn_lisl, fn_list, fn_strs, fn_inti, fn_intb, body_0, body_1, body_2, body_3, body_4, body_5, body_6, end1_rt, end1_nx, end1_x, end2_v, end2_f, end2_s, end3_o, end3_v, endX_ok, outs_nil, outs_v, outs_o, out2_ok, as_nil, as_v, as_o, st_raise, raise_1s, raise_1i, raise_2si, raise_2ii, st_try, try_nx, try_rt, try_bk, try_ct, bo_mul, bo_mod, bo_div, bo_ll, bo_tt, rg1_ok, rg2b_ok, lrng2_ok, ext2_ok, rep2_ok, bTbI, rows_last, e, meth_app _ _ hlen]
      · simp only [rows_len]; omega) (n := FUEL) (ρ := [.val (.int (n : Int)), .own none false (.l (rows 0))]) ⟨0, by omega, rfl⟩ (by
      have : FUEL = 1000000000000000000 := by decide +kernel
      rw [this]; simp only [rows_len]; omega)
  have hkn : k = n := by
    rw [cev k hk] at e2
    rcases Nat.lt_or_ge k n with z | z
    · rw [decide_eq_true z] at e2; simp at e2
    · omega
  subst hkn
  have e' : whK Φ cTb (bTbI sj) FUEL [.val (.int (k : Int)), .own none false (.l [.tuple [.int 1]])] = .nx [.val (.int (k : Int)), .own none false (.l (rows k))] := e
  generalize hy : body Φ 2 1 (bTb sj) [.val (.int (k : Int))] = y
  simp (disch := (first | assumption | (simp only [free_n, free_t, free_v, free_u, List.getElem?_cons_zero, List.getElem?_cons_succ, List.all_cons, List.all_nil, Bool.and_true, Bool.and_self]; done) | (simp only [List.length_cons, List.length_nil, List.length_append, List.length_map, List.length_zip, List.length_drop, List.length_take, List.length_range, List.length_reverse, List.length_set, List.length_replicate, List.length_zipIdx, List.length_tail, len_rngI]; omega) | exact sz_of (by simp only [List.length_cons, List.length_nil, List.length_append, List.length_map, List.length_zip, List.length_drop, List.length_take, List.length_range, List.length_reverse, List.length_set, List.length_replicate, List.length_zipIdx, List.length_tail, len_rngI]; omega) | omega | exact mulOk_l (by omega) | exact mulOk_r (by omega) | exact noPy (by omega) | exact okR_small (by omega) (by omega) | (apply And.intro <;> omega))) only [Int.reduceLT, Int.reduceLE, Int.reduceEq, Int.reduceNe, Int.reduceAdd, Int.reduceMul, Int.reduceSub, Int.reduceNeg, Int.reducePow, Int.reduceToNat, Nat.reduceAdd, Nat.reduceSub, Nat.reduceMul, Nat.reduceLT, Nat.reduceLeDiff, Nat.reduceEqDiff, Nat.reducePow, Int.cast_ofNat_Int, tst_false, tst_bool, R.of_some, R.of_none, List.getElem?_cons_zero, List.getElem?_cons_succ, List.set_cons_zero, List.set_cons_succ, List.length_cons, List.length_nil, List.cons_append, List.nil_append, List.replicate_zero, List.replicate_succ, Bool.not_true, Bool.not_false, decide_true, decide_false, Nat.zero_add, Nat.add_zero, List.all_cons, List.all_nil, Bool.and_true, Bool.true_and, Bool.and_self, st_bin, bin1_ok, bin2_ok, bin3_ok, st_neg, neg1_ok, st_cmp, cmp1_ok, cmp2_ok, cmp3_ok, st_chain, chn1_ok, chn2_ok, chn2b_ok, chn3_t, chn3_f, chn4_ok, st_and, and1_t, and1_f, st_or, or1_t, or1_f, st_not, not1_ok, st_ite, ite1_t, ite1_f, st_tup, tup1_ok, st_lst, lst1_ok, st_dct, dct0_ok, st_dc1, dcp1_i, dcp1_b, dcp1_s, st_dget, dget1_ok, dget2_ok, dget3_ok, st_rep, rep1_ok, st_ix, ix1_ok, ix2_ok, ix3_ok, st_sl, sl1_ok, sl2_ok, sl2b_ok, sl3_ok, sl4_ok, part_no, part_c, part_v, part_bin, part_neg, st_no, st_rev, rev1_ok, st_c, st_v, st_g, st_call, st_callp, callp1_ok, callp2_ok, callp2_ok2, call1_ok, callA_0, callA_1, callB_ok, callB_exc, callC_v, callC_f, callX_ok, slots_nil, slots_v, slots_f, slots_s, args_nil, args_cons, argC_ok, arg_v, arg_f, arg_s, argS_ok, put_nil, put_cons, put2_ok, st_blt, blt1_ok, blt2_ok, pks_nil, pks_cons, pkC_ok, st_lrng, lrng1_ok, st_isi, isi1_ok, isi2_ok, st_meth, meth1_ok, meth2_ok, meth3_ok, meth4_ok, meth_app, st_ext, ext0_ok, ext1_ok, st_comp, comp1_ok, comp2_ok, st_evs_nil, st_evs, evs1_ok, evs2_ok, settle_v, settle_f, settle_s, toD_l, st_evd_nil, st_evd, evd1_ok, evd2_ok, evd3_ok, frz_v, frz_f, frz_s, frzS_o, frzS_v, nm_s, nmS_v, nmS_o, pk_v, pk_f, pk_s, pkS_o, pkS_v, tst_ok, tst2_ok, truth_b, bindS, st_of, src0_ok, src1_l, src1_t, st_rng1, st_rng2, rg2_ok, st_rng3, rg3_ok, rg3b_ok, st_enum, en0_ok, en1_l, en1_t, st_zip, zp0_ok, zp1_ok, zp2_ok, zp3_ll, zp3_lt, zp3_tl, zp3_tt, st_srev, rv0_ok, rv1_l, rv1_t, st_cons, st_nil, seq_nx, seq_rt, seq_bk, seq_ct, seq_exc, st_mov, mov0_ok, mov1_u, mov1_v, mov1_o, st_asg, asg1_ok, asg2_fu, asg2_fv, asg2_fo, asg2_vu, asg2_vv, asg2_vo, asg2_su, asg2_sv, asg2_so, asg3_ok, st_par, par1_ok, par2_ok, par3_ok, par4_ok, st_unp, unp1_ok, unp2_ok, unp3_ok, tg_n, tg_2, tg_3, st_set, set0_ok, set1_ok, set2_ok, set3_ok, set4_ok, set5_ok, st_ex, ex1_ok, st_ret, ret1_ok, st_ret0, st_if, if1_t, if1_f, st_for, for1_ok, st_brk, st_cont, st_pass, st_kill, kill_nil, kill_cons, back_nil, back_cons, back2_ok, is_n, is_t, free_n, free_t, free_v, free_u, bo_add, bo_sub, cm_lt, cm_le, cm_gt, cm_ge, cm_eqi, cm_nei, cm_eqs, cm_nes, cm_isb, cm_isnotb, mapS, ix_l, ix_t, at_0, at_1, at_2, lk_cons, fn_lenl, fn_lent, fn_abs, fn_max, fn_min, fn_tupl, fn_tupt, fn_lisl, fn_list, fn_strs, fn_inti, fn_intb, body_0, body_1, body_2, body_3, body_4, body_5, body_6, end1_rt, end1_nx, end1_x, end2_v, end2_f, end2_s, end3_o, end3_v, endX_ok, outs_nil, outs_v, outs_o, out2_ok, as_nil, as_v, as_o, st_raise, raise_1s, raise_1i, raise_2si, raise_2ii, st_try, try_nx, try_rt, try_bk, try_ct, bo_mul, bo_mod, bo_div, bo_ll, bo_tt, rg1_ok, rg2b_ok, lrng2_ok, ext2_ok, rep2_ok, bTb, st_wh, e'] at hy
  exact hy.symm
theorem turns_okk {sj : Nat} (w20 : TabOk (Φ sj)) : ZzOk (body Φ 1 1 (bTn sj)) := by
  intro n hn
  have e := w20 n hn
  have e1 := rows_at (Nat.le_refl n)
  have e2 := tb_at n
  generalize hy : body Φ 1 1 (bTn sj) [.val (.int (n : Int))] = y
  simp only [Int.reduceLT, Int.reduceLE, Int.reduceEq, Int.reduceNe, Int.reduceAdd, Int.reduceMul, Int.reduceSub, Int.reduceNeg, Int.reducePow, Int.reduceToNat, Nat.reduceAdd, Nat.reduceSub, Nat.reduceMul, Nat.reduceLT, Nat.reduceLeDiff, Nat.reduceEqDiff, Nat.reducePow, Int.cast_ofNat_Int, tst_false, tst_bool, R.of_some, R.of_none, List.getElem?_cons_zero, List.getElem?_cons_succ, List.set_cons_zero, List.set_cons_succ, List.length_cons, List.length_nil, List.cons_append, List.nil_append, List.replicate_zero, List.replicate_succ, Bool.not_true, Bool.not_false, decide_true, decide_false, Nat.zero_add, Nat.add_zero, List.all_cons, List.all_nil, Bool.and_true, Bool.true_and, Bool.and_self, st_bin, bin1_ok, bin2_ok, bin3_ok, st_neg, neg1_ok, st_cmp, cmp1_ok, cmp2_ok, cmp3_ok, st_chain, chn1_ok, chn2_ok, chn2b_ok, chn3_t, chn3_f, chn4_ok, st_and, and1_t, and1_f, st_or, or1_t, or1_f, st_not, not1_ok, st_ite, ite1_t, ite1_f, st_tup, tup1_ok, st_lst, lst1_ok, st_dct, dct0_ok, st_dc1, dcp1_i, dcp1_b, dcp1_s, st_dget, dget1_ok, dget2_ok, dget3_ok, st_rep, rep1_ok, st_ix, ix1_ok, ix2_ok, ix3_ok, st_sl, sl1_ok, sl2_ok, sl2b_ok, sl3_ok, sl4_ok, part_no, part_c, part_v, part_bin, part_neg, st_no, st_rev, rev1_ok, st_c, st_v, st_g, st_call, st_callp, callp1_ok, callp2_ok, callp2_ok2, call1_ok, callA_0, callA_1, callB_ok, callB_exc, callC_v, callC_f, callX_ok, slots_nil, slots_v, slots_f, slots_s, args_nil, args_cons, argC_ok, arg_v, arg_f, arg_s, argS_ok, put_nil, put_cons, put2_ok, st_blt, blt1_ok, blt2_ok, pks_nil, pks_cons, pkC_ok, st_lrng, lrng1_ok, st_isi, isi1_ok, isi2_ok, st_meth, meth1_ok, meth2_ok, meth3_ok, meth4_ok, meth_app, st_ext, ext0_ok, ext1_ok, st_comp, comp1_ok, comp2_ok, st_evs_nil, st_evs, evs1_ok, evs2_ok, settle_v, settle_f, settle_s, toD_l, st_evd_nil, st_evd, evd1_ok, evd2_ok, evd3_ok, frz_v, frz_f, frz_s, frzS_o, frzS_v, nm_s, nmS_v, nmS_o, pk_v, pk_f, pk_s, pkS_o, pkS_v, tst_ok, tst2_ok, truth_b, bindS, st_of, src0_ok, src1_l, src1_t, st_rng1, st_rng2, rg2_ok, st_rng3, rg3_ok, rg3b_ok, st_enum, en0_ok, en1_l, en1_t, st_zip, zp0_ok, zp1_ok, zp2_ok, zp3_ll, zp3_lt, zp3_tl, zp3_tt, st_srev, rv0_ok, rv1_l, rv1_t, st_cons, st_nil, seq_nx, seq_rt, seq_bk, seq_ct, seq_exc, st_mov, mov0_ok, mov1_u, mov1_v, mov1_o, st_asg, asg1_ok, asg2_fu, asg2_fv, asg2_fo, asg2_vu, asg2_vv, asg2_vo, asg2_su, asg2_sv, asg2_so, asg3_ok, st_par, par1_ok, par2_ok, par3_ok, par4_ok, st_unp, unp1_ok, unp2_ok, unp3_ok, tg_n, tg_2, tg_3, st_set, set0_ok, set1_ok, set2_ok, set3_ok, set4_ok, set5_ok, st_ex, ex1_ok, st_ret, ret1_ok, st_ret0, st_if, if1_t, if1_f, st_for, for1_ok, st_brk, st_cont, st_pass, st_kill, kill_nil, kill_cons, back_nil, back_cons, back2_ok, is_n, is_t, free_n, free_t, free_v, free_u, bo_add, bo_sub, cm_lt, cm_le, cm_gt, cm_ge, cm_eqi, cm_nei, cm_eqs, cm_nes, cm_isb, cm_isnotb, mapS, ix_l, ix_t, at_0, at_1, at_2, lk_cons, fn_lenl, fn_lent, fn_abs, fn_max, fn_min, fn_tupl, fn_tupt, fn_lisl, fn_list, fn_strs, fn_inti, fn_intb, body_0, body_1, body_2, body_3, body_4, body_5, body_6, end1_rt, end1_nx, end1_x, end2_v, end2_f, end2_s, end3_o, end3_v, endX_ok, outs_nil, outs_v, outs_o, out2_ok, as_nil, as_v, as_o, st_raise, raise_1s, raise_1i, raise_2si, raise_2ii, st_try, try_nx, try_rt, try_bk, try_ct, bTn, e, e1, tb, e2] at hy
  exact hy.symm
end
end M

set_option Elab.async false
set_option linter.all false
set_option maxRecDepth 1000000
set_option maxHeartbeats 400000
/-! what stands beneath the row's numbers; rests of shares -/
namespace M
open PySem L2
section
variable {Φ : Phi}
/-! ### papers of rests, far rests -/
end
end M

set_option Elab.async false
set_option linter.all false
set_option maxRecDepth 1000000
set_option maxHeartbeats 400000
/-! loops that stop; rows of ints as data -/
namespace M
open PySem L2
section
variable {Φ : Phi}
end
/-- either no turn is wrong, or there is a first one -/
theorem first_or (p : Nat → Prop) : ∀ n, (∀ k, k < n → p k) ∨ ∃ m, m < n ∧ ¬ p m ∧ ∀ k, k < m → p k
  | 0 => .inl fun k hk => by omega
  | n + 1 => by
    rcases first_or p n with h | ⟨m, h1, h2, h3⟩
    · by_cases hp : p n
      · exact .inl fun k hk => by
          rcases Nat.lt_or_ge k n with z | z
          · exact h k z
          · have : k = n := by omega
            rw [this]; exact hp
      · exact .inr ⟨n, by omega, hp, h⟩
    · exact .inr ⟨m, by omega, h2, h3⟩
/-! ### data that == may compare -/
theorem canA_map {α : Type} {f : α → D} : ∀ {l : List α}, (∀ x ∈ l, (f x).canLay0 = true) → PyData.canLayAll0 (l.map f) = true
  | [], _ => rfl
  | x :: l, h => by
    rw [List.map_cons, PyData.canLayAll0, h x List.mem_cons_self, canA_map fun y hy => h y (List.mem_cons_of_mem _ hy)]; rfl
/-- can be laid, at most so deep -/
def Sh (k : Nat) (d : D) : Prop := d.canLay0 = true ∧ d.depth ≤ k
theorem Sh.sh {k : Nat} {d : D} (h : Sh k d) (hk : k ≤ 64) : SeqAt.shaped d = true := by
  unfold SeqAt.shaped
  rw [Bool.and_eq_true, decide_eq_true_eq]
  exact ⟨h.1, Nat.le_trans h.2 hk⟩
theorem Sh.int (i : Int) : Sh 0 (.int i) := ⟨rfl, Nat.le_refl _⟩
theorem Sh.tup {α : Type} {f : α → D} {k : Nat} {l : List α} (h : ∀ x ∈ l, Sh k (f x)) : Sh (k + 1) (.tuple (l.map f)) :=
  ⟨canA_map fun x hx => (h x hx).1, Nat.succ_le_succ (depthA_map fun x hx => (h x hx).2)⟩
theorem Sh.ints (a : List Int) : Sh 1 (.tuple (intsD a)) := .tup fun x _ => .int x
theorem eqvA_map {α : Type} [DecidableEq α] {f : α → D} (h : ∀ x y, PyData.eqv (f x) (f y) = decide (x = y)) : ∀ a b : List α, PyData.eqvAll (a.map f) (b.map f) = decide (a = b)
  | [], [] => rfl
  | [], _ :: _ => rfl
  | _ :: _, [] => rfl
  | x :: a, y :: b => by
    have e : PyData.eqvAll ((x :: a).map f) ((y :: b).map f) = (PyData.eqv (f x) (f y) && PyData.eqvAll (a.map f) (b.map f)) := rfl
    rw [e, h, eqvA_map h a b, Bool.eq_iff_iff]
    simp
theorem eqv_int (x y : Int) : PyData.eqv (.int x) (.int y) = decide (x = y) := by
  have e := cm_eqi x y
  have e2 : cmpD .eq (.int x) (.int y) = if SeqAt.shaped (.int x) ∧ SeqAt.shaped (.int y) then some (PyData.eqv (.int x) (.int y)) else nilE (.int x) (.int y) := rfl
  rw [e2, if_pos ⟨(Sh.int x).sh (by decide), (Sh.int y).sh (by decide)⟩] at e
  exact Option.some.inj e
/-! ### ints and rows of ints -/
/-! ### tuples of like things -/
section
variable {α : Type} (f : α → D)
theorem mp_at (l : List α) (n : Nat) (h : n < l.length) : ixD (.tuple (l.map f)) (.int (n : Int)) = some (f l[n]) := by
  show atI (l.map f) (n : Int) = _
  rw [at_n, List.getElem?_map, List.getElem?_eq_getElem h]; rfl
end
theorem nat_of {z : Int} (h : 0 ≤ z) : ∃ n : Nat, z = (n : Int) := Int.eq_ofNat_of_zero_le h
/-! ### texts in what is shown -/
mutual
/-- as small, with texts whose repr has at most 40 b + 100 signs, and dicts -/
def smalt (b : Nat) : D → Bool
  | .none => true
  | .bool _ => true
  | .int i => decide (i.natAbs < 10 ^ b)
  | .str x => decide ((PyData.str x).shown.length ≤ 40 * b + 100)
  | .list xs => smaltA b xs
  | .tuple xs => smaltA b xs
  | .dict kvs => smaltKv b kvs
def smaltA (b : Nat) : List D → Bool
  | [] => true
  | x :: xs => smalt b x && smaltA b xs
def smaltKv (b : Nat) : List (D × D) → Bool
  | [] => true
  | (k, v) :: r => smalt b k && smalt b v && smaltKv b r
end
theorem dictText_len_le (ts : List Str) : (dictText ts).length ≤ 2 + (ts.map (·.length)).sum + 2 * ts.length := by
  have e : (dictText ts).length = 1 + (Str.join ", " ts).length + 1 := by
    unfold dictText
    rw [strLen_append, strLen_append]; rfl
  have hp : piled ts = (ts.map (·.length)).sum + 2 * ts.length := by
    clear e
    induction ts with
    | nil => rfl
    | cons x r ih => rw [piled_cons, ih, List.map_cons, List.sum_cons, List.length_cons]; omega
  by_cases h : ts = []
  · subst h; rw [e]; simp [Str.join]; decide
  · have h2 := join_length_add ts h
    omega
theorem shownKv_length : ∀ kvs : List (D × D), (PyData.shownKv kvs).length = kvs.length
  | [] => rfl
  | (k, v) :: r => by simp only [PyData.shownKv, List.length_cons, shownKv_length r]
mutual
theorem shown_smalt {b : Nat} (hb : 8 ≤ b) : ∀ d : D, smalt b d = true → d.shown.length + 2 ≤ (b + 5) * cnt d
  | .none, _ => by
    have e : (PyData.shown .none).length = 4 := rfl
    simp only [cnt]; omega
  | .bool k, _ => by
    have e : (PyData.shown (.bool k)).length ≤ 5 := by cases k <;> decide
    simp only [cnt]; omega
  | .int i, h => shown_small hb (.int i) (by simpa [small, smalt] using h)
  | .str x, h => by
    have h : (PyData.str x).shown.length ≤ 40 * b + 100 := by simpa [smalt] using h
    simp only [cnt]; omega
  | .dict kvs, h => by
    have h1 := shownKv_smalt hb kvs (by simpa [smalt] using h)
    have h2 := dictText_len_le (PyData.shownKv kvs)
    have h3 := shownKv_length kvs
    have e : (b + 5) * (1 + cntKv kvs) = (b + 5) + (b + 5) * cntKv kvs := by rw [Nat.mul_add, Nat.mul_one]
    simp only [PyData.shown, cnt]
    omega
  | .list xs, h => by
    have h1 := shownA_smalt hb xs (by simpa [smalt] using h)
    have h2 := listText_len_le (PyData.shownAll xs)
    have h3 := PyData.shownAll_length xs
    have e : (b + 5) * (1 + cntA xs) = (b + 5) + (b + 5) * cntA xs := by rw [Nat.mul_add, Nat.mul_one]
    simp only [PyData.shown, cnt]
    omega
  | .tuple xs, h => by
    have h1 := shownA_smalt hb xs (by simpa [smalt] using h)
    have h2 := tupleText_len_le (PyData.shownAll xs)
    have h3 := PyData.shownAll_length xs
    have e : (b + 5) * (1 + cntA xs) = (b + 5) + (b + 5) * cntA xs := by rw [Nat.mul_add, Nat.mul_one]
    simp only [PyData.shown, cnt]
    omega
theorem shownA_smalt {b : Nat} (hb : 8 ≤ b) : ∀ xs : List D, smaltA b xs = true → ((PyData.shownAll xs).map (·.length)).sum + 2 * xs.length ≤ (b + 5) * cntA xs
  | [], _ => by simp [PyData.shownAll, cntA]
  | x :: xs, h => by
    have h' : smalt b x = true ∧ smaltA b xs = true := by simpa [smaltA] using h
    have h1 := shown_smalt hb x h'.1
    have h2 := shownA_smalt hb xs h'.2
    have e : (b + 5) * (cnt x + cntA xs) = (b + 5) * cnt x + (b + 5) * cntA xs := Nat.mul_add _ _ _
    simp only [PyData.shownAll, cntA, List.map_cons, List.sum_cons, List.length_cons]
    omega
theorem shownKv_smalt {b : Nat} (hb : 8 ≤ b) : ∀ xs : List (D × D), smaltKv b xs = true → ((PyData.shownKv xs).map (·.length)).sum + 2 * xs.length ≤ (b + 5) * cntKv xs
  | [], _ => by simp [PyData.shownKv, cntKv]
  | (k, v) :: xs, h => by
    have h' : (smalt b k = true ∧ smalt b v = true) ∧ smaltKv b xs = true := by simpa [smaltKv] using h
    have h1 := shown_smalt hb k h'.1.1
    have h1' := shown_smalt hb v h'.1.2
    have h2 := shownKv_smalt hb xs h'.2
    have e : (b + 5) * (cnt k + cnt v + cntKv xs) = (b + 5) * cnt k + (b + 5) * cnt v + (b + 5) * cntKv xs := by rw [Nat.mul_add, Nat.mul_add]
    have el : (PyData.shown k ++ ": " ++ PyData.shown v).length = (PyData.shown k).length + 2 + (PyData.shown v).length := by
      rw [strLen_append, strLen_append]; rfl
    simp only [PyData.shownKv, cntKv, List.map_cons, List.sum_cons, List.length_cons, el]
    omega
end
mutual
theorem smalt_show {b : Nat} (hb : b ≤ 3800) : ∀ d : D, smalt b d = true → shw d = true
  | .none, _ => rfl
  | .bool _, _ => rfl
  | .int i, h => small_show hb (.int i) (by simpa [small, smalt] using h)
  | .str x, h => rfl
  | .dict x, h => by
    have := smaltKv_show hb x (by simpa [smalt] using h)
    simpa [shw] using this
  | .list xs, h => by
    have := smaltA_show hb xs (by simpa [smalt] using h)
    simpa [shw] using this
  | .tuple xs, h => by
    have := smaltA_show hb xs (by simpa [smalt] using h)
    simpa [shw] using this
theorem smaltA_show {b : Nat} (hb : b ≤ 3800) : ∀ xs : List D, smaltA b xs = true → shws xs = true
  | [], _ => rfl
  | x :: xs, h => by
    have h' : smalt b x = true ∧ smaltA b xs = true := by simpa [smaltA] using h
    have h1 := smalt_show hb x h'.1
    have h2 := smaltA_show hb xs h'.2
    simp [shws, h1, h2]
theorem smaltKv_show {b : Nat} (hb : b ≤ 3800) : ∀ xs : List (D × D), smaltKv b xs = true → shwKv xs = true
  | [], _ => rfl
  | (k, v) :: xs, h => by
    have h' : (smalt b k = true ∧ smalt b v = true) ∧ smaltKv b xs = true := by simpa [smaltKv] using h
    have h1 := smalt_show hb k h'.1.1
    have h1' := smalt_show hb v h'.1.2
    have h2 := smaltKv_show hb xs h'.2
    simp [shwKv, h1, h1', h2]
end
theorem fits_oft {b : Nat} {d : D} (hb : 8 ≤ b) (hb2 : b ≤ 3800) (h : smalt b d = true) (hd : d.depth ≤ 64) (hc : (b + 5) * cnt d ≤ 16000000) : Fits d := by
  have := shown_smalt hb d h
  exact ⟨smalt_show hb2 d h, hd, by rw [sizeLine_eq]; omega⟩
end M

set_option Elab.async false
set_option linter.all false
set_option maxRecDepth 1000000
set_option maxHeartbeats 400000
/-! one rest for all the numbers that bear one (a congruence of sums of powers) -/
namespace M
open PySem L2
end M

set_option Elab.async false
set_option linter.all false
set_option maxRecDepth 1000000
set_option maxHeartbeats 400000
/-! the primes beneath: papers of them (from K61p); how many; the product beneath -/
namespace M
open PySem L2
/-! ### plainly: the primes beneath -/
abbrev pbnI (n : Nat) : List Int := (pbn n).map fun p : Nat => (p : Int)
def okk (n : Nat) (ps : List Int) (k : Nat) : Prop := ∃ x, ps[k]? = some x ∧ x ∈ pbnI n ∧ (k = 0 ∨ ∃ y, ps[k - 1]? = some y ∧ y < x)
/-! ### sums of shares of primes -/
def sumS (s : Int) (q : Rat) : List Nat → Rat
  | [] => q
  | p :: l => sumS s (q + Rat.divInt s (p : Int)) l
/-! ### what both looks find -/
def Fnd (n : Nat) (q : Rat) (w : Int) (ps : List Int) (o : Option (Str × Nat)) : Prop :=
  (∃ m, m < ps.length ∧ ¬ okk n ps m ∧ (∀ k, k < m → okk n ps k) ∧ o = some (("prime" : Str), m)) ∨
  ((∀ k, k < ps.length → okk n ps k) ∧ ps ≠ pbnI n ∧ o = some (("many" : Str), 0)) ∨
  ((∀ k, k < ps.length → okk n ps k) ∧ ps = pbnI n ∧ sumS 1 q (pbn n) ≠ (w : Rat) ∧ o = some (("sum" : Str), 0)) ∨
  ((∀ k, k < ps.length → okk n ps k) ∧ ps = pbnI n ∧ sumS 1 q (pbn n) = (w : Rat) ∧ o = none)
theorem found (n : Nat) (q : Rat) (w : Int) (ps : List Int) : ∃ o, Fnd n q w ps o := by
  rcases first_or (okk n ps) ps.length with g | ⟨m, g1, g2, g3⟩
  · by_cases h1 : ps = pbnI n
    · by_cases h2 : sumS 1 q (pbn n) = (w : Rat)
      · exact ⟨_, .inr (.inr (.inr ⟨g, h1, h2, rfl⟩))⟩
      · exact ⟨_, .inr (.inr (.inl ⟨g, h1, h2, rfl⟩))⟩
    · exact ⟨_, .inr (.inl ⟨g, h1, rfl⟩)⟩
  · exact ⟨_, .inl ⟨m, g1, g2, g3, rfl⟩⟩
/-! ### in a tuple of numbers -/
theorem isIn_ints (x : Int) : ∀ l : List Int, isIn (.int x) (intsD l) = decide (x ∈ l)
  | [] => by simp [isIn]
  | y :: l => by
    have ih := isIn_ints x l
    unfold isIn at ih ⊢
    rw [intsD_cons, List.any_cons, ih, eqv_int, Bool.eq_iff_iff]
    simp only [Bool.or_eq_true, decide_eq_true_eq, List.mem_cons]
    constructor
    · rintro (h | h)
      · exact .inl h.symm
      · exact .inr h
    · rintro (h | h)
      · exact .inl h.symm
      · exact .inr h
theorem flat_ints (l : List Int) : (intsD l).all flat = true := by
  rw [List.all_eq_true]
  intro d hd
  obtain ⟨x, _, rfl⟩ := List.mem_map.mp hd
  rfl
/-! ### how many -/
/-! ### the product beneath -/
end M

set_option Elab.async false
set_option linter.all false
set_option maxRecDepth 1000000
set_option maxHeartbeats 400000
/-! polynomials spoilt: looked at, unlike, spoilt, sizes -/
namespace M
open PySem L2
/-! ### polynomials that may be none -/
instance decTr (l : List Rat) : Decidable (Tr l) := inferInstanceAs (Decidable (trim l = l))
/-! ### the first unlike -/
end M

set_option Elab.async false
set_option linter.all false
set_option maxRecDepth 1000000
set_option maxHeartbeats 400000
/-! any thing looked at: its size; is it a share, a polynomial -/
namespace M
open PySem L2
/-! ### sizes of any thing -/
mutual
theorem smalt_mono {b b' : Nat} (h : b ≤ b') : ∀ d : D, smalt b d = true → smalt b' d = true
  | .none, _ => rfl
  | .bool _, _ => rfl
  | .int i, q => by
    have q : i.natAbs < 10 ^ b := by simpa [smalt] using q
    exact decide_eq_true (Nat.lt_of_lt_of_le q (Nat.pow_le_pow_right (by decide) h))
  | .str x, q => by
    have q : (PyData.str x).shown.length ≤ 40 * b + 100 := by simpa [smalt] using q
    exact decide_eq_true (by omega)
  | .dict x, q => by
    have := smaltKv_mono h x (by simpa [smalt] using q)
    simpa [smalt] using this
  | .list xs, q => by
    have := smaltA_mono h xs (by simpa [smalt] using q)
    simpa [smalt] using this
  | .tuple xs, q => by
    have := smaltA_mono h xs (by simpa [smalt] using q)
    simpa [smalt] using this
theorem smaltA_mono {b b' : Nat} (h : b ≤ b') : ∀ xs : List D, smaltA b xs = true → smaltA b' xs = true
  | [], _ => rfl
  | x :: xs, q => by
    have q' : smalt b x = true ∧ smaltA b xs = true := by simpa [smaltA] using q
    rw [smaltA, smalt_mono h x q'.1, smaltA_mono h xs q'.2]; rfl
theorem smaltKv_mono {b b' : Nat} (h : b ≤ b') : ∀ xs : List (D × D), smaltKv b xs = true → smaltKv b' xs = true
  | [], _ => rfl
  | (k, v) :: xs, q => by
    have q' : (smalt b k = true ∧ smalt b v = true) ∧ smaltKv b xs = true := by simpa [smaltKv] using q
    rw [smaltKv, smalt_mono h k q'.1.1, smalt_mono h v q'.1.2, smaltKv_mono h xs q'.2]; rfl
end
theorem smaltA_iff {b : Nat} : ∀ {l : List D}, smaltA b l = true ↔ ∀ x ∈ l, smalt b x = true
  | [] => by simp [smaltA]
  | x :: l => by
    rw [smaltA, Bool.and_eq_true, smaltA_iff]
    simp
theorem cntA_app : ∀ (a c : List D), cntA (a ++ c) = cntA a + cntA c
  | [], c => by simp [cntA]
  | x :: a, c => by rw [List.cons_append, cntA, cntA, cntA_app a c]; omega
theorem cntA_drop (l : List D) (n : Nat) : cntA (l.drop n) ≤ cntA l := by
  have := cntA_app (l.take n) (l.drop n)
  rw [List.take_append_drop] at this; omega
theorem cntA_take (l : List D) (n : Nat) : cntA (l.take n) ≤ cntA l := by
  have := cntA_app (l.take n) (l.drop n)
  rw [List.take_append_drop] at this; omega
theorem cntA_rev : ∀ l : List D, cntA l.reverse = cntA l
  | [] => rfl
  | x :: l => by
    rw [List.reverse_cons, cntA_app, cntA_rev l, cntA, cntA, cntA]; omega
theorem depthA_iff {k : Nat} : ∀ {l : List D}, PyData.depthAll l ≤ k ↔ ∀ x ∈ l, x.depth ≤ k
  | [] => by simp [PyData.depthAll]
  | x :: l => by
    rw [PyData.depthAll, Nat.max_le, depthA_iff]
    simp
/-- figures, depth, many in all -/
structure Fx (b k c : Nat) (d : D) : Prop where
  s : smalt b d = true
  dp : d.depth ≤ k
  ct : cnt d ≤ c
structure FxA (b k c : Nat) (l : List D) : Prop where
  s : ∀ x ∈ l, smalt b x = true
  dp : ∀ x ∈ l, x.depth ≤ k
  ct : cntA l ≤ c
section
variable {b k c k' c' : Nat} {d : D} {l r : List D}
theorem FxA.nil : FxA b k c [] := ⟨fun x m => (by cases m), fun x m => (by cases m), by simp [cntA]⟩
theorem FxA.app (h : FxA b k c l) (h2 : FxA b k c' r) : FxA b k (c + c') (l ++ r) := ⟨fun x m => (List.mem_append.mp m).elim (h.s x) (h2.s x), fun x m => (List.mem_append.mp m).elim (h.dp x) (h2.dp x), by rw [cntA_app]; have := h.ct; have := h2.ct; omega⟩
theorem FxA.one (h : Fx b k c d) : FxA b k c [d] := ⟨fun x m => by rw [List.mem_singleton.mp m]; exact h.s, fun x m => by rw [List.mem_singleton.mp m]; exact h.dp, by simp only [cntA]; have := h.ct; omega⟩
theorem FxA.cons (h : Fx b k c d) (h2 : FxA b k c' l) : FxA b k (c + c') (d :: l) := (FxA.one h).app h2
theorem FxA.take (h : FxA b k c l) (n : Nat) : FxA b k c (l.take n) := ⟨fun x m => h.s x (List.mem_of_mem_take m), fun x m => h.dp x (List.mem_of_mem_take m), Nat.le_trans (cntA_take l n) h.ct⟩
theorem FxA.drop (h : FxA b k c l) (n : Nat) : FxA b k c (l.drop n) := ⟨fun x m => h.s x (List.mem_of_mem_drop m), fun x m => h.dp x (List.mem_of_mem_drop m), Nat.le_trans (cntA_drop l n) h.ct⟩
theorem FxA.rev (h : FxA b k c l) : FxA b k c l.reverse := ⟨fun x m => h.s x (List.mem_reverse.mp m), fun x m => h.dp x (List.mem_reverse.mp m), by rw [cntA_rev]; exact h.ct⟩
theorem FxA.tup (h : FxA b k c l) : Fx b (k + 1) (c + 1) (.tuple l) := ⟨by rw [smalt]; exact smaltA_iff.mpr h.s, by rw [PyData.depth]; have := depthA_iff.mpr h.dp; omega, by rw [cnt]; have := h.ct; omega⟩
theorem FxA.lst (h : FxA b k c l) : Fx b (k + 1) (c + 1) (.list l) := ⟨by rw [smalt]; exact smaltA_iff.mpr h.s, by rw [PyData.depth]; have := depthA_iff.mpr h.dp; omega, by rw [cnt]; have := h.ct; omega⟩
theorem Fx.int {z : Int} (h : z.natAbs < 10 ^ b) : Fx b 0 1 (.int z) := ⟨decide_eq_true h, by simp [PyData.depth], by simp [cnt]⟩
theorem Fx.bool (z : Bool) : Fx b 0 1 (.bool z) := ⟨rfl, by simp [PyData.depth], by simp [cnt]⟩
theorem Fx.none : Fx b 0 1 .none := ⟨rfl, by simp [PyData.depth], by simp [cnt]⟩
theorem Fx.str {x : Str} (h : (PyData.str x).shown.length ≤ 40 * b + 100) : Fx b 0 50 (.str x) := ⟨decide_eq_true h, by simp [PyData.depth], by simp [cnt]⟩
theorem Fx.sh {n : Nat} {q : Rat} (h : Bd n q) (hn : 2 ^ n ≤ 10 ^ b) : Fx b 1 3 (shD q) :=
  (FxA.cons (Fx.int (Nat.lt_of_lt_of_le h.1 hn)) (FxA.one (Fx.int (b := b) (z := (q.den : Int)) (by rw [Int.natAbs_natCast]; exact Nat.lt_of_lt_of_le h.2 hn)))).tup
end
/-! ### texts of numbers -/
/-! ### shares -/
section
variable {Φ : Phi}
end
theorem tp_to (l : List D) (n : Nat) : slD (.tuple l) none (some (n : Int)) = some (.v (.tuple (l.take n))) := by rw [slD_t, cut_to]
theorem tp_from (l : List D) (n : Nat) : slD (.tuple l) (some (n : Int)) none = some (.v (.tuple (l.drop n))) := by rw [slD_t, cut_from]
theorem tp_add (a b : List D) (h : a.length + b.length ≤ 10000000) : binD .add (.tuple a) (.tuple b) = some (.v (.tuple (a ++ b))) := bo_tt (sz_of h)
/-! ### polynomials -/
section
variable {Φ : Phi}
end
end M

set_option Elab.async false
set_option linter.all false
set_option maxRecDepth 1000000
set_option maxHeartbeats 400000
/-! odd things by their part, things bent (k62, k74) -/
namespace M
open PySem L2
theorem eq_nilL (xs : List D) : cmpD .eq (.list xs) (.list []) = some xs.isEmpty := by
  show (if SeqAt.shaped (.list xs) = true ∧ SeqAt.shaped (.list []) = true then some (PyData.eqv (.list xs) (.list [])) else nilE (.list xs) (.list [])) = _
  split
  · cases xs <;> rfl
  · rfl
end M

set_option Elab.async false
set_option linter.all false
set_option maxRecDepth 1000000
set_option maxHeartbeats 4000000
/-! the defs of law_k70_all_rows_gone_through in M (printed by gen.py) -/
namespace K70
open PySem M

def topS (i : Nat) : PySem.Stmt := PySem.Challenge.pw_powerrests_k70_all_rows_gone_through.main.body.getD i (.Pass ⟨0, 0, 0, 0⟩)
/-- may_follow -/
def b0 : Ss := 
  (.cons (.if_ (.cmp .in_ (.v 1) (.v 0)) (
    (.cons (.ret (.c (.bool false))) .nil)) .nil)
  (.cons (.if_ (.cmp .eq (.blt .len (.cons (.v 0) .nil)) (.c (.int 0))) (
    (.cons (.ret (.c (.bool true))) .nil)) .nil)
  (.cons (.ret (.ite (.cmp .eq (.bin .mod (.blt .len (.cons (.v 0) .nil)) (.c (.int 2))) (.c (.int 1))) (.cmp .lt (.v 1) (.ix (.v 0) (.neg (.c (.int 1))))) (.cmp .gt (.v 1) (.ix (.v 0) (.neg (.c (.int 1))))))) .nil)))
abbrev s0 : PySem.Stmt := topS 1
abbrev N0 : List Str := ["row", "one"]
abbrev P0 : List Str := ["row", "one"]
abbrev d0 : DefM := ⟨"may_follow", "may_follow", s0, N0, P0, b0⟩
theorem sc0 : L2.FnScope N0 P0 (L2.defScope s0) := ⟨rfl, rfl, rfl, by decide +kernel, rfl, by decide +kernel, by decide +kernel⟩
/-- turns_down -/
def b1 : Ss := 
  (.cons (.asg 1 (.lst (.cons (.tup .nil) .nil)))
  (.cons (.for_ (.n 2) (.rng1 (.v 0)) (
    (.cons (.asg 3 (.lst .nil))
    (.cons (.for_ (.n 5) (.of (.v 1)) (
      (.cons (.ex (.ext 3 (.comp (.bin .add (.v 5) (.tup (.cons (.v 4) .nil))) (.n 4) (.rng1 (.v 0)) (.call 0 (.cons (.v 5) (.cons (.v 4) .nil))))))
      (.cons (.kill [5]) .nil))))
    (.cons (.mov 1 3)
    (.cons (.kill [2, 3, 5]) .nil))))))
  (.cons (.ret (.v 1)) .nil)))
abbrev s1 : PySem.Stmt := topS 2
abbrev N1 : List Str := ["n", "found", "k", "longer", "one", "row"]
abbrev P1 : List Str := ["n"]
abbrev d1 : DefM := ⟨"turns_down", "turns_down", s1, N1, P1, b1⟩
theorem sc1 : L2.FnScope N1 P1 (L2.defScope s1) := ⟨rfl, rfl, rfl, by decide +kernel, rfl, by decide +kernel, by decide +kernel⟩
/-- row_by_steps -/
def b2 : Ss := 
  (.cons (.asg 1 (.lst (.cons (.c (.int 0)) .nil)))
  (.cons (.for_ (.n 2) (.rev (.v 0)) (
    (.cons (.ex (.meth .append 1 (.cons (.bin .add (.ix (.v 1) (.neg (.c (.int 1)))) (.v 2)) .nil)))
    (.cons (.kill [2]) .nil))))
  (.cons (.ret (.blt .tuple (.cons (.v 1) .nil))) .nil)))
abbrev s2 : PySem.Stmt := topS 4
abbrev N2 : List Str := ["row", "found", "one"]
abbrev P2 : List Str := ["row"]
abbrev d2 : DefM := ⟨"row_by_steps", "row_by_steps", s2, N2, P2, b2⟩
theorem sc2 : L2.FnScope N2 P2 (L2.defScope s2) := ⟨rfl, rfl, rfl, by decide +kernel, rfl, by decide +kernel, by decide +kernel⟩
/-- table_to -/
def b3 : Ss := 
  (.cons (.asg 1 (.lst (.cons (.tup (.cons (.c (.int 1)) .nil)) .nil)))
  (.cons (.wh (.cmp .le (.blt .len (.cons (.v 1) .nil)) (.v 0)) (
    (.cons (.ex (.meth .append 1 (.cons (.call 2 (.cons (.ix (.v 1) (.neg (.c (.int 1)))) .nil)) .nil))) .nil)))
  (.cons (.ret (.blt .tuple (.cons (.v 1) .nil))) .nil)))
abbrev s3 : PySem.Stmt := topS 5
abbrev N3 : List Str := ["n", "rows"]
abbrev P3 : List Str := ["n"]
abbrev d3 : DefM := ⟨"table_to", "table_to", s3, N3, P3, b3⟩
theorem sc3 : L2.FnScope N3 P3 (L2.defScope s3) := ⟨rfl, rfl, rfl, by decide +kernel, rfl, by decide +kernel, by decide +kernel⟩
/-- turns_of -/
def b4 : Ss := 
  (.cons (.ret (.ix (.ix (.call 3 (.cons (.v 0) .nil)) (.v 0)) (.v 0))) .nil)
abbrev s4 : PySem.Stmt := topS 6
abbrev N4 : List Str := ["n"]
abbrev P4 : List Str := ["n"]
abbrev d4 : DefM := ⟨"turns_of", "turns_of", s4, N4, P4, b4⟩
theorem sc4 : L2.FnScope N4 P4 (L2.defScope s4) := ⟨rfl, rfl, rfl, by decide +kernel, rfl, by decide +kernel, by decide +kernel⟩
/-- _law_feed -/
def b5 : Ss := 
  (.cons (.ret (.dct [(.inr "cells"), (.inr "at"), (.inr "left"), (.inr "turn")] (.cons (.blt .list (.cons (.sl (.v 0) .no (.c (.int 63))) .nil)) (.cons (.c (.int 0)) (.cons (.c (.int 0)) (.cons (.c (.int 0)) .nil)))))) .nil)
abbrev s5 : PySem.Stmt := topS 8
abbrev N5 : List Str := ["_law_script"]
abbrev P5 : List Str := ["_law_script"]
abbrev d5 : DefM := ⟨"_law_feed", "_law_feed", s5, N5, P5, b5⟩
theorem sc5 : L2.FnScope N5 P5 (L2.defScope s5) := ⟨rfl, rfl, rfl, by decide +kernel, rfl, by decide +kernel, by decide +kernel⟩
/-- _law_draw -/
def b6 : Ss := 
  (.cons (.set 0 (.c (.str "turn")) (.bin .add (.ix (.v 0) (.c (.str "turn"))) (.c (.int 1))))
  (.cons (.asg 7 (.ix (.v 0) (.c (.str "turn"))))
  (.cons (.if_ (.cmp .gt (.ix (.v 0) (.c (.str "left"))) (.c (.int 0))) (
    (.cons (.asg 5 (.bin .mod (.ix (.v 0) (.c (.str "left"))) (.v 1)))
    (.cons (.set 0 (.c (.str "left")) (.bin .fdiv (.ix (.v 0) (.c (.str "left"))) (.v 1)))
    (.cons (.ret (.v 5)) .nil)))) .nil)
  (.cons (.asg 2 (.ix (.v 0) (.c (.str "at"))))
  (.cons (.asg 4 (.ix (.v 0) (.c (.str "cells"))))
  (.cons (.set 0 (.c (.str "at")) (.bin .add (.v 2) (.c (.int 1))))
  (.cons (.asg 3 (.ite (.cmp .ne (.v 4) (.lst .nil)) (.ix (.v 4) (.bin .mod (.v 2) (.blt .len (.cons (.v 4) .nil)))) (.bin .mul (.c (.int 7)) (.v 7))))
  (.cons (.if_ (.and_ (.cmp .ge (.v 3) (.bin .pow (.c (.int 10)) (.c (.int 18)))) (.cmp .lt (.v 2) (.blt .len (.cons (.v 4) .nil)))) (
    (.cons (.set 0 (.c (.str "left")) (.bin .fdiv (.v 3) (.v 1)))
    (.cons (.ret (.bin .mod (.v 3) (.v 1))) .nil))) .nil)
  (.cons (.asg 6 (.bin .mod (.bin .mul (.bin .add (.bin .mod (.v 3) (.c (.int 2147483629))) (.c (.int 1))) (.bin .add (.bin .mul (.v 7) (.v 7)) (.c (.int 48271)))) (.c (.int 2147483647))))
  (.cons (.asg 6 (.bin .mod (.bin .pow (.v 6) (.c (.int 5))) (.c (.int 2147483647))))
  (.cons (.asg 6 (.bin .mod (.bin .pow (.bin .add (.v 6) (.bin .mul (.c (.int 7919)) (.v 7))) (.c (.int 3))) (.c (.int 2147483587))))
  (.cons (.ret (.bin .mod (.bin .fdiv (.v 6) (.c (.int 64))) (.v 1))) .nil))))))))))))
abbrev s6 : PySem.Stmt := topS 9
abbrev N6 : List Str := ["_law_feed_here", "_law_many", "_law_at", "_law_cell", "_law_cells", "_law_found", "_law_mixed", "_law_turn"]
abbrev P6 : List Str := ["_law_feed_here", "_law_many"]
abbrev d6 : DefM := ⟨"_law_draw", "_law_draw", s6, N6, P6, b6⟩
theorem sc6 : L2.FnScope N6 P6 (L2.defScope s6) := ⟨rfl, rfl, rfl, by decide +kernel, rfl, by decide +kernel, by decide +kernel⟩
/-- _law_is_turn -/
def b7 : Ss := 
  (.cons (.if_ (.not_ (.isi (.v 0) [.tuple])) (
    (.cons (.ret (.c (.bool false))) .nil)) .nil)
  (.cons (.if_ (.cmp .ne (.comp (.v 2) (.n 2) (.of (.v 0)) (.or_ (.not_ (.isi (.v 2) [.int])) (.isi (.v 2) [.bool]))) (.lst .nil)) (
    (.cons (.ret (.c (.bool false))) .nil)) .nil)
  (.cons (.if_ (.cmp .ne (.blt .sorted (.cons (.v 0) .nil)) (.lrng (.c (.int 0)) (.blt .len (.cons (.v 0) .nil)))) (
    (.cons (.ret (.c (.bool false))) .nil)) .nil)
  (.cons (.asg 3 (.comp (.cmp .lt (.ix (.v 0) (.v 1)) (.ix (.v 0) (.bin .add (.v 1) (.c (.int 1))))) (.n 1) (.rng1 (.bin .sub (.blt .len (.cons (.v 0) .nil)) (.c (.int 1)))) (.c (.bool true))))
  (.cons (.ret (.cmp .eq (.comp (.v 1) (.n 1) (.rng2 (.c (.int 1)) (.blt .len (.cons (.v 3) .nil))) (.cmp .eq (.ix (.v 3) (.v 1)) (.ix (.v 3) (.bin .sub (.v 1) (.c (.int 1)))))) (.lst .nil))) .nil)))))
abbrev s7 : PySem.Stmt := topS 10
abbrev N7 : List Str := ["_law_thing", "_law_k", "_law_one", "_law_ups"]
abbrev P7 : List Str := ["_law_thing"]
abbrev d7 : DefM := ⟨"_law_is_turn", "_law_is_turn", s7, N7, P7, b7⟩
theorem sc7 : L2.FnScope N7 P7 (L2.defScope s7) := ⟨rfl, rfl, rfl, by decide +kernel, rfl, by decide +kernel, by decide +kernel⟩
/-- _law_is_down -/
def b8 : Ss := 
  (.cons (.ret (.and_ (.call 7 (.cons (.v 0) .nil)) (.or_ (.cmp .lt (.blt .len (.cons (.v 0) .nil)) (.c (.int 2))) (.cmp .gt (.ix (.v 0) (.c (.int 0))) (.ix (.v 0) (.c (.int 1))))))) .nil)
abbrev s8 : PySem.Stmt := topS 11
abbrev N8 : List Str := ["_law_thing"]
abbrev P8 : List Str := ["_law_thing"]
abbrev d8 : DefM := ⟨"_law_is_down", "_law_is_down", s8, N8, P8, b8⟩
theorem sc8 : L2.FnScope N8 P8 (L2.defScope s8) := ⟨rfl, rfl, rfl, by decide +kernel, rfl, by decide +kernel, by decide +kernel⟩
/-- _law_all_rows -/
def b9 : Ss := 
  (.cons (.asg 2 (.lst (.cons (.tup .nil) .nil)))
  (.cons (.for_ (.n 4) (.rng1 (.v 0)) (
    (.cons (.asg 3 (.lst .nil))
    (.cons (.for_ (.n 5) (.of (.v 2)) (
      (.cons (.ex (.ext 3 (.comp (.bin .add (.bin .add (.sl (.v 5) .no (.v 1)) (.tup (.cons (.v 4) .nil))) (.sl (.v 5) (.v 1) .no)) (.n 1) (.rng1 (.bin .add (.v 4) (.c (.int 1)))) (.c (.bool true)))))
      (.cons (.kill [5]) .nil))))
    (.cons (.mov 2 3)
    (.cons (.kill [3, 4, 5]) .nil))))))
  (.cons (.ret (.v 2)) .nil)))
abbrev s9 : PySem.Stmt := topS 12
abbrev N9 : List Str := ["_law_n", "_law_at", "_law_found", "_law_longer", "_law_one", "_law_row"]
abbrev P9 : List Str := ["_law_n"]
abbrev d9 : DefM := ⟨"_law_all_rows", "_law_all_rows", s9, N9, P9, b9⟩
theorem sc9 : L2.FnScope N9 P9 (L2.defScope s9) := ⟨rfl, rfl, rfl, by decide +kernel, rfl, by decide +kernel, by decide +kernel⟩
/-- law -/
def b10 : Ss := 
  (.cons (.asg 3 (.call 5 (.cons (.v 0) .nil)))
  (.cons (.asg 5 (.ite (.cmp .eq (.call 6 (.cons (.v 3) (.cons (.c (.int 8)) .nil))) (.c (.int 7))) (.bin .add (.c (.int 6)) (.call 6 (.cons (.v 3) (.cons (.c (.int 2)) .nil)))) (.call 6 (.cons (.v 3) (.cons (.c (.int 6)) .nil)))))
  (.cons (.asg 2 (.blt .sorted (.cons (.comp (.v 6) (.n 6) (.of (.call 9 (.cons (.v 5) .nil))) (.call 8 (.cons (.v 6) .nil))) .nil)))
  (.cons (.for_ (.n 1) (.rng1 (.c (.int 2))) (
    (.cons (.asg 4 (.call 1 (.cons (.v 5) .nil)))
    (.cons (.if_ (.or_ (.not_ (.isi (.v 4) [.list])) (.or_ (.cmp .ne (.blt .repr (.cons (.v 4) .nil)) (.blt .repr (.cons (.v 2) .nil))) (.cmp .ne (.blt .repr (.cons (.call 4 (.cons (.v 5) .nil)) .nil)) (.blt .repr (.cons (.blt .len (.cons (.v 2) .nil)) .nil))))) (
      (.cons (.ret (.c (.bool false))) .nil)) .nil)
    (.cons (.ex (.meth .reverse 4 .nil))
    (.cons (.ex (.meth .append 4 (.cons (.tup .nil) .nil)))
    (.cons (.kill [1, 4]) .nil)))))))
  (.cons (.ret (.c (.bool true))) .nil)))))
abbrev s10 : PySem.Stmt := topS 13
abbrev N10 : List Str := ["_law_script", "_law_again", "_law_due", "_law_feed_here", "_law_found", "_law_n", "_law_row"]
abbrev P10 : List Str := ["_law_script"]
abbrev d10 : DefM := ⟨"law", "law", s10, N10, P10, b10⟩
theorem sc10 : L2.FnScope N10 P10 (L2.defScope s10) := ⟨rfl, rfl, rfl, by decide +kernel, rfl, by decide +kernel, by decide +kernel⟩
abbrev ds : List DefM := [d0, d1, d2, d3, d4, d5, d6, d7, d8, d9, d10]
theorem at0 {k : Nat} (hk : 0 < k) : PhiOf ds k 0 = body (PhiOf ds 0) 2 2 b0 := phi_at (d := d0) rfl hk
theorem at1 {k : Nat} (hk : 1 < k) : PhiOf ds k 1 = body (PhiOf ds 1) 6 1 b1 := phi_at (d := d1) rfl hk
theorem at2 {k : Nat} (hk : 2 < k) : PhiOf ds k 2 = body (PhiOf ds 2) 3 1 b2 := phi_at (d := d2) rfl hk
theorem at3 {k : Nat} (hk : 3 < k) : PhiOf ds k 3 = body (PhiOf ds 3) 2 1 b3 := phi_at (d := d3) rfl hk
theorem at4 {k : Nat} (hk : 4 < k) : PhiOf ds k 4 = body (PhiOf ds 4) 1 1 b4 := phi_at (d := d4) rfl hk
theorem at5 {k : Nat} (hk : 5 < k) : PhiOf ds k 5 = body (PhiOf ds 5) 1 1 b5 := phi_at (d := d5) rfl hk
theorem at6 {k : Nat} (hk : 6 < k) : PhiOf ds k 6 = body (PhiOf ds 6) 8 2 b6 := phi_at (d := d6) rfl hk
theorem at7 {k : Nat} (hk : 7 < k) : PhiOf ds k 7 = body (PhiOf ds 7) 4 1 b7 := phi_at (d := d7) rfl hk
theorem at8 {k : Nat} (hk : 8 < k) : PhiOf ds k 8 = body (PhiOf ds 8) 1 1 b8 := phi_at (d := d8) rfl hk
theorem at9 {k : Nat} (hk : 9 < k) : PhiOf ds k 9 = body (PhiOf ds 9) 6 1 b9 := phi_at (d := d9) rfl hk
theorem at10 {k : Nat} (hk : 10 < k) : PhiOf ds k 10 = body (PhiOf ds 10) 7 1 b10 := phi_at (d := d10) rfl hk
theorem ok0 : defOk ds [] [] d0 = true := by decide +kernel
theorem ok1 : defOk ds [] [] d1 = true := by decide +kernel
theorem ok2 : defOk ds [] [] d2 = true := by decide +kernel
theorem ok3 : defOk ds [] [] d3 = true := by decide +kernel
theorem ok4 : defOk ds [] [] d4 = true := by decide +kernel
theorem ok5 : defOk ds [] [] d5 = true := by decide +kernel
theorem ok6 : defOk ds [] [] d6 = true := by decide +kernel
theorem ok7 : defOk ds [] [] d7 = true := by decide +kernel
theorem ok8 : defOk ds [] [] d8 = true := by decide +kernel
theorem ok9 : defOk ds [] [] d9 = true := by decide +kernel
theorem ok10 : defOk ds [] [] d10 = true := by decide +kernel
end K70

set_option Elab.async false
set_option linter.all false
set_option maxRecDepth 1000000
set_option maxHeartbeats 400000
/-! what the known defs of law_k70_all_rows_gone_through promise (printed by gen.py) -/
namespace K70
open PySem M L2
theorem e2 {k : Nat} (hk : 2 < k) : PhiOf ds k 2 = body (PhiOf ds 2) 3 1 (bSteps) := at2 hk
theorem w2 (k : Nat) (hk : 2 < k) : BehOk (PhiOf ds k 2) := by rw [e2 hk]; exact stepsB_ok _
theorem e3 {k : Nat} (hk : 3 < k) : PhiOf ds k 3 = body (PhiOf ds 3) 2 1 (bTb 2) := at3 hk
theorem w3 (k : Nat) (hk : 3 < k) : TabOk (PhiOf ds k 3) := by rw [e3 hk]; exact table_ok (w2 3 (by decide))
theorem e4 {k : Nat} (hk : 4 < k) : PhiOf ds k 4 = body (PhiOf ds 4) 1 1 (bTn 3) := at4 hk
theorem w4 (k : Nat) (hk : 4 < k) : ZzOk (PhiOf ds k 4) := by rw [e4 hk]; exact turns_okk (w3 4 (by decide))
theorem e5 {k : Nat} (hk : 5 < k) : PhiOf ds k 5 = body (PhiOf ds 5) 1 1 (bFeed) := at5 hk
theorem e6 {k : Nat} (hk : 6 < k) : PhiOf ds k 6 = body (PhiOf ds 6) 8 2 (bDrawG) := at6 hk
theorem w6 (k : Nat) (hk : 6 < k) : DrawOk Feed (PhiOf ds k 6) := by rw [e6 hk]; exact draw_feedG _
end K70

set_option Elab.async false
set_option linter.all false
set_option maxRecDepth 1000000
set_option maxHeartbeats 400000
/-! parts of own defs (printed by cut.py) -/
namespace K70
open PySem M L2
def f1E0 : E := (.bin .add (.v 5) (.tup (.cons (.v 4) .nil)))
def f1P0 : E := (.call 0 (.cons (.v 5) (.cons (.v 4) .nil)))
def f1L0 : Ss := ((.cons (.ex (.ext 3 (.comp f1E0 (.n 4) (.rng1 (.v 0)) f1P0))) (.cons (.kill [5]) .nil)))
def f1L1 : Ss := ((.cons (.asg 3 (.lst .nil)) (.cons (.for_ (.n 5) (.of (.v 1)) f1L0) (.cons (.mov 1 3) (.cons (.kill [2, 3, 5]) .nil)))))
theorem f1_eq : b1 = (.cons (.asg 1 (.lst (.cons (.tup .nil) .nil))) (.cons (.for_ (.n 2) (.rng1 (.v 0)) f1L1) (.cons (.ret (.v 1)) .nil))) := rfl
def f7I0 : S := (.if_ (.not_ (.isi (.v 0) [.tuple])) ((.cons (.ret (.c (.bool false))) .nil)) .nil)
def f7P0 : E := (.or_ (.not_ (.isi (.v 2) [.int])) (.isi (.v 2) [.bool]))
def f7I1 : S := (.if_ (.cmp .ne (.comp (.v 2) (.n 2) (.of (.v 0)) f7P0) (.lst .nil)) ((.cons (.ret (.c (.bool false))) .nil)) .nil)
def f7I2 : S := (.if_ (.cmp .ne (.blt .sorted (.cons (.v 0) .nil)) (.lrng (.c (.int 0)) (.blt .len (.cons (.v 0) .nil)))) ((.cons (.ret (.c (.bool false))) .nil)) .nil)
def f7E0 : E := (.cmp .lt (.ix (.v 0) (.v 1)) (.ix (.v 0) (.bin .add (.v 1) (.c (.int 1)))))
def f7P1 : E := (.cmp .eq (.ix (.v 3) (.v 1)) (.ix (.v 3) (.bin .sub (.v 1) (.c (.int 1)))))
theorem f7_eq : b7 = (.cons f7I0 (.cons f7I1 (.cons f7I2 (.cons (.asg 3 (.comp f7E0 (.n 1) (.rng1 (.bin .sub (.blt .len (.cons (.v 0) .nil)) (.c (.int 1)))) (.c (.bool true)))) (.cons (.ret (.cmp .eq (.comp (.v 1) (.n 1) (.rng2 (.c (.int 1)) (.blt .len (.cons (.v 3) .nil))) f7P1) (.lst .nil))) .nil))))) := rfl
def f9E0 : E := (.bin .add (.bin .add (.sl (.v 5) .no (.v 1)) (.tup (.cons (.v 4) .nil))) (.sl (.v 5) (.v 1) .no))
def f9L0 : Ss := ((.cons (.ex (.ext 3 (.comp f9E0 (.n 1) (.rng1 (.bin .add (.v 4) (.c (.int 1)))) (.c (.bool true))))) (.cons (.kill [5]) .nil)))
def f9L1 : Ss := ((.cons (.asg 3 (.lst .nil)) (.cons (.for_ (.n 5) (.of (.v 2)) f9L0) (.cons (.mov 2 3) (.cons (.kill [3, 4, 5]) .nil)))))
theorem f9_eq : b9 = (.cons (.asg 2 (.lst (.cons (.tup .nil) .nil))) (.cons (.for_ (.n 4) (.rng1 (.v 0)) f9L1) (.cons (.ret (.v 2)) .nil))) := rfl
def f10P0 : E := (.call 8 (.cons (.v 6) .nil))
def f10L0 : Ss := ((.cons (.asg 4 (.call 1 (.cons (.v 5) .nil))) (.cons (.if_ (.or_ (.not_ (.isi (.v 4) [.list])) (.or_ (.cmp .ne (.blt .repr (.cons (.v 4) .nil)) (.blt .repr (.cons (.v 2) .nil))) (.cmp .ne (.blt .repr (.cons (.call 4 (.cons (.v 5) .nil)) .nil)) (.blt .repr (.cons (.blt .len (.cons (.v 2) .nil)) .nil))))) ((.cons (.ret (.c (.bool false))) .nil)) .nil) (.cons (.ex (.meth .reverse 4 .nil)) (.cons (.ex (.meth .append 4 (.cons (.tup .nil) .nil))) (.cons (.kill [1, 4]) .nil))))))
def f10T2 : Ss := (.cons (.asg 2 (.blt .sorted (.cons (.comp (.v 6) (.n 6) (.of (.call 9 (.cons (.v 5) .nil))) f10P0) .nil))) (.cons (.for_ (.n 1) (.rng1 (.c (.int 2))) f10L0) (.cons (.ret (.c (.bool true))) .nil)))
theorem f10_eq : b10 = (.cons (.asg 3 (.call 5 (.cons (.v 0) .nil))) (.cons (.asg 5 (.ite (.cmp .eq (.call 6 (.cons (.v 3) (.cons (.c (.int 8)) .nil))) (.c (.int 7))) (.bin .add (.c (.int 6)) (.call 6 (.cons (.v 3) (.cons (.c (.int 2)) .nil)))) (.call 6 (.cons (.v 3) (.cons (.c (.int 6)) .nil))))) f10T2)) := rfl
end K70

set_option Elab.async false
set_option linter.all false
set_option maxRecDepth 1000000
set_option maxHeartbeats 400000
namespace K70
open PySem M L2
/-! ### plainly -/
def lstI (r : List Int) : Int := r.getD (r.length - 1) 0
def may (r : List Int) (x : Int) : Bool := if x ∈ r then false else if r.length = 0 then true else if r.length % 2 = 1 then decide (x < lstI r) else decide (lstI r < x)
def stepD (n : Nat) (r : List Int) : List (List Int) := ((List.range n).filter fun i : Nat => may r (i : Int)).map fun i : Nat => r ++ [(i : Int)]
def dn (n : Nat) : Nat → List (List Int)
  | 0 => [[]]
  | k + 1 => (dn n k).flatMap (stepD n)
def putIn (k : Nat) (r : List Int) : List (List Int) := (List.range (k + 1)).map fun a : Nat => r.take a ++ [(k : Int)] ++ r.drop a
def al : Nat → List (List Int)
  | 0 => [[]]
  | k + 1 => (al k).flatMap (putIn k)
def rI (n : Nat) : List Int := (List.range n).map fun k : Nat => (k : Int)
def upsB (r : List Int) : List Bool := (List.range (r.length - 1)).map fun k => decide (r.getD k 0 < r.getD (k + 1) 0)
def turnB (r : List Int) : Bool := decide (sortI r = rI r.length) && ((List.range ((upsB r).length - 1)).filter fun k => (upsB r).getD (k + 1) false == (upsB r).getD k false).isEmpty
def downB (r : List Int) : Bool := turnB r && (decide (r.length < 2) || decide (r.getD 1 0 < r.getD 0 0))
theorem fin_dec : ((List.range 7).all fun n => sortR ((al n).filter downB) == dn n n) = true := by decide +kernel
theorem fin7 : (sortR ((al 7).filter downB) == dn 7 7) = true := by decide +kernel
theorem fin_eq {n : Nat} (hn : n ≤ 7) : sortR ((al n).filter downB) = dn n n := by
  by_cases h : n = 7
  · subst h; exact eq_of_beq fin7
  · exact eq_of_beq (List.all_eq_true.mp fin_dec n (List.mem_range.mpr (by omega)))
theorem dn_dec : ((List.range 8).all fun n => (List.range 8).all fun k => decide ((dn n k).length ≤ 4000)) = true := by decide +kernel
theorem dn_len {n k : Nat} (hn : n ≤ 7) (hk : k ≤ 7) : (dn n k).length ≤ 4000 := of_decide_eq_true (List.all_eq_true.mp (List.all_eq_true.mp dn_dec n (List.mem_range.mpr (by omega))) k (List.mem_range.mpr (by omega)))
theorem flat_len {α β : Type} {f : α → List β} {c : Nat} : ∀ (l : List α), (∀ x ∈ l, (f x).length ≤ c) → (l.flatMap f).length ≤ l.length * c
  | [], _ => by simp
  | x :: l, h => by
    rw [List.flatMap_cons, List.length_append, List.length_cons, Nat.add_mul, Nat.one_mul]
    have h1 := h x List.mem_cons_self
    have h2 := flat_len l fun y hy => h y (List.mem_cons_of_mem _ hy)
    omega
theorem put_len (k : Nat) (r : List Int) : (putIn k r).length = k + 1 := by simp [putIn]
theorem step_len (n : Nat) (r : List Int) : (stepD n r).length ≤ n := by
  unfold stepD
  rw [List.length_map]
  exact Nat.le_trans (List.length_filter_le ..) (by simp)
theorem al_len : ∀ {k : Nat}, k ≤ 7 → (al k).length ≤ 10 ^ k
  | 0, _ => by simp [al]
  | k + 1, h => by
    have ih := al_len (k := k) (by omega)
    have := flat_len (f := putIn k) (c := k + 1) (al k) fun r _ => Nat.le_of_eq (put_len k r)
    rw [Nat.pow_succ]
    exact Nat.le_trans this (Nat.mul_le_mul ih (by omega))
theorem al_row : ∀ {k : Nat} {r : List Int}, r ∈ al k → r.length = k
  | 0, r, h => by simp [al] at h; subst h; rfl
  | k + 1, r, h => by
    obtain ⟨q, hq, hr⟩ := List.mem_flatMap.mp h
    obtain ⟨a, ha, rfl⟩ := List.mem_map.mp hr
    have := al_row hq
    simp only [List.length_append, List.length_take, List.length_drop, List.length_singleton]
    omega
theorem dn_row : ∀ {n k : Nat} {r : List Int}, r ∈ dn n k → r.length = k
  | n, 0, r, h => by simp [dn] at h; subst h; rfl
  | n, k + 1, r, h => by
    obtain ⟨q, hq, hr⟩ := List.mem_flatMap.mp h
    obtain ⟨a, ha, rfl⟩ := List.mem_map.mp hr
    have := dn_row hq
    simp only [List.length_append, List.length_singleton]
    omega
theorem fold_flat {α β : Type} (f : α → List β) : ∀ (l : List α) (s : List β), l.foldl (fun s x => s ++ f x) s = s ++ l.flatMap f
  | [], s => by simp
  | x :: l, s => by rw [List.foldl_cons, fold_flat f l, List.flatMap_cons, List.append_assoc]
/-! ### data -/
theorem tupI_eq (r : List Int) : tupI r = .tuple (intsD r) := rfl
abbrev rowsT (l : List (List Int)) : List D := l.map tupI
theorem in_ints (x : Int) (l : List Int) : cmpD .in_ (.int x) (.tuple (intsD l)) = some (decide (x ∈ l)) := by
  rw [cmpD_in]
  show (if flat (.int x) = true ∧ (intsD l).all flat = true then _ else _) = _
  rw [if_pos ⟨rfl, flat_ints l⟩, isIn_ints]
theorem eq_bb (a b : Bool) : cmpD .eq (.bool a) (.bool b) = some (a == b) := by cases a <;> cases b <;> decide +kernel
theorem nth_row (r : List Int) {k : Nat} (h : k < r.length) : ixD (.tuple (intsD r)) (.int (k : Int)) = some (.int (r.getD k 0)) := by
  have := mp_at PyData.int r k h
  rw [List.getD_eq_getElem?_getD, List.getElem?_eq_getElem h]
  exact this
theorem last_row {r : List Int} (h : r.length ≠ 0) : ixD (.tuple (intsD r)) (.int (-1)) = some (.int (lstI r)) := by
  obtain ⟨l, z, rfl⟩ : ∃ l z, r = l ++ [z] := ⟨r.dropLast, r.getLast (fun z => h (by rw [z]; rfl)), (List.dropLast_concat_getLast _).symm⟩
  have e : lstI (l ++ [z]) = z := by unfold lstI; simp
  rw [e]
  show atI ((l ++ [z]).map PyData.int) (-1) = _
  rw [List.map_append]
  exact at_lastD _ _
section
variable {Φ : Phi}
/-! ### the program's rows -/
def MayOk (f : Sem) : Prop := ∀ (r : List Int) (x : Int), r.length ≤ 1000 → f [.val (tupI r), .val (.int x)] = .ok (.v (.bool (may r x))) []
theorem may_ok (Φ : Phi) : MayOk (body Φ 2 2 b0) := by
  intro r x hr
  rw [tupI_eq]
  have i1 := in_ints x r
  generalize hy : body Φ 2 2 b0 [.val (.tuple (intsD r)), .val (.int x)] = y
  unfold may
  by_cases h1 : x ∈ r
  · rw [decide_eq_true h1] at i1
    rw [if_pos h1]
    simp (disch := (first | assumption | (simp only [free_n, free_t, free_v, free_u, List.getElem?_cons_zero, List.getElem?_cons_succ, List.all_cons, List.all_nil, Bool.and_true, Bool.and_self]; done) | (simp only [List.length_cons, List.length_nil, List.length_append, List.length_map, List.length_zip, List.length_drop, List.length_take, List.length_range, List.length_reverse, List.length_set, List.length_replicate, List.length_zipIdx, List.length_tail, len_rngI]; omega) | exact sz_of (by simp only [List.length_cons, List.length_nil, List.length_append, List.length_map, List.length_zip, List.length_drop, List.length_take, List.length_range, List.length_reverse, List.length_set, List.length_replicate, List.length_zipIdx, List.length_tail, len_rngI]; omega) | omega | exact mulOk_l (by omega) | exact mulOk_r (by omega) | exact noPy (by omega) | exact okR_small (by omega) (by omega) | (apply And.intro <;> omega))) only [Int.reduceLT, Int.reduceLE, Int.reduceEq, Int.reduceNe, Int.reduceAdd, Int.reduceMul, Int.reduceSub, Int.reduceNeg, Int.reducePow, Int.reduceToNat, Nat.reduceAdd, Nat.reduceSub, Nat.reduceMul, Nat.reduceLT, Nat.reduceLeDiff, Nat.reduceEqDiff, Nat.reducePow, Int.cast_ofNat_Int, tst_false, tst_bool, R.of_some, R.of_none, List.getElem?_cons_zero, List.getElem?_cons_succ, List.set_cons_zero, List.set_cons_succ, List.length_cons, List.length_nil, List.cons_append, List.nil_append, List.replicate_zero, List.replicate_succ, Bool.not_true, Bool.not_false, decide_true, decide_false, Nat.zero_add, Nat.add_zero, List.all_cons, List.all_nil, Bool.and_true, Bool.true_and, Bool.and_self, st_bin, bin1_ok, bin2_ok, bin3_ok, st_neg, neg1_ok, st_cmp, cmp1_ok, cmp2_ok, cmp3_ok, st_chain, chn1_ok, chn2_ok, chn2b_ok, chn3_t, chn3_f, chn4_ok, st_and, and1_t, and1_f, st_or, or1_t, or1_f, st_not, not1_ok, st_ite, ite1_t, ite1_f, st_tup, tup1_ok, st_lst, lst1_ok, st_dct, dct0_ok, st_dc1, dcp1_i, dcp1_b, dcp1_s, st_dget, dget1_ok, dget2_ok, dget3_ok, st_rep, rep1_ok, st_ix, ix1_ok, ix2_ok, ix3_ok, st_sl, sl1_ok, sl2_ok, sl2b_ok, sl3_ok, sl4_ok, part_no, part_c, part_v, part_bin, part_neg, st_no, st_rev, rev1_ok, st_c, st_v, st_g, st_call, st_callp, callp1_ok, callp2_ok, callp2_ok2, call1_ok, callA_0, callA_1, callB_ok, callB_exc, callC_v, callC_f, callX_ok, slots_nil, slots_v, slots_f, slots_s, args_nil, args_cons, argC_ok, arg_v, arg_f, arg_s, argS_ok, put_nil, put_cons, put2_ok, st_blt, blt1_ok, blt2_ok, pks_nil, pks_cons, pkC_ok, st_lrng, lrng1_ok, st_isi, isi1_ok, isi2_ok, st_meth, meth1_ok, meth2_ok, meth3_ok, meth4_ok, meth_app, st_ext, ext0_ok, ext1_ok, st_comp, comp1_ok, comp2_ok, st_evs_nil, st_evs, evs1_ok, evs2_ok, settle_v, settle_f, settle_s, toD_l, st_evd_nil, st_evd, evd1_ok, evd2_ok, evd3_ok, frz_v, frz_f, frz_s, frzS_o, frzS_v, nm_s, nmS_v, nmS_o, pk_v, pk_f, pk_s, pkS_o, pkS_v, tst_ok, tst2_ok, truth_b, bindS, st_of, src0_ok, src1_l, src1_t, st_rng1, st_rng2, rg2_ok, st_rng3, rg3_ok, rg3b_ok, st_enum, en0_ok, en1_l, en1_t, st_zip, zp0_ok, zp1_ok, zp2_ok, zp3_ll, zp3_lt, zp3_tl, zp3_tt, st_srev, rv0_ok, rv1_l, rv1_t, st_cons, st_nil, seq_nx, seq_rt, seq_bk, seq_ct, seq_exc, st_mov, mov0_ok, mov1_u, mov1_v, mov1_o, st_asg, asg1_ok, asg2_fu, asg2_fv, asg2_fo, asg2_vu, asg2_vv, asg2_vo, asg2_su, asg2_sv, asg2_so, asg3_ok, st_par, par1_ok, par2_ok, par3_ok, par4_ok, st_unp, unp1_ok, unp2_ok, unp3_ok, tg_n, tg_2, tg_3, st_set, set0_ok, set1_ok, set2_ok, set3_ok, set4_ok, set5_ok, st_ex, ex1_ok, st_ret, ret1_ok, st_ret0, st_if, if1_t, if1_f, st_for, for1_ok, st_brk, st_cont, st_pass, st_kill, kill_nil, kill_cons, back_nil, back_cons, back2_ok, is_n, is_t, free_n, free_t, free_v, free_u, bo_add, bo_sub, cm_lt, cm_le, cm_gt, cm_ge, cm_eqi, cm_nei, cm_eqs, cm_nes, cm_isb, cm_isnotb, mapS, ix_l, ix_t, at_0, at_1, at_2, lk_cons, fn_lenl, fn_lent, fn_abs, fn_max, fn_min, fn_tupl, fn_tupt, fn_lisl, fn_list, fn_strs, fn_inti, fn_intb, body_0, body_1, body_2, body_3, body_4, body_5, body_6, end1_rt, end1_nx, end1_x, end2_v, end2_f, end2_s, end3_o, end3_v, endX_ok, outs_nil, outs_v, outs_o, out2_ok, as_nil, as_v, as_o, st_raise, raise_1s, raise_1i, raise_2si, raise_2ii, st_try, try_nx, try_rt, try_bk, try_ct, bo_mul, bo_mod, bo_div, bo_ll, bo_tt, rg1_ok, rg2b_ok, lrng2_ok, ext2_ok, rep2_ok, b0, i1] at hy
    exact hy.symm
  · rw [decide_eq_false h1] at i1
    rw [if_neg h1]
    by_cases h2 : r.length = 0
    · have q : decide ((r.length : Int) = 0) = true := decide_eq_true (by omega)
      rw [if_pos h2]
      simp (disch := (first | assumption | (simp only [free_n, free_t, free_v, free_u, List.getElem?_cons_zero, List.getElem?_cons_succ, List.all_cons, List.all_nil, Bool.and_true, Bool.and_self]; done) | (simp only [List.length_cons, List.length_nil, List.length_append, List.length_map, List.length_zip, List.length_drop, List.length_take, List.length_range, List.length_reverse, List.length_set, List.length_replicate, List.length_zipIdx, List.length_tail, len_rngI]; omega) | exact sz_of (by simp only [List.length_cons, List.length_nil, List.length_append, List.length_map, List.length_zip, List.length_drop, List.length_take, List.length_range, List.length_reverse, List.length_set, List.length_replicate, List.length_zipIdx, List.length_tail, len_rngI]; omega) | omega | exact mulOk_l (by omega) | exact mulOk_r (by omega) | exact noPy (by omega) | exact okR_small (by omega) (by omega) | (apply And.intro <;> omega))) only [Int.reduceLT, Int.reduceLE, Int.reduceEq, Int.reduceNe, Int.reduceAdd, Int.reduceMul, Int.reduceSub, Int.reduceNeg, Int.reducePow, Int.reduceToNat, Nat.reduceAdd, Nat.reduceSub, Nat.reduceMul, Nat.reduceLT, Nat.reduceLeDiff, Nat.reduceEqDiff, Nat.reducePow, Int.cast_ofNat_Int, tst_false, tst_bool, R.of_some, R.of_none, List.getElem?_cons_zero, List.getElem?_cons_succ, List.set_cons_zero, List.set_cons_succ, List.length_cons, List.length_nil, List.cons_append, List.nil_append, List.replicate_zero, List.replicate_succ, Bool.not_true, Bool.not_false, decide_true, decide_false, Nat.zero_add, Nat.add_zero, List.all_cons, List.all_nil, Bool.and_true, Bool.true_and, Bool.and_self, st_bin, bin1_ok, bin2_ok, bin3_ok, st_neg, neg1_ok, st_cmp, cmp1_ok, cmp2_ok, cmp3_ok, st_chain, chn1_ok, chn2_ok, chn2b_ok, chn3_t, chn3_f, chn4_ok, st_and, and1_t, and1_f, st_or, or1_t, or1_f, st_not, not1_ok, st_ite, ite1_t, ite1_f, st_tup, tup1_ok, st_lst, lst1_ok, st_dct, dct0_ok, st_dc1, dcp1_i, dcp1_b, dcp1_s, st_dget, dget1_ok, dget2_ok, dget3_ok, st_rep, rep1_ok, st_ix, ix1_ok, ix2_ok, ix3_ok, st_sl, sl1_ok, sl2_ok, sl2b_ok, sl3_ok, sl4_ok, part_no, part_c, part_v, part_bin, part_neg, st_no, st_rev, rev1_ok, st_c, st_v, st_g, st_call, st_callp, callp1_ok, callp2_ok, callp2_ok2, call1_ok, callA_0, callA_1, callB_ok, callB_exc, callC_v, callC_f, callX_ok, slots_nil, slots_v, slots_f, slots_s, args_nil, args_cons, argC_ok, arg_v, arg_f, arg_s, argS_ok, put_nil, put_cons, put2_ok, st_blt, blt1_ok, blt2_ok, pks_nil, pks_cons, pkC_ok, st_lrng, lrng1_ok, st_isi, isi1_ok, isi2_ok, st_meth, meth1_ok, meth2_ok, meth3_ok, meth4_ok, meth_app, st_ext, ext0_ok, ext1_ok, st_comp, comp1_ok, comp2_ok, st_evs_nil, st_evs, evs1_ok, evs2_ok, settle_v, settle_f, settle_s, toD_l, st_evd_nil, st_evd, evd1_ok, evd2_ok, evd3_ok, frz_v, frz_f, frz_s, frzS_o, frzS_v, nm_s, nmS_v, nmS_o, pk_v, pk_f, pk_s, pkS_o, pkS_v, tst_ok, tst2_ok, truth_b, bindS, st_of, src0_ok, src1_l, src1_t, st_rng1, st_rng2, rg2_ok, st_rng3, rg3_ok, rg3b_ok, st_enum, en0_ok, en1_l, en1_t, st_zip, zp0_ok, zp1_ok, zp2_ok, zp3_ll, zp3_lt, zp3_tl, zp3_tt, st_srev, rv0_ok, rv1_l, rv1_t, st_cons, st_nil, seq_nx, seq_rt, seq_bk, seq_ct, seq_exc, st_mov, mov0_ok, mov1_u, mov1_v, mov1_o, st_asg, asg1_ok, asg2_fu, asg2_fv, asg2_fo, asg2_vu, asg2_vv, asg2_vo, asg2_su, asg2_sv, asg2_so, asg3_ok, st_par, par1_ok, par2_ok, par3_ok, par4_ok, st_unp, unp1_ok, unp2_ok, unp3_ok, tg_n, tg_2, tg_3, st_set, set0_ok, set1_ok, set2_ok, set3_ok, set4_ok, set5_ok, st_ex, ex1_ok, st_ret, ret1_ok, st_ret0, st_if, if1_t, if1_f, st_for, for1_ok, st_brk, st_cont, st_pass, st_kill, kill_nil, kill_cons, back_nil, back_cons, back2_ok, is_n, is_t, free_n, free_t, free_v, free_u, bo_add, bo_sub, cm_lt, cm_le, cm_gt, cm_ge, cm_eqi, cm_nei, cm_eqs, cm_nes, cm_isb, cm_isnotb, mapS, ix_l, ix_t, at_0, at_1, at_2, lk_cons, fn_lenl, fn_lent, fn_abs, fn_max, fn_min, fn_tupl, fn_tupt, fn_lisl, fn_list, fn_strs, fn_inti, fn_intb, body_0, body_1, body_2, body_3, body_4, body_5, body_6, end1_rt, end1_nx, end1_x, end2_v, end2_f, end2_s, end3_o, end3_v, endX_ok, outs_nil, outs_v, outs_o, out2_ok, as_nil, as_v, as_o, st_raise, raise_1s, raise_1i, raise_2si, raise_2ii, st_try, try_nx, try_rt, try_bk, try_ct, bo_mul, bo_mod, bo_div, bo_ll, bo_tt, rg1_ok, rg2b_ok, lrng2_ok, ext2_ok, rep2_ok, b0, i1, List.length_map, q] at hy
      exact hy.symm
    · have q : decide ((r.length : Int) = 0) = false := decide_eq_false (by omega)
      rw [if_neg h2]
      have d := modN (x := r.length) (p := 2) (by decide)
      have d : binD .mod (.int (r.length : Int)) (.int 2) = some (.v (.int ((r.length % 2 : Nat) : Int))) := d
      have l := last_row h2
      by_cases h3 : r.length % 2 = 1
      · have q3 : cmpD .eq (.int ((r.length % 2 : Nat) : Int)) (.int 1) = some true := by rw [cm_eqi, decide_eq_true (by omega)]
        rw [if_pos h3]
        simp (disch := (first | assumption | (simp only [free_n, free_t, free_v, free_u, List.getElem?_cons_zero, List.getElem?_cons_succ, List.all_cons, List.all_nil, Bool.and_true, Bool.and_self]; done) | (simp only [List.length_cons, List.length_nil, List.length_append, List.length_map, List.length_zip, List.length_drop, List.length_take, List.length_range, List.length_reverse, List.length_set, List.length_replicate, List.length_zipIdx, List.length_tail, len_rngI]; omega) | exact sz_of (by simp only [List.length_cons, List.length_nil, List.length_append, List.length_map, List.length_zip, List.length_drop, List.length_take, List.length_range, List.length_reverse, List.length_set, List.length_replicate, List.length_zipIdx, List.length_tail, len_rngI]; omega) | omega | exact mulOk_l (by omega) | exact mulOk_r (by omega) | exact noPy (by omega) | exact okR_small (by omega) (by omega) | (apply And.intro <;> omega))) only [Int.reduceLT, Int.reduceLE, Int.reduceEq, Int.reduceNe, Int.reduceAdd, Int.reduceMul, Int.reduceSub, Int.reduceNeg, Int.reducePow, Int.reduceToNat, Nat.reduceAdd, Nat.reduceSub, Nat.reduceMul, Nat.reduceLT, Nat.reduceLeDiff, Nat.reduceEqDiff, Nat.reducePow, Int.cast_ofNat_Int, tst_false, tst_bool, R.of_some, R.of_none, List.getElem?_cons_zero, List.getElem?_cons_succ, List.set_cons_zero, List.set_cons_succ, List.length_cons, List.length_nil, List.cons_append, List.nil_append, List.replicate_zero, List.replicate_succ, Bool.not_true, Bool.not_false, decide_true, decide_false, Nat.zero_add, Nat.add_zero, List.all_cons, List.all_nil, Bool.and_true, Bool.true_and, Bool.and_self, st_bin, bin1_ok, bin2_ok, bin3_ok, st_neg, neg1_ok, st_cmp, cmp1_ok, cmp2_ok, cmp3_ok, st_chain, chn1_ok, chn2_ok, chn2b_ok, chn3_t, chn3_f, chn4_ok, st_and, and1_t, and1_f, st_or, or1_t, or1_f, st_not, not1_ok, st_ite, ite1_t, ite1_f, st_tup, tup1_ok, st_lst, lst1_ok, st_dct, dct0_ok, st_dc1, dcp1_i, dcp1_b, dcp1_s, st_dget, dget1_ok, dget2_ok, dget3_ok, st_rep, rep1_ok, st_ix, ix1_ok, ix2_ok, ix3_ok, st_sl, sl1_ok, sl2_ok, sl2b_ok, sl3_ok, sl4_ok, part_no, part_c, part_v, part_bin, part_neg, st_no, st_rev, rev1_ok, st_c, st_v, st_g, st_call, st_callp, callp1_ok, callp2_ok, callp2_ok2, call1_ok, callA_0, callA_1, callB_ok, callB_exc, callC_v, callC_f, callX_ok, slots_nil, slots_v, slots_f, slots_s, args_nil, args_cons, argC_ok, arg_v, arg_f, arg_s, argS_ok, put_nil, put_cons, put2_ok, st_blt, blt1_ok, blt2_ok, pks_nil, pks_cons, pkC_ok, st_lrng, lrng1_ok, st_isi, isi1_ok, isi2_ok, st_meth, meth1_ok, meth2_ok, meth3_ok, meth4_ok, meth_app, st_ext, ext0_ok, ext1_ok, st_comp, comp1_ok, comp2_ok, st_evs_nil, st_evs, evs1_ok, evs2_ok, settle_v, settle_f, settle_s, toD_l, st_evd_nil, st_evd, evd1_ok, evd2_ok, evd3_ok, frz_v, frz_f, frz_s, frzS_o, frzS_v, nm_s, nmS_v, nmS_o, pk_v, pk_f, pk_s, pkS_o, pkS_v, tst_ok, tst2_ok, truth_b, bindS, st_of, src0_ok, src1_l, src1_t, st_rng1, st_rng2, rg2_ok, st_rng3, rg3_ok, rg3b_ok, st_enum, en0_ok, en1_l, en1_t, st_zip, zp0_ok, zp1_ok, zp2_ok, zp3_ll, zp3_lt, zp3_tl, zp3_tt, st_srev, rv0_ok, rv1_l, rv1_t, st_cons, st_nil, seq_nx, seq_rt, seq_bk, seq_ct, seq_exc, st_mov, mov0_ok, mov1_u, mov1_v, mov1_o, st_asg, asg1_ok, asg2_fu, asg2_fv, asg2_fo, asg2_vu, asg2_vv, asg2_vo, asg2_su, asg2_sv, asg2_so, asg3_ok, st_par, par1_ok, par2_ok, par3_ok, par4_ok, st_unp, unp1_ok, unp2_ok, unp3_ok, tg_n, tg_2, tg_3, st_set, set0_ok, set1_ok, set2_ok, set3_ok, set4_ok, set5_ok, st_ex, ex1_ok, st_ret, ret1_ok, st_ret0, st_if, if1_t, if1_f, st_for, for1_ok, st_brk, st_cont, st_pass, st_kill, kill_nil, kill_cons, back_nil, back_cons, back2_ok, is_n, is_t, free_n, free_t, free_v, free_u, bo_add, bo_sub, cm_lt, cm_le, cm_gt, cm_ge, cm_eqi, cm_nei, cm_eqs, cm_nes, cm_isb, cm_isnotb, mapS, ix_l, ix_t, at_0, at_1, at_2, lk_cons, fn_lenl, fn_lent, fn_abs, fn_max, fn_min, fn_tupl, fn_tupt, fn_lisl, fn_list, fn_strs, fn_inti, fn_intb, body_0, body_1, body_2, body_3, body_4, body_5, body_6, end1_rt, end1_nx, end1_x, end2_v, end2_f, end2_s, end3_o, end3_v, endX_ok, outs_nil, outs_v, outs_o, out2_ok, as_nil, as_v, as_o, st_raise, raise_1s, raise_1i, raise_2si, raise_2ii, st_try, try_nx, try_rt, try_bk, try_ct, bo_mul, bo_mod, bo_div, bo_ll, bo_tt, rg1_ok, rg2b_ok, lrng2_ok, ext2_ok, rep2_ok, b0, i1, List.length_map, q, d, q3, l] at hy
        exact hy.symm
      · have q3 : cmpD .eq (.int ((r.length % 2 : Nat) : Int)) (.int 1) = some false := by rw [cm_eqi, decide_eq_false (by omega)]
        rw [if_neg h3]
        simp (disch := (first | assumption | (simp only [free_n, free_t, free_v, free_u, List.getElem?_cons_zero, List.getElem?_cons_succ, List.all_cons, List.all_nil, Bool.and_true, Bool.and_self]; done) | (simp only [List.length_cons, List.length_nil, List.length_append, List.length_map, List.length_zip, List.length_drop, List.length_take, List.length_range, List.length_reverse, List.length_set, List.length_replicate, List.length_zipIdx, List.length_tail, len_rngI]; omega) | exact sz_of (by simp only [List.length_cons, List.length_nil, List.length_append, List.length_map, List.length_zip, List.length_drop, List.length_take, List.length_range, List.length_reverse, List.length_set, List.length_replicate, List.length_zipIdx, List.length_tail, len_rngI]; omega) | omega | exact mulOk_l (by omega) | exact mulOk_r (by omega) | exact noPy (by omega) | exact okR_small (by omega) (by omega) | (apply And.intro <;> omega))) only [Int.reduceLT, Int.reduceLE, Int.reduceEq, Int.reduceNe, Int.reduceAdd, Int.reduceMul, Int.reduceSub, Int.reduceNeg, Int.reducePow, Int.reduceToNat, Nat.reduceAdd, Nat.reduceSub, Nat.reduceMul, Nat.reduceLT, Nat.reduceLeDiff, Nat.reduceEqDiff, Nat.reducePow, Int.cast_ofNat_Int, tst_false, tst_bool, R.of_some, R.of_none, List.getElem?_cons_zero, List.getElem?_cons_succ, List.set_cons_zero, List.set_cons_succ, List.length_cons, List.length_nil, List.cons_append, List.nil_append, List.replicate_zero, List.replicate_succ, Bool.not_true, Bool.not_false, decide_true, decide_false, Nat.zero_add, Nat.add_zero, List.all_cons, List.all_nil, Bool.and_true, Bool.true_and, Bool.and_self, st_bin, bin1_ok, bin2_ok, bin3_ok, st_neg, neg1_ok, st_cmp, cmp1_ok, cmp2_ok, cmp3_ok, st_chain, chn1_ok, chn2_ok, chn2b_ok, chn3_t, chn3_f, chn4_ok, st_and, and1_t, and1_f, st_or, or1_t, or1_f, st_not, not1_ok, st_ite, ite1_t, ite1_f, st_tup, tup1_ok, st_lst, lst1_ok, st_dct, dct0_ok, st_dc1, dcp1_i, dcp1_b, dcp1_s, st_dget, dget1_ok, dget2_ok, dget3_ok, st_rep, rep1_ok, st_ix, ix1_ok, ix2_ok, ix3_ok, st_sl, sl1_ok, sl2_ok, sl2b_ok, sl3_ok, sl4_ok, part_no, part_c, part_v, part_bin, part_neg, st_no, st_rev, rev1_ok, st_c, st_v, st_g, st_call, st_callp, callp1_ok, callp2_ok, callp2_ok2, call1_ok, callA_0, callA_1, callB_ok, callB_exc, callC_v, callC_f, callX_ok, slots_nil, slots_v, slots_f, slots_s, args_nil, args_cons, argC_ok, arg_v, arg_f, arg_s, argS_ok, put_nil, put_cons, put2_ok, st_blt, blt1_ok, blt2_ok, pks_nil, pks_cons, pkC_ok, st_lrng, lrng1_ok, st_isi, isi1_ok, isi2_ok, st_meth, meth1_ok, meth2_ok, meth3_ok, meth4_ok, meth_app, st_ext, ext0_ok, ext1_ok, st_comp, comp1_ok, comp2_ok, st_evs_nil, st_evs, evs1_ok, evs2_ok, settle_v, settle_f, settle_s, toD_l, st_evd_nil, st_evd, evd1_ok, evd2_ok, evd3_ok, frz_v, frz_f, frz_s, frzS_o, frzS_v, nm_s, nmS_v, nmS_o, pk_v, pk_f, pk_s, pkS_o, pkS_v, tst_ok, tst2_ok, truth_b, bindS, st_of, src0_ok, src1_l, src1_t, st_rng1, st_rng2, rg2_ok, st_rng3, rg3_ok, rg3b_ok, st_enum, en0_ok, en1_l, en1_t, st_zip, zp0_ok, zp1_ok, zp2_ok, zp3_ll, zp3_lt, zp3_tl, zp3_tt, st_srev, rv0_ok, rv1_l, rv1_t, st_cons, st_nil, seq_nx, seq_rt, seq_bk, seq_ct, seq_exc, st_mov, mov0_ok, mov1_u, mov1_v, mov1_o, st_asg, asg1_ok, asg2_fu, asg2_fv, asg2_fo, asg2_vu, asg2_vv, asg2_vo, asg2_su, asg2_sv, asg2_so, asg3_ok, st_par, par1_ok, par2_ok, par3_ok, par4_ok, st_unp, unp1_ok, unp2_ok, unp3_ok, tg_n, tg_2, tg_3, st_set, set0_ok, set1_ok, set2_ok, set3_ok, set4_ok, set5_ok, st_ex, ex1_ok, st_ret, ret1_ok, st_ret0, st_if, if1_t, if1_f, st_for, for1_ok, st_brk, st_cont, st_pass, st_kill, kill_nil, kill_cons, back_nil, back_cons, back2_ok, is_n, is_t, free_n, free_t, free_v, free_u, bo_add, bo_sub, cm_lt, cm_le, cm_gt, cm_ge, cm_eqi, cm_nei, cm_eqs, cm_nes, cm_isb, cm_isnotb, mapS, ix_l, ix_t, at_0, at_1, at_2, lk_cons, fn_lenl, fn_lent, fn_abs, fn_max, fn_min, fn_tupl, fn_tupt, fn_lisl, fn_list, fn_strs, fn_inti, fn_intb, body_0, body_1, body_2, body_3, body_4, body_5, body_6, end1_rt, end1_nx, end1_x, end2_v, end2_f, end2_s, end3_o, end3_v, endX_ok, outs_nil, outs_v, outs_o, out2_ok, as_nil, as_v, as_o, st_raise, raise_1s, raise_1i, raise_2si, raise_2ii, st_try, try_nx, try_rt, try_bk, try_ct, bo_mul, bo_mod, bo_div, bo_ll, bo_tt, rg1_ok, rg2b_ok, lrng2_ok, ext2_ok, rep2_ok, b0, i1, List.length_map, q, d, q3, l] at hy
        exact hy.symm
theorem meth_appL (xs : List D) (y : D) (h : xs.length ≤ 10000) : methL .append xs [y] = some (.none, xs ++ [y]) := if_pos (Nat.lt_of_le_of_lt h (by rw [sizeLine_eq]; decide))
theorem rng0 (n : Nat) : rngI 0 n = (List.range n).map fun k : Nat => PyData.int ((0 : Int) + (k : Int)) := rfl
def DnOk (f : Sem) : Prop := ∀ n : Nat, n ≤ 7 → f [.val (.int (n : Int))] = .ok (.fresh (.l (rowsT (dn n n)))) []
theorem inner (w0 : MayOk (Φ 0)) {n : Nat} (hn : n ≤ 7) (s1 s2 : Slot) {r : List Int} (hr : r.length ≤ 1000) {acc : List (List Int)} (ha : acc.length ≤ 100000) : exSs Φ f1L0 [.val (.int (n : Int)), s1, s2, .own none false (.l (rowsT acc)), .un, .val (tupI r)] = .nx [.val (.int (n : Int)), s1, s2, .own none false (.l (rowsT (acc ++ stepD n r))), .un, .un] := by
  have c := compK_filter (Φ := Φ) (tg := .n 4) (e := f1E0) (cnd := f1P0) (emb := fun k : Nat => PyData.int ((0 : Int) + (k : Int))) (f := fun k : Nat => tupI (r ++ [(k : Int)])) (p := fun k : Nat => may r (k : Int)) (ρ := [.val (.int (n : Int)), s1, s2, .own none false (.l (rowsT acc)), .un, .val (tupI r)]) (l := List.range n) (acc := []) (fun k hk => by
    have e := w0 r (k : Int) hr
    have e0 : (0 : Int) + (k : Int) = (k : Int) := by omega
    refine ⟨_, tg_n _ _ _, ?_, fun hp => ⟨.v (tupI (r ++ [(k : Int)])), ?_, frz_v _ _⟩, rfl⟩
    · simp only [Int.reduceLT, Int.reduceLE, Int.reduceEq, Int.reduceNe, Int.reduceAdd, Int.reduceMul, Int.reduceSub, Int.reduceNeg, Int.reducePow, Int.reduceToNat, Nat.reduceAdd, Nat.reduceSub, Nat.reduceMul, Nat.reduceLT, Nat.reduceLeDiff, Nat.reduceEqDiff, Nat.reducePow, Int.cast_ofNat_Int, tst_false, tst_bool, R.of_some, R.of_none, List.getElem?_cons_zero, List.getElem?_cons_succ, List.set_cons_zero, List.set_cons_succ, List.length_cons, List.length_nil, List.cons_append, List.nil_append, List.replicate_zero, List.replicate_succ, Bool.not_true, Bool.not_false, decide_true, decide_false, Nat.zero_add, Nat.add_zero, List.all_cons, List.all_nil, Bool.and_true, Bool.true_and, Bool.and_self, st_bin, bin1_ok, bin2_ok, bin3_ok, st_neg, neg1_ok, st_cmp, cmp1_ok, cmp2_ok, cmp3_ok, st_chain, chn1_ok, chn2_ok, chn2b_ok, chn3_t, chn3_f, chn4_ok, st_and, and1_t, and1_f, st_or, or1_t, or1_f, st_not, not1_ok, st_ite, ite1_t, ite1_f, st_tup, tup1_ok, st_lst, lst1_ok, st_dct, dct0_ok, st_dc1, dcp1_i, dcp1_b, dcp1_s, st_dget, dget1_ok, dget2_ok, dget3_ok, st_rep, rep1_ok, st_ix, ix1_ok, ix2_ok, ix3_ok, st_sl, sl1_ok, sl2_ok, sl2b_ok, sl3_ok, sl4_ok, part_no, part_c, part_v, part_bin, part_neg, st_no, st_rev, rev1_ok, st_c, st_v, st_g, st_call, st_callp, callp1_ok, callp2_ok, callp2_ok2, call1_ok, callA_0, callA_1, callB_ok, callB_exc, callC_v, callC_f, callX_ok, slots_nil, slots_v, slots_f, slots_s, args_nil, args_cons, argC_ok, arg_v, arg_f, arg_s, argS_ok, put_nil, put_cons, put2_ok, st_blt, blt1_ok, blt2_ok, pks_nil, pks_cons, pkC_ok, st_lrng, lrng1_ok, st_isi, isi1_ok, isi2_ok, st_meth, meth1_ok, meth2_ok, meth3_ok, meth4_ok, meth_app, st_ext, ext0_ok, ext1_ok, st_comp, comp1_ok, comp2_ok, st_evs_nil, st_evs, evs1_ok, evs2_ok, settle_v, settle_f, settle_s, toD_l, st_evd_nil, st_evd, evd1_ok, evd2_ok, evd3_ok, frz_v, frz_f, frz_s, frzS_o, frzS_v, nm_s, nmS_v, nmS_o, pk_v, pk_f, pk_s, pkS_o, pkS_v, tst_ok, tst2_ok, truth_b, bindS, st_of, src0_ok, src1_l, src1_t, st_rng1, st_rng2, rg2_ok, st_rng3, rg3_ok, rg3b_ok, st_enum, en0_ok, en1_l, en1_t, st_zip, zp0_ok, zp1_ok, zp2_ok, zp3_ll, zp3_lt, zp3_tl, zp3_tt, st_srev, rv0_ok, rv1_l, rv1_t, st_cons, st_nil, seq_nx, seq_rt, seq_bk, seq_ct, seq_exc, st_mov, mov0_ok, mov1_u, mov1_v, mov1_o, st_asg, asg1_ok, asg2_fu, asg2_fv, asg2_fo, asg2_vu, asg2_vv, asg2_vo, asg2_su, asg2_sv, asg2_so, asg3_ok, st_par, par1_ok, par2_ok, par3_ok, par4_ok, st_unp, unp1_ok, unp2_ok, unp3_ok, tg_n, tg_2, tg_3, st_set, set0_ok, set1_ok, set2_ok, set3_ok, set4_ok, set5_ok, st_ex, ex1_ok, st_ret, ret1_ok, st_ret0, st_if, if1_t, if1_f, st_for, for1_ok, st_brk, st_cont, st_pass, st_kill, kill_nil, kill_cons, back_nil, back_cons, back2_ok, is_n, is_t, free_n, free_t, free_v, free_u, bo_add, bo_sub, cm_lt, cm_le, cm_gt, cm_ge, cm_eqi, cm_nei, cm_eqs, cm_nes, cm_isb, cm_isnotb, mapS, ix_l, ix_t, at_0, at_1, at_2, lk_cons, fn_lenl, fn_lent, fn_abs, fn_max, fn_min, fn_tupl, fn_tupt, fn_lisl, fn_list, fn_strs, fn_inti, fn_intb, body_0, body_1, body_2, body_3, body_4, body_5, body_6, end1_rt, end1_nx, end1_x, end2_v, end2_f, end2_s, end3_o, end3_v, endX_ok, outs_nil, outs_v, outs_o, out2_ok, as_nil, as_v, as_o, st_raise, raise_1s, raise_1i, raise_2si, raise_2ii, st_try, try_nx, try_rt, try_bk, try_ct, f1P0, e0, e]
    · have A : binD .add (tupI r) (.tuple [.int (k : Int)]) = some (.v (tupI (r ++ [(k : Int)]))) := by
        have := tp_add (intsD r) [.int (k : Int)] (by simp; omega)
        rw [tupI_eq, tupI_eq, this]
        simp
      simp only [Int.reduceLT, Int.reduceLE, Int.reduceEq, Int.reduceNe, Int.reduceAdd, Int.reduceMul, Int.reduceSub, Int.reduceNeg, Int.reducePow, Int.reduceToNat, Nat.reduceAdd, Nat.reduceSub, Nat.reduceMul, Nat.reduceLT, Nat.reduceLeDiff, Nat.reduceEqDiff, Nat.reducePow, Int.cast_ofNat_Int, tst_false, tst_bool, R.of_some, R.of_none, List.getElem?_cons_zero, List.getElem?_cons_succ, List.set_cons_zero, List.set_cons_succ, List.length_cons, List.length_nil, List.cons_append, List.nil_append, List.replicate_zero, List.replicate_succ, Bool.not_true, Bool.not_false, decide_true, decide_false, Nat.zero_add, Nat.add_zero, List.all_cons, List.all_nil, Bool.and_true, Bool.true_and, Bool.and_self, st_bin, bin1_ok, bin2_ok, bin3_ok, st_neg, neg1_ok, st_cmp, cmp1_ok, cmp2_ok, cmp3_ok, st_chain, chn1_ok, chn2_ok, chn2b_ok, chn3_t, chn3_f, chn4_ok, st_and, and1_t, and1_f, st_or, or1_t, or1_f, st_not, not1_ok, st_ite, ite1_t, ite1_f, st_tup, tup1_ok, st_lst, lst1_ok, st_dct, dct0_ok, st_dc1, dcp1_i, dcp1_b, dcp1_s, st_dget, dget1_ok, dget2_ok, dget3_ok, st_rep, rep1_ok, st_ix, ix1_ok, ix2_ok, ix3_ok, st_sl, sl1_ok, sl2_ok, sl2b_ok, sl3_ok, sl4_ok, part_no, part_c, part_v, part_bin, part_neg, st_no, st_rev, rev1_ok, st_c, st_v, st_g, st_call, st_callp, callp1_ok, callp2_ok, callp2_ok2, call1_ok, callA_0, callA_1, callB_ok, callB_exc, callC_v, callC_f, callX_ok, slots_nil, slots_v, slots_f, slots_s, args_nil, args_cons, argC_ok, arg_v, arg_f, arg_s, argS_ok, put_nil, put_cons, put2_ok, st_blt, blt1_ok, blt2_ok, pks_nil, pks_cons, pkC_ok, st_lrng, lrng1_ok, st_isi, isi1_ok, isi2_ok, st_meth, meth1_ok, meth2_ok, meth3_ok, meth4_ok, meth_app, st_ext, ext0_ok, ext1_ok, st_comp, comp1_ok, comp2_ok, st_evs_nil, st_evs, evs1_ok, evs2_ok, settle_v, settle_f, settle_s, toD_l, st_evd_nil, st_evd, evd1_ok, evd2_ok, evd3_ok, frz_v, frz_f, frz_s, frzS_o, frzS_v, nm_s, nmS_v, nmS_o, pk_v, pk_f, pk_s, pkS_o, pkS_v, tst_ok, tst2_ok, truth_b, bindS, st_of, src0_ok, src1_l, src1_t, st_rng1, st_rng2, rg2_ok, st_rng3, rg3_ok, rg3b_ok, st_enum, en0_ok, en1_l, en1_t, st_zip, zp0_ok, zp1_ok, zp2_ok, zp3_ll, zp3_lt, zp3_tl, zp3_tt, st_srev, rv0_ok, rv1_l, rv1_t, st_cons, st_nil, seq_nx, seq_rt, seq_bk, seq_ct, seq_exc, st_mov, mov0_ok, mov1_u, mov1_v, mov1_o, st_asg, asg1_ok, asg2_fu, asg2_fv, asg2_fo, asg2_vu, asg2_vv, asg2_vo, asg2_su, asg2_sv, asg2_so, asg3_ok, st_par, par1_ok, par2_ok, par3_ok, par4_ok, st_unp, unp1_ok, unp2_ok, unp3_ok, tg_n, tg_2, tg_3, st_set, set0_ok, set1_ok, set2_ok, set3_ok, set4_ok, set5_ok, st_ex, ex1_ok, st_ret, ret1_ok, st_ret0, st_if, if1_t, if1_f, st_for, for1_ok, st_brk, st_cont, st_pass, st_kill, kill_nil, kill_cons, back_nil, back_cons, back2_ok, is_n, is_t, free_n, free_t, free_v, free_u, bo_add, bo_sub, cm_lt, cm_le, cm_gt, cm_ge, cm_eqi, cm_nei, cm_eqs, cm_nes, cm_isb, cm_isnotb, mapS, ix_l, ix_t, at_0, at_1, at_2, lk_cons, fn_lenl, fn_lent, fn_abs, fn_max, fn_min, fn_tupl, fn_tupt, fn_lisl, fn_list, fn_strs, fn_inti, fn_intb, body_0, body_1, body_2, body_3, body_4, body_5, body_6, end1_rt, end1_nx, end1_x, end2_v, end2_f, end2_s, end3_o, end3_v, endX_ok, outs_nil, outs_v, outs_o, out2_ok, as_nil, as_v, as_o, st_raise, raise_1s, raise_1i, raise_2si, raise_2ii, st_try, try_nx, try_rt, try_bk, try_ct, f1E0, e0, A]) (sz_of (by simp; omega))
  rw [← rng0, List.nil_append] at c
  have es : (((List.range n).filter fun k : Nat => may r (k : Int)).map fun k : Nat => tupI (r ++ [(k : Int)])) = rowsT (stepD n r) := by
    unfold stepD rowsT
    rw [List.map_map]; rfl
  rw [es] at c
  have hs := step_len n r
  have ex := ext2_ok 3 (xs := rowsT acc) (ys := rowsT (stepD n r)) [.val (.int (n : Int)), s1, s2, .own none false (.l (rowsT acc)), .un, .val (tupI r)] none (sz_of (by simp; omega))
  have hr0 : okR (n : Int) = true := okR_small (by omega) (by omega)
  rw [show rowsT (acc ++ stepD n r) = rowsT acc ++ rowsT (stepD n r) from List.map_append]
  generalize hy : exSs Φ f1L0 [.val (.int (n : Int)), s1, s2, .own none false (.l (rowsT acc)), .un, .val (tupI r)] = y
  generalize rowsT (stepD n r) = S at *
  simp (disch := (first | assumption | (simp only [free_n, free_t, free_v, free_u, List.getElem?_cons_zero, List.getElem?_cons_succ, List.all_cons, List.all_nil, Bool.and_true, Bool.and_self]; done) | (simp only [List.length_cons, List.length_nil, List.length_append, List.length_map, List.length_zip, List.length_drop, List.length_take, List.length_range, List.length_reverse, List.length_set, List.length_replicate, List.length_zipIdx, List.length_tail, len_rngI]; omega) | exact sz_of (by simp only [List.length_cons, List.length_nil, List.length_append, List.length_map, List.length_zip, List.length_drop, List.length_take, List.length_range, List.length_reverse, List.length_set, List.length_replicate, List.length_zipIdx, List.length_tail, len_rngI]; omega) | omega | exact mulOk_l (by omega) | exact mulOk_r (by omega) | exact noPy (by omega) | exact okR_small (by omega) (by omega) | (apply And.intro <;> omega))) only [Int.reduceLT, Int.reduceLE, Int.reduceEq, Int.reduceNe, Int.reduceAdd, Int.reduceMul, Int.reduceSub, Int.reduceNeg, Int.reducePow, Int.reduceToNat, Nat.reduceAdd, Nat.reduceSub, Nat.reduceMul, Nat.reduceLT, Nat.reduceLeDiff, Nat.reduceEqDiff, Nat.reducePow, Int.cast_ofNat_Int, tst_false, tst_bool, R.of_some, R.of_none, List.getElem?_cons_zero, List.getElem?_cons_succ, List.set_cons_zero, List.set_cons_succ, List.length_cons, List.length_nil, List.cons_append, List.nil_append, List.replicate_zero, List.replicate_succ, Bool.not_true, Bool.not_false, decide_true, decide_false, Nat.zero_add, Nat.add_zero, List.all_cons, List.all_nil, Bool.and_true, Bool.true_and, Bool.and_self, st_bin, bin1_ok, bin2_ok, bin3_ok, st_neg, neg1_ok, st_cmp, cmp1_ok, cmp2_ok, cmp3_ok, st_chain, chn1_ok, chn2_ok, chn2b_ok, chn3_t, chn3_f, chn4_ok, st_and, and1_t, and1_f, st_or, or1_t, or1_f, st_not, not1_ok, st_ite, ite1_t, ite1_f, st_tup, tup1_ok, st_lst, lst1_ok, st_dct, dct0_ok, st_dc1, dcp1_i, dcp1_b, dcp1_s, st_dget, dget1_ok, dget2_ok, dget3_ok, st_rep, rep1_ok, st_ix, ix1_ok, ix2_ok, ix3_ok, st_sl, sl1_ok, sl2_ok, sl2b_ok, sl3_ok, sl4_ok, part_no, part_c, part_v, part_bin, part_neg, st_no, st_rev, rev1_ok, st_c, st_v, st_g, st_call, st_callp, callp1_ok, callp2_ok, callp2_ok2, call1_ok, callA_0, callA_1, callB_ok, callB_exc, callC_v, callC_f, callX_ok, slots_nil, slots_v, slots_f, slots_s, args_nil, args_cons, argC_ok, arg_v, arg_f, arg_s, argS_ok, put_nil, put_cons, put2_ok, st_blt, blt1_ok, blt2_ok, pks_nil, pks_cons, pkC_ok, st_lrng, lrng1_ok, st_isi, isi1_ok, isi2_ok, st_meth, meth1_ok, meth2_ok, meth3_ok, meth4_ok, meth_app, st_ext, ext0_ok, ext1_ok, st_comp, comp1_ok, comp2_ok, st_evs_nil, st_evs, evs1_ok, evs2_ok, settle_v, settle_f, settle_s, toD_l, st_evd_nil, st_evd, evd1_ok, evd2_ok, evd3_ok, frz_v, frz_f, frz_s, frzS_o, frzS_v, nm_s, nmS_v, nmS_o, pk_v, pk_f, pk_s, pkS_o, pkS_v, tst_ok, tst2_ok, truth_b, bindS, st_of, src0_ok, src1_l, src1_t, st_rng1, st_rng2, rg2_ok, st_rng3, rg3_ok, rg3b_ok, st_enum, en0_ok, en1_l, en1_t, st_zip, zp0_ok, zp1_ok, zp2_ok, zp3_ll, zp3_lt, zp3_tl, zp3_tt, st_srev, rv0_ok, rv1_l, rv1_t, st_cons, st_nil, seq_nx, seq_rt, seq_bk, seq_ct, seq_exc, st_mov, mov0_ok, mov1_u, mov1_v, mov1_o, st_asg, asg1_ok, asg2_fu, asg2_fv, asg2_fo, asg2_vu, asg2_vv, asg2_vo, asg2_su, asg2_sv, asg2_so, asg3_ok, st_par, par1_ok, par2_ok, par3_ok, par4_ok, st_unp, unp1_ok, unp2_ok, unp3_ok, tg_n, tg_2, tg_3, st_set, set0_ok, set1_ok, set2_ok, set3_ok, set4_ok, set5_ok, st_ex, ex1_ok, st_ret, ret1_ok, st_ret0, st_if, if1_t, if1_f, st_for, for1_ok, st_brk, st_cont, st_pass, st_kill, kill_nil, kill_cons, back_nil, back_cons, back2_ok, is_n, is_t, free_n, free_t, free_v, free_u, bo_add, bo_sub, cm_lt, cm_le, cm_gt, cm_ge, cm_eqi, cm_nei, cm_eqs, cm_nes, cm_isb, cm_isnotb, mapS, ix_l, ix_t, at_0, at_1, at_2, lk_cons, fn_lenl, fn_lent, fn_abs, fn_max, fn_min, fn_tupl, fn_tupt, fn_lisl, fn_list, fn_strs, fn_inti, fn_intb, body_0, body_1, body_2, body_3, body_4, body_5, body_6, end1_rt, end1_nx, end1_x, end2_v, end2_f, end2_s, end3_o, end3_v, endX_ok, outs_nil, outs_v, outs_o, out2_ok, as_nil, as_v, as_o, st_raise, raise_1s, raise_1i, raise_2si, raise_2ii, st_try, try_nx, try_rt, try_bk, try_ct, bo_mul, bo_mod, bo_div, bo_ll, bo_tt, rg1_ok, rg2b_ok, lrng2_ok, ext2_ok, rep2_ok, f1L0, rg1_ok _ hr0, Int.toNat_natCast, c, ex] at hy
  exact hy.symm
theorem dn_okk (w0 : MayOk (Φ 0)) : DnOk (body Φ 6 1 b1) := by
  intro n hn
  have hr0 : okR (n : Int) = true := okR_small (by omega) (by omega)
  have l := forK_range (Φ := Φ) (tg := .n 2) (b := f1L1) (fun k => [.val (.int (n : Int)), .own none false (.l (rowsT (dn n k))), .un, .un, .un, .un]) 0 n (fun k hk => by
    refine ⟨_, tg_n _ _ _, ?_⟩
    have hl := dn_len hn (show k ≤ 7 by omega)
    have l2 := forK_fold (Φ := Φ) (tg := .n 5) (b := f1L0) (emb := tupI) (env := fun acc : List (List Int) => [.val (.int (n : Int)), .val (.list (rowsT (dn n k))), .val (.int (0 + (k : Int))), .own none false (.l (rowsT acc)), .un, .un]) (f := fun acc r => acc ++ stepD n r) (fun i acc => acc.length ≤ 7 * i) (l := dn n k) (k := 0) (s := []) (by simp) (by
      intro i acc r hi hm ha
      have hrl := dn_row hm
      refine ⟨_, tg_n _ _ _, inner w0 hn _ _ (by omega) (by omega), ?_⟩
      rw [List.length_append]
      have := step_len n r
      omega) (fun _ => rfl)
    have l2 := l2.1
    rw [fold_flat, List.nil_append] at l2
    show exSs Φ f1L1 [.val (.int (n : Int)), .own none false (.l (rowsT (dn n k))), .val (.int (0 + (k : Int))), .un, .un, .un] = .nx [.val (.int (n : Int)), .own none false (.l (rowsT ((dn n k).flatMap (stepD n)))), .un, .un, .un, .un]
    generalize hy : exSs Φ f1L1 _ = y
    have l2 : forK Φ (.n 5) f1L0 (rowsT (dn n k)) [.val (.int (n : Int)), .val (.list (rowsT (dn n k))), .val (.int (0 + (k : Int))), .own none false (.l []), .un, .un] = _ := l2
    generalize rowsT ((dn n k).flatMap (stepD n)) = S at *
    generalize rowsT (dn n k) = R0 at *
    simp (disch := (first | assumption | (simp only [free_n, free_t, free_v, free_u, List.getElem?_cons_zero, List.getElem?_cons_succ, List.all_cons, List.all_nil, Bool.and_true, Bool.and_self]; done) | (simp only [List.length_cons, List.length_nil, List.length_append, List.length_map, List.length_zip, List.length_drop, List.length_take, List.length_range, List.length_reverse, List.length_set, List.length_replicate, List.length_zipIdx, List.length_tail, len_rngI]; omega) | exact sz_of (by simp only [List.length_cons, List.length_nil, List.length_append, List.length_map, List.length_zip, List.length_drop, List.length_take, List.length_range, List.length_reverse, List.length_set, List.length_replicate, List.length_zipIdx, List.length_tail, len_rngI]; omega) | omega | exact mulOk_l (by omega) | exact mulOk_r (by omega) | exact noPy (by omega) | exact okR_small (by omega) (by omega) | (apply And.intro <;> omega))) only [Int.reduceLT, Int.reduceLE, Int.reduceEq, Int.reduceNe, Int.reduceAdd, Int.reduceMul, Int.reduceSub, Int.reduceNeg, Int.reducePow, Int.reduceToNat, Nat.reduceAdd, Nat.reduceSub, Nat.reduceMul, Nat.reduceLT, Nat.reduceLeDiff, Nat.reduceEqDiff, Nat.reducePow, Int.cast_ofNat_Int, tst_false, tst_bool, R.of_some, R.of_none, List.getElem?_cons_zero, List.getElem?_cons_succ, List.set_cons_zero, List.set_cons_succ, List.length_cons, List.length_nil, List.cons_append, List.nil_append, List.replicate_zero, List.replicate_succ, Bool.not_true, Bool.not_false, decide_true, decide_false, Nat.zero_add, Nat.add_zero, List.all_cons, List.all_nil, Bool.and_true, Bool.true_and, Bool.and_self, st_bin, bin1_ok, bin2_ok, bin3_ok, st_neg, neg1_ok, st_cmp, cmp1_ok, cmp2_ok, cmp3_ok, st_chain, chn1_ok, chn2_ok, chn2b_ok, chn3_t, chn3_f, chn4_ok, st_and, and1_t, and1_f, st_or, or1_t, or1_f, st_not, not1_ok, st_ite, ite1_t, ite1_f, st_tup, tup1_ok, st_lst, lst1_ok, st_dct, dct0_ok, st_dc1, dcp1_i, dcp1_b, dcp1_s, st_dget, dget1_ok, dget2_ok, dget3_ok, st_rep, rep1_ok, st_ix, ix1_ok, ix2_ok, ix3_ok, st_sl, sl1_ok, sl2_ok, sl2b_ok, sl3_ok, sl4_ok, part_no, part_c, part_v, part_bin, part_neg, st_no, st_rev, rev1_ok, st_c, st_v, st_g, st_call, st_callp, callp1_ok, callp2_ok, callp2_ok2, call1_ok, callA_0, callA_1, callB_ok, callB_exc, callC_v, callC_f, callX_ok, slots_nil, slots_v, slots_f, slots_s, args_nil, args_cons, argC_ok, arg_v, arg_f, arg_s, argS_ok, put_nil, put_cons, put2_ok, st_blt, blt1_ok, blt2_ok, pks_nil, pks_cons, pkC_ok, st_lrng, lrng1_ok, st_isi, isi1_ok, isi2_ok, st_meth, meth1_ok, meth2_ok, meth3_ok, meth4_ok, meth_app, st_ext, ext0_ok, ext1_ok, st_comp, comp1_ok, comp2_ok, st_evs_nil, st_evs, evs1_ok, evs2_ok, settle_v, settle_f, settle_s, toD_l, st_evd_nil, st_evd, evd1_ok, evd2_ok, evd3_ok, frz_v, frz_f, frz_s, frzS_o, frzS_v, nm_s, nmS_v, nmS_o, pk_v, pk_f, pk_s, pkS_o, pkS_v, tst_ok, tst2_ok, truth_b, bindS, st_of, src0_ok, src1_l, src1_t, st_rng1, st_rng2, rg2_ok, st_rng3, rg3_ok, rg3b_ok, st_enum, en0_ok, en1_l, en1_t, st_zip, zp0_ok, zp1_ok, zp2_ok, zp3_ll, zp3_lt, zp3_tl, zp3_tt, st_srev, rv0_ok, rv1_l, rv1_t, st_cons, st_nil, seq_nx, seq_rt, seq_bk, seq_ct, seq_exc, st_mov, mov0_ok, mov1_u, mov1_v, mov1_o, st_asg, asg1_ok, asg2_fu, asg2_fv, asg2_fo, asg2_vu, asg2_vv, asg2_vo, asg2_su, asg2_sv, asg2_so, asg3_ok, st_par, par1_ok, par2_ok, par3_ok, par4_ok, st_unp, unp1_ok, unp2_ok, unp3_ok, tg_n, tg_2, tg_3, st_set, set0_ok, set1_ok, set2_ok, set3_ok, set4_ok, set5_ok, st_ex, ex1_ok, st_ret, ret1_ok, st_ret0, st_if, if1_t, if1_f, st_for, for1_ok, st_brk, st_cont, st_pass, st_kill, kill_nil, kill_cons, back_nil, back_cons, back2_ok, is_n, is_t, free_n, free_t, free_v, free_u, bo_add, bo_sub, cm_lt, cm_le, cm_gt, cm_ge, cm_eqi, cm_nei, cm_eqs, cm_nes, cm_isb, cm_isnotb, mapS, ix_l, ix_t, at_0, at_1, at_2, lk_cons, fn_lenl, fn_lent, fn_abs, fn_max, fn_min, fn_tupl, fn_tupt, fn_lisl, fn_list, fn_strs, fn_inti, fn_intb, body_0, body_1, body_2, body_3, body_4, body_5, body_6, end1_rt, end1_nx, end1_x, end2_v, end2_f, end2_s, end3_o, end3_v, endX_ok, outs_nil, outs_v, outs_o, out2_ok, as_nil, as_v, as_o, st_raise, raise_1s, raise_1i, raise_2si, raise_2ii, st_try, try_nx, try_rt, try_bk, try_ct, bo_mul, bo_mod, bo_div, bo_ll, bo_tt, rg1_ok, rg2b_ok, lrng2_ok, ext2_ok, rep2_ok, f1L1, l2] at hy
    exact hy.symm) (fun _ => rfl)
  have l' : forK Φ (.n 2) f1L1 (rngI 0 n) [.val (.int (n : Int)), .own none false (.l [.tuple []]), .un, .un, .un, .un] = .nx [.val (.int (n : Int)), .own none false (.l (rowsT (dn n n))), .un, .un, .un, .un] := l
  generalize hy : body Φ 6 1 b1 [.val (.int (n : Int))] = y
  generalize rowsT (dn n n) = S at *
  simp (disch := (first | assumption | (simp only [free_n, free_t, free_v, free_u, List.getElem?_cons_zero, List.getElem?_cons_succ, List.all_cons, List.all_nil, Bool.and_true, Bool.and_self]; done) | (simp only [List.length_cons, List.length_nil, List.length_append, List.length_map, List.length_zip, List.length_drop, List.length_take, List.length_range, List.length_reverse, List.length_set, List.length_replicate, List.length_zipIdx, List.length_tail, len_rngI]; omega) | exact sz_of (by simp only [List.length_cons, List.length_nil, List.length_append, List.length_map, List.length_zip, List.length_drop, List.length_take, List.length_range, List.length_reverse, List.length_set, List.length_replicate, List.length_zipIdx, List.length_tail, len_rngI]; omega) | omega | exact mulOk_l (by omega) | exact mulOk_r (by omega) | exact noPy (by omega) | exact okR_small (by omega) (by omega) | (apply And.intro <;> omega))) only [Int.reduceLT, Int.reduceLE, Int.reduceEq, Int.reduceNe, Int.reduceAdd, Int.reduceMul, Int.reduceSub, Int.reduceNeg, Int.reducePow, Int.reduceToNat, Nat.reduceAdd, Nat.reduceSub, Nat.reduceMul, Nat.reduceLT, Nat.reduceLeDiff, Nat.reduceEqDiff, Nat.reducePow, Int.cast_ofNat_Int, tst_false, tst_bool, R.of_some, R.of_none, List.getElem?_cons_zero, List.getElem?_cons_succ, List.set_cons_zero, List.set_cons_succ, List.length_cons, List.length_nil, List.cons_append, List.nil_append, List.replicate_zero, List.replicate_succ, Bool.not_true, Bool.not_false, decide_true, decide_false, Nat.zero_add, Nat.add_zero, List.all_cons, List.all_nil, Bool.and_true, Bool.true_and, Bool.and_self, st_bin, bin1_ok, bin2_ok, bin3_ok, st_neg, neg1_ok, st_cmp, cmp1_ok, cmp2_ok, cmp3_ok, st_chain, chn1_ok, chn2_ok, chn2b_ok, chn3_t, chn3_f, chn4_ok, st_and, and1_t, and1_f, st_or, or1_t, or1_f, st_not, not1_ok, st_ite, ite1_t, ite1_f, st_tup, tup1_ok, st_lst, lst1_ok, st_dct, dct0_ok, st_dc1, dcp1_i, dcp1_b, dcp1_s, st_dget, dget1_ok, dget2_ok, dget3_ok, st_rep, rep1_ok, st_ix, ix1_ok, ix2_ok, ix3_ok, st_sl, sl1_ok, sl2_ok, sl2b_ok, sl3_ok, sl4_ok, part_no, part_c, part_v, part_bin, part_neg, st_no, st_rev, rev1_ok, st_c, st_v, st_g, st_call, st_callp, callp1_ok, callp2_ok, callp2_ok2, call1_ok, callA_0, callA_1, callB_ok, callB_exc, callC_v, callC_f, callX_ok, slots_nil, slots_v, slots_f, slots_s, args_nil, args_cons, argC_ok, arg_v, arg_f, arg_s, argS_ok, put_nil, put_cons, put2_ok, st_blt, blt1_ok, blt2_ok, pks_nil, pks_cons, pkC_ok, st_lrng, lrng1_ok, st_isi, isi1_ok, isi2_ok, st_meth, meth1_ok, meth2_ok, meth3_ok, meth4_ok, meth_app, st_ext, ext0_ok, ext1_ok, st_comp, comp1_ok, comp2_ok, st_evs_nil, st_evs, evs1_ok, evs2_ok, settle_v, settle_f, settle_s, toD_l, st_evd_nil, st_evd, evd1_ok, evd2_ok, evd3_ok, frz_v, frz_f, frz_s, frzS_o, frzS_v, nm_s, nmS_v, nmS_o, pk_v, pk_f, pk_s, pkS_o, pkS_v, tst_ok, tst2_ok, truth_b, bindS, st_of, src0_ok, src1_l, src1_t, st_rng1, st_rng2, rg2_ok, st_rng3, rg3_ok, rg3b_ok, st_enum, en0_ok, en1_l, en1_t, st_zip, zp0_ok, zp1_ok, zp2_ok, zp3_ll, zp3_lt, zp3_tl, zp3_tt, st_srev, rv0_ok, rv1_l, rv1_t, st_cons, st_nil, seq_nx, seq_rt, seq_bk, seq_ct, seq_exc, st_mov, mov0_ok, mov1_u, mov1_v, mov1_o, st_asg, asg1_ok, asg2_fu, asg2_fv, asg2_fo, asg2_vu, asg2_vv, asg2_vo, asg2_su, asg2_sv, asg2_so, asg3_ok, st_par, par1_ok, par2_ok, par3_ok, par4_ok, st_unp, unp1_ok, unp2_ok, unp3_ok, tg_n, tg_2, tg_3, st_set, set0_ok, set1_ok, set2_ok, set3_ok, set4_ok, set5_ok, st_ex, ex1_ok, st_ret, ret1_ok, st_ret0, st_if, if1_t, if1_f, st_for, for1_ok, st_brk, st_cont, st_pass, st_kill, kill_nil, kill_cons, back_nil, back_cons, back2_ok, is_n, is_t, free_n, free_t, free_v, free_u, bo_add, bo_sub, cm_lt, cm_le, cm_gt, cm_ge, cm_eqi, cm_nei, cm_eqs, cm_nes, cm_isb, cm_isnotb, mapS, ix_l, ix_t, at_0, at_1, at_2, lk_cons, fn_lenl, fn_lent, fn_abs, fn_max, fn_min, fn_tupl, fn_tupt, fn_lisl, fn_list, fn_strs, fn_inti, fn_intb, body_0, body_1, body_2, body_3, body_4, body_5, body_6, end1_rt, end1_nx, end1_x, end2_v, end2_f, end2_s, end3_o, end3_v, endX_ok, outs_nil, outs_v, outs_o, out2_ok, as_nil, as_v, as_o, st_raise, raise_1s, raise_1i, raise_2si, raise_2ii, st_try, try_nx, try_rt, try_bk, try_ct, bo_mul, bo_mod, bo_div, bo_ll, bo_tt, rg1_ok, rg2b_ok, lrng2_ok, ext2_ok, rep2_ok, f1_eq, rg1_ok _ hr0, Int.toNat_natCast, l'] at hy
  exact hy.symm
/-! ### the law's rows -/
def AlOk (f : Sem) : Prop := ∀ n : Nat, n ≤ 7 → f [.val (.int (n : Int))] = .ok (.fresh (.l (rowsT (al n)))) []
theorem innerA {k : Nat} (hk : k ≤ 7) (s0 s2 : Slot) {r : List Int} (hr : r.length ≤ 1000) {acc : List (List Int)} (ha : acc.length ≤ 1000000) : exSs Φ f9L0 [s0, .un, s2, .own none false (.l (rowsT acc)), .val (.int (k : Int)), .val (tupI r)] = .nx [s0, .un, s2, .own none false (.l (rowsT (acc ++ putIn k r))), .val (.int (k : Int)), .un] := by
  have c := compK_map (Φ := Φ) (tg := .n 1) (e := f9E0) (emb := fun a : Nat => PyData.int ((0 : Int) + (a : Int))) (f := fun a : Nat => tupI (r.take a ++ [(k : Int)] ++ r.drop a)) (ρ := [s0, .un, s2, .own none false (.l (rowsT acc)), .val (.int (k : Int)), .val (tupI r)]) (l := List.range (k + 1)) (acc := []) (fun a hk => by
    have e0 : (0 : Int) + (a : Int) = (a : Int) := by omega
    have h1 : slD (tupI r) none (some (a : Int)) = some (.v (tupI (r.take a))) := by
      have := tp_to (intsD r) a
      rw [tupI_eq, this, tupI_eq, ← List.map_take]
    have h2 : slD (tupI r) (some (a : Int)) none = some (.v (tupI (r.drop a))) := by
      have := tp_from (intsD r) a
      rw [tupI_eq, this, tupI_eq, ← List.map_drop]
    have A : binD .add (tupI (r.take a)) (.tuple [.int (k : Int)]) = some (.v (tupI (r.take a ++ [(k : Int)]))) := by
      have := tp_add (intsD (r.take a)) [.int (k : Int)] (by simp; omega)
      rw [tupI_eq, tupI_eq, this]
      simp
    have B : binD .add (tupI (r.take a ++ [(k : Int)])) (tupI (r.drop a)) = some (.v (tupI (r.take a ++ [(k : Int)] ++ r.drop a))) := by
      have := tp_add (intsD (r.take a ++ [(k : Int)])) (intsD (r.drop a)) (by simp; omega)
      rw [tupI_eq, tupI_eq, tupI_eq, this, ← List.map_append]
    refine ⟨_, .v (tupI (r.take a ++ [(k : Int)] ++ r.drop a)), tg_n _ _ _, ?_, frz_v _ _, rfl⟩
    simp only [Int.reduceLT, Int.reduceLE, Int.reduceEq, Int.reduceNe, Int.reduceAdd, Int.reduceMul, Int.reduceSub, Int.reduceNeg, Int.reducePow, Int.reduceToNat, Nat.reduceAdd, Nat.reduceSub, Nat.reduceMul, Nat.reduceLT, Nat.reduceLeDiff, Nat.reduceEqDiff, Nat.reducePow, Int.cast_ofNat_Int, tst_false, tst_bool, R.of_some, R.of_none, List.getElem?_cons_zero, List.getElem?_cons_succ, List.set_cons_zero, List.set_cons_succ, List.length_cons, List.length_nil, List.cons_append, List.nil_append, List.replicate_zero, List.replicate_succ, Bool.not_true, Bool.not_false, decide_true, decide_false, Nat.zero_add, Nat.add_zero, List.all_cons, List.all_nil, Bool.and_true, Bool.true_and, Bool.and_self, st_bin, bin1_ok, bin2_ok, bin3_ok, st_neg, neg1_ok, st_cmp, cmp1_ok, cmp2_ok, cmp3_ok, st_chain, chn1_ok, chn2_ok, chn2b_ok, chn3_t, chn3_f, chn4_ok, st_and, and1_t, and1_f, st_or, or1_t, or1_f, st_not, not1_ok, st_ite, ite1_t, ite1_f, st_tup, tup1_ok, st_lst, lst1_ok, st_dct, dct0_ok, st_dc1, dcp1_i, dcp1_b, dcp1_s, st_dget, dget1_ok, dget2_ok, dget3_ok, st_rep, rep1_ok, st_ix, ix1_ok, ix2_ok, ix3_ok, st_sl, sl1_ok, sl2_ok, sl2b_ok, sl3_ok, sl4_ok, part_no, part_c, part_v, part_bin, part_neg, st_no, st_rev, rev1_ok, st_c, st_v, st_g, st_call, st_callp, callp1_ok, callp2_ok, callp2_ok2, call1_ok, callA_0, callA_1, callB_ok, callB_exc, callC_v, callC_f, callX_ok, slots_nil, slots_v, slots_f, slots_s, args_nil, args_cons, argC_ok, arg_v, arg_f, arg_s, argS_ok, put_nil, put_cons, put2_ok, st_blt, blt1_ok, blt2_ok, pks_nil, pks_cons, pkC_ok, st_lrng, lrng1_ok, st_isi, isi1_ok, isi2_ok, st_meth, meth1_ok, meth2_ok, meth3_ok, meth4_ok, meth_app, st_ext, ext0_ok, ext1_ok, st_comp, comp1_ok, comp2_ok, st_evs_nil, st_evs, evs1_ok, evs2_ok, settle_v, settle_f, settle_s, toD_l, st_evd_nil, st_evd, evd1_ok, evd2_ok, evd3_ok, frz_v, frz_f, frz_s, frzS_o, frzS_v, nm_s, nmS_v, nmS_o, pk_v, pk_f, pk_s, pkS_o, pkS_v, tst_ok, tst2_ok, truth_b, bindS, st_of, src0_ok, src1_l, src1_t, st_rng1, st_rng2, rg2_ok, st_rng3, rg3_ok, rg3b_ok, st_enum, en0_ok, en1_l, en1_t, st_zip, zp0_ok, zp1_ok, zp2_ok, zp3_ll, zp3_lt, zp3_tl, zp3_tt, st_srev, rv0_ok, rv1_l, rv1_t, st_cons, st_nil, seq_nx, seq_rt, seq_bk, seq_ct, seq_exc, st_mov, mov0_ok, mov1_u, mov1_v, mov1_o, st_asg, asg1_ok, asg2_fu, asg2_fv, asg2_fo, asg2_vu, asg2_vv, asg2_vo, asg2_su, asg2_sv, asg2_so, asg3_ok, st_par, par1_ok, par2_ok, par3_ok, par4_ok, st_unp, unp1_ok, unp2_ok, unp3_ok, tg_n, tg_2, tg_3, st_set, set0_ok, set1_ok, set2_ok, set3_ok, set4_ok, set5_ok, st_ex, ex1_ok, st_ret, ret1_ok, st_ret0, st_if, if1_t, if1_f, st_for, for1_ok, st_brk, st_cont, st_pass, st_kill, kill_nil, kill_cons, back_nil, back_cons, back2_ok, is_n, is_t, free_n, free_t, free_v, free_u, bo_add, bo_sub, cm_lt, cm_le, cm_gt, cm_ge, cm_eqi, cm_nei, cm_eqs, cm_nes, cm_isb, cm_isnotb, mapS, ix_l, ix_t, at_0, at_1, at_2, lk_cons, fn_lenl, fn_lent, fn_abs, fn_max, fn_min, fn_tupl, fn_tupt, fn_lisl, fn_list, fn_strs, fn_inti, fn_intb, body_0, body_1, body_2, body_3, body_4, body_5, body_6, end1_rt, end1_nx, end1_x, end2_v, end2_f, end2_s, end3_o, end3_v, endX_ok, outs_nil, outs_v, outs_o, out2_ok, as_nil, as_v, as_o, st_raise, raise_1s, raise_1i, raise_2si, raise_2ii, st_try, try_nx, try_rt, try_bk, try_ct, f9E0, e0, h1, h2, A, B]) (sz_of (by simp; omega))
  rw [← rng0, List.nil_append] at c
  have es : ((List.range (k + 1)).map fun a : Nat => tupI (r.take a ++ [(k : Int)] ++ r.drop a)) = rowsT (putIn k r) := by
    unfold putIn rowsT
    rw [List.map_map]; rfl
  rw [es] at c
  have hs := put_len k r
  have ex := ext2_ok 3 (xs := rowsT acc) (ys := rowsT (putIn k r)) [s0, .un, s2, .own none false (.l (rowsT acc)), .val (.int (k : Int)), .val (tupI r)] none (sz_of (by simp; omega))
  have ek : (k : Int) + 1 = ((k + 1 : Nat) : Int) := by omega
  have hr0 : okR ((k + 1 : Nat) : Int) = true := okR_small (by omega) (by omega)
  rw [show rowsT (acc ++ putIn k r) = rowsT acc ++ rowsT (putIn k r) from List.map_append]
  generalize hy : exSs Φ f9L0 [s0, .un, s2, .own none false (.l (rowsT acc)), .val (.int (k : Int)), .val (tupI r)] = y
  generalize rowsT (putIn k r) = S at *
  simp (disch := (first | assumption | (simp only [free_n, free_t, free_v, free_u, List.getElem?_cons_zero, List.getElem?_cons_succ, List.all_cons, List.all_nil, Bool.and_true, Bool.and_self]; done) | (simp only [List.length_cons, List.length_nil, List.length_append, List.length_map, List.length_zip, List.length_drop, List.length_take, List.length_range, List.length_reverse, List.length_set, List.length_replicate, List.length_zipIdx, List.length_tail, len_rngI]; omega) | exact sz_of (by simp only [List.length_cons, List.length_nil, List.length_append, List.length_map, List.length_zip, List.length_drop, List.length_take, List.length_range, List.length_reverse, List.length_set, List.length_replicate, List.length_zipIdx, List.length_tail, len_rngI]; omega) | omega | exact mulOk_l (by omega) | exact mulOk_r (by omega) | exact noPy (by omega) | exact okR_small (by omega) (by omega) | (apply And.intro <;> omega))) only [Int.reduceLT, Int.reduceLE, Int.reduceEq, Int.reduceNe, Int.reduceAdd, Int.reduceMul, Int.reduceSub, Int.reduceNeg, Int.reducePow, Int.reduceToNat, Nat.reduceAdd, Nat.reduceSub, Nat.reduceMul, Nat.reduceLT, Nat.reduceLeDiff, Nat.reduceEqDiff, Nat.reducePow, Int.cast_ofNat_Int, tst_false, tst_bool, R.of_some, R.of_none, List.getElem?_cons_zero, List.getElem?_cons_succ, List.set_cons_zero, List.set_cons_succ, List.length_cons, List.length_nil, List.cons_append, List.nil_append, List.replicate_zero, List.replicate_succ, Bool.not_true, Bool.not_false, decide_true, decide_false, Nat.zero_add, Nat.add_zero, List.all_cons, List.all_nil, Bool.and_true, Bool.true_and, Bool.and_self, st_bin, bin1_ok, bin2_ok, bin3_ok, st_neg, neg1_ok, st_cmp, cmp1_ok, cmp2_ok, cmp3_ok, st_chain, chn1_ok, chn2_ok, chn2b_ok, chn3_t, chn3_f, chn4_ok, st_and, and1_t, and1_f, st_or, or1_t, or1_f, st_not, not1_ok, st_ite, ite1_t, ite1_f, st_tup, tup1_ok, st_lst, lst1_ok, st_dct, dct0_ok, st_dc1, dcp1_i, dcp1_b, dcp1_s, st_dget, dget1_ok, dget2_ok, dget3_ok, st_rep, rep1_ok, st_ix, ix1_ok, ix2_ok, ix3_ok, st_sl, sl1_ok, sl2_ok, sl2b_ok, sl3_ok, sl4_ok, part_no, part_c, part_v, part_bin, part_neg, st_no, st_rev, rev1_ok, st_c, st_v, st_g, st_call, st_callp, callp1_ok, callp2_ok, callp2_ok2, call1_ok, callA_0, callA_1, callB_ok, callB_exc, callC_v, callC_f, callX_ok, slots_nil, slots_v, slots_f, slots_s, args_nil, args_cons, argC_ok, arg_v, arg_f, arg_s, argS_ok, put_nil, put_cons, put2_ok, st_blt, blt1_ok, blt2_ok, pks_nil, pks_cons, pkC_ok, st_lrng, lrng1_ok, st_isi, isi1_ok, isi2_ok, st_meth, meth1_ok, meth2_ok, meth3_ok, meth4_ok, meth_app, st_ext, ext0_ok, ext1_ok, st_comp, comp1_ok, comp2_ok, st_evs_nil, st_evs, evs1_ok, evs2_ok, settle_v, settle_f, settle_s, toD_l, st_evd_nil, st_evd, evd1_ok, evd2_ok, evd3_ok, frz_v, frz_f, frz_s, frzS_o, frzS_v, nm_s, nmS_v, nmS_o, pk_v, pk_f, pk_s, pkS_o, pkS_v, tst_ok, tst2_ok, truth_b, bindS, st_of, src0_ok, src1_l, src1_t, st_rng1, st_rng2, rg2_ok, st_rng3, rg3_ok, rg3b_ok, st_enum, en0_ok, en1_l, en1_t, st_zip, zp0_ok, zp1_ok, zp2_ok, zp3_ll, zp3_lt, zp3_tl, zp3_tt, st_srev, rv0_ok, rv1_l, rv1_t, st_cons, st_nil, seq_nx, seq_rt, seq_bk, seq_ct, seq_exc, st_mov, mov0_ok, mov1_u, mov1_v, mov1_o, st_asg, asg1_ok, asg2_fu, asg2_fv, asg2_fo, asg2_vu, asg2_vv, asg2_vo, asg2_su, asg2_sv, asg2_so, asg3_ok, st_par, par1_ok, par2_ok, par3_ok, par4_ok, st_unp, unp1_ok, unp2_ok, unp3_ok, tg_n, tg_2, tg_3, st_set, set0_ok, set1_ok, set2_ok, set3_ok, set4_ok, set5_ok, st_ex, ex1_ok, st_ret, ret1_ok, st_ret0, st_if, if1_t, if1_f, st_for, for1_ok, st_brk, st_cont, st_pass, st_kill, kill_nil, kill_cons, back_nil, back_cons, back2_ok, is_n, is_t, free_n, free_t, free_v, free_u, bo_add, bo_sub, cm_lt, cm_le, cm_gt, cm_ge, cm_eqi, cm_nei, cm_eqs, cm_nes, cm_isb, cm_isnotb, mapS, ix_l, ix_t, at_0, at_1, at_2, lk_cons, fn_lenl, fn_lent, fn_abs, fn_max, fn_min, fn_tupl, fn_tupt, fn_lisl, fn_list, fn_strs, fn_inti, fn_intb, body_0, body_1, body_2, body_3, body_4, body_5, body_6, end1_rt, end1_nx, end1_x, end2_v, end2_f, end2_s, end3_o, end3_v, endX_ok, outs_nil, outs_v, outs_o, out2_ok, as_nil, as_v, as_o, st_raise, raise_1s, raise_1i, raise_2si, raise_2ii, st_try, try_nx, try_rt, try_bk, try_ct, bo_mul, bo_mod, bo_div, bo_ll, bo_tt, rg1_ok, rg2b_ok, lrng2_ok, ext2_ok, rep2_ok, f9L0, ek, rg1_ok _ hr0, Int.toNat_natCast, c, ex] at hy
  exact hy.symm
theorem al_okk : AlOk (body Φ 6 1 b9) := by
  intro n hn
  have hr0 : okR (n : Int) = true := okR_small (by omega) (by omega)
  have l := forK_range (Φ := Φ) (tg := .n 4) (b := f9L1) (fun k => [.val (.int (n : Int)), .un, .own none false (.l (rowsT (al k))), .un, .un, .un]) 0 n (fun k hk => by
    refine ⟨_, tg_n _ _ _, ?_⟩
    have hl := al_len (show k ≤ 7 by omega)
    have hp : 10 ^ k ≤ 10 ^ 6 := Nat.pow_le_pow_right (by decide) (by omega)
    have e0 : (0 : Int) + (k : Int) = (k : Int) := by omega
    rw [e0]
    have l2 := forK_fold (Φ := Φ) (tg := .n 5) (b := f9L0) (emb := tupI) (env := fun acc : List (List Int) => [.val (.int (n : Int)), .un, .val (.list (rowsT (al k))), .own none false (.l (rowsT acc)), .val (.int (k : Int)), .un]) (f := fun acc r => acc ++ putIn k r) (fun i acc => acc.length ≤ (k + 1) * i) (l := al k) (k := 0) (s := []) (by simp) (by
      intro i acc r hi hm ha
      have hrl := al_row hm
      have hal : (al k).length ≤ 6000 := by
        have d : ((List.range 7).all fun k => decide ((al k).length ≤ 6000)) = true := by decide +kernel
        exact of_decide_eq_true (List.all_eq_true.mp d k (List.mem_range.mpr (by omega)))
      have hb : (k + 1) * i ≤ 8 * 6000 := Nat.mul_le_mul (by omega) (by omega)
      refine ⟨_, tg_n _ _ _, innerA (by omega) _ _ (by omega) (by omega), ?_⟩
      rw [List.length_append, put_len, Nat.mul_add]
      omega) (fun _ => rfl)
    have l2 := l2.1
    rw [fold_flat, List.nil_append] at l2
    show exSs Φ f9L1 [.val (.int (n : Int)), .un, .own none false (.l (rowsT (al k))), .un, .val (.int (k : Int)), .un] = .nx [.val (.int (n : Int)), .un, .own none false (.l (rowsT ((al k).flatMap (putIn k)))), .un, .un, .un]
    generalize hy : exSs Φ f9L1 _ = y
    have l2 : forK Φ (.n 5) f9L0 (rowsT (al k)) [.val (.int (n : Int)), .un, .val (.list (rowsT (al k))), .own none false (.l []), .val (.int (k : Int)), .un] = _ := l2
    generalize rowsT ((al k).flatMap (putIn k)) = S at *
    generalize rowsT (al k) = R0 at *
    simp (disch := (first | assumption | (simp only [free_n, free_t, free_v, free_u, List.getElem?_cons_zero, List.getElem?_cons_succ, List.all_cons, List.all_nil, Bool.and_true, Bool.and_self]; done) | (simp only [List.length_cons, List.length_nil, List.length_append, List.length_map, List.length_zip, List.length_drop, List.length_take, List.length_range, List.length_reverse, List.length_set, List.length_replicate, List.length_zipIdx, List.length_tail, len_rngI]; omega) | exact sz_of (by simp only [List.length_cons, List.length_nil, List.length_append, List.length_map, List.length_zip, List.length_drop, List.length_take, List.length_range, List.length_reverse, List.length_set, List.length_replicate, List.length_zipIdx, List.length_tail, len_rngI]; omega) | omega | exact mulOk_l (by omega) | exact mulOk_r (by omega) | exact noPy (by omega) | exact okR_small (by omega) (by omega) | (apply And.intro <;> omega))) only [Int.reduceLT, Int.reduceLE, Int.reduceEq, Int.reduceNe, Int.reduceAdd, Int.reduceMul, Int.reduceSub, Int.reduceNeg, Int.reducePow, Int.reduceToNat, Nat.reduceAdd, Nat.reduceSub, Nat.reduceMul, Nat.reduceLT, Nat.reduceLeDiff, Nat.reduceEqDiff, Nat.reducePow, Int.cast_ofNat_Int, tst_false, tst_bool, R.of_some, R.of_none, List.getElem?_cons_zero, List.getElem?_cons_succ, List.set_cons_zero, List.set_cons_succ, List.length_cons, List.length_nil, List.cons_append, List.nil_append, List.replicate_zero, List.replicate_succ, Bool.not_true, Bool.not_false, decide_true, decide_false, Nat.zero_add, Nat.add_zero, List.all_cons, List.all_nil, Bool.and_true, Bool.true_and, Bool.and_self, st_bin, bin1_ok, bin2_ok, bin3_ok, st_neg, neg1_ok, st_cmp, cmp1_ok, cmp2_ok, cmp3_ok, st_chain, chn1_ok, chn2_ok, chn2b_ok, chn3_t, chn3_f, chn4_ok, st_and, and1_t, and1_f, st_or, or1_t, or1_f, st_not, not1_ok, st_ite, ite1_t, ite1_f, st_tup, tup1_ok, st_lst, lst1_ok, st_dct, dct0_ok, st_dc1, dcp1_i, dcp1_b, dcp1_s, st_dget, dget1_ok, dget2_ok, dget3_ok, st_rep, rep1_ok, st_ix, ix1_ok, ix2_ok, ix3_ok, st_sl, sl1_ok, sl2_ok, sl2b_ok, sl3_ok, sl4_ok, part_no, part_c, part_v, part_bin, part_neg, st_no, st_rev, rev1_ok, st_c, st_v, st_g, st_call, st_callp, callp1_ok, callp2_ok, callp2_ok2, call1_ok, callA_0, callA_1, callB_ok, callB_exc, callC_v, callC_f, callX_ok, slots_nil, slots_v, slots_f, slots_s, args_nil, args_cons, argC_ok, arg_v, arg_f, arg_s, argS_ok, put_nil, put_cons, put2_ok, st_blt, blt1_ok, blt2_ok, pks_nil, pks_cons, pkC_ok, st_lrng, lrng1_ok, st_isi, isi1_ok, isi2_ok, st_meth, meth1_ok, meth2_ok, meth3_ok, meth4_ok, meth_app, st_ext, ext0_ok, ext1_ok, st_comp, comp1_ok, comp2_ok, st_evs_nil, st_evs, evs1_ok, evs2_ok, settle_v, settle_f, settle_s, toD_l, st_evd_nil, st_evd, evd1_ok, evd2_ok, evd3_ok, frz_v, frz_f, frz_s, frzS_o, frzS_v, nm_s, nmS_v, nmS_o, pk_v, pk_f, pk_s, pkS_o, pkS_v, tst_ok, tst2_ok, truth_b, bindS, st_of, src0_ok, src1_l, src1_t, st_rng1, st_rng2, rg2_ok, st_rng3, rg3_ok, rg3b_ok, st_enum, en0_ok, en1_l, en1_t, st_zip, zp0_ok, zp1_ok, zp2_ok, zp3_ll, zp3_lt, zp3_tl, zp3_tt, st_srev, rv0_ok, rv1_l, rv1_t, st_cons, st_nil, seq_nx, seq_rt, seq_bk, seq_ct, seq_exc, st_mov, mov0_ok, mov1_u, mov1_v, mov1_o, st_asg, asg1_ok, asg2_fu, asg2_fv, asg2_fo, asg2_vu, asg2_vv, asg2_vo, asg2_su, asg2_sv, asg2_so, asg3_ok, st_par, par1_ok, par2_ok, par3_ok, par4_ok, st_unp, unp1_ok, unp2_ok, unp3_ok, tg_n, tg_2, tg_3, st_set, set0_ok, set1_ok, set2_ok, set3_ok, set4_ok, set5_ok, st_ex, ex1_ok, st_ret, ret1_ok, st_ret0, st_if, if1_t, if1_f, st_for, for1_ok, st_brk, st_cont, st_pass, st_kill, kill_nil, kill_cons, back_nil, back_cons, back2_ok, is_n, is_t, free_n, free_t, free_v, free_u, bo_add, bo_sub, cm_lt, cm_le, cm_gt, cm_ge, cm_eqi, cm_nei, cm_eqs, cm_nes, cm_isb, cm_isnotb, mapS, ix_l, ix_t, at_0, at_1, at_2, lk_cons, fn_lenl, fn_lent, fn_abs, fn_max, fn_min, fn_tupl, fn_tupt, fn_lisl, fn_list, fn_strs, fn_inti, fn_intb, body_0, body_1, body_2, body_3, body_4, body_5, body_6, end1_rt, end1_nx, end1_x, end2_v, end2_f, end2_s, end3_o, end3_v, endX_ok, outs_nil, outs_v, outs_o, out2_ok, as_nil, as_v, as_o, st_raise, raise_1s, raise_1i, raise_2si, raise_2ii, st_try, try_nx, try_rt, try_bk, try_ct, bo_mul, bo_mod, bo_div, bo_ll, bo_tt, rg1_ok, rg2b_ok, lrng2_ok, ext2_ok, rep2_ok, f9L1, l2] at hy
    exact hy.symm) (fun _ => rfl)
  have l' : forK Φ (.n 4) f9L1 (rngI 0 n) [.val (.int (n : Int)), .un, .own none false (.l [.tuple []]), .un, .un, .un] = .nx [.val (.int (n : Int)), .un, .own none false (.l (rowsT (al n))), .un, .un, .un] := l
  generalize hy : body Φ 6 1 b9 [.val (.int (n : Int))] = y
  generalize rowsT (al n) = S at *
  simp (disch := (first | assumption | (simp only [free_n, free_t, free_v, free_u, List.getElem?_cons_zero, List.getElem?_cons_succ, List.all_cons, List.all_nil, Bool.and_true, Bool.and_self]; done) | (simp only [List.length_cons, List.length_nil, List.length_append, List.length_map, List.length_zip, List.length_drop, List.length_take, List.length_range, List.length_reverse, List.length_set, List.length_replicate, List.length_zipIdx, List.length_tail, len_rngI]; omega) | exact sz_of (by simp only [List.length_cons, List.length_nil, List.length_append, List.length_map, List.length_zip, List.length_drop, List.length_take, List.length_range, List.length_reverse, List.length_set, List.length_replicate, List.length_zipIdx, List.length_tail, len_rngI]; omega) | omega | exact mulOk_l (by omega) | exact mulOk_r (by omega) | exact noPy (by omega) | exact okR_small (by omega) (by omega) | (apply And.intro <;> omega))) only [Int.reduceLT, Int.reduceLE, Int.reduceEq, Int.reduceNe, Int.reduceAdd, Int.reduceMul, Int.reduceSub, Int.reduceNeg, Int.reducePow, Int.reduceToNat, Nat.reduceAdd, Nat.reduceSub, Nat.reduceMul, Nat.reduceLT, Nat.reduceLeDiff, Nat.reduceEqDiff, Nat.reducePow, Int.cast_ofNat_Int, tst_false, tst_bool, R.of_some, R.of_none, List.getElem?_cons_zero, List.getElem?_cons_succ, List.set_cons_zero, List.set_cons_succ, List.length_cons, List.length_nil, List.cons_append, List.nil_append, List.replicate_zero, List.replicate_succ, Bool.not_true, Bool.not_false, decide_true, decide_false, Nat.zero_add, Nat.add_zero, List.all_cons, List.all_nil, Bool.and_true, Bool.true_and, Bool.and_self, st_bin, bin1_ok, bin2_ok, bin3_ok, st_neg, neg1_ok, st_cmp, cmp1_ok, cmp2_ok, cmp3_ok, st_chain, chn1_ok, chn2_ok, chn2b_ok, chn3_t, chn3_f, chn4_ok, st_and, and1_t, and1_f, st_or, or1_t, or1_f, st_not, not1_ok, st_ite, ite1_t, ite1_f, st_tup, tup1_ok, st_lst, lst1_ok, st_dct, dct0_ok, st_dc1, dcp1_i, dcp1_b, dcp1_s, st_dget, dget1_ok, dget2_ok, dget3_ok, st_rep, rep1_ok, st_ix, ix1_ok, ix2_ok, ix3_ok, st_sl, sl1_ok, sl2_ok, sl2b_ok, sl3_ok, sl4_ok, part_no, part_c, part_v, part_bin, part_neg, st_no, st_rev, rev1_ok, st_c, st_v, st_g, st_call, st_callp, callp1_ok, callp2_ok, callp2_ok2, call1_ok, callA_0, callA_1, callB_ok, callB_exc, callC_v, callC_f, callX_ok, slots_nil, slots_v, slots_f, slots_s, args_nil, args_cons, argC_ok, arg_v, arg_f, arg_s, argS_ok, put_nil, put_cons, put2_ok, st_blt, blt1_ok, blt2_ok, pks_nil, pks_cons, pkC_ok, st_lrng, lrng1_ok, st_isi, isi1_ok, isi2_ok, st_meth, meth1_ok, meth2_ok, meth3_ok, meth4_ok, meth_app, st_ext, ext0_ok, ext1_ok, st_comp, comp1_ok, comp2_ok, st_evs_nil, st_evs, evs1_ok, evs2_ok, settle_v, settle_f, settle_s, toD_l, st_evd_nil, st_evd, evd1_ok, evd2_ok, evd3_ok, frz_v, frz_f, frz_s, frzS_o, frzS_v, nm_s, nmS_v, nmS_o, pk_v, pk_f, pk_s, pkS_o, pkS_v, tst_ok, tst2_ok, truth_b, bindS, st_of, src0_ok, src1_l, src1_t, st_rng1, st_rng2, rg2_ok, st_rng3, rg3_ok, rg3b_ok, st_enum, en0_ok, en1_l, en1_t, st_zip, zp0_ok, zp1_ok, zp2_ok, zp3_ll, zp3_lt, zp3_tl, zp3_tt, st_srev, rv0_ok, rv1_l, rv1_t, st_cons, st_nil, seq_nx, seq_rt, seq_bk, seq_ct, seq_exc, st_mov, mov0_ok, mov1_u, mov1_v, mov1_o, st_asg, asg1_ok, asg2_fu, asg2_fv, asg2_fo, asg2_vu, asg2_vv, asg2_vo, asg2_su, asg2_sv, asg2_so, asg3_ok, st_par, par1_ok, par2_ok, par3_ok, par4_ok, st_unp, unp1_ok, unp2_ok, unp3_ok, tg_n, tg_2, tg_3, st_set, set0_ok, set1_ok, set2_ok, set3_ok, set4_ok, set5_ok, st_ex, ex1_ok, st_ret, ret1_ok, st_ret0, st_if, if1_t, if1_f, st_for, for1_ok, st_brk, st_cont, st_pass, st_kill, kill_nil, kill_cons, back_nil, back_cons, back2_ok, is_n, is_t, free_n, free_t, free_v, free_u, bo_add, bo_sub, cm_lt, cm_le, cm_gt, cm_ge, cm_eqi, cm_nei, cm_eqs, cm_nes, cm_isb, cm_isnotb, mapS, ix_l, ix_t, at_0, at_1, at_2, lk_cons, fn_lenl, fn_lent, fn_abs, fn_max, fn_min, fn_tupl, fn_tupt, fn_lisl, fn_list, fn_strs, fn_inti, fn_intb, body_0, body_1, body_2, body_3, body_4, body_5, body_6, end1_rt, end1_nx, end1_x, end2_v, end2_f, end2_s, end3_o, end3_v, endX_ok, outs_nil, outs_v, outs_o, out2_ok, as_nil, as_v, as_o, st_raise, raise_1s, raise_1i, raise_2si, raise_2ii, st_try, try_nx, try_rt, try_bk, try_ct, bo_mul, bo_mod, bo_div, bo_ll, bo_tt, rg1_ok, rg2b_ok, lrng2_ok, ext2_ok, rep2_ok, f9_eq, rg1_ok _ hr0, Int.toNat_natCast, l'] at hy
  exact hy.symm
/-! ### the law's look -/
theorem sh_intsL (l : List Int) : SeqAt.shaped (.list (intsD l)) = true := by
  have h := (Sh.ints l).sh (k := 1) (by decide)
  exact h
theorem ne_listsI (a b : List Int) : cmpD .ne (.list (intsD a)) (.list (intsD b)) = some (!decide (a = b)) := by
  have e : cmpD .ne (.list (intsD a)) (.list (intsD b)) = some (!PyData.eqv (.list (intsD a)) (.list (intsD b))) := if_pos ⟨sh_intsL a, sh_intsL b⟩
  rw [e]; congr 2
  exact eqvA_map eqv_int a b
theorem rng_ints (n : Nat) : rngI 0 n = intsD (rI n) := by
  rw [rng0]
  unfold rI intsD
  rw [List.map_map]
  refine List.map_congr_left fun k _ => ?_
  show PyData.int ((0 : Int) + (k : Int)) = .int (k : Int)
  congr 1; omega
theorem fn_sortI (l : List Int) : fnD .sorted [.tuple (intsD l)] = some (.fresh (.l (intsD (sortI l)))) := by
  show (ints? (intsD l)).map _ = _
  rw [ints_map]; rfl
def TurnOk (f : Sem) : Prop := ∀ r : List Int, r.length ≤ 1000 → f [.val (tupI r)] = .ok (.v (.bool (turnB r))) []
theorem turn_okk (Φ : Phi) : TurnOk (body Φ 4 1 b7) := by
  intro r hr
  rw [tupI_eq]
  have c1 := compK_filter (Φ := Φ) (tg := .n 2) (e := .v 2) (cnd := f7P0) (emb := PyData.int) (f := PyData.int) (p := fun _ => false) (ρ := [.val (.tuple (intsD r)), .un, .un, .un]) (l := r) (acc := []) (fun x hx => by
    refine ⟨_, tg_n _ _ _, ?_, (fun z => by cases z), rfl⟩
    simp only [Int.reduceLT, Int.reduceLE, Int.reduceEq, Int.reduceNe, Int.reduceAdd, Int.reduceMul, Int.reduceSub, Int.reduceNeg, Int.reducePow, Int.reduceToNat, Nat.reduceAdd, Nat.reduceSub, Nat.reduceMul, Nat.reduceLT, Nat.reduceLeDiff, Nat.reduceEqDiff, Nat.reducePow, Int.cast_ofNat_Int, tst_false, tst_bool, R.of_some, R.of_none, List.getElem?_cons_zero, List.getElem?_cons_succ, List.set_cons_zero, List.set_cons_succ, List.length_cons, List.length_nil, List.cons_append, List.nil_append, List.replicate_zero, List.replicate_succ, Bool.not_true, Bool.not_false, decide_true, decide_false, Nat.zero_add, Nat.add_zero, List.all_cons, List.all_nil, Bool.and_true, Bool.true_and, Bool.and_self, st_bin, bin1_ok, bin2_ok, bin3_ok, st_neg, neg1_ok, st_cmp, cmp1_ok, cmp2_ok, cmp3_ok, st_chain, chn1_ok, chn2_ok, chn2b_ok, chn3_t, chn3_f, chn4_ok, st_and, and1_t, and1_f, st_or, or1_t, or1_f, st_not, not1_ok, st_ite, ite1_t, ite1_f, st_tup, tup1_ok, st_lst, lst1_ok, st_dct, dct0_ok, st_dc1, dcp1_i, dcp1_b, dcp1_s, st_dget, dget1_ok, dget2_ok, dget3_ok, st_rep, rep1_ok, st_ix, ix1_ok, ix2_ok, ix3_ok, st_sl, sl1_ok, sl2_ok, sl2b_ok, sl3_ok, sl4_ok, part_no, part_c, part_v, part_bin, part_neg, st_no, st_rev, rev1_ok, st_c, st_v, st_g, st_call, st_callp, callp1_ok, callp2_ok, callp2_ok2, call1_ok, callA_0, callA_1, callB_ok, callB_exc, callC_v, callC_f, callX_ok, slots_nil, slots_v, slots_f, slots_s, args_nil, args_cons, argC_ok, arg_v, arg_f, arg_s, argS_ok, put_nil, put_cons, put2_ok, st_blt, blt1_ok, blt2_ok, pks_nil, pks_cons, pkC_ok, st_lrng, lrng1_ok, st_isi, isi1_ok, isi2_ok, st_meth, meth1_ok, meth2_ok, meth3_ok, meth4_ok, meth_app, st_ext, ext0_ok, ext1_ok, st_comp, comp1_ok, comp2_ok, st_evs_nil, st_evs, evs1_ok, evs2_ok, settle_v, settle_f, settle_s, toD_l, st_evd_nil, st_evd, evd1_ok, evd2_ok, evd3_ok, frz_v, frz_f, frz_s, frzS_o, frzS_v, nm_s, nmS_v, nmS_o, pk_v, pk_f, pk_s, pkS_o, pkS_v, tst_ok, tst2_ok, truth_b, bindS, st_of, src0_ok, src1_l, src1_t, st_rng1, st_rng2, rg2_ok, st_rng3, rg3_ok, rg3b_ok, st_enum, en0_ok, en1_l, en1_t, st_zip, zp0_ok, zp1_ok, zp2_ok, zp3_ll, zp3_lt, zp3_tl, zp3_tt, st_srev, rv0_ok, rv1_l, rv1_t, st_cons, st_nil, seq_nx, seq_rt, seq_bk, seq_ct, seq_exc, st_mov, mov0_ok, mov1_u, mov1_v, mov1_o, st_asg, asg1_ok, asg2_fu, asg2_fv, asg2_fo, asg2_vu, asg2_vv, asg2_vo, asg2_su, asg2_sv, asg2_so, asg3_ok, st_par, par1_ok, par2_ok, par3_ok, par4_ok, st_unp, unp1_ok, unp2_ok, unp3_ok, tg_n, tg_2, tg_3, st_set, set0_ok, set1_ok, set2_ok, set3_ok, set4_ok, set5_ok, st_ex, ex1_ok, st_ret, ret1_ok, st_ret0, st_if, if1_t, if1_f, st_for, for1_ok, st_brk, st_cont, st_pass, st_kill, kill_nil, kill_cons, back_nil, back_cons, back2_ok, is_n, is_t, free_n, free_t, free_v, free_u, bo_add, bo_sub, cm_lt, cm_le, cm_gt, cm_ge, cm_eqi, cm_nei, cm_eqs, cm_nes, cm_isb, cm_isnotb, mapS, ix_l, ix_t, at_0, at_1, at_2, lk_cons, fn_lenl, fn_lent, fn_abs, fn_max, fn_min, fn_tupl, fn_tupt, fn_lisl, fn_list, fn_strs, fn_inti, fn_intb, body_0, body_1, body_2, body_3, body_4, body_5, body_6, end1_rt, end1_nx, end1_x, end2_v, end2_f, end2_s, end3_o, end3_v, endX_ok, outs_nil, outs_v, outs_o, out2_ok, as_nil, as_v, as_o, st_raise, raise_1s, raise_1i, raise_2si, raise_2ii, st_try, try_nx, try_rt, try_bk, try_ct, f7P0, tyIs]) (sz_of (by simp; omega))
  have fe : r.filter (fun _ => false) = [] := by simp
  rw [fe] at c1
  have n0 : cmpD .ne (.list []) (.list []) = some false := rfl
  have so := fn_sortI r
  have e0 : ((r.length : Int) - 0).toNat = r.length := by omega
  have ne := ne_listsI (sortI r) (rI r.length)
  have dL : ∀ l : List D, Cell.toD (.l l) = .list l := fun _ => rfl
  generalize hy : body Φ 4 1 b7 [.val (.tuple (intsD r))] = y
  have hz0 : (-10000 : Int) ≤ 0 ∧ (0 : Int) ≤ 10000 := by decide
  have hz1 : (-10000 : Int) ≤ (r.length : Int) ∧ (r.length : Int) ≤ 10000 := by omega
  have lr : ∀ ρ, lrng2 (.v (.int 0)) (.ok (.v (.int (r.length : Int))) ρ) = .ok (.fresh (.l (intsD (rI r.length)))) ρ := fun ρ => by rw [lrng2_ok ρ hz0 hz1, e0, rng_ints]
  by_cases hs : sortI r = rI r.length
  case neg =>
    rw [decide_eq_false hs] at ne
    have et : turnB r = false := by unfold turnB; rw [decide_eq_false hs]; rfl
    rw [et]
    simp (disch := (first | assumption | (simp only [free_n, free_t, free_v, free_u, List.getElem?_cons_zero, List.getElem?_cons_succ, List.all_cons, List.all_nil, Bool.and_true, Bool.and_self]; done) | (simp only [List.length_cons, List.length_nil, List.length_append, List.length_map, List.length_zip, List.length_drop, List.length_take, List.length_range, List.length_reverse, List.length_set, List.length_replicate, List.length_zipIdx, List.length_tail, len_rngI]; omega) | exact sz_of (by simp only [List.length_cons, List.length_nil, List.length_append, List.length_map, List.length_zip, List.length_drop, List.length_take, List.length_range, List.length_reverse, List.length_set, List.length_replicate, List.length_zipIdx, List.length_tail, len_rngI]; omega) | omega | exact mulOk_l (by omega) | exact mulOk_r (by omega) | exact noPy (by omega) | exact okR_small (by omega) (by omega) | (apply And.intro <;> omega))) only [Int.reduceLT, Int.reduceLE, Int.reduceEq, Int.reduceNe, Int.reduceAdd, Int.reduceMul, Int.reduceSub, Int.reduceNeg, Int.reducePow, Int.reduceToNat, Nat.reduceAdd, Nat.reduceSub, Nat.reduceMul, Nat.reduceLT, Nat.reduceLeDiff, Nat.reduceEqDiff, Nat.reducePow, Int.cast_ofNat_Int, tst_false, tst_bool, R.of_some, R.of_none, List.getElem?_cons_zero, List.getElem?_cons_succ, List.set_cons_zero, List.set_cons_succ, List.length_cons, List.length_nil, List.cons_append, List.nil_append, List.replicate_zero, List.replicate_succ, Bool.not_true, Bool.not_false, decide_true, decide_false, Nat.zero_add, Nat.add_zero, List.all_cons, List.all_nil, Bool.and_true, Bool.true_and, Bool.and_self, st_bin, bin1_ok, bin2_ok, bin3_ok, st_neg, neg1_ok, st_cmp, cmp1_ok, cmp2_ok, cmp3_ok, st_chain, chn1_ok, chn2_ok, chn2b_ok, chn3_t, chn3_f, chn4_ok, st_and, and1_t, and1_f, st_or, or1_t, or1_f, st_not, not1_ok, st_ite, ite1_t, ite1_f, st_tup, tup1_ok, st_lst, lst1_ok, st_dct, dct0_ok, st_dc1, dcp1_i, dcp1_b, dcp1_s, st_dget, dget1_ok, dget2_ok, dget3_ok, st_rep, rep1_ok, st_ix, ix1_ok, ix2_ok, ix3_ok, st_sl, sl1_ok, sl2_ok, sl2b_ok, sl3_ok, sl4_ok, part_no, part_c, part_v, part_bin, part_neg, st_no, st_rev, rev1_ok, st_c, st_v, st_g, st_call, st_callp, callp1_ok, callp2_ok, callp2_ok2, call1_ok, callA_0, callA_1, callB_ok, callB_exc, callC_v, callC_f, callX_ok, slots_nil, slots_v, slots_f, slots_s, args_nil, args_cons, argC_ok, arg_v, arg_f, arg_s, argS_ok, put_nil, put_cons, put2_ok, st_blt, blt1_ok, blt2_ok, pks_nil, pks_cons, pkC_ok, st_lrng, lrng1_ok, st_isi, isi1_ok, isi2_ok, st_meth, meth1_ok, meth2_ok, meth3_ok, meth4_ok, meth_app, st_ext, ext0_ok, ext1_ok, st_comp, comp1_ok, comp2_ok, st_evs_nil, st_evs, evs1_ok, evs2_ok, settle_v, settle_f, settle_s, toD_l, st_evd_nil, st_evd, evd1_ok, evd2_ok, evd3_ok, frz_v, frz_f, frz_s, frzS_o, frzS_v, nm_s, nmS_v, nmS_o, pk_v, pk_f, pk_s, pkS_o, pkS_v, tst_ok, tst2_ok, truth_b, bindS, st_of, src0_ok, src1_l, src1_t, st_rng1, st_rng2, rg2_ok, st_rng3, rg3_ok, rg3b_ok, st_enum, en0_ok, en1_l, en1_t, st_zip, zp0_ok, zp1_ok, zp2_ok, zp3_ll, zp3_lt, zp3_tl, zp3_tt, st_srev, rv0_ok, rv1_l, rv1_t, st_cons, st_nil, seq_nx, seq_rt, seq_bk, seq_ct, seq_exc, st_mov, mov0_ok, mov1_u, mov1_v, mov1_o, st_asg, asg1_ok, asg2_fu, asg2_fv, asg2_fo, asg2_vu, asg2_vv, asg2_vo, asg2_su, asg2_sv, asg2_so, asg3_ok, st_par, par1_ok, par2_ok, par3_ok, par4_ok, st_unp, unp1_ok, unp2_ok, unp3_ok, tg_n, tg_2, tg_3, st_set, set0_ok, set1_ok, set2_ok, set3_ok, set4_ok, set5_ok, st_ex, ex1_ok, st_ret, ret1_ok, st_ret0, st_if, if1_t, if1_f, st_for, for1_ok, st_brk, st_cont, st_pass, st_kill, kill_nil, kill_cons, back_nil, back_cons, back2_ok, is_n, is_t, free_n, free_t, free_v, free_u, bo_add, bo_sub, cm_lt, cm_le, cm_gt, cm_ge, cm_eqi, cm_nei, cm_eqs, cm_nes, cm_isb, cm_isnotb, mapS, ix_l, ix_t, at_0, at_1, at_2, lk_cons, fn_lenl, fn_lent, fn_abs, fn_max, fn_min, fn_tupl, fn_tupt, fn_lisl, fn_list, fn_strs, fn_inti, fn_intb, body_0, body_1, body_2, body_3, body_4, body_5, body_6, end1_rt, end1_nx, end1_x, end2_v, end2_f, end2_s, end3_o, end3_v, endX_ok, outs_nil, outs_v, outs_o, out2_ok, as_nil, as_v, as_o, st_raise, raise_1s, raise_1i, raise_2si, raise_2ii, st_try, try_nx, try_rt, try_bk, try_ct, bo_mul, bo_mod, bo_div, bo_ll, bo_tt, rg1_ok, rg2b_ok, lrng2_ok, ext2_ok, rep2_ok, f7_eq, f7I0, tyIs, f7I1, c1, n0, List.map_nil, List.nil_append, f7I2, so, List.length_map, lr, ne] at hy
    exact hy.symm
  rw [decide_eq_true hs] at ne
  have et : turnB r = ((List.range ((upsB r).length - 1)).filter fun k => (upsB r).getD (k + 1) false == (upsB r).getD k false).isEmpty := by unfold turnB; rw [decide_eq_true hs]; rfl
  rw [et]
  have c2 := compK_map (Φ := Φ) (tg := .n 1) (e := f7E0) (emb := fun k : Nat => PyData.int ((0 : Int) + (k : Int))) (f := fun k : Nat => PyData.bool (decide (r.getD k 0 < r.getD (k + 1) 0))) (ρ := [.val (.tuple (intsD r)), .un, .un, .un]) (l := List.range (r.length - 1)) (acc := []) (fun k hk => by
    have hk := List.mem_range.mp hk
    have e0 : (0 : Int) + (k : Int) = (k : Int) := by omega
    have e1 : (k : Int) + 1 = ((k + 1 : Nat) : Int) := by omega
    have i1 := nth_row r (k := k) (by omega)
    have i2 := nth_row r (k := k + 1) (by omega)
    refine ⟨_, .v (.bool (decide (r.getD k 0 < r.getD (k + 1) 0))), tg_n _ _ _, ?_, frz_v _ _, rfl⟩
    simp only [Int.reduceLT, Int.reduceLE, Int.reduceEq, Int.reduceNe, Int.reduceAdd, Int.reduceMul, Int.reduceSub, Int.reduceNeg, Int.reducePow, Int.reduceToNat, Nat.reduceAdd, Nat.reduceSub, Nat.reduceMul, Nat.reduceLT, Nat.reduceLeDiff, Nat.reduceEqDiff, Nat.reducePow, Int.cast_ofNat_Int, tst_false, tst_bool, R.of_some, R.of_none, List.getElem?_cons_zero, List.getElem?_cons_succ, List.set_cons_zero, List.set_cons_succ, List.length_cons, List.length_nil, List.cons_append, List.nil_append, List.replicate_zero, List.replicate_succ, Bool.not_true, Bool.not_false, decide_true, decide_false, Nat.zero_add, Nat.add_zero, List.all_cons, List.all_nil, Bool.and_true, Bool.true_and, Bool.and_self, st_bin, bin1_ok, bin2_ok, bin3_ok, st_neg, neg1_ok, st_cmp, cmp1_ok, cmp2_ok, cmp3_ok, st_chain, chn1_ok, chn2_ok, chn2b_ok, chn3_t, chn3_f, chn4_ok, st_and, and1_t, and1_f, st_or, or1_t, or1_f, st_not, not1_ok, st_ite, ite1_t, ite1_f, st_tup, tup1_ok, st_lst, lst1_ok, st_dct, dct0_ok, st_dc1, dcp1_i, dcp1_b, dcp1_s, st_dget, dget1_ok, dget2_ok, dget3_ok, st_rep, rep1_ok, st_ix, ix1_ok, ix2_ok, ix3_ok, st_sl, sl1_ok, sl2_ok, sl2b_ok, sl3_ok, sl4_ok, part_no, part_c, part_v, part_bin, part_neg, st_no, st_rev, rev1_ok, st_c, st_v, st_g, st_call, st_callp, callp1_ok, callp2_ok, callp2_ok2, call1_ok, callA_0, callA_1, callB_ok, callB_exc, callC_v, callC_f, callX_ok, slots_nil, slots_v, slots_f, slots_s, args_nil, args_cons, argC_ok, arg_v, arg_f, arg_s, argS_ok, put_nil, put_cons, put2_ok, st_blt, blt1_ok, blt2_ok, pks_nil, pks_cons, pkC_ok, st_lrng, lrng1_ok, st_isi, isi1_ok, isi2_ok, st_meth, meth1_ok, meth2_ok, meth3_ok, meth4_ok, meth_app, st_ext, ext0_ok, ext1_ok, st_comp, comp1_ok, comp2_ok, st_evs_nil, st_evs, evs1_ok, evs2_ok, settle_v, settle_f, settle_s, toD_l, st_evd_nil, st_evd, evd1_ok, evd2_ok, evd3_ok, frz_v, frz_f, frz_s, frzS_o, frzS_v, nm_s, nmS_v, nmS_o, pk_v, pk_f, pk_s, pkS_o, pkS_v, tst_ok, tst2_ok, truth_b, bindS, st_of, src0_ok, src1_l, src1_t, st_rng1, st_rng2, rg2_ok, st_rng3, rg3_ok, rg3b_ok, st_enum, en0_ok, en1_l, en1_t, st_zip, zp0_ok, zp1_ok, zp2_ok, zp3_ll, zp3_lt, zp3_tl, zp3_tt, st_srev, rv0_ok, rv1_l, rv1_t, st_cons, st_nil, seq_nx, seq_rt, seq_bk, seq_ct, seq_exc, st_mov, mov0_ok, mov1_u, mov1_v, mov1_o, st_asg, asg1_ok, asg2_fu, asg2_fv, asg2_fo, asg2_vu, asg2_vv, asg2_vo, asg2_su, asg2_sv, asg2_so, asg3_ok, st_par, par1_ok, par2_ok, par3_ok, par4_ok, st_unp, unp1_ok, unp2_ok, unp3_ok, tg_n, tg_2, tg_3, st_set, set0_ok, set1_ok, set2_ok, set3_ok, set4_ok, set5_ok, st_ex, ex1_ok, st_ret, ret1_ok, st_ret0, st_if, if1_t, if1_f, st_for, for1_ok, st_brk, st_cont, st_pass, st_kill, kill_nil, kill_cons, back_nil, back_cons, back2_ok, is_n, is_t, free_n, free_t, free_v, free_u, bo_add, bo_sub, cm_lt, cm_le, cm_gt, cm_ge, cm_eqi, cm_nei, cm_eqs, cm_nes, cm_isb, cm_isnotb, mapS, ix_l, ix_t, at_0, at_1, at_2, lk_cons, fn_lenl, fn_lent, fn_abs, fn_max, fn_min, fn_tupl, fn_tupt, fn_lisl, fn_list, fn_strs, fn_inti, fn_intb, body_0, body_1, body_2, body_3, body_4, body_5, body_6, end1_rt, end1_nx, end1_x, end2_v, end2_f, end2_s, end3_o, end3_v, endX_ok, outs_nil, outs_v, outs_o, out2_ok, as_nil, as_v, as_o, st_raise, raise_1s, raise_1i, raise_2si, raise_2ii, st_try, try_nx, try_rt, try_bk, try_ct, f7E0, e0, e1, i1, i2]) (sz_of (by simp; omega))
  rw [← rng0, List.nil_append] at c2
  have eu : ((List.range (r.length - 1)).map fun k : Nat => PyData.bool (decide (r.getD k 0 < r.getD (k + 1) 0))) = (upsB r).map PyData.bool := by
    unfold upsB
    rw [List.map_map]; rfl
  rw [eu] at c2
  have hul : (upsB r).length = r.length - 1 := by simp [upsB]
  have en : ((r.length : Int) - 1).toNat = r.length - 1 := by omega
  have hr1 : okR ((r.length : Int) - 1) = true := okR_small (by omega) (by omega)
  generalize upsB r = u at *
  have c3 := compK_filter (Φ := Φ) (tg := .n 1) (e := .v 1) (cnd := f7P1) (emb := fun k : Nat => PyData.int ((1 : Int) + (k : Int))) (f := fun k : Nat => PyData.int ((1 : Int) + (k : Int))) (p := fun k : Nat => u.getD (k + 1) false == u.getD k false) (ρ := [.val (.tuple (intsD r)), .un, .un, .own none false (.l (u.map PyData.bool))]) (l := List.range (u.length - 1)) (acc := []) (fun k hk => by
    have hk := List.mem_range.mp hk
    have e1 : (1 : Int) + (k : Int) = ((k + 1 : Nat) : Int) := by omega
    have e2 : ((k + 1 : Nat) : Int) - 1 = (k : Int) := by omega
    have at' : ∀ j, j < u.length → ixD (.list (u.map PyData.bool)) (.int (j : Int)) = some (.bool (u.getD j false)) := fun j hj => by
      show atI (u.map PyData.bool) (j : Int) = _
      rw [at_n, List.getElem?_map, List.getD_eq_getElem?_getD, List.getElem?_eq_getElem hj]; rfl
    have i1 := at' (k + 1) (by omega)
    have i2 := at' k (by omega)
    have q := eq_bb (u.getD (k + 1) false) (u.getD k false)
    refine ⟨_, tg_n _ _ _, ?_, fun hp => ⟨.v (.int ((1 : Int) + (k : Int))), ?_, frz_v _ _⟩, rfl⟩
    · simp only [Int.reduceLT, Int.reduceLE, Int.reduceEq, Int.reduceNe, Int.reduceAdd, Int.reduceMul, Int.reduceSub, Int.reduceNeg, Int.reducePow, Int.reduceToNat, Nat.reduceAdd, Nat.reduceSub, Nat.reduceMul, Nat.reduceLT, Nat.reduceLeDiff, Nat.reduceEqDiff, Nat.reducePow, Int.cast_ofNat_Int, tst_false, tst_bool, R.of_some, R.of_none, List.getElem?_cons_zero, List.getElem?_cons_succ, List.set_cons_zero, List.set_cons_succ, List.length_cons, List.length_nil, List.cons_append, List.nil_append, List.replicate_zero, List.replicate_succ, Bool.not_true, Bool.not_false, decide_true, decide_false, Nat.zero_add, Nat.add_zero, List.all_cons, List.all_nil, Bool.and_true, Bool.true_and, Bool.and_self, st_bin, bin1_ok, bin2_ok, bin3_ok, st_neg, neg1_ok, st_cmp, cmp1_ok, cmp2_ok, cmp3_ok, st_chain, chn1_ok, chn2_ok, chn2b_ok, chn3_t, chn3_f, chn4_ok, st_and, and1_t, and1_f, st_or, or1_t, or1_f, st_not, not1_ok, st_ite, ite1_t, ite1_f, st_tup, tup1_ok, st_lst, lst1_ok, st_dct, dct0_ok, st_dc1, dcp1_i, dcp1_b, dcp1_s, st_dget, dget1_ok, dget2_ok, dget3_ok, st_rep, rep1_ok, st_ix, ix1_ok, ix2_ok, ix3_ok, st_sl, sl1_ok, sl2_ok, sl2b_ok, sl3_ok, sl4_ok, part_no, part_c, part_v, part_bin, part_neg, st_no, st_rev, rev1_ok, st_c, st_v, st_g, st_call, st_callp, callp1_ok, callp2_ok, callp2_ok2, call1_ok, callA_0, callA_1, callB_ok, callB_exc, callC_v, callC_f, callX_ok, slots_nil, slots_v, slots_f, slots_s, args_nil, args_cons, argC_ok, arg_v, arg_f, arg_s, argS_ok, put_nil, put_cons, put2_ok, st_blt, blt1_ok, blt2_ok, pks_nil, pks_cons, pkC_ok, st_lrng, lrng1_ok, st_isi, isi1_ok, isi2_ok, st_meth, meth1_ok, meth2_ok, meth3_ok, meth4_ok, meth_app, st_ext, ext0_ok, ext1_ok, st_comp, comp1_ok, comp2_ok, st_evs_nil, st_evs, evs1_ok, evs2_ok, settle_v, settle_f, settle_s, toD_l, st_evd_nil, st_evd, evd1_ok, evd2_ok, evd3_ok, frz_v, frz_f, frz_s, frzS_o, frzS_v, nm_s, nmS_v, nmS_o, pk_v, pk_f, pk_s, pkS_o, pkS_v, tst_ok, tst2_ok, truth_b, bindS, st_of, src0_ok, src1_l, src1_t, st_rng1, st_rng2, rg2_ok, st_rng3, rg3_ok, rg3b_ok, st_enum, en0_ok, en1_l, en1_t, st_zip, zp0_ok, zp1_ok, zp2_ok, zp3_ll, zp3_lt, zp3_tl, zp3_tt, st_srev, rv0_ok, rv1_l, rv1_t, st_cons, st_nil, seq_nx, seq_rt, seq_bk, seq_ct, seq_exc, st_mov, mov0_ok, mov1_u, mov1_v, mov1_o, st_asg, asg1_ok, asg2_fu, asg2_fv, asg2_fo, asg2_vu, asg2_vv, asg2_vo, asg2_su, asg2_sv, asg2_so, asg3_ok, st_par, par1_ok, par2_ok, par3_ok, par4_ok, st_unp, unp1_ok, unp2_ok, unp3_ok, tg_n, tg_2, tg_3, st_set, set0_ok, set1_ok, set2_ok, set3_ok, set4_ok, set5_ok, st_ex, ex1_ok, st_ret, ret1_ok, st_ret0, st_if, if1_t, if1_f, st_for, for1_ok, st_brk, st_cont, st_pass, st_kill, kill_nil, kill_cons, back_nil, back_cons, back2_ok, is_n, is_t, free_n, free_t, free_v, free_u, bo_add, bo_sub, cm_lt, cm_le, cm_gt, cm_ge, cm_eqi, cm_nei, cm_eqs, cm_nes, cm_isb, cm_isnotb, mapS, ix_l, ix_t, at_0, at_1, at_2, lk_cons, fn_lenl, fn_lent, fn_abs, fn_max, fn_min, fn_tupl, fn_tupt, fn_lisl, fn_list, fn_strs, fn_inti, fn_intb, body_0, body_1, body_2, body_3, body_4, body_5, body_6, end1_rt, end1_nx, end1_x, end2_v, end2_f, end2_s, end3_o, end3_v, endX_ok, outs_nil, outs_v, outs_o, out2_ok, as_nil, as_v, as_o, st_raise, raise_1s, raise_1i, raise_2si, raise_2ii, st_try, try_nx, try_rt, try_bk, try_ct, f7P1, e1, e2, i1, i2, q]
    · simp only [Int.reduceLT, Int.reduceLE, Int.reduceEq, Int.reduceNe, Int.reduceAdd, Int.reduceMul, Int.reduceSub, Int.reduceNeg, Int.reducePow, Int.reduceToNat, Nat.reduceAdd, Nat.reduceSub, Nat.reduceMul, Nat.reduceLT, Nat.reduceLeDiff, Nat.reduceEqDiff, Nat.reducePow, Int.cast_ofNat_Int, tst_false, tst_bool, R.of_some, R.of_none, List.getElem?_cons_zero, List.getElem?_cons_succ, List.set_cons_zero, List.set_cons_succ, List.length_cons, List.length_nil, List.cons_append, List.nil_append, List.replicate_zero, List.replicate_succ, Bool.not_true, Bool.not_false, decide_true, decide_false, Nat.zero_add, Nat.add_zero, List.all_cons, List.all_nil, Bool.and_true, Bool.true_and, Bool.and_self, st_bin, bin1_ok, bin2_ok, bin3_ok, st_neg, neg1_ok, st_cmp, cmp1_ok, cmp2_ok, cmp3_ok, st_chain, chn1_ok, chn2_ok, chn2b_ok, chn3_t, chn3_f, chn4_ok, st_and, and1_t, and1_f, st_or, or1_t, or1_f, st_not, not1_ok, st_ite, ite1_t, ite1_f, st_tup, tup1_ok, st_lst, lst1_ok, st_dct, dct0_ok, st_dc1, dcp1_i, dcp1_b, dcp1_s, st_dget, dget1_ok, dget2_ok, dget3_ok, st_rep, rep1_ok, st_ix, ix1_ok, ix2_ok, ix3_ok, st_sl, sl1_ok, sl2_ok, sl2b_ok, sl3_ok, sl4_ok, part_no, part_c, part_v, part_bin, part_neg, st_no, st_rev, rev1_ok, st_c, st_v, st_g, st_call, st_callp, callp1_ok, callp2_ok, callp2_ok2, call1_ok, callA_0, callA_1, callB_ok, callB_exc, callC_v, callC_f, callX_ok, slots_nil, slots_v, slots_f, slots_s, args_nil, args_cons, argC_ok, arg_v, arg_f, arg_s, argS_ok, put_nil, put_cons, put2_ok, st_blt, blt1_ok, blt2_ok, pks_nil, pks_cons, pkC_ok, st_lrng, lrng1_ok, st_isi, isi1_ok, isi2_ok, st_meth, meth1_ok, meth2_ok, meth3_ok, meth4_ok, meth_app, st_ext, ext0_ok, ext1_ok, st_comp, comp1_ok, comp2_ok, st_evs_nil, st_evs, evs1_ok, evs2_ok, settle_v, settle_f, settle_s, toD_l, st_evd_nil, st_evd, evd1_ok, evd2_ok, evd3_ok, frz_v, frz_f, frz_s, frzS_o, frzS_v, nm_s, nmS_v, nmS_o, pk_v, pk_f, pk_s, pkS_o, pkS_v, tst_ok, tst2_ok, truth_b, bindS, st_of, src0_ok, src1_l, src1_t, st_rng1, st_rng2, rg2_ok, st_rng3, rg3_ok, rg3b_ok, st_enum, en0_ok, en1_l, en1_t, st_zip, zp0_ok, zp1_ok, zp2_ok, zp3_ll, zp3_lt, zp3_tl, zp3_tt, st_srev, rv0_ok, rv1_l, rv1_t, st_cons, st_nil, seq_nx, seq_rt, seq_bk, seq_ct, seq_exc, st_mov, mov0_ok, mov1_u, mov1_v, mov1_o, st_asg, asg1_ok, asg2_fu, asg2_fv, asg2_fo, asg2_vu, asg2_vv, asg2_vo, asg2_su, asg2_sv, asg2_so, asg3_ok, st_par, par1_ok, par2_ok, par3_ok, par4_ok, st_unp, unp1_ok, unp2_ok, unp3_ok, tg_n, tg_2, tg_3, st_set, set0_ok, set1_ok, set2_ok, set3_ok, set4_ok, set5_ok, st_ex, ex1_ok, st_ret, ret1_ok, st_ret0, st_if, if1_t, if1_f, st_for, for1_ok, st_brk, st_cont, st_pass, st_kill, kill_nil, kill_cons, back_nil, back_cons, back2_ok, is_n, is_t, free_n, free_t, free_v, free_u, bo_add, bo_sub, cm_lt, cm_le, cm_gt, cm_ge, cm_eqi, cm_nei, cm_eqs, cm_nes, cm_isb, cm_isnotb, mapS, ix_l, ix_t, at_0, at_1, at_2, lk_cons, fn_lenl, fn_lent, fn_abs, fn_max, fn_min, fn_tupl, fn_tupt, fn_lisl, fn_list, fn_strs, fn_inti, fn_intb, body_0, body_1, body_2, body_3, body_4, body_5, body_6, end1_rt, end1_nx, end1_x, end2_v, end2_f, end2_s, end3_o, end3_v, endX_ok, outs_nil, outs_v, outs_o, out2_ok, as_nil, as_v, as_o, st_raise, raise_1s, raise_1i, raise_2si, raise_2ii, st_try, try_nx, try_rt, try_bk, try_ct]) (sz_of (by simp; omega))
  have er : ((List.range (u.length - 1)).map fun k : Nat => PyData.int ((1 : Int) + (k : Int))) = rngI 1 (u.length - 1) := rfl
  rw [er, List.nil_append] at c3
  have fin := eq_nilL (((List.range (u.length - 1)).filter fun k : Nat => u.getD (k + 1) false == u.getD k false).map fun k : Nat => PyData.int ((1 : Int) + (k : Int)))
  have ei : (((List.range (u.length - 1)).filter fun k : Nat => u.getD (k + 1) false == u.getD k false).map fun k : Nat => PyData.int ((1 : Int) + (k : Int))).isEmpty = ((List.range (u.length - 1)).filter fun k : Nat => u.getD (k + 1) false == u.getD k false).isEmpty := by
    cases (List.range (u.length - 1)).filter fun k : Nat => u.getD (k + 1) false == u.getD k false <;> rfl
  rw [ei] at fin
  generalize ((List.range (u.length - 1)).filter fun k : Nat => u.getD (k + 1) false == u.getD k false).isEmpty = B at *
  generalize (((List.range (u.length - 1)).filter fun k : Nat => u.getD (k + 1) false == u.getD k false).map fun k : Nat => PyData.int ((1 : Int) + (k : Int))) = F at *
  have o1 : okR 1 = true := okR_small (by decide) (by decide)
  have o2 : okR (u.length : Int) = true := okR_small (by omega) (by omega)
  have e3 : ((u.length : Int) - 1).toNat = u.length - 1 := by omega
  simp (disch := (first | assumption | (simp only [free_n, free_t, free_v, free_u, List.getElem?_cons_zero, List.getElem?_cons_succ, List.all_cons, List.all_nil, Bool.and_true, Bool.and_self]; done) | (simp only [List.length_cons, List.length_nil, List.length_append, List.length_map, List.length_zip, List.length_drop, List.length_take, List.length_range, List.length_reverse, List.length_set, List.length_replicate, List.length_zipIdx, List.length_tail, len_rngI]; omega) | exact sz_of (by simp only [List.length_cons, List.length_nil, List.length_append, List.length_map, List.length_zip, List.length_drop, List.length_take, List.length_range, List.length_reverse, List.length_set, List.length_replicate, List.length_zipIdx, List.length_tail, len_rngI]; omega) | omega | exact mulOk_l (by omega) | exact mulOk_r (by omega) | exact noPy (by omega) | exact okR_small (by omega) (by omega) | (apply And.intro <;> omega))) only [Int.reduceLT, Int.reduceLE, Int.reduceEq, Int.reduceNe, Int.reduceAdd, Int.reduceMul, Int.reduceSub, Int.reduceNeg, Int.reducePow, Int.reduceToNat, Nat.reduceAdd, Nat.reduceSub, Nat.reduceMul, Nat.reduceLT, Nat.reduceLeDiff, Nat.reduceEqDiff, Nat.reducePow, Int.cast_ofNat_Int, tst_false, tst_bool, R.of_some, R.of_none, List.getElem?_cons_zero, List.getElem?_cons_succ, List.set_cons_zero, List.set_cons_succ, List.length_cons, List.length_nil, List.cons_append, List.nil_append, List.replicate_zero, List.replicate_succ, Bool.not_true, Bool.not_false, decide_true, decide_false, Nat.zero_add, Nat.add_zero, List.all_cons, List.all_nil, Bool.and_true, Bool.true_and, Bool.and_self, st_bin, bin1_ok, bin2_ok, bin3_ok, st_neg, neg1_ok, st_cmp, cmp1_ok, cmp2_ok, cmp3_ok, st_chain, chn1_ok, chn2_ok, chn2b_ok, chn3_t, chn3_f, chn4_ok, st_and, and1_t, and1_f, st_or, or1_t, or1_f, st_not, not1_ok, st_ite, ite1_t, ite1_f, st_tup, tup1_ok, st_lst, lst1_ok, st_dct, dct0_ok, st_dc1, dcp1_i, dcp1_b, dcp1_s, st_dget, dget1_ok, dget2_ok, dget3_ok, st_rep, rep1_ok, st_ix, ix1_ok, ix2_ok, ix3_ok, st_sl, sl1_ok, sl2_ok, sl2b_ok, sl3_ok, sl4_ok, part_no, part_c, part_v, part_bin, part_neg, st_no, st_rev, rev1_ok, st_c, st_v, st_g, st_call, st_callp, callp1_ok, callp2_ok, callp2_ok2, call1_ok, callA_0, callA_1, callB_ok, callB_exc, callC_v, callC_f, callX_ok, slots_nil, slots_v, slots_f, slots_s, args_nil, args_cons, argC_ok, arg_v, arg_f, arg_s, argS_ok, put_nil, put_cons, put2_ok, st_blt, blt1_ok, blt2_ok, pks_nil, pks_cons, pkC_ok, st_lrng, lrng1_ok, st_isi, isi1_ok, isi2_ok, st_meth, meth1_ok, meth2_ok, meth3_ok, meth4_ok, meth_app, st_ext, ext0_ok, ext1_ok, st_comp, comp1_ok, comp2_ok, st_evs_nil, st_evs, evs1_ok, evs2_ok, settle_v, settle_f, settle_s, toD_l, st_evd_nil, st_evd, evd1_ok, evd2_ok, evd3_ok, frz_v, frz_f, frz_s, frzS_o, frzS_v, nm_s, nmS_v, nmS_o, pk_v, pk_f, pk_s, pkS_o, pkS_v, tst_ok, tst2_ok, truth_b, bindS, st_of, src0_ok, src1_l, src1_t, st_rng1, st_rng2, rg2_ok, st_rng3, rg3_ok, rg3b_ok, st_enum, en0_ok, en1_l, en1_t, st_zip, zp0_ok, zp1_ok, zp2_ok, zp3_ll, zp3_lt, zp3_tl, zp3_tt, st_srev, rv0_ok, rv1_l, rv1_t, st_cons, st_nil, seq_nx, seq_rt, seq_bk, seq_ct, seq_exc, st_mov, mov0_ok, mov1_u, mov1_v, mov1_o, st_asg, asg1_ok, asg2_fu, asg2_fv, asg2_fo, asg2_vu, asg2_vv, asg2_vo, asg2_su, asg2_sv, asg2_so, asg3_ok, st_par, par1_ok, par2_ok, par3_ok, par4_ok, st_unp, unp1_ok, unp2_ok, unp3_ok, tg_n, tg_2, tg_3, st_set, set0_ok, set1_ok, set2_ok, set3_ok, set4_ok, set5_ok, st_ex, ex1_ok, st_ret, ret1_ok, st_ret0, st_if, if1_t, if1_f, st_for, for1_ok, st_brk, st_cont, st_pass, st_kill, kill_nil, kill_cons, back_nil, back_cons, back2_ok, is_n, is_t, free_n, free_t, free_v, free_u, bo_add, bo_sub, cm_lt, cm_le, cm_gt, cm_ge, cm_eqi, cm_nei, cm_eqs, cm_nes, cm_isb, cm_isnotb, mapS, ix_l, ix_t, at_0, at_1, at_2, lk_cons, fn_lenl, fn_lent, fn_abs, fn_max, fn_min, fn_tupl, fn_tupt, fn_lisl, fn_list, fn_strs, fn_inti, fn_intb, body_0, body_1, body_2, body_3, body_4, body_5, body_6, end1_rt, end1_nx, end1_x, end2_v, end2_f, end2_s, end3_o, end3_v, endX_ok, outs_nil, outs_v, outs_o, out2_ok, as_nil, as_v, as_o, st_raise, raise_1s, raise_1i, raise_2si, raise_2ii, st_try, try_nx, try_rt, try_bk, try_ct, bo_mul, bo_mod, bo_div, bo_ll, bo_tt, rg1_ok, rg2b_ok, lrng2_ok, ext2_ok, rep2_ok, f7_eq, f7I0, tyIs, f7I1, c1, n0, List.map_nil, List.nil_append, f7I2, so, List.length_map, lr, ne, rg1_ok _ hr1, en, c2, rg2b_ok _ o1 o2, e3, c3, fin] at hy
  exact hy.symm
def DownOk (f : Sem) : Prop := ∀ r : List Int, r.length ≤ 1000 → f [.val (tupI r)] = .ok (.v (.bool (downB r))) []
theorem down_ok (w7 : TurnOk (Φ 7)) : DownOk (body Φ 1 1 b8) := by
  intro r hr
  have e := w7 r hr
  rw [tupI_eq] at e ⊢
  generalize hy : body Φ 1 1 b8 [.val (.tuple (intsD r))] = y
  unfold downB
  cases hb : turnB r with
  | false =>
    rw [hb] at e
    simp (disch := (first | assumption | (simp only [free_n, free_t, free_v, free_u, List.getElem?_cons_zero, List.getElem?_cons_succ, List.all_cons, List.all_nil, Bool.and_true, Bool.and_self]; done) | (simp only [List.length_cons, List.length_nil, List.length_append, List.length_map, List.length_zip, List.length_drop, List.length_take, List.length_range, List.length_reverse, List.length_set, List.length_replicate, List.length_zipIdx, List.length_tail, len_rngI]; omega) | exact sz_of (by simp only [List.length_cons, List.length_nil, List.length_append, List.length_map, List.length_zip, List.length_drop, List.length_take, List.length_range, List.length_reverse, List.length_set, List.length_replicate, List.length_zipIdx, List.length_tail, len_rngI]; omega) | omega | exact mulOk_l (by omega) | exact mulOk_r (by omega) | exact noPy (by omega) | exact okR_small (by omega) (by omega) | (apply And.intro <;> omega))) only [Int.reduceLT, Int.reduceLE, Int.reduceEq, Int.reduceNe, Int.reduceAdd, Int.reduceMul, Int.reduceSub, Int.reduceNeg, Int.reducePow, Int.reduceToNat, Nat.reduceAdd, Nat.reduceSub, Nat.reduceMul, Nat.reduceLT, Nat.reduceLeDiff, Nat.reduceEqDiff, Nat.reducePow, Int.cast_ofNat_Int, tst_false, tst_bool, R.of_some, R.of_none, List.getElem?_cons_zero, List.getElem?_cons_succ, List.set_cons_zero, List.set_cons_succ, List.length_cons, List.length_nil, List.cons_append, List.nil_append, List.replicate_zero, List.replicate_succ, Bool.not_true, Bool.not_false, decide_true, decide_false, Nat.zero_add, Nat.add_zero, List.all_cons, List.all_nil, Bool.and_true, Bool.true_and, Bool.and_self, st_bin, bin1_ok, bin2_ok, bin3_ok, st_neg, neg1_ok, st_cmp, cmp1_ok, cmp2_ok, cmp3_ok, st_chain, chn1_ok, chn2_ok, chn2b_ok, chn3_t, chn3_f, chn4_ok, st_and, and1_t, and1_f, st_or, or1_t, or1_f, st_not, not1_ok, st_ite, ite1_t, ite1_f, st_tup, tup1_ok, st_lst, lst1_ok, st_dct, dct0_ok, st_dc1, dcp1_i, dcp1_b, dcp1_s, st_dget, dget1_ok, dget2_ok, dget3_ok, st_rep, rep1_ok, st_ix, ix1_ok, ix2_ok, ix3_ok, st_sl, sl1_ok, sl2_ok, sl2b_ok, sl3_ok, sl4_ok, part_no, part_c, part_v, part_bin, part_neg, st_no, st_rev, rev1_ok, st_c, st_v, st_g, st_call, st_callp, callp1_ok, callp2_ok, callp2_ok2, call1_ok, callA_0, callA_1, callB_ok, callB_exc, callC_v, callC_f, callX_ok, slots_nil, slots_v, slots_f, slots_s, args_nil, args_cons, argC_ok, arg_v, arg_f, arg_s, argS_ok, put_nil, put_cons, put2_ok, st_blt, blt1_ok, blt2_ok, pks_nil, pks_cons, pkC_ok, st_lrng, lrng1_ok, st_isi, isi1_ok, isi2_ok, st_meth, meth1_ok, meth2_ok, meth3_ok, meth4_ok, meth_app, st_ext, ext0_ok, ext1_ok, st_comp, comp1_ok, comp2_ok, st_evs_nil, st_evs, evs1_ok, evs2_ok, settle_v, settle_f, settle_s, toD_l, st_evd_nil, st_evd, evd1_ok, evd2_ok, evd3_ok, frz_v, frz_f, frz_s, frzS_o, frzS_v, nm_s, nmS_v, nmS_o, pk_v, pk_f, pk_s, pkS_o, pkS_v, tst_ok, tst2_ok, truth_b, bindS, st_of, src0_ok, src1_l, src1_t, st_rng1, st_rng2, rg2_ok, st_rng3, rg3_ok, rg3b_ok, st_enum, en0_ok, en1_l, en1_t, st_zip, zp0_ok, zp1_ok, zp2_ok, zp3_ll, zp3_lt, zp3_tl, zp3_tt, st_srev, rv0_ok, rv1_l, rv1_t, st_cons, st_nil, seq_nx, seq_rt, seq_bk, seq_ct, seq_exc, st_mov, mov0_ok, mov1_u, mov1_v, mov1_o, st_asg, asg1_ok, asg2_fu, asg2_fv, asg2_fo, asg2_vu, asg2_vv, asg2_vo, asg2_su, asg2_sv, asg2_so, asg3_ok, st_par, par1_ok, par2_ok, par3_ok, par4_ok, st_unp, unp1_ok, unp2_ok, unp3_ok, tg_n, tg_2, tg_3, st_set, set0_ok, set1_ok, set2_ok, set3_ok, set4_ok, set5_ok, st_ex, ex1_ok, st_ret, ret1_ok, st_ret0, st_if, if1_t, if1_f, st_for, for1_ok, st_brk, st_cont, st_pass, st_kill, kill_nil, kill_cons, back_nil, back_cons, back2_ok, is_n, is_t, free_n, free_t, free_v, free_u, bo_add, bo_sub, cm_lt, cm_le, cm_gt, cm_ge, cm_eqi, cm_nei, cm_eqs, cm_nes, cm_isb, cm_isnotb, mapS, ix_l, ix_t, at_0, at_1, at_2, lk_cons, fn_lenl, fn_lent, fn_abs, fn_max, fn_min, fn_tupl, fn_tupt, fn_lisl, fn_list, fn_strs, fn_inti, fn_intb, body_0, body_1, body_2, body_3, body_4, body_5, body_6, end1_rt, end1_nx, end1_x, end2_v, end2_f, end2_s, end3_o, end3_v, endX_ok, outs_nil, outs_v, outs_o, out2_ok, as_nil, as_v, as_o, st_raise, raise_1s, raise_1i, raise_2si, raise_2ii, st_try, try_nx, try_rt, try_bk, try_ct, bo_mul, bo_mod, bo_div, bo_ll, bo_tt, rg1_ok, rg2b_ok, lrng2_ok, ext2_ok, rep2_ok, b8, e] at hy
    exact hy.symm
  | true =>
    rw [hb] at e
    by_cases h2 : r.length < 2
    · have q : decide ((r.length : Int) < 2) = true := decide_eq_true (by omega)
      rw [decide_eq_true h2]
      simp (disch := (first | assumption | (simp only [free_n, free_t, free_v, free_u, List.getElem?_cons_zero, List.getElem?_cons_succ, List.all_cons, List.all_nil, Bool.and_true, Bool.and_self]; done) | (simp only [List.length_cons, List.length_nil, List.length_append, List.length_map, List.length_zip, List.length_drop, List.length_take, List.length_range, List.length_reverse, List.length_set, List.length_replicate, List.length_zipIdx, List.length_tail, len_rngI]; omega) | exact sz_of (by simp only [List.length_cons, List.length_nil, List.length_append, List.length_map, List.length_zip, List.length_drop, List.length_take, List.length_range, List.length_reverse, List.length_set, List.length_replicate, List.length_zipIdx, List.length_tail, len_rngI]; omega) | omega | exact mulOk_l (by omega) | exact mulOk_r (by omega) | exact noPy (by omega) | exact okR_small (by omega) (by omega) | (apply And.intro <;> omega))) only [Int.reduceLT, Int.reduceLE, Int.reduceEq, Int.reduceNe, Int.reduceAdd, Int.reduceMul, Int.reduceSub, Int.reduceNeg, Int.reducePow, Int.reduceToNat, Nat.reduceAdd, Nat.reduceSub, Nat.reduceMul, Nat.reduceLT, Nat.reduceLeDiff, Nat.reduceEqDiff, Nat.reducePow, Int.cast_ofNat_Int, tst_false, tst_bool, R.of_some, R.of_none, List.getElem?_cons_zero, List.getElem?_cons_succ, List.set_cons_zero, List.set_cons_succ, List.length_cons, List.length_nil, List.cons_append, List.nil_append, List.replicate_zero, List.replicate_succ, Bool.not_true, Bool.not_false, decide_true, decide_false, Nat.zero_add, Nat.add_zero, List.all_cons, List.all_nil, Bool.and_true, Bool.true_and, Bool.and_self, st_bin, bin1_ok, bin2_ok, bin3_ok, st_neg, neg1_ok, st_cmp, cmp1_ok, cmp2_ok, cmp3_ok, st_chain, chn1_ok, chn2_ok, chn2b_ok, chn3_t, chn3_f, chn4_ok, st_and, and1_t, and1_f, st_or, or1_t, or1_f, st_not, not1_ok, st_ite, ite1_t, ite1_f, st_tup, tup1_ok, st_lst, lst1_ok, st_dct, dct0_ok, st_dc1, dcp1_i, dcp1_b, dcp1_s, st_dget, dget1_ok, dget2_ok, dget3_ok, st_rep, rep1_ok, st_ix, ix1_ok, ix2_ok, ix3_ok, st_sl, sl1_ok, sl2_ok, sl2b_ok, sl3_ok, sl4_ok, part_no, part_c, part_v, part_bin, part_neg, st_no, st_rev, rev1_ok, st_c, st_v, st_g, st_call, st_callp, callp1_ok, callp2_ok, callp2_ok2, call1_ok, callA_0, callA_1, callB_ok, callB_exc, callC_v, callC_f, callX_ok, slots_nil, slots_v, slots_f, slots_s, args_nil, args_cons, argC_ok, arg_v, arg_f, arg_s, argS_ok, put_nil, put_cons, put2_ok, st_blt, blt1_ok, blt2_ok, pks_nil, pks_cons, pkC_ok, st_lrng, lrng1_ok, st_isi, isi1_ok, isi2_ok, st_meth, meth1_ok, meth2_ok, meth3_ok, meth4_ok, meth_app, st_ext, ext0_ok, ext1_ok, st_comp, comp1_ok, comp2_ok, st_evs_nil, st_evs, evs1_ok, evs2_ok, settle_v, settle_f, settle_s, toD_l, st_evd_nil, st_evd, evd1_ok, evd2_ok, evd3_ok, frz_v, frz_f, frz_s, frzS_o, frzS_v, nm_s, nmS_v, nmS_o, pk_v, pk_f, pk_s, pkS_o, pkS_v, tst_ok, tst2_ok, truth_b, bindS, st_of, src0_ok, src1_l, src1_t, st_rng1, st_rng2, rg2_ok, st_rng3, rg3_ok, rg3b_ok, st_enum, en0_ok, en1_l, en1_t, st_zip, zp0_ok, zp1_ok, zp2_ok, zp3_ll, zp3_lt, zp3_tl, zp3_tt, st_srev, rv0_ok, rv1_l, rv1_t, st_cons, st_nil, seq_nx, seq_rt, seq_bk, seq_ct, seq_exc, st_mov, mov0_ok, mov1_u, mov1_v, mov1_o, st_asg, asg1_ok, asg2_fu, asg2_fv, asg2_fo, asg2_vu, asg2_vv, asg2_vo, asg2_su, asg2_sv, asg2_so, asg3_ok, st_par, par1_ok, par2_ok, par3_ok, par4_ok, st_unp, unp1_ok, unp2_ok, unp3_ok, tg_n, tg_2, tg_3, st_set, set0_ok, set1_ok, set2_ok, set3_ok, set4_ok, set5_ok, st_ex, ex1_ok, st_ret, ret1_ok, st_ret0, st_if, if1_t, if1_f, st_for, for1_ok, st_brk, st_cont, st_pass, st_kill, kill_nil, kill_cons, back_nil, back_cons, back2_ok, is_n, is_t, free_n, free_t, free_v, free_u, bo_add, bo_sub, cm_lt, cm_le, cm_gt, cm_ge, cm_eqi, cm_nei, cm_eqs, cm_nes, cm_isb, cm_isnotb, mapS, ix_l, ix_t, at_0, at_1, at_2, lk_cons, fn_lenl, fn_lent, fn_abs, fn_max, fn_min, fn_tupl, fn_tupt, fn_lisl, fn_list, fn_strs, fn_inti, fn_intb, body_0, body_1, body_2, body_3, body_4, body_5, body_6, end1_rt, end1_nx, end1_x, end2_v, end2_f, end2_s, end3_o, end3_v, endX_ok, outs_nil, outs_v, outs_o, out2_ok, as_nil, as_v, as_o, st_raise, raise_1s, raise_1i, raise_2si, raise_2ii, st_try, try_nx, try_rt, try_bk, try_ct, bo_mul, bo_mod, bo_div, bo_ll, bo_tt, rg1_ok, rg2b_ok, lrng2_ok, ext2_ok, rep2_ok, b8, e, List.length_map, q] at hy
      exact hy.symm
    · have q : decide ((r.length : Int) < 2) = false := decide_eq_false (by omega)
      rw [decide_eq_false h2]
      have i0 := nth_row r (k := 0) (by omega)
      have i1 := nth_row r (k := 1) (by omega)
      have i0 : ixD (.tuple (intsD r)) (.int 0) = some (.int (r.getD 0 0)) := i0
      have i1 : ixD (.tuple (intsD r)) (.int 1) = some (.int (r.getD 1 0)) := i1
      simp (disch := (first | assumption | (simp only [free_n, free_t, free_v, free_u, List.getElem?_cons_zero, List.getElem?_cons_succ, List.all_cons, List.all_nil, Bool.and_true, Bool.and_self]; done) | (simp only [List.length_cons, List.length_nil, List.length_append, List.length_map, List.length_zip, List.length_drop, List.length_take, List.length_range, List.length_reverse, List.length_set, List.length_replicate, List.length_zipIdx, List.length_tail, len_rngI]; omega) | exact sz_of (by simp only [List.length_cons, List.length_nil, List.length_append, List.length_map, List.length_zip, List.length_drop, List.length_take, List.length_range, List.length_reverse, List.length_set, List.length_replicate, List.length_zipIdx, List.length_tail, len_rngI]; omega) | omega | exact mulOk_l (by omega) | exact mulOk_r (by omega) | exact noPy (by omega) | exact okR_small (by omega) (by omega) | (apply And.intro <;> omega))) only [Int.reduceLT, Int.reduceLE, Int.reduceEq, Int.reduceNe, Int.reduceAdd, Int.reduceMul, Int.reduceSub, Int.reduceNeg, Int.reducePow, Int.reduceToNat, Nat.reduceAdd, Nat.reduceSub, Nat.reduceMul, Nat.reduceLT, Nat.reduceLeDiff, Nat.reduceEqDiff, Nat.reducePow, Int.cast_ofNat_Int, tst_false, tst_bool, R.of_some, R.of_none, List.getElem?_cons_zero, List.getElem?_cons_succ, List.set_cons_zero, List.set_cons_succ, List.length_cons, List.length_nil, List.cons_append, List.nil_append, List.replicate_zero, List.replicate_succ, Bool.not_true, Bool.not_false, decide_true, decide_false, Nat.zero_add, Nat.add_zero, List.all_cons, List.all_nil, Bool.and_true, Bool.true_and, Bool.and_self, st_bin, bin1_ok, bin2_ok, bin3_ok, st_neg, neg1_ok, st_cmp, cmp1_ok, cmp2_ok, cmp3_ok, st_chain, chn1_ok, chn2_ok, chn2b_ok, chn3_t, chn3_f, chn4_ok, st_and, and1_t, and1_f, st_or, or1_t, or1_f, st_not, not1_ok, st_ite, ite1_t, ite1_f, st_tup, tup1_ok, st_lst, lst1_ok, st_dct, dct0_ok, st_dc1, dcp1_i, dcp1_b, dcp1_s, st_dget, dget1_ok, dget2_ok, dget3_ok, st_rep, rep1_ok, st_ix, ix1_ok, ix2_ok, ix3_ok, st_sl, sl1_ok, sl2_ok, sl2b_ok, sl3_ok, sl4_ok, part_no, part_c, part_v, part_bin, part_neg, st_no, st_rev, rev1_ok, st_c, st_v, st_g, st_call, st_callp, callp1_ok, callp2_ok, callp2_ok2, call1_ok, callA_0, callA_1, callB_ok, callB_exc, callC_v, callC_f, callX_ok, slots_nil, slots_v, slots_f, slots_s, args_nil, args_cons, argC_ok, arg_v, arg_f, arg_s, argS_ok, put_nil, put_cons, put2_ok, st_blt, blt1_ok, blt2_ok, pks_nil, pks_cons, pkC_ok, st_lrng, lrng1_ok, st_isi, isi1_ok, isi2_ok, st_meth, meth1_ok, meth2_ok, meth3_ok, meth4_ok, meth_app, st_ext, ext0_ok, ext1_ok, st_comp, comp1_ok, comp2_ok, st_evs_nil, st_evs, evs1_ok, evs2_ok, settle_v, settle_f, settle_s, toD_l, st_evd_nil, st_evd, evd1_ok, evd2_ok, evd3_ok, frz_v, frz_f, frz_s, frzS_o, frzS_v, nm_s, nmS_v, nmS_o, pk_v, pk_f, pk_s, pkS_o, pkS_v, tst_ok, tst2_ok, truth_b, bindS, st_of, src0_ok, src1_l, src1_t, st_rng1, st_rng2, rg2_ok, st_rng3, rg3_ok, rg3b_ok, st_enum, en0_ok, en1_l, en1_t, st_zip, zp0_ok, zp1_ok, zp2_ok, zp3_ll, zp3_lt, zp3_tl, zp3_tt, st_srev, rv0_ok, rv1_l, rv1_t, st_cons, st_nil, seq_nx, seq_rt, seq_bk, seq_ct, seq_exc, st_mov, mov0_ok, mov1_u, mov1_v, mov1_o, st_asg, asg1_ok, asg2_fu, asg2_fv, asg2_fo, asg2_vu, asg2_vv, asg2_vo, asg2_su, asg2_sv, asg2_so, asg3_ok, st_par, par1_ok, par2_ok, par3_ok, par4_ok, st_unp, unp1_ok, unp2_ok, unp3_ok, tg_n, tg_2, tg_3, st_set, set0_ok, set1_ok, set2_ok, set3_ok, set4_ok, set5_ok, st_ex, ex1_ok, st_ret, ret1_ok, st_ret0, st_if, if1_t, if1_f, st_for, for1_ok, st_brk, st_cont, st_pass, st_kill, kill_nil, kill_cons, back_nil, back_cons, back2_ok, is_n, is_t, free_n, free_t, free_v, free_u, bo_add, bo_sub, cm_lt, cm_le, cm_gt, cm_ge, cm_eqi, cm_nei, cm_eqs, cm_nes, cm_isb, cm_isnotb, mapS, ix_l, ix_t, at_0, at_1, at_2, lk_cons, fn_lenl, fn_lent, fn_abs, fn_max, fn_min, fn_tupl, fn_tupt, fn_lisl, fn_list, fn_strs, fn_inti, fn_intb, body_0, body_1, body_2, body_3, body_4, body_5, body_6, end1_rt, end1_nx, end1_x, end2_v, end2_f, end2_s, end3_o, end3_v, endX_ok, outs_nil, outs_v, outs_o, out2_ok, as_nil, as_v, as_o, st_raise, raise_1s, raise_1i, raise_2si, raise_2ii, st_try, try_nx, try_rt, try_bk, try_ct, bo_mul, bo_mod, bo_div, bo_ll, bo_tt, rg1_ok, rg2b_ok, lrng2_ok, ext2_ok, rep2_ok, b8, e, List.length_map, q, i0, i1] at hy
      exact hy.symm
/-! ### the law -/
theorem rows_map' : ∀ l : List (List Int), rows? (rowsT l) = some l
  | [] => rfl
  | r :: l => by
    show (ints? (intsD r)).bind (fun r => (rows? (rowsT l)).map (r :: ·)) = _
    rw [ints_map, rows_map' l]; rfl
theorem fn_sortR {l : List (List Int)} (h : (l.all fun r => !r.isEmpty) = true ∨ l.length < 2) : fnD .sorted [.list (rowsT l)] = some (.fresh (.l (rowsT (sortR l)))) := by
  cases l with
  | nil => rfl
  | cons r l =>
    show (rows? (rowsT (r :: l))).bind _ = _
    rw [rows_map']
    exact if_pos h
theorem al_ne {n : Nat} : ((al n).filter downB).all (fun r => !r.isEmpty) = true ∨ ((al n).filter downB).length < 2 := by
  cases n with
  | zero =>
    refine .inr ?_
    have : ((al 0).filter downB).length ≤ (al 0).length := List.length_filter_le ..
    have : (al 0).length = 1 := rfl
    omega
  | succ n =>
    refine .inl (List.all_eq_true.mpr fun r hr => ?_)
    have := al_row ((List.mem_filter.mp hr).1)
    cases r with
    | nil => simp at this
    | cons x r => rfl
theorem rep_dec : ((List.range 8).all fun n => smalt 20 (.list (rowsT (dn n n))) && decide (PyData.depth (.list (rowsT (dn n n))) ≤ 3) && decide (cnt (.list (rowsT (dn n n))) ≤ 10000) && decide (zz n = ((dn n n).length : Int))) = true := by decide +kernel
theorem fits_dn {n : Nat} (hn : n ≤ 7) : Fits (.list (rowsT (dn n n))) ∧ zz n = ((dn n n).length : Int) := by
  have := List.all_eq_true.mp rep_dec n (List.mem_range.mpr (by omega))
  rw [Bool.and_eq_true, Bool.and_eq_true, Bool.and_eq_true] at this
  exact ⟨fits_oft (b := 20) (by decide) (by decide) this.1.1.1 (Nat.le_trans (of_decide_eq_true this.1.1.2) (by decide)) (Nat.le_trans (Nat.mul_le_mul_left _ (of_decide_eq_true this.1.2)) (by decide)), of_decide_eq_true this.2⟩
theorem law_turn (w1 : DnOk (Φ 1)) (w4 : ZzOk (Φ 4)) {n : Nat} (hn : n ≤ 7) (s0 s3 : Slot) (z : D) : exSs Φ f10L0 [s0, .val z, .own none false (.l (rowsT (dn n n))), s3, .un, .val (.int (n : Int)), .un] = .nx [s0, .un, .own none false (.l (rowsT (dn n n))), s3, .un, .val (.int (n : Int)), .un] := by
  have e1 := w1 n hn
  have e4 := w4 n (by omega)
  obtain ⟨f, ez⟩ := fits_dn hn
  have hl := dn_len hn hn
  rw [ez] at e4
  have dL : ∀ l : List D, Cell.toD (.l l) = .list l := fun _ => rfl
  have rp := fn_repr f
  have sm : Fits (.int ((dn n n).length : Int)) := fits_int (b := 20) (by decide) (by decide) (by rw [Int.natAbs_natCast]; exact Nat.lt_of_le_of_lt hl (by decide +kernel))
  have rp2 := fn_repr sm
  have hlen : (rowsT (dn n n)).length = (dn n n).length := List.length_map ..
  have rv : ∀ l : List D, methL .reverse l [] = some (.none, l.reverse) := fun _ => rfl
  have ap := meth_appL (rowsT (dn n n)).reverse (.tuple []) (by simp; omega)
  generalize hy : exSs Φ f10L0 _ = y
  generalize (dn n n).length = m at *
  generalize rowsT (dn n n) = R0 at *
  simp (disch := (first | assumption | (simp only [free_n, free_t, free_v, free_u, List.getElem?_cons_zero, List.getElem?_cons_succ, List.all_cons, List.all_nil, Bool.and_true, Bool.and_self]; done) | (simp only [List.length_cons, List.length_nil, List.length_append, List.length_map, List.length_zip, List.length_drop, List.length_take, List.length_range, List.length_reverse, List.length_set, List.length_replicate, List.length_zipIdx, List.length_tail, len_rngI]; omega) | exact sz_of (by simp only [List.length_cons, List.length_nil, List.length_append, List.length_map, List.length_zip, List.length_drop, List.length_take, List.length_range, List.length_reverse, List.length_set, List.length_replicate, List.length_zipIdx, List.length_tail, len_rngI]; omega) | omega | exact mulOk_l (by omega) | exact mulOk_r (by omega) | exact noPy (by omega) | exact okR_small (by omega) (by omega) | (apply And.intro <;> omega))) only [Int.reduceLT, Int.reduceLE, Int.reduceEq, Int.reduceNe, Int.reduceAdd, Int.reduceMul, Int.reduceSub, Int.reduceNeg, Int.reducePow, Int.reduceToNat, Nat.reduceAdd, Nat.reduceSub, Nat.reduceMul, Nat.reduceLT, Nat.reduceLeDiff, Nat.reduceEqDiff, Nat.reducePow, Int.cast_ofNat_Int, tst_false, tst_bool, R.of_some, R.of_none, List.getElem?_cons_zero, List.getElem?_cons_succ, List.set_cons_zero, List.set_cons_succ, List.length_cons, List.length_nil, List.cons_append, List.nil_append, List.replicate_zero, List.replicate_succ, Bool.not_true, Bool.not_false, decide_true, decide_false, Nat.zero_add, Nat.add_zero, List.all_cons, List.all_nil, Bool.and_true, Bool.true_and, Bool.and_self, st_bin, bin1_ok, bin2_ok, bin3_ok, st_neg, neg1_ok, st_cmp, cmp1_ok, cmp2_ok, cmp3_ok, st_chain, chn1_ok, chn2_ok, chn2b_ok, chn3_t, chn3_f, chn4_ok, st_and, and1_t, and1_f, st_or, or1_t, or1_f, st_not, not1_ok, st_ite, ite1_t, ite1_f, st_tup, tup1_ok, st_lst, lst1_ok, st_dct, dct0_ok, st_dc1, dcp1_i, dcp1_b, dcp1_s, st_dget, dget1_ok, dget2_ok, dget3_ok, st_rep, rep1_ok, st_ix, ix1_ok, ix2_ok, ix3_ok, st_sl, sl1_ok, sl2_ok, sl2b_ok, sl3_ok, sl4_ok, part_no, part_c, part_v, part_bin, part_neg, st_no, st_rev, rev1_ok, st_c, st_v, st_g, st_call, st_callp, callp1_ok, callp2_ok, callp2_ok2, call1_ok, callA_0, callA_1, callB_ok, callB_exc, callC_v, callC_f, callX_ok, slots_nil, slots_v, slots_f, slots_s, args_nil, args_cons, argC_ok, arg_v, arg_f, arg_s, argS_ok, put_nil, put_cons, put2_ok, st_blt, blt1_ok, blt2_ok, pks_nil, pks_cons, pkC_ok, st_lrng, lrng1_ok, st_isi, isi1_ok, isi2_ok, st_meth, meth1_ok, meth2_ok, meth3_ok, meth4_ok, meth_app, st_ext, ext0_ok, ext1_ok, st_comp, comp1_ok, comp2_ok, st_evs_nil, st_evs, evs1_ok, evs2_ok, settle_v, settle_f, settle_s, toD_l, st_evd_nil, st_evd, evd1_ok, evd2_ok, evd3_ok, frz_v, frz_f, frz_s, frzS_o, frzS_v, nm_s, nmS_v, nmS_o, pk_v, pk_f, pk_s, pkS_o, pkS_v, tst_ok, tst2_ok, truth_b, bindS, st_of, src0_ok, src1_l, src1_t, st_rng1, st_rng2, rg2_ok, st_rng3, rg3_ok, rg3b_ok, st_enum, en0_ok, en1_l, en1_t, st_zip, zp0_ok, zp1_ok, zp2_ok, zp3_ll, zp3_lt, zp3_tl, zp3_tt, st_srev, rv0_ok, rv1_l, rv1_t, st_cons, st_nil, seq_nx, seq_rt, seq_bk, seq_ct, seq_exc, st_mov, mov0_ok, mov1_u, mov1_v, mov1_o, st_asg, asg1_ok, asg2_fu, asg2_fv, asg2_fo, asg2_vu, asg2_vv, asg2_vo, asg2_su, asg2_sv, asg2_so, asg3_ok, st_par, par1_ok, par2_ok, par3_ok, par4_ok, st_unp, unp1_ok, unp2_ok, unp3_ok, tg_n, tg_2, tg_3, st_set, set0_ok, set1_ok, set2_ok, set3_ok, set4_ok, set5_ok, st_ex, ex1_ok, st_ret, ret1_ok, st_ret0, st_if, if1_t, if1_f, st_for, for1_ok, st_brk, st_cont, st_pass, st_kill, kill_nil, kill_cons, back_nil, back_cons, back2_ok, is_n, is_t, free_n, free_t, free_v, free_u, bo_add, bo_sub, cm_lt, cm_le, cm_gt, cm_ge, cm_eqi, cm_nei, cm_eqs, cm_nes, cm_isb, cm_isnotb, mapS, ix_l, ix_t, at_0, at_1, at_2, lk_cons, fn_lenl, fn_lent, fn_abs, fn_max, fn_min, fn_tupl, fn_tupt, fn_lisl, fn_list, fn_strs, fn_inti, fn_intb, body_0, body_1, body_2, body_3, body_4, body_5, body_6, end1_rt, end1_nx, end1_x, end2_v, end2_f, end2_s, end3_o, end3_v, endX_ok, outs_nil, outs_v, outs_o, out2_ok, as_nil, as_v, as_o, st_raise, raise_1s, raise_1i, raise_2si, raise_2ii, st_try, try_nx, try_rt, try_bk, try_ct, bo_mul, bo_mod, bo_div, bo_ll, bo_tt, rg1_ok, rg2b_ok, lrng2_ok, ext2_ok, rep2_ok, f10L0, e1, dL, tyIs, rp, e4, rp2, hlen, rv, ap] at hy
  exact hy.symm
theorem fin (w1 : DnOk (Φ 1)) (w4 : ZzOk (Φ 4)) (w6 : DrawOk Feed (Φ 6)) (w8 : DownOk (Φ 8)) (w9 : AlOk (Φ 9)) {ns : List Int} {c : Cell} (hc : Feed 0 c) (et : Φ 5 [.val (.list (ns.map PyData.int))] = .ok (.fresh c) []) : body Φ 7 1 b10 [.val (.list (ns.map PyData.int))] = .ok (.v (.bool true)) [] := by
  obtain ⟨t, c1, a1, a2, a3, a4⟩ := w6 0 c 8 hc (by decide) (by decide) (by decide)
  have key : ∀ (n : Nat) (c2 : Cell), n ≤ 7 → exSs Φ f10T2 [.val (.list (ns.map PyData.int)), .un, .un, .own none false c2, .un, .val (.int (n : Int)), .un] = .rt (.v (.bool true)) [.val (.list (ns.map PyData.int)), .un, .own none false (.l (rowsT (dn n n))), .own none false c2, .un, .val (.int (n : Int)), .un] := fun n c2 hn => by
    have e9 := w9 n hn
    have cf := compK_filter (Φ := Φ) (tg := .n 6) (e := .v 6) (cnd := f10P0) (emb := tupI) (f := tupI) (p := downB) (ρ := [.val (.list (ns.map PyData.int)), .un, .un, .own none false c2, .un, .val (.int (n : Int)), .un]) (l := al n) (acc := []) (fun r hr => by
      have e := w8 r (by rw [al_row hr]; omega)
      refine ⟨_, tg_n _ _ _, ?_, fun hp => ⟨.v (tupI r), ?_, frz_v _ _⟩, rfl⟩
      · simp only [Int.reduceLT, Int.reduceLE, Int.reduceEq, Int.reduceNe, Int.reduceAdd, Int.reduceMul, Int.reduceSub, Int.reduceNeg, Int.reducePow, Int.reduceToNat, Nat.reduceAdd, Nat.reduceSub, Nat.reduceMul, Nat.reduceLT, Nat.reduceLeDiff, Nat.reduceEqDiff, Nat.reducePow, Int.cast_ofNat_Int, tst_false, tst_bool, R.of_some, R.of_none, List.getElem?_cons_zero, List.getElem?_cons_succ, List.set_cons_zero, List.set_cons_succ, List.length_cons, List.length_nil, List.cons_append, List.nil_append, List.replicate_zero, List.replicate_succ, Bool.not_true, Bool.not_false, decide_true, decide_false, Nat.zero_add, Nat.add_zero, List.all_cons, List.all_nil, Bool.and_true, Bool.true_and, Bool.and_self, st_bin, bin1_ok, bin2_ok, bin3_ok, st_neg, neg1_ok, st_cmp, cmp1_ok, cmp2_ok, cmp3_ok, st_chain, chn1_ok, chn2_ok, chn2b_ok, chn3_t, chn3_f, chn4_ok, st_and, and1_t, and1_f, st_or, or1_t, or1_f, st_not, not1_ok, st_ite, ite1_t, ite1_f, st_tup, tup1_ok, st_lst, lst1_ok, st_dct, dct0_ok, st_dc1, dcp1_i, dcp1_b, dcp1_s, st_dget, dget1_ok, dget2_ok, dget3_ok, st_rep, rep1_ok, st_ix, ix1_ok, ix2_ok, ix3_ok, st_sl, sl1_ok, sl2_ok, sl2b_ok, sl3_ok, sl4_ok, part_no, part_c, part_v, part_bin, part_neg, st_no, st_rev, rev1_ok, st_c, st_v, st_g, st_call, st_callp, callp1_ok, callp2_ok, callp2_ok2, call1_ok, callA_0, callA_1, callB_ok, callB_exc, callC_v, callC_f, callX_ok, slots_nil, slots_v, slots_f, slots_s, args_nil, args_cons, argC_ok, arg_v, arg_f, arg_s, argS_ok, put_nil, put_cons, put2_ok, st_blt, blt1_ok, blt2_ok, pks_nil, pks_cons, pkC_ok, st_lrng, lrng1_ok, st_isi, isi1_ok, isi2_ok, st_meth, meth1_ok, meth2_ok, meth3_ok, meth4_ok, meth_app, st_ext, ext0_ok, ext1_ok, st_comp, comp1_ok, comp2_ok, st_evs_nil, st_evs, evs1_ok, evs2_ok, settle_v, settle_f, settle_s, toD_l, st_evd_nil, st_evd, evd1_ok, evd2_ok, evd3_ok, frz_v, frz_f, frz_s, frzS_o, frzS_v, nm_s, nmS_v, nmS_o, pk_v, pk_f, pk_s, pkS_o, pkS_v, tst_ok, tst2_ok, truth_b, bindS, st_of, src0_ok, src1_l, src1_t, st_rng1, st_rng2, rg2_ok, st_rng3, rg3_ok, rg3b_ok, st_enum, en0_ok, en1_l, en1_t, st_zip, zp0_ok, zp1_ok, zp2_ok, zp3_ll, zp3_lt, zp3_tl, zp3_tt, st_srev, rv0_ok, rv1_l, rv1_t, st_cons, st_nil, seq_nx, seq_rt, seq_bk, seq_ct, seq_exc, st_mov, mov0_ok, mov1_u, mov1_v, mov1_o, st_asg, asg1_ok, asg2_fu, asg2_fv, asg2_fo, asg2_vu, asg2_vv, asg2_vo, asg2_su, asg2_sv, asg2_so, asg3_ok, st_par, par1_ok, par2_ok, par3_ok, par4_ok, st_unp, unp1_ok, unp2_ok, unp3_ok, tg_n, tg_2, tg_3, st_set, set0_ok, set1_ok, set2_ok, set3_ok, set4_ok, set5_ok, st_ex, ex1_ok, st_ret, ret1_ok, st_ret0, st_if, if1_t, if1_f, st_for, for1_ok, st_brk, st_cont, st_pass, st_kill, kill_nil, kill_cons, back_nil, back_cons, back2_ok, is_n, is_t, free_n, free_t, free_v, free_u, bo_add, bo_sub, cm_lt, cm_le, cm_gt, cm_ge, cm_eqi, cm_nei, cm_eqs, cm_nes, cm_isb, cm_isnotb, mapS, ix_l, ix_t, at_0, at_1, at_2, lk_cons, fn_lenl, fn_lent, fn_abs, fn_max, fn_min, fn_tupl, fn_tupt, fn_lisl, fn_list, fn_strs, fn_inti, fn_intb, body_0, body_1, body_2, body_3, body_4, body_5, body_6, end1_rt, end1_nx, end1_x, end2_v, end2_f, end2_s, end3_o, end3_v, endX_ok, outs_nil, outs_v, outs_o, out2_ok, as_nil, as_v, as_o, st_raise, raise_1s, raise_1i, raise_2si, raise_2ii, st_try, try_nx, try_rt, try_bk, try_ct, f10P0, e]
      · simp only [Int.reduceLT, Int.reduceLE, Int.reduceEq, Int.reduceNe, Int.reduceAdd, Int.reduceMul, Int.reduceSub, Int.reduceNeg, Int.reducePow, Int.reduceToNat, Nat.reduceAdd, Nat.reduceSub, Nat.reduceMul, Nat.reduceLT, Nat.reduceLeDiff, Nat.reduceEqDiff, Nat.reducePow, Int.cast_ofNat_Int, tst_false, tst_bool, R.of_some, R.of_none, List.getElem?_cons_zero, List.getElem?_cons_succ, List.set_cons_zero, List.set_cons_succ, List.length_cons, List.length_nil, List.cons_append, List.nil_append, List.replicate_zero, List.replicate_succ, Bool.not_true, Bool.not_false, decide_true, decide_false, Nat.zero_add, Nat.add_zero, List.all_cons, List.all_nil, Bool.and_true, Bool.true_and, Bool.and_self, st_bin, bin1_ok, bin2_ok, bin3_ok, st_neg, neg1_ok, st_cmp, cmp1_ok, cmp2_ok, cmp3_ok, st_chain, chn1_ok, chn2_ok, chn2b_ok, chn3_t, chn3_f, chn4_ok, st_and, and1_t, and1_f, st_or, or1_t, or1_f, st_not, not1_ok, st_ite, ite1_t, ite1_f, st_tup, tup1_ok, st_lst, lst1_ok, st_dct, dct0_ok, st_dc1, dcp1_i, dcp1_b, dcp1_s, st_dget, dget1_ok, dget2_ok, dget3_ok, st_rep, rep1_ok, st_ix, ix1_ok, ix2_ok, ix3_ok, st_sl, sl1_ok, sl2_ok, sl2b_ok, sl3_ok, sl4_ok, part_no, part_c, part_v, part_bin, part_neg, st_no, st_rev, rev1_ok, st_c, st_v, st_g, st_call, st_callp, callp1_ok, callp2_ok, callp2_ok2, call1_ok, callA_0, callA_1, callB_ok, callB_exc, callC_v, callC_f, callX_ok, slots_nil, slots_v, slots_f, slots_s, args_nil, args_cons, argC_ok, arg_v, arg_f, arg_s, argS_ok, put_nil, put_cons, put2_ok, st_blt, blt1_ok, blt2_ok, pks_nil, pks_cons, pkC_ok, st_lrng, lrng1_ok, st_isi, isi1_ok, isi2_ok, st_meth, meth1_ok, meth2_ok, meth3_ok, meth4_ok, meth_app, st_ext, ext0_ok, ext1_ok, st_comp, comp1_ok, comp2_ok, st_evs_nil, st_evs, evs1_ok, evs2_ok, settle_v, settle_f, settle_s, toD_l, st_evd_nil, st_evd, evd1_ok, evd2_ok, evd3_ok, frz_v, frz_f, frz_s, frzS_o, frzS_v, nm_s, nmS_v, nmS_o, pk_v, pk_f, pk_s, pkS_o, pkS_v, tst_ok, tst2_ok, truth_b, bindS, st_of, src0_ok, src1_l, src1_t, st_rng1, st_rng2, rg2_ok, st_rng3, rg3_ok, rg3b_ok, st_enum, en0_ok, en1_l, en1_t, st_zip, zp0_ok, zp1_ok, zp2_ok, zp3_ll, zp3_lt, zp3_tl, zp3_tt, st_srev, rv0_ok, rv1_l, rv1_t, st_cons, st_nil, seq_nx, seq_rt, seq_bk, seq_ct, seq_exc, st_mov, mov0_ok, mov1_u, mov1_v, mov1_o, st_asg, asg1_ok, asg2_fu, asg2_fv, asg2_fo, asg2_vu, asg2_vv, asg2_vo, asg2_su, asg2_sv, asg2_so, asg3_ok, st_par, par1_ok, par2_ok, par3_ok, par4_ok, st_unp, unp1_ok, unp2_ok, unp3_ok, tg_n, tg_2, tg_3, st_set, set0_ok, set1_ok, set2_ok, set3_ok, set4_ok, set5_ok, st_ex, ex1_ok, st_ret, ret1_ok, st_ret0, st_if, if1_t, if1_f, st_for, for1_ok, st_brk, st_cont, st_pass, st_kill, kill_nil, kill_cons, back_nil, back_cons, back2_ok, is_n, is_t, free_n, free_t, free_v, free_u, bo_add, bo_sub, cm_lt, cm_le, cm_gt, cm_ge, cm_eqi, cm_nei, cm_eqs, cm_nes, cm_isb, cm_isnotb, mapS, ix_l, ix_t, at_0, at_1, at_2, lk_cons, fn_lenl, fn_lent, fn_abs, fn_max, fn_min, fn_tupl, fn_tupt, fn_lisl, fn_list, fn_strs, fn_inti, fn_intb, body_0, body_1, body_2, body_3, body_4, body_5, body_6, end1_rt, end1_nx, end1_x, end2_v, end2_f, end2_s, end3_o, end3_v, endX_ok, outs_nil, outs_v, outs_o, out2_ok, as_nil, as_v, as_o, st_raise, raise_1s, raise_1i, raise_2si, raise_2ii, st_try, try_nx, try_rt, try_bk, try_ct]) (sz_of (by have := al_len hn; have : 10 ^ n ≤ 10 ^ 7 := Nat.pow_le_pow_right (by decide) hn; simp; omega))
    rw [List.nil_append] at cf
    have so := fn_sortR (al_ne (n := n))
    rw [fin_eq hn] at so
    have cf : compK Φ (.v 6) (.n 6) f10P0 (rowsT (al n)) [.val (.list (ns.map PyData.int)), .un, .un, .own none false c2, .un, .val (.int (n : Int)), .un] [] = .ok (rowsT ((al n).filter downB)) [.val (.list (ns.map PyData.int)), .un, .un, .own none false c2, .un, .val (.int (n : Int)), .un] := cf
    have dL : ∀ l : List D, Cell.toD (.l l) = .list l := fun _ => rfl
    have l : forK Φ (.n 1) f10L0 (rngI 0 2) [.val (.list (ns.map PyData.int)), .un, .own none false (.l (rowsT (dn n n))), .own none false c2, .un, .val (.int (n : Int)), .un] = .nx [.val (.list (ns.map PyData.int)), .un, .own none false (.l (rowsT (dn n n))), .own none false c2, .un, .val (.int (n : Int)), .un] :=
      (forK_cons _ _ (tg_n _ _ _) (law_turn w1 w4 hn _ _ _) rfl).trans ((forK_cons _ _ (tg_n _ _ _) (law_turn w1 w4 hn _ _ _) rfl).trans (forK_nil _ _ _))
    generalize hy : exSs Φ f10T2 _ = y
    generalize rowsT (dn n n) = R0 at *
    generalize rowsT ((al n).filter downB) = R1 at *
    generalize rowsT (al n) = R2 at *
    simp (disch := (first | assumption | (simp only [free_n, free_t, free_v, free_u, List.getElem?_cons_zero, List.getElem?_cons_succ, List.all_cons, List.all_nil, Bool.and_true, Bool.and_self]; done) | (simp only [List.length_cons, List.length_nil, List.length_append, List.length_map, List.length_zip, List.length_drop, List.length_take, List.length_range, List.length_reverse, List.length_set, List.length_replicate, List.length_zipIdx, List.length_tail, len_rngI]; omega) | exact sz_of (by simp only [List.length_cons, List.length_nil, List.length_append, List.length_map, List.length_zip, List.length_drop, List.length_take, List.length_range, List.length_reverse, List.length_set, List.length_replicate, List.length_zipIdx, List.length_tail, len_rngI]; omega) | omega | exact mulOk_l (by omega) | exact mulOk_r (by omega) | exact noPy (by omega) | exact okR_small (by omega) (by omega) | (apply And.intro <;> omega))) only [Int.reduceLT, Int.reduceLE, Int.reduceEq, Int.reduceNe, Int.reduceAdd, Int.reduceMul, Int.reduceSub, Int.reduceNeg, Int.reducePow, Int.reduceToNat, Nat.reduceAdd, Nat.reduceSub, Nat.reduceMul, Nat.reduceLT, Nat.reduceLeDiff, Nat.reduceEqDiff, Nat.reducePow, Int.cast_ofNat_Int, tst_false, tst_bool, R.of_some, R.of_none, List.getElem?_cons_zero, List.getElem?_cons_succ, List.set_cons_zero, List.set_cons_succ, List.length_cons, List.length_nil, List.cons_append, List.nil_append, List.replicate_zero, List.replicate_succ, Bool.not_true, Bool.not_false, decide_true, decide_false, Nat.zero_add, Nat.add_zero, List.all_cons, List.all_nil, Bool.and_true, Bool.true_and, Bool.and_self, st_bin, bin1_ok, bin2_ok, bin3_ok, st_neg, neg1_ok, st_cmp, cmp1_ok, cmp2_ok, cmp3_ok, st_chain, chn1_ok, chn2_ok, chn2b_ok, chn3_t, chn3_f, chn4_ok, st_and, and1_t, and1_f, st_or, or1_t, or1_f, st_not, not1_ok, st_ite, ite1_t, ite1_f, st_tup, tup1_ok, st_lst, lst1_ok, st_dct, dct0_ok, st_dc1, dcp1_i, dcp1_b, dcp1_s, st_dget, dget1_ok, dget2_ok, dget3_ok, st_rep, rep1_ok, st_ix, ix1_ok, ix2_ok, ix3_ok, st_sl, sl1_ok, sl2_ok, sl2b_ok, sl3_ok, sl4_ok, part_no, part_c, part_v, part_bin, part_neg, st_no, st_rev, rev1_ok, st_c, st_v, st_g, st_call, st_callp, callp1_ok, callp2_ok, callp2_ok2, call1_ok, callA_0, callA_1, callB_ok, callB_exc, callC_v, callC_f, callX_ok, slots_nil, slots_v, slots_f, slots_s, args_nil, args_cons, argC_ok, arg_v, arg_f, arg_s, argS_ok, put_nil, put_cons, put2_ok, st_blt, blt1_ok, blt2_ok, pks_nil, pks_cons, pkC_ok, st_lrng, lrng1_ok, st_isi, isi1_ok, isi2_ok, st_meth, meth1_ok, meth2_ok, meth3_ok, meth4_ok, meth_app, st_ext, ext0_ok, ext1_ok, st_comp, comp1_ok, comp2_ok, st_evs_nil, st_evs, evs1_ok, evs2_ok, settle_v, settle_f, settle_s, toD_l, st_evd_nil, st_evd, evd1_ok, evd2_ok, evd3_ok, frz_v, frz_f, frz_s, frzS_o, frzS_v, nm_s, nmS_v, nmS_o, pk_v, pk_f, pk_s, pkS_o, pkS_v, tst_ok, tst2_ok, truth_b, bindS, st_of, src0_ok, src1_l, src1_t, st_rng1, st_rng2, rg2_ok, st_rng3, rg3_ok, rg3b_ok, st_enum, en0_ok, en1_l, en1_t, st_zip, zp0_ok, zp1_ok, zp2_ok, zp3_ll, zp3_lt, zp3_tl, zp3_tt, st_srev, rv0_ok, rv1_l, rv1_t, st_cons, st_nil, seq_nx, seq_rt, seq_bk, seq_ct, seq_exc, st_mov, mov0_ok, mov1_u, mov1_v, mov1_o, st_asg, asg1_ok, asg2_fu, asg2_fv, asg2_fo, asg2_vu, asg2_vv, asg2_vo, asg2_su, asg2_sv, asg2_so, asg3_ok, st_par, par1_ok, par2_ok, par3_ok, par4_ok, st_unp, unp1_ok, unp2_ok, unp3_ok, tg_n, tg_2, tg_3, st_set, set0_ok, set1_ok, set2_ok, set3_ok, set4_ok, set5_ok, st_ex, ex1_ok, st_ret, ret1_ok, st_ret0, st_if, if1_t, if1_f, st_for, for1_ok, st_brk, st_cont, st_pass, st_kill, kill_nil, kill_cons, back_nil, back_cons, back2_ok, is_n, is_t, free_n, free_t, free_v, free_u, bo_add, bo_sub, cm_lt, cm_le, cm_gt, cm_ge, cm_eqi, cm_nei, cm_eqs, cm_nes, cm_isb, cm_isnotb, mapS, ix_l, ix_t, at_0, at_1, at_2, lk_cons, fn_lenl, fn_lent, fn_abs, fn_max, fn_min, fn_tupl, fn_tupt, fn_lisl, fn_list, fn_strs, fn_inti, fn_intb, body_0, body_1, body_2, body_3, body_4, body_5, body_6, end1_rt, end1_nx, end1_x, end2_v, end2_f, end2_s, end3_o, end3_v, endX_ok, outs_nil, outs_v, outs_o, out2_ok, as_nil, as_v, as_o, st_raise, raise_1s, raise_1i, raise_2si, raise_2ii, st_try, try_nx, try_rt, try_bk, try_ct, bo_mul, bo_mod, bo_div, bo_ll, bo_tt, rg1_ok, rg2b_ok, lrng2_ok, ext2_ok, rep2_ok, f10T2, e9, dL, cf, so, l] at hy
    exact hy.symm
  generalize hy : body Φ 7 1 b10 [.val (.list (ns.map PyData.int))] = y
  by_cases h7 : t = 7
  · have q : cmpD .eq (.int t) (.int 7) = some true := by rw [cm_eqi, decide_eq_true h7]
    obtain ⟨m, c2, b1, b2, b3, b4⟩ := w6 _ c1 2 a1 (by decide) (by decide) (by decide)
    obtain ⟨m, rfl⟩ := nat_of b2
    have em : (6 : Int) + (m : Int) = ((6 + m : Nat) : Int) := by omega
    have k := key (6 + m) c2 (by omega)
    simp (disch := (first | assumption | (simp only [free_n, free_t, free_v, free_u, List.getElem?_cons_zero, List.getElem?_cons_succ, List.all_cons, List.all_nil, Bool.and_true, Bool.and_self]; done) | (simp only [List.length_cons, List.length_nil, List.length_append, List.length_map, List.length_zip, List.length_drop, List.length_take, List.length_range, List.length_reverse, List.length_set, List.length_replicate, List.length_zipIdx, List.length_tail, len_rngI]; omega) | exact sz_of (by simp only [List.length_cons, List.length_nil, List.length_append, List.length_map, List.length_zip, List.length_drop, List.length_take, List.length_range, List.length_reverse, List.length_set, List.length_replicate, List.length_zipIdx, List.length_tail, len_rngI]; omega) | omega | exact mulOk_l (by omega) | exact mulOk_r (by omega) | exact noPy (by omega) | exact okR_small (by omega) (by omega) | (apply And.intro <;> omega))) only [Int.reduceLT, Int.reduceLE, Int.reduceEq, Int.reduceNe, Int.reduceAdd, Int.reduceMul, Int.reduceSub, Int.reduceNeg, Int.reducePow, Int.reduceToNat, Nat.reduceAdd, Nat.reduceSub, Nat.reduceMul, Nat.reduceLT, Nat.reduceLeDiff, Nat.reduceEqDiff, Nat.reducePow, Int.cast_ofNat_Int, tst_false, tst_bool, R.of_some, R.of_none, List.getElem?_cons_zero, List.getElem?_cons_succ, List.set_cons_zero, List.set_cons_succ, List.length_cons, List.length_nil, List.cons_append, List.nil_append, List.replicate_zero, List.replicate_succ, Bool.not_true, Bool.not_false, decide_true, decide_false, Nat.zero_add, Nat.add_zero, List.all_cons, List.all_nil, Bool.and_true, Bool.true_and, Bool.and_self, st_bin, bin1_ok, bin2_ok, bin3_ok, st_neg, neg1_ok, st_cmp, cmp1_ok, cmp2_ok, cmp3_ok, st_chain, chn1_ok, chn2_ok, chn2b_ok, chn3_t, chn3_f, chn4_ok, st_and, and1_t, and1_f, st_or, or1_t, or1_f, st_not, not1_ok, st_ite, ite1_t, ite1_f, st_tup, tup1_ok, st_lst, lst1_ok, st_dct, dct0_ok, st_dc1, dcp1_i, dcp1_b, dcp1_s, st_dget, dget1_ok, dget2_ok, dget3_ok, st_rep, rep1_ok, st_ix, ix1_ok, ix2_ok, ix3_ok, st_sl, sl1_ok, sl2_ok, sl2b_ok, sl3_ok, sl4_ok, part_no, part_c, part_v, part_bin, part_neg, st_no, st_rev, rev1_ok, st_c, st_v, st_g, st_call, st_callp, callp1_ok, callp2_ok, callp2_ok2, call1_ok, callA_0, callA_1, callB_ok, callB_exc, callC_v, callC_f, callX_ok, slots_nil, slots_v, slots_f, slots_s, args_nil, args_cons, argC_ok, arg_v, arg_f, arg_s, argS_ok, put_nil, put_cons, put2_ok, st_blt, blt1_ok, blt2_ok, pks_nil, pks_cons, pkC_ok, st_lrng, lrng1_ok, st_isi, isi1_ok, isi2_ok, st_meth, meth1_ok, meth2_ok, meth3_ok, meth4_ok, meth_app, st_ext, ext0_ok, ext1_ok, st_comp, comp1_ok, comp2_ok, st_evs_nil, st_evs, evs1_ok, evs2_ok, settle_v, settle_f, settle_s, toD_l, st_evd_nil, st_evd, evd1_ok, evd2_ok, evd3_ok, frz_v, frz_f, frz_s, frzS_o, frzS_v, nm_s, nmS_v, nmS_o, pk_v, pk_f, pk_s, pkS_o, pkS_v, tst_ok, tst2_ok, truth_b, bindS, st_of, src0_ok, src1_l, src1_t, st_rng1, st_rng2, rg2_ok, st_rng3, rg3_ok, rg3b_ok, st_enum, en0_ok, en1_l, en1_t, st_zip, zp0_ok, zp1_ok, zp2_ok, zp3_ll, zp3_lt, zp3_tl, zp3_tt, st_srev, rv0_ok, rv1_l, rv1_t, st_cons, st_nil, seq_nx, seq_rt, seq_bk, seq_ct, seq_exc, st_mov, mov0_ok, mov1_u, mov1_v, mov1_o, st_asg, asg1_ok, asg2_fu, asg2_fv, asg2_fo, asg2_vu, asg2_vv, asg2_vo, asg2_su, asg2_sv, asg2_so, asg3_ok, st_par, par1_ok, par2_ok, par3_ok, par4_ok, st_unp, unp1_ok, unp2_ok, unp3_ok, tg_n, tg_2, tg_3, st_set, set0_ok, set1_ok, set2_ok, set3_ok, set4_ok, set5_ok, st_ex, ex1_ok, st_ret, ret1_ok, st_ret0, st_if, if1_t, if1_f, st_for, for1_ok, st_brk, st_cont, st_pass, st_kill, kill_nil, kill_cons, back_nil, back_cons, back2_ok, is_n, is_t, free_n, free_t, free_v, free_u, bo_add, bo_sub, cm_lt, cm_le, cm_gt, cm_ge, cm_eqi, cm_nei, cm_eqs, cm_nes, cm_isb, cm_isnotb, mapS, ix_l, ix_t, at_0, at_1, at_2, lk_cons, fn_lenl, fn_lent, fn_abs, fn_max, fn_min, fn_tupl, fn_tupt, fn_lisl, fn_list, fn_strs, fn_inti, fn_intb, body_0, body_1, body_2, body_3, body_4, body_5, body_6, end1_rt, end1_nx, end1_x, end2_v, end2_f, end2_s, end3_o, end3_v, endX_ok, outs_nil, outs_v, outs_o, out2_ok, as_nil, as_v, as_o, st_raise, raise_1s, raise_1i, raise_2si, raise_2ii, st_try, try_nx, try_rt, try_bk, try_ct, bo_mul, bo_mod, bo_div, bo_ll, bo_tt, rg1_ok, rg2b_ok, lrng2_ok, ext2_ok, rep2_ok, f10_eq, et, a4, q, b4, em, k] at hy
    exact hy.symm
  · have q : cmpD .eq (.int t) (.int 7) = some false := by rw [cm_eqi, decide_eq_false h7]
    obtain ⟨m, c2, b1, b2, b3, b4⟩ := w6 _ c1 6 a1 (by decide) (by decide) (by decide)
    obtain ⟨m, rfl⟩ := nat_of b2
    have k := key m c2 (by omega)
    simp (disch := (first | assumption | (simp only [free_n, free_t, free_v, free_u, List.getElem?_cons_zero, List.getElem?_cons_succ, List.all_cons, List.all_nil, Bool.and_true, Bool.and_self]; done) | (simp only [List.length_cons, List.length_nil, List.length_append, List.length_map, List.length_zip, List.length_drop, List.length_take, List.length_range, List.length_reverse, List.length_set, List.length_replicate, List.length_zipIdx, List.length_tail, len_rngI]; omega) | exact sz_of (by simp only [List.length_cons, List.length_nil, List.length_append, List.length_map, List.length_zip, List.length_drop, List.length_take, List.length_range, List.length_reverse, List.length_set, List.length_replicate, List.length_zipIdx, List.length_tail, len_rngI]; omega) | omega | exact mulOk_l (by omega) | exact mulOk_r (by omega) | exact noPy (by omega) | exact okR_small (by omega) (by omega) | (apply And.intro <;> omega))) only [Int.reduceLT, Int.reduceLE, Int.reduceEq, Int.reduceNe, Int.reduceAdd, Int.reduceMul, Int.reduceSub, Int.reduceNeg, Int.reducePow, Int.reduceToNat, Nat.reduceAdd, Nat.reduceSub, Nat.reduceMul, Nat.reduceLT, Nat.reduceLeDiff, Nat.reduceEqDiff, Nat.reducePow, Int.cast_ofNat_Int, tst_false, tst_bool, R.of_some, R.of_none, List.getElem?_cons_zero, List.getElem?_cons_succ, List.set_cons_zero, List.set_cons_succ, List.length_cons, List.length_nil, List.cons_append, List.nil_append, List.replicate_zero, List.replicate_succ, Bool.not_true, Bool.not_false, decide_true, decide_false, Nat.zero_add, Nat.add_zero, List.all_cons, List.all_nil, Bool.and_true, Bool.true_and, Bool.and_self, st_bin, bin1_ok, bin2_ok, bin3_ok, st_neg, neg1_ok, st_cmp, cmp1_ok, cmp2_ok, cmp3_ok, st_chain, chn1_ok, chn2_ok, chn2b_ok, chn3_t, chn3_f, chn4_ok, st_and, and1_t, and1_f, st_or, or1_t, or1_f, st_not, not1_ok, st_ite, ite1_t, ite1_f, st_tup, tup1_ok, st_lst, lst1_ok, st_dct, dct0_ok, st_dc1, dcp1_i, dcp1_b, dcp1_s, st_dget, dget1_ok, dget2_ok, dget3_ok, st_rep, rep1_ok, st_ix, ix1_ok, ix2_ok, ix3_ok, st_sl, sl1_ok, sl2_ok, sl2b_ok, sl3_ok, sl4_ok, part_no, part_c, part_v, part_bin, part_neg, st_no, st_rev, rev1_ok, st_c, st_v, st_g, st_call, st_callp, callp1_ok, callp2_ok, callp2_ok2, call1_ok, callA_0, callA_1, callB_ok, callB_exc, callC_v, callC_f, callX_ok, slots_nil, slots_v, slots_f, slots_s, args_nil, args_cons, argC_ok, arg_v, arg_f, arg_s, argS_ok, put_nil, put_cons, put2_ok, st_blt, blt1_ok, blt2_ok, pks_nil, pks_cons, pkC_ok, st_lrng, lrng1_ok, st_isi, isi1_ok, isi2_ok, st_meth, meth1_ok, meth2_ok, meth3_ok, meth4_ok, meth_app, st_ext, ext0_ok, ext1_ok, st_comp, comp1_ok, comp2_ok, st_evs_nil, st_evs, evs1_ok, evs2_ok, settle_v, settle_f, settle_s, toD_l, st_evd_nil, st_evd, evd1_ok, evd2_ok, evd3_ok, frz_v, frz_f, frz_s, frzS_o, frzS_v, nm_s, nmS_v, nmS_o, pk_v, pk_f, pk_s, pkS_o, pkS_v, tst_ok, tst2_ok, truth_b, bindS, st_of, src0_ok, src1_l, src1_t, st_rng1, st_rng2, rg2_ok, st_rng3, rg3_ok, rg3b_ok, st_enum, en0_ok, en1_l, en1_t, st_zip, zp0_ok, zp1_ok, zp2_ok, zp3_ll, zp3_lt, zp3_tl, zp3_tt, st_srev, rv0_ok, rv1_l, rv1_t, st_cons, st_nil, seq_nx, seq_rt, seq_bk, seq_ct, seq_exc, st_mov, mov0_ok, mov1_u, mov1_v, mov1_o, st_asg, asg1_ok, asg2_fu, asg2_fv, asg2_fo, asg2_vu, asg2_vv, asg2_vo, asg2_su, asg2_sv, asg2_so, asg3_ok, st_par, par1_ok, par2_ok, par3_ok, par4_ok, st_unp, unp1_ok, unp2_ok, unp3_ok, tg_n, tg_2, tg_3, st_set, set0_ok, set1_ok, set2_ok, set3_ok, set4_ok, set5_ok, st_ex, ex1_ok, st_ret, ret1_ok, st_ret0, st_if, if1_t, if1_f, st_for, for1_ok, st_brk, st_cont, st_pass, st_kill, kill_nil, kill_cons, back_nil, back_cons, back2_ok, is_n, is_t, free_n, free_t, free_v, free_u, bo_add, bo_sub, cm_lt, cm_le, cm_gt, cm_ge, cm_eqi, cm_nei, cm_eqs, cm_nes, cm_isb, cm_isnotb, mapS, ix_l, ix_t, at_0, at_1, at_2, lk_cons, fn_lenl, fn_lent, fn_abs, fn_max, fn_min, fn_tupl, fn_tupt, fn_lisl, fn_list, fn_strs, fn_inti, fn_intb, body_0, body_1, body_2, body_3, body_4, body_5, body_6, end1_rt, end1_nx, end1_x, end2_v, end2_f, end2_s, end3_o, end3_v, endX_ok, outs_nil, outs_v, outs_o, out2_ok, as_nil, as_v, as_o, st_raise, raise_1s, raise_1i, raise_2si, raise_2ii, st_try, try_nx, try_rt, try_bk, try_ct, bo_mul, bo_mod, bo_div, bo_ll, bo_tt, rg1_ok, rg2b_ok, lrng2_ok, ext2_ok, rep2_ok, f10_eq, et, a4, q, b4, k] at hy
    exact hy.symm
end
theorem plain (ns : List Int) (hl : ns.length ≤ 63) : PhiOf ds 11 10 [.val (.list (ns.map PyData.int))] = .ok (.v (.bool true)) [] := by
  obtain ⟨c, hc, et⟩ := feed_ok (PhiOf ds 5) ns hl
  rw [← e5 (by decide : 5 < 10)] at et
  rw [at10 (by decide)]
  exact fin (by rw [at1 (by decide)]; exact dn_okk (by rw [at0 (by decide)]; exact may_ok _)) (w4 10 (by decide)) (w6 10 (by decide)) (by rw [at8 (by decide)]; exact down_ok (by rw [at7 (by decide)]; exact turn_okk _)) (by rw [at9 (by decide)]; exact al_okk) hc et
end K70

set_option Elab.async false
set_option linter.all false
set_option maxRecDepth 1000000
set_option maxHeartbeats 4000000
namespace K70
open PySem M L2 PyProof.Rows
section
variable {l : PySem.W.OpenLaw} {w : World} {K : PySem.W.Frag} {h : Heap} {mg : Str → Option Value}
theorem mod_at (X : K.In h) (G : h.Ns mainGlobals mg)
    {f0 : Addr} {od0 an0 : Option Addr} {sl0 : Array (Option Value)} {oc0 kV0 dc0 pm0 cd0 ct0 : Value} {f1 : Addr} {od1 an1 : Option Addr} {sl1 : Array (Option Value)} {oc1 kV1 dc1 pm1 cd1 ct1 : Value} {f2 : Addr} {od2 an2 : Option Addr} {sl2 : Array (Option Value)} {oc2 kV2 dc2 pm2 cd2 ct2 : Value} {f3 : Addr} {od3 an3 : Option Addr} {sl3 : Array (Option Value)} {oc3 kV3 dc3 pm3 cd3 ct3 : Value} {f4 : Addr} {od4 an4 : Option Addr} {sl4 : Array (Option Value)} {oc4 kV4 dc4 pm4 cd4 ct4 : Value} {f5 : Addr} {od5 an5 : Option Addr} {sl5 : Array (Option Value)} {oc5 kV5 dc5 pm5 cd5 ct5 : Value} {f6 : Addr} {od6 an6 : Option Addr} {sl6 : Array (Option Value)} {oc6 kV6 dc6 pm6 cd6 ct6 : Value} {f7 : Addr} {od7 an7 : Option Addr} {sl7 : Array (Option Value)} {oc7 kV7 dc7 pm7 cd7 ct7 : Value} {f8 : Addr} {od8 an8 : Option Addr} {sl8 : Array (Option Value)} {oc8 kV8 dc8 pm8 cd8 ct8 : Value} {f9 : Addr} {od9 an9 : Option Addr} {sl9 : Array (Option Value)} {oc9 kV9 dc9 pm9 cd9 ct9 : Value} {f10 : Addr} {od10 an10 : Option Addr} {sl10 : Array (Option Value)} {oc10 kV10 dc10 pm10 cd10 ct10 : Value}
    (a0 : PySem.W.nsIn K mainGlobals "may_follow" = some (some (.ref f0))) (l0 : K.lookup f0 = some ⟨oc0, od0, .func (PySem.W.fnOf "may_follow" "may_follow" (L2.defArgs s0) (L2.defBody s0) (L2.defScope s0) .none kV0 dc0 pm0 an0 cd0 ct0), sl0⟩) (c0 : PySem.W.codeIn K cd0 "may_follow" = true) (k0 : PySem.W.keepIn K (.ref f0) = true)
    (a1 : PySem.W.nsIn K mainGlobals "turns_down" = some (some (.ref f1))) (l1 : K.lookup f1 = some ⟨oc1, od1, .func (PySem.W.fnOf "turns_down" "turns_down" (L2.defArgs s1) (L2.defBody s1) (L2.defScope s1) .none kV1 dc1 pm1 an1 cd1 ct1), sl1⟩) (c1 : PySem.W.codeIn K cd1 "turns_down" = true) (k1 : PySem.W.keepIn K (.ref f1) = true)
    (a2 : PySem.W.nsIn K mainGlobals "row_by_steps" = some (some (.ref f2))) (l2 : K.lookup f2 = some ⟨oc2, od2, .func (PySem.W.fnOf "row_by_steps" "row_by_steps" (L2.defArgs s2) (L2.defBody s2) (L2.defScope s2) .none kV2 dc2 pm2 an2 cd2 ct2), sl2⟩) (c2 : PySem.W.codeIn K cd2 "row_by_steps" = true) (k2 : PySem.W.keepIn K (.ref f2) = true)
    (a3 : PySem.W.nsIn K mainGlobals "table_to" = some (some (.ref f3))) (l3 : K.lookup f3 = some ⟨oc3, od3, .func (PySem.W.fnOf "table_to" "table_to" (L2.defArgs s3) (L2.defBody s3) (L2.defScope s3) .none kV3 dc3 pm3 an3 cd3 ct3), sl3⟩) (c3 : PySem.W.codeIn K cd3 "table_to" = true) (k3 : PySem.W.keepIn K (.ref f3) = true)
    (a4 : PySem.W.nsIn K mainGlobals "turns_of" = some (some (.ref f4))) (l4 : K.lookup f4 = some ⟨oc4, od4, .func (PySem.W.fnOf "turns_of" "turns_of" (L2.defArgs s4) (L2.defBody s4) (L2.defScope s4) .none kV4 dc4 pm4 an4 cd4 ct4), sl4⟩) (c4 : PySem.W.codeIn K cd4 "turns_of" = true) (k4 : PySem.W.keepIn K (.ref f4) = true)
    (a5 : PySem.W.nsIn K mainGlobals "_law_feed" = some (some (.ref f5))) (l5 : K.lookup f5 = some ⟨oc5, od5, .func (PySem.W.fnOf "_law_feed" "_law_feed" (L2.defArgs s5) (L2.defBody s5) (L2.defScope s5) .none kV5 dc5 pm5 an5 cd5 ct5), sl5⟩) (c5 : PySem.W.codeIn K cd5 "_law_feed" = true) (k5 : PySem.W.keepIn K (.ref f5) = true)
    (a6 : PySem.W.nsIn K mainGlobals "_law_draw" = some (some (.ref f6))) (l6 : K.lookup f6 = some ⟨oc6, od6, .func (PySem.W.fnOf "_law_draw" "_law_draw" (L2.defArgs s6) (L2.defBody s6) (L2.defScope s6) .none kV6 dc6 pm6 an6 cd6 ct6), sl6⟩) (c6 : PySem.W.codeIn K cd6 "_law_draw" = true) (k6 : PySem.W.keepIn K (.ref f6) = true)
    (a7 : PySem.W.nsIn K mainGlobals "_law_is_turn" = some (some (.ref f7))) (l7 : K.lookup f7 = some ⟨oc7, od7, .func (PySem.W.fnOf "_law_is_turn" "_law_is_turn" (L2.defArgs s7) (L2.defBody s7) (L2.defScope s7) .none kV7 dc7 pm7 an7 cd7 ct7), sl7⟩) (c7 : PySem.W.codeIn K cd7 "_law_is_turn" = true) (k7 : PySem.W.keepIn K (.ref f7) = true)
    (a8 : PySem.W.nsIn K mainGlobals "_law_is_down" = some (some (.ref f8))) (l8 : K.lookup f8 = some ⟨oc8, od8, .func (PySem.W.fnOf "_law_is_down" "_law_is_down" (L2.defArgs s8) (L2.defBody s8) (L2.defScope s8) .none kV8 dc8 pm8 an8 cd8 ct8), sl8⟩) (c8 : PySem.W.codeIn K cd8 "_law_is_down" = true) (k8 : PySem.W.keepIn K (.ref f8) = true)
    (a9 : PySem.W.nsIn K mainGlobals "_law_all_rows" = some (some (.ref f9))) (l9 : K.lookup f9 = some ⟨oc9, od9, .func (PySem.W.fnOf "_law_all_rows" "_law_all_rows" (L2.defArgs s9) (L2.defBody s9) (L2.defScope s9) .none kV9 dc9 pm9 an9 cd9 ct9), sl9⟩) (c9 : PySem.W.codeIn K cd9 "_law_all_rows" = true) (k9 : PySem.W.keepIn K (.ref f9) = true)
    (a10 : PySem.W.nsIn K mainGlobals "law" = some (some (.ref f10))) (l10 : K.lookup f10 = some ⟨oc10, od10, .func (PySem.W.fnOf "law" "law" (L2.defArgs s10) (L2.defBody s10) (L2.defScope s10) .none kV10 dc10 pm10 an10 cd10 ct10), sl10⟩) (c10 : PySem.W.codeIn K cd10 "law" = true) (k10 : PySem.W.keepIn K (.ref f10) = true)
    (zv : PySem.W.nsIn K mainGlobals "ValueError" = some none) (zd : PySem.W.nsIn K cStatics "sys.int_max_str_digits" = some none)
    (z0 : PySem.W.nsIn K mainGlobals "len" = some none)
    (z1 : PySem.W.nsIn K mainGlobals "abs" = some none)
    (z2 : PySem.W.nsIn K mainGlobals "max" = some none)
    (z3 : PySem.W.nsIn K mainGlobals "min" = some none)
    (z4 : PySem.W.nsIn K mainGlobals "sum" = some none)
    (z5 : PySem.W.nsIn K mainGlobals "tuple" = some none)
    (z6 : PySem.W.nsIn K mainGlobals "list" = some none)
    (z7 : PySem.W.nsIn K mainGlobals "repr" = some none)
    (z8 : PySem.W.nsIn K mainGlobals "str" = some none)
    (z9 : PySem.W.nsIn K mainGlobals "int" = some none)
    (z10 : PySem.W.nsIn K mainGlobals "bool" = some none)
    (z11 : PySem.W.nsIn K mainGlobals "dict" = some none)
    (z12 : PySem.W.nsIn K mainGlobals "all" = some none)
    (z13 : PySem.W.nsIn K mainGlobals "any" = some none)
    (z14 : PySem.W.nsIn K mainGlobals "sorted" = some none)
    (z15 : PySem.W.nsIn K mainGlobals "range" = some none)
    (z16 : PySem.W.nsIn K mainGlobals "zip" = some none)
    (z17 : PySem.W.nsIn K mainGlobals "enumerate" = some none)
    (z18 : PySem.W.nsIn K mainGlobals "reversed" = some none)
    (z19 : PySem.W.nsIn K mainGlobals "isinstance" = some none) :
    ModAt K mg ds [] [] := by
  refine ⟨fun j d e => ?_, ?_, fun x hx => ?_, fun x d hx => ?_, ?_, PySem.W.mg_none_of X G zv, zd⟩
  · match j, e with
    | 0, e => cases e; exact ⟨f0, _, PySem.W.mg_of X G a0, fun_mk (st := s0) l0 c0 k0, (fun_mk (st := s0) l0 c0 k0).binds (ps := P0) (fun _ _ _ _ _ _ us hl => match us, hl with | [_, _], _ => rfl), sc0⟩
    | 1, e => cases e; exact ⟨f1, _, PySem.W.mg_of X G a1, fun_mk (st := s1) l1 c1 k1, (fun_mk (st := s1) l1 c1 k1).binds (ps := P1) (fun _ _ _ _ _ _ us hl => match us, hl with | [_], _ => rfl), sc1⟩
    | 2, e => cases e; exact ⟨f2, _, PySem.W.mg_of X G a2, fun_mk (st := s2) l2 c2 k2, (fun_mk (st := s2) l2 c2 k2).binds (ps := P2) (fun _ _ _ _ _ _ us hl => match us, hl with | [_], _ => rfl), sc2⟩
    | 3, e => cases e; exact ⟨f3, _, PySem.W.mg_of X G a3, fun_mk (st := s3) l3 c3 k3, (fun_mk (st := s3) l3 c3 k3).binds (ps := P3) (fun _ _ _ _ _ _ us hl => match us, hl with | [_], _ => rfl), sc3⟩
    | 4, e => cases e; exact ⟨f4, _, PySem.W.mg_of X G a4, fun_mk (st := s4) l4 c4 k4, (fun_mk (st := s4) l4 c4 k4).binds (ps := P4) (fun _ _ _ _ _ _ us hl => match us, hl with | [_], _ => rfl), sc4⟩
    | 5, e => cases e; exact ⟨f5, _, PySem.W.mg_of X G a5, fun_mk (st := s5) l5 c5 k5, (fun_mk (st := s5) l5 c5 k5).binds (ps := P5) (fun _ _ _ _ _ _ us hl => match us, hl with | [_], _ => rfl), sc5⟩
    | 6, e => cases e; exact ⟨f6, _, PySem.W.mg_of X G a6, fun_mk (st := s6) l6 c6 k6, (fun_mk (st := s6) l6 c6 k6).binds (ps := P6) (fun _ _ _ _ _ _ us hl => match us, hl with | [_, _], _ => rfl), sc6⟩
    | 7, e => cases e; exact ⟨f7, _, PySem.W.mg_of X G a7, fun_mk (st := s7) l7 c7 k7, (fun_mk (st := s7) l7 c7 k7).binds (ps := P7) (fun _ _ _ _ _ _ us hl => match us, hl with | [_], _ => rfl), sc7⟩
    | 8, e => cases e; exact ⟨f8, _, PySem.W.mg_of X G a8, fun_mk (st := s8) l8 c8 k8, (fun_mk (st := s8) l8 c8 k8).binds (ps := P8) (fun _ _ _ _ _ _ us hl => match us, hl with | [_], _ => rfl), sc8⟩
    | 9, e => cases e; exact ⟨f9, _, PySem.W.mg_of X G a9, fun_mk (st := s9) l9 c9 k9, (fun_mk (st := s9) l9 c9 k9).binds (ps := P9) (fun _ _ _ _ _ _ us hl => match us, hl with | [_], _ => rfl), sc9⟩
    | 10, e => cases e; exact ⟨f10, _, PySem.W.mg_of X G a10, fun_mk (st := s10) l10 c10 k10, (fun_mk (st := s10) l10 c10 k10).binds (ps := P10) (fun _ _ _ _ _ _ us hl => match us, hl with | [_], _ => rfl), sc10⟩
    | _ + 11, e => simp [ds] at e
  · intro d hd
    simp only [ds, List.mem_cons, List.not_mem_nil, or_false] at hd
    rcases hd with rfl | rfl | rfl | rfl | rfl | rfl | rfl | rfl | rfl | rfl | rfl
    · exact ok0
    · exact ok1
    · exact ok2
    · exact ok3
    · exact ok4
    · exact ok5
    · exact ok6
    · exact ok7
    · exact ok8
    · exact ok9
    · exact ok10
  · simp only [bltNames, List.mem_cons, List.not_mem_nil, or_false] at hx
    rcases hx with rfl | rfl | rfl | rfl | rfl | rfl | rfl | rfl | rfl | rfl | rfl | rfl | rfl | rfl | rfl | rfl | rfl | rfl | rfl | rfl
    · exact PySem.W.mg_none_of X G z0
    · exact PySem.W.mg_none_of X G z1
    · exact PySem.W.mg_none_of X G z2
    · exact PySem.W.mg_none_of X G z3
    · exact PySem.W.mg_none_of X G z4
    · exact PySem.W.mg_none_of X G z5
    · exact PySem.W.mg_none_of X G z6
    · exact PySem.W.mg_none_of X G z7
    · exact PySem.W.mg_none_of X G z8
    · exact PySem.W.mg_none_of X G z9
    · exact PySem.W.mg_none_of X G z10
    · exact PySem.W.mg_none_of X G z11
    · exact PySem.W.mg_none_of X G z12
    · exact PySem.W.mg_none_of X G z13
    · exact PySem.W.mg_none_of X G z14
    · exact PySem.W.mg_none_of X G z15
    · exact PySem.W.mg_none_of X G z16
    · exact PySem.W.mg_none_of X G z17
    · exact PySem.W.mg_none_of X G z18
    · exact PySem.W.mg_none_of X G z19
  · cases hx
  · exact modc_nil
theorem all_mk {fa : Addr} (X : K.In h) (G : h.Ns mainGlobals mg) (hfa : mg "law" = some (.ref fa))
    {f0 : Addr} {od0 an0 : Option Addr} {sl0 : Array (Option Value)} {oc0 kV0 dc0 pm0 cd0 ct0 : Value} {f1 : Addr} {od1 an1 : Option Addr} {sl1 : Array (Option Value)} {oc1 kV1 dc1 pm1 cd1 ct1 : Value} {f2 : Addr} {od2 an2 : Option Addr} {sl2 : Array (Option Value)} {oc2 kV2 dc2 pm2 cd2 ct2 : Value} {f3 : Addr} {od3 an3 : Option Addr} {sl3 : Array (Option Value)} {oc3 kV3 dc3 pm3 cd3 ct3 : Value} {f4 : Addr} {od4 an4 : Option Addr} {sl4 : Array (Option Value)} {oc4 kV4 dc4 pm4 cd4 ct4 : Value} {f5 : Addr} {od5 an5 : Option Addr} {sl5 : Array (Option Value)} {oc5 kV5 dc5 pm5 cd5 ct5 : Value} {f6 : Addr} {od6 an6 : Option Addr} {sl6 : Array (Option Value)} {oc6 kV6 dc6 pm6 cd6 ct6 : Value} {f7 : Addr} {od7 an7 : Option Addr} {sl7 : Array (Option Value)} {oc7 kV7 dc7 pm7 cd7 ct7 : Value} {f8 : Addr} {od8 an8 : Option Addr} {sl8 : Array (Option Value)} {oc8 kV8 dc8 pm8 cd8 ct8 : Value} {f9 : Addr} {od9 an9 : Option Addr} {sl9 : Array (Option Value)} {oc9 kV9 dc9 pm9 cd9 ct9 : Value} {f10 : Addr} {od10 an10 : Option Addr} {sl10 : Array (Option Value)} {oc10 kV10 dc10 pm10 cd10 ct10 : Value}
    (a0 : PySem.W.nsIn K mainGlobals "may_follow" = some (some (.ref f0))) (l0 : K.lookup f0 = some ⟨oc0, od0, .func (PySem.W.fnOf "may_follow" "may_follow" (L2.defArgs s0) (L2.defBody s0) (L2.defScope s0) .none kV0 dc0 pm0 an0 cd0 ct0), sl0⟩) (c0 : PySem.W.codeIn K cd0 "may_follow" = true) (k0 : PySem.W.keepIn K (.ref f0) = true)
    (a1 : PySem.W.nsIn K mainGlobals "turns_down" = some (some (.ref f1))) (l1 : K.lookup f1 = some ⟨oc1, od1, .func (PySem.W.fnOf "turns_down" "turns_down" (L2.defArgs s1) (L2.defBody s1) (L2.defScope s1) .none kV1 dc1 pm1 an1 cd1 ct1), sl1⟩) (c1 : PySem.W.codeIn K cd1 "turns_down" = true) (k1 : PySem.W.keepIn K (.ref f1) = true)
    (a2 : PySem.W.nsIn K mainGlobals "row_by_steps" = some (some (.ref f2))) (l2 : K.lookup f2 = some ⟨oc2, od2, .func (PySem.W.fnOf "row_by_steps" "row_by_steps" (L2.defArgs s2) (L2.defBody s2) (L2.defScope s2) .none kV2 dc2 pm2 an2 cd2 ct2), sl2⟩) (c2 : PySem.W.codeIn K cd2 "row_by_steps" = true) (k2 : PySem.W.keepIn K (.ref f2) = true)
    (a3 : PySem.W.nsIn K mainGlobals "table_to" = some (some (.ref f3))) (l3 : K.lookup f3 = some ⟨oc3, od3, .func (PySem.W.fnOf "table_to" "table_to" (L2.defArgs s3) (L2.defBody s3) (L2.defScope s3) .none kV3 dc3 pm3 an3 cd3 ct3), sl3⟩) (c3 : PySem.W.codeIn K cd3 "table_to" = true) (k3 : PySem.W.keepIn K (.ref f3) = true)
    (a4 : PySem.W.nsIn K mainGlobals "turns_of" = some (some (.ref f4))) (l4 : K.lookup f4 = some ⟨oc4, od4, .func (PySem.W.fnOf "turns_of" "turns_of" (L2.defArgs s4) (L2.defBody s4) (L2.defScope s4) .none kV4 dc4 pm4 an4 cd4 ct4), sl4⟩) (c4 : PySem.W.codeIn K cd4 "turns_of" = true) (k4 : PySem.W.keepIn K (.ref f4) = true)
    (a5 : PySem.W.nsIn K mainGlobals "_law_feed" = some (some (.ref f5))) (l5 : K.lookup f5 = some ⟨oc5, od5, .func (PySem.W.fnOf "_law_feed" "_law_feed" (L2.defArgs s5) (L2.defBody s5) (L2.defScope s5) .none kV5 dc5 pm5 an5 cd5 ct5), sl5⟩) (c5 : PySem.W.codeIn K cd5 "_law_feed" = true) (k5 : PySem.W.keepIn K (.ref f5) = true)
    (a6 : PySem.W.nsIn K mainGlobals "_law_draw" = some (some (.ref f6))) (l6 : K.lookup f6 = some ⟨oc6, od6, .func (PySem.W.fnOf "_law_draw" "_law_draw" (L2.defArgs s6) (L2.defBody s6) (L2.defScope s6) .none kV6 dc6 pm6 an6 cd6 ct6), sl6⟩) (c6 : PySem.W.codeIn K cd6 "_law_draw" = true) (k6 : PySem.W.keepIn K (.ref f6) = true)
    (a7 : PySem.W.nsIn K mainGlobals "_law_is_turn" = some (some (.ref f7))) (l7 : K.lookup f7 = some ⟨oc7, od7, .func (PySem.W.fnOf "_law_is_turn" "_law_is_turn" (L2.defArgs s7) (L2.defBody s7) (L2.defScope s7) .none kV7 dc7 pm7 an7 cd7 ct7), sl7⟩) (c7 : PySem.W.codeIn K cd7 "_law_is_turn" = true) (k7 : PySem.W.keepIn K (.ref f7) = true)
    (a8 : PySem.W.nsIn K mainGlobals "_law_is_down" = some (some (.ref f8))) (l8 : K.lookup f8 = some ⟨oc8, od8, .func (PySem.W.fnOf "_law_is_down" "_law_is_down" (L2.defArgs s8) (L2.defBody s8) (L2.defScope s8) .none kV8 dc8 pm8 an8 cd8 ct8), sl8⟩) (c8 : PySem.W.codeIn K cd8 "_law_is_down" = true) (k8 : PySem.W.keepIn K (.ref f8) = true)
    (a9 : PySem.W.nsIn K mainGlobals "_law_all_rows" = some (some (.ref f9))) (l9 : K.lookup f9 = some ⟨oc9, od9, .func (PySem.W.fnOf "_law_all_rows" "_law_all_rows" (L2.defArgs s9) (L2.defBody s9) (L2.defScope s9) .none kV9 dc9 pm9 an9 cd9 ct9), sl9⟩) (c9 : PySem.W.codeIn K cd9 "_law_all_rows" = true) (k9 : PySem.W.keepIn K (.ref f9) = true)
    (a10 : PySem.W.nsIn K mainGlobals "law" = some (some (.ref f10))) (l10 : K.lookup f10 = some ⟨oc10, od10, .func (PySem.W.fnOf "law" "law" (L2.defArgs s10) (L2.defBody s10) (L2.defScope s10) .none kV10 dc10 pm10 an10 cd10 ct10), sl10⟩) (c10 : PySem.W.codeIn K cd10 "law" = true) (k10 : PySem.W.keepIn K (.ref f10) = true)
    (zv : PySem.W.nsIn K mainGlobals "ValueError" = some none) (zd : PySem.W.nsIn K cStatics "sys.int_max_str_digits" = some none)
    (z0 : PySem.W.nsIn K mainGlobals "len" = some none)
    (z1 : PySem.W.nsIn K mainGlobals "abs" = some none)
    (z2 : PySem.W.nsIn K mainGlobals "max" = some none)
    (z3 : PySem.W.nsIn K mainGlobals "min" = some none)
    (z4 : PySem.W.nsIn K mainGlobals "sum" = some none)
    (z5 : PySem.W.nsIn K mainGlobals "tuple" = some none)
    (z6 : PySem.W.nsIn K mainGlobals "list" = some none)
    (z7 : PySem.W.nsIn K mainGlobals "repr" = some none)
    (z8 : PySem.W.nsIn K mainGlobals "str" = some none)
    (z9 : PySem.W.nsIn K mainGlobals "int" = some none)
    (z10 : PySem.W.nsIn K mainGlobals "bool" = some none)
    (z11 : PySem.W.nsIn K mainGlobals "dict" = some none)
    (z12 : PySem.W.nsIn K mainGlobals "all" = some none)
    (z13 : PySem.W.nsIn K mainGlobals "any" = some none)
    (z14 : PySem.W.nsIn K mainGlobals "sorted" = some none)
    (z15 : PySem.W.nsIn K mainGlobals "range" = some none)
    (z16 : PySem.W.nsIn K mainGlobals "zip" = some none)
    (z17 : PySem.W.nsIn K mainGlobals "enumerate" = some none)
    (z18 : PySem.W.nsIn K mainGlobals "reversed" = some none)
    (z19 : PySem.W.nsIn K mainGlobals "isinstance" = some none) :
    ∃ fd : FuncData, (∀ (s : Shared) (v : Value), BindsTo s fd ⟨[v], []⟩ [("_law_script", v)]) ∧ ∀ base : Heap, K.In base → base.Ns mainGlobals mg → FnM l.prog w K mg base 13 fa fd ["_law_script"] (spAll K (PhiOf ds 11 10)) := by
  have M := mod_at X G a0 l0 c0 k0 a1 l1 c1 k1 a2 l2 c2 k2 a3 l3 c3 k3 a4 l4 c4 k4 a5 l5 c5 k5 a6 l6 c6 k6 a7 l7 c7 k7 a8 l8 c8 k8 a9 l9 c9 k9 a10 l10 c10 k10 zv zd z0 z1 z2 z3 z4 z5 z6 z7 z8 z9 z10 z11 z12 z13 z14 z15 z16 z17 z18 z19
  have e := hfa.symm.trans (PySem.W.mg_of X G a10)
  cases e
  have F := fun_mk (st := s10) l10 c10 k10
  refine ⟨PySem.W.fnOf "law" "law" (L2.defArgs s10) (L2.defBody s10) (L2.defScope s10) .none kV10 dc10 pm10 an10 cd10 ct10, fun s v => .of_eq rfl, fun base _ _ => (mod_fn M 11 10 d10 fa _ rfl ⟨PySem.W.mg_of X G a10, F, F.binds (ps := P10) (fun _ _ _ _ _ _ us hl => match us, hl with | [_], _ => rfl), sc10⟩).imp fun vs H Q E z => z _⟩
end
end K70
open PySem PySem.W PyProof.Rows
set_option maxRecDepth 100000 in
set_option maxHeartbeats 0 in
theorem PySem.Challenge.cw_powerrests_k70_all_rows_gone_through_holds : PySem.Challenge.rw_powerrests_k70_all_rows_gone_through.Holds := by
  w_on; o_law; k_head; (case hw => w_witness2)
  k_fill
  refine M.walk_ofM (l := PySem.Challenge.rw_powerrests_k70_all_rows_gone_through) (n := 63) (k := 13) (x := "_law_script") (spc := fun w => M.spAll _ (M.PhiOf K70.ds 11 10)) rfl (by decide) rfl ⟨rfl, by decide, by decide⟩ (fun w h Y => PySem.W.kIn_of Y) ?F (fun w H a ns hl _ hS XR => M.law_sp hS (K70.plain ns hl)) (fun w H s e sz h => ?X)
  case X => obtain ⟨a, B, H2, cls, d, _, _, _, _, _, _, _, f⟩ := h; exact f
  case F =>
    intro w mg fa h KX G hmg
    refine' K70.all_mk KX G hmg ?a0 ?l0 ?c0 ?k0 ?a1 ?l1 ?c1 ?k1 ?a2 ?l2 ?c2 ?k2 ?a3 ?l3 ?c3 ?k3 ?a4 ?l4 ?c4 ?k4 ?a5 ?l5 ?c5 ?k5 ?a6 ?l6 ?c6 ?k6 ?a7 ?l7 ?c7 ?k7 ?a8 ?l8 ?c8 ?k8 ?a9 ?l9 ?c9 ?k9 ?a10 ?l10 ?c10 ?k10 ?zv ?zd ?z0 ?z1 ?z2 ?z3 ?z4 ?z5 ?z6 ?z7 ?z8 ?z9 ?z10 ?z11 ?z12 ?z13 ?z14 ?z15 ?z16 ?z17 ?z18 ?z19
    (case a0 => k_is); (case l0 => k_is); (case c0 => k_is); (case k0 => k_is); (case a1 => k_is); (case l1 => k_is); (case c1 => k_is); (case k1 => k_is); (case a2 => k_is); (case l2 => k_is); (case c2 => k_is); (case k2 => k_is); (case a3 => k_is); (case l3 => k_is); (case c3 => k_is); (case k3 => k_is); (case a4 => k_is); (case l4 => k_is); (case c4 => k_is); (case k4 => k_is); (case a5 => k_is); (case l5 => k_is); (case c5 => k_is); (case k5 => k_is); (case a6 => k_is); (case l6 => k_is); (case c6 => k_is); (case k6 => k_is); (case a7 => k_is); (case l7 => k_is); (case c7 => k_is); (case k7 => k_is); (case a8 => k_is); (case l8 => k_is); (case c8 => k_is); (case k8 => k_is); (case a9 => k_is); (case l9 => k_is); (case c9 => k_is); (case k9 => k_is); (case a10 => k_is); (case l10 => k_is); (case c10 => k_is); (case k10 => k_is); (case zv => k_is); (case zd => k_is); (case z0 => k_is); (case z1 => k_is); (case z2 => k_is); (case z3 => k_is); (case z4 => k_is); (case z5 => k_is); (case z6 => k_is); (case z7 => k_is); (case z8 => k_is); (case z9 => k_is); (case z10 => k_is); (case z11 => k_is); (case z12 => k_is); (case z13 => k_is); (case z14 => k_is); (case z15 => k_is); (case z16 => k_is); (case z17 => k_is); (case z18 => k_is); (case z19 => k_is)
