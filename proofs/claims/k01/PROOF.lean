import PyProof.Rows.All
import Wide.All
import OpenK.AllK
import Wide.FinOn
import HandS.ForMost
import HandS.ForExc
import HandS.Wide
import HandS.Defaults
import HandS.IsInst
import HandS.Style
import HandS.TupAny
import HandS.Conv
import HandS.Codes
import HandS.Flow
import HandS.More
import HandS.Head2
import HandS.HeadEnd
import HandS.HeadHook2
import HandS.Lambda
import PyProof.ListNew
import PyProof.CollectWalk
import PyProof.StrWalks
import KE.KDictList
import KE.GoesEnum
import HandS.Zip
import HandS.TryOnly
import PySem.Challenge.RW_onelearns_k01_marks_of_texts
set_option Elab.async false
set_option linter.all false
set_option maxRecDepth 100000
/-! # A small interpreter: values, a heap of lists and dicts, expressions, statements -/
namespace MP
open PySem L2

/-- a value: tuples are trees, lists and dicts stand in a heap -/
inductive Val where
  | non | bl (b : Bool) | int (i : Int) | str (x : Str) | tup (xs : List Val) | ref (n : Nat)

mutual
def Val.same : Val → Val → Bool
  | .non, .non => true
  | .bl a, .bl b => a == b
  | .int a, .int b => decide (a = b)
  | .str a, .str b => decide (a = b)
  | .tup xs, .tup ys => Val.sames xs ys
  | .ref a, .ref b => decide (a = b)
  | .non, .bl _ | .non, .int _ | .non, .str _ | .non, .tup _ | .non, .ref _ => false
  | .bl _, .non | .bl _, .int _ | .bl _, .str _ | .bl _, .tup _ | .bl _, .ref _ => false
  | .int _, .non | .int _, .bl _ | .int _, .str _ | .int _, .tup _ | .int _, .ref _ => false
  | .str _, .non | .str _, .bl _ | .str _, .int _ | .str _, .tup _ | .str _, .ref _ => false
  | .tup _, .non | .tup _, .bl _ | .tup _, .int _ | .tup _, .str _ | .tup _, .ref _ => false
  | .ref _, .non | .ref _, .bl _ | .ref _, .int _ | .ref _, .str _ | .ref _, .tup _ => false
def Val.sames : List Val → List Val → Bool
  | [], [] => true
  | x :: xs, y :: ys => Val.same x y && Val.sames xs ys
  | [], _ :: _ => false
  | _ :: _, [] => false
end
mutual
theorem Val.same_eq : ∀ {a b : Val}, Val.same a b = true → a = b
  | .non, b, h => by cases b <;> simp [Val.same] at h ⊢
  | .bl a, b, h => by cases b <;> simp_all [Val.same]
  | .int a, b, h => by cases b <;> simp_all [Val.same]
  | .str a, b, h => by cases b <;> simp_all [Val.same]
  | .ref a, b, h => by cases b <;> simp_all [Val.same]
  | .tup xs, .tup ys, h => by
    simp only [Val.same] at h
    rw [Val.sames_eq h]
  | .tup _, .non, h | .tup _, .bl _, h | .tup _, .int _, h | .tup _, .str _, h | .tup _, .ref _, h => by simp [Val.same] at h
theorem Val.sames_eq : ∀ {a b : List Val}, Val.sames a b = true → a = b
  | [], [], _ => rfl
  | x :: xs, y :: ys, h => by
    simp only [Val.sames, Bool.and_eq_true] at h
    rw [Val.same_eq h.1, Val.sames_eq h.2]
  | [], _ :: _, h => by simp [Val.sames] at h
  | _ :: _, [], h => by simp [Val.sames] at h
end
mutual
theorem Val.same_refl : ∀ a : Val, Val.same a a = true
  | .non => rfl
  | .bl a => by simp [Val.same]
  | .int a => by simp [Val.same]
  | .str a => by simp [Val.same]
  | .ref a => by simp [Val.same]
  | .tup xs => by simp only [Val.same]; exact Val.sames_refl xs
theorem Val.sames_refl : ∀ a : List Val, Val.sames a a = true
  | [] => rfl
  | x :: xs => by simp only [Val.sames, Val.same_refl x, Val.sames_refl xs, Bool.and_self]
end
instance : DecidableEq Val := fun a b =>
  if h : Val.same a b = true then .isTrue (Val.same_eq h) else .isFalse fun e => h (by rw [e]; exact Val.same_refl b)

/-- an object: a list, a list that nobody writes, a dict of plain keys, a dict of tuples as keys -/
inductive AObj where
  | lst (xs : List Val) | ro (xs : List Val) | dK (kvs : List (Key × Val)) | dT (kvs : List (List Key × Val))
  deriving DecidableEq
abbrev AH := List AObj
abbrev Slots := List (Option Val)

mutual
/-- all refs in it lie below n -/
def Val.fit (n : Nat) : Val → Bool
  | .tup xs => Val.fits n xs
  | .ref m => decide (m < n)
  | .non | .bl _ | .int _ | .str _ => true
def Val.fits (n : Nat) : List Val → Bool
  | [] => true
  | x :: xs => Val.fit n x && Val.fits n xs
end
def AObj.fit (n : Nat) : AObj → Bool
  | .lst xs | .ro xs => Val.fits n xs
  | .dK kvs => Val.fits n (kvs.map (·.2))
  | .dT kvs => Val.fits n (kvs.map (·.2))

inductive Res (α : Type) where
  | ok (a : α) (h : AH) | exc (c : Nat) (v : Val) (h : AH) | bad
def Res.bind {α β : Type} (r : Res α) (f : α → AH → Res β) : Res β := match r with
  | .ok a h => f a h
  | .exc c v h => .exc c v h
  | .bad => .bad
/-- the old part of the heap: as it was, or without a way into the new part -/
def keptB (n : Nat) : AH → AH → Bool
  | [], _ => true
  | _ :: _, [] => false
  | o :: h, o' :: h' => (decide (o' = o) || o'.fit n) && keptB n h h'
/-- what nothing leads to any more is dropped: all of the new part, or all but one flat object -/
def gc (h : AH) (v : Val) (h1 : AH) : Val × AH :=
  if keptB h.length h h1 = true then
    if v.fit h.length = true then (v, h1.take h.length)
    else match v with
      | .ref m => (match h1[m]? with
        | some o => if o.fit h.length = true then (.ref h.length, h1.take h.length ++ [o]) else (v, h1)
        | none => (v, h1))
      | _ => (v, h1)
  else (v, h1)
def gcR (h : AH) (r : Res Val) : Res Val := match r with
  | .ok v h1 => let p := gc h v h1; .ok p.1 p.2
  | .exc c v h1 => let p := gc h v h1; .exc c p.1 p.2
  | .bad => .bad

/-- a test -/
def gcT (h : AH) (r : Res Bool) : Res Bool := match r with
  | .ok b h1 => .ok b (gc h (.bl b) h1).2
  | .exc c v h1 => .exc c v h1
  | .bad => .bad

/-! ## operations by values -/
/-- the items of a tuple, a list -/
def seqOf (h : AH) : Val → Option (List Val)
  | .tup xs => some xs
  | .ref n => (match h[n]? with
    | some (.lst xs) => some xs
    | some (.ro xs) => some xs
    | _ => none)
  | _ => none
/-- as data, nested less than so deep -/
def toP (h : AH) : Nat → Val → Option PyData
  | 0, _ => none
  | d + 1, v => match v with
    | .non => some .none
    | .bl b => some (.bool b)
    | .int i => some (.int i)
    | .str x => some (.str x)
    | .tup xs => (xs.mapM (toP h d)).map .tuple
    | .ref n => (match h[n]? with
      | some (.lst xs) => (xs.mapM (toP h d)).map .list
      | some (.ro xs) => (xs.mapM (toP h d)).map .list
      | _ => none)
def eqV (h : AH) (x y : Val) : Option Bool := match toP h 60 x, toP h 60 y with
  | some d, some e => if d.canLay0 = true ∧ e.canLay0 = true then some (PyData.eqv d e) else none
  | _, _ => none
def truth (h : AH) : Val → Option Bool
  | .non => some false
  | .bl b => some b
  | .int i => some (i != 0)
  | .str x => if x.length ≤ sizeLine then some (x.length != 0) else none
  | .tup xs => some (!xs.isEmpty)
  | .ref n => (match h[n]? with
    | some (.lst xs) => some (!xs.isEmpty)
    | some (.ro xs) => some (!xs.isEmpty)
    | some (.dK kvs) => some (!kvs.isEmpty)
    | _ => none)
instance (i j : Int) : Decidable (IntMulOk i j) := inferInstanceAs (Decidable (¬ (_ = true)))
abbrev VR := Option (Val × AH)
instance (x : Str) (k : Int) : Decidable (MulOk x k) := by unfold MulOk; infer_instance
def mulI (i j : Int) : Option Int := if IntMulOk i j then some (i * j) else none
def fdivI (i j : Int) : Option Int := if 0 < j ∧ j.natAbs.log2 < 9000 then some (i / j) else none
def modI (i j : Int) : Option Int := if 0 < j then some (i % j) else none
def powI (i j : Int) : Option Int := if 0 ≤ j ∧ j ≤ 1000000 ∧ i.natAbs < 2 ^ 64 then some (i ^ j.toNat) else none
def newL (h : AH) (xs : List Val) : VR := if xs.length ≤ sizeLine then some (.ref h.length, h ++ [.lst xs]) else none
def binV (op : Operator) (h : AH) (x y : Val) : VR := match op, x, y with
  | .Add, .int i, .int j => some (.int (i + j), h)
  | .Sub, .int i, .int j => some (.int (i - j), h)
  | .Mult, .int i, .int j => (mulI i j).map fun k => (.int k, h)
  | .FloorDiv, .int i, .int j => (fdivI i j).map fun k => (.int k, h)
  | .Mod, .int i, .int j => (modI i j).map fun k => (.int k, h)
  | .Pow, .int i, .int j => (powI i j).map fun k => (.int k, h)
  | .Add, .str i, .str j => if i.length + j.length ≤ sizeLine then some (.str (i ++ j), h) else none
  | .Add, .tup xs, .tup ys => if xs.length + ys.length ≤ sizeLine then some (.tup (xs ++ ys), h) else none
  | .Add, .ref a, .ref b => (match h[a]?, h[b]? with
    | some (.lst xs), some (.lst ys) => newL h (xs ++ ys)
    | _, _ => none)
  | .Mult, .ref a, .int k => (match h[a]? with
    | some (.lst xs) => if -(2 ^ 63) ≤ k ∧ k < 2 ^ 63 ∧ xs.length * k.toNat ≤ sizeLine then newL h (List.replicate k.toNat xs).flatten else none
    | _ => none)
  | .Mult, .str x, .int k => if MulOk x k then some (.str (Txt.mul x k), h) else none
  | _, _, _ => none
def cmpV (op : CmpOp) (h : AH) (x y : Val) : Option Bool := match op with
  | .Eq => eqV h x y
  | .NotEq => (eqV h x y).map (!·)
  | .Lt => (match x, y with
    | .int i, .int j => some (decide (i < j))
    | _, _ => none)
  | .LtE => (match x, y with
    | .int i, .int j => some (decide (i ≤ j))
    | _, _ => none)
  | .Gt => (match x, y with
    | .int i, .int j => some (decide (j < i))
    | _, _ => none)
  | .GtE => (match x, y with
    | .int i, .int j => some (decide (j ≤ i))
    | _, _ => none)
  | .Is => (match x, y with
    | v, .non => some (decide (v = .non))
    | .bl a, .bl b => some (decide (a = b))
    | _, _ => none)
  | .IsNot => (match x, y with
    | v, .non => some (!decide (v = .non))
    | .bl a, .bl b => some (!decide (a = b))
    | _, _ => none)
  | .In => (match x, y with
    | .str c, .str z => (match c.cps.toList with
      | [c] => some (decide (c ∈ z.cps.toList))
      | _ => none)
    | _, _ => none)
  | .NotIn => (match x, y with
    | .str c, .str z => (match c.cps.toList with
      | [c] => some (!decide (c ∈ z.cps.toList))
      | _ => none)
    | _, _ => none)
/-- x[i] -/
def ixV (h : AH) (x y : Val) : Option Val := match x, y with
  | .str z, .int i => if z.length ≤ sizeLine then (atI z.cps.toList i).map fun c => .str ⟨#[c]⟩ else none
  | .tup xs, .int i => atI xs i
  | .ref n, .int i => (seqOf h (.ref n)).bind fun xs => atI xs i
  | _, _ => none
/-- x[lo:hi] -/
def cutL {α : Type} (xs : List α) (lo hi : Option Int) : List α := (xs.drop (HT.sIx xs.length 0 lo)).take (HT.sIx xs.length xs.length hi - HT.sIx xs.length 0 lo)
def slV (h : AH) (x : Val) (lo hi : Option Int) : VR := match x with
  | .str z => if z.length ≤ sizeLine then some (.str (cutS z lo hi), h) else none
  | .tup xs => some (.tup (cutL xs lo hi), h)
  | .ref n => (seqOf h (.ref n)).bind fun xs => newL h (cutL xs lo hi)
  | _ => none
/-- the type's name -/
def tyOf (h : AH) : Val → Option String
  | .non => some "NoneType"
  | .bl _ => some "bool"
  | .int _ => some "int"
  | .str _ => some "str"
  | .tup _ => some "tuple"
  | .ref n => (match h[n]? with
    | some (.lst _) => some "list"
    | some (.ro _) => some "list"
    | some (.dK _) => some "dict"
    | some (.dT _) => some "dict"
    | none => none)
def isTy (t c : String) : Bool := decide (t = c) || (decide (t = "bool") && decide (c = "int"))
inductive Ty where
  | int | str | bool | tuple | list | dict
  deriving DecidableEq
def Ty.name : Ty → String
  | .int => "int" | .str => "str" | .bool => "bool" | .tuple => "tuple" | .list => "list" | .dict => "dict"
/-- built-in functions of plain values -/
inductive Bt where
  | len | int | bool | abs | all | any | sum | min2 | max2 | list | tuple
  deriving DecidableEq
def Bt.name : Bt → Str
  | .len => "len" | .int => "int" | .bool => "bool" | .abs => "abs" | .all => "all" | .any => "any" | .sum => "sum" | .min2 => "min" | .max2 => "max" | .list => "list" | .tuple => "tuple"
def blsOf : List Val → Option (List Bool)
  | [] => some []
  | .bl b :: r => (blsOf r).map (b :: ·)
  | _ :: _ => none
def intsOf : List Val → Option (List Int)
  | [] => some []
  | .int b :: r => (intsOf r).map (b :: ·)
  | _ :: _ => none
def btV (b : Bt) (h : AH) (vs : List Val) : VR := match b, vs with
  | .len, [.str x] => if x.length ≤ sizeLine then some (.int x.length, h) else none
  | .len, [.tup xs] => some (.int xs.length, h)
  | .len, [.ref n] => (match h[n]? with
    | some (.lst xs) => some (.int xs.length, h)
    | some (.ro xs) => some (.int xs.length, h)
    | _ => none)
  | .int, [.int i] => some (.int i, h)
  | .int, [.bl b] => some (.int (if b then 1 else 0), h)
  | .bool, [.int i] => some (.bl (i != 0), h)
  | .bool, [.bl b] => some (.bl b, h)
  | .abs, [.int i] => some (.int (if i < 0 then -i else i), h)
  | .all, [.ref n] => (match h[n]? with
    | some (.lst xs) => (blsOf xs).map fun bs => (.bl (bs.all id), h)
    | _ => none)
  | .any, [.ref n] => (match h[n]? with
    | some (.lst xs) => (blsOf xs).map fun bs => (.bl (bs.any id), h)
    | _ => none)
  | .sum, [.ref n] => (match h[n]? with
    | some (.lst xs) => (intsOf xs).map fun is => (.int is.sum, h)
    | _ => none)
  | .min2, [.int i, .int j] => some (.int (if j < i then j else i), h)
  | .max2, [.int i, .int j] => some (.int (if j > i then j else i), h)
  | .list, [.str x] => newL h (x.cps.toList.map fun c => .str ⟨#[c]⟩)
  | .list, [v] => (seqOf h v).bind fun xs => newL h xs
  | .tuple, [v] => (seqOf h v).map fun xs => (.tup xs, h)
  | _, _ => none
/-- methods -/
inductive Mt where
  | append | pop | popAt
  deriving DecidableEq
def Mt.name : Mt → Str
  | .append => "append" | .pop => "pop" | .popAt => "pop"
def Mt.ty : Mt → String
  | .append | .pop | .popAt => "list"
def mtV (m : Mt) (h : AH) (o : Val) (vs : List Val) : VR := match m, o, vs with
  | .append, .ref n, [v] => (match h[n]? with
    | some (.lst xs) => if xs.length < sizeLine then some (.non, h.set n (.lst (xs ++ [v]))) else none
    | _ => none)
  | .pop, .ref n, [] => (match h[n]? with
    | some (.lst xs) => (xs[xs.length - 1]?).map fun y => (y, h.set n (.lst xs.dropLast))
    | _ => none)
  | .popAt, .ref n, [.int i] => (match h[n]? with
    | some (.lst xs) => if -(2 ^ 63) ≤ i ∧ i < 2 ^ 63 then (seqIndex? i xs.length).bind fun k => (xs[k]?).map fun y => (y, h.set n (.lst (xs.eraseIdx k))) else none
    | _ => none)
  | _, _, _ => none
/-- o[i] = v -/
def setV (h : AH) (o i v : Val) : Option AH := match o, i with
  | .ref n, .int k => (match h[n]? with
    | some (.lst xs) => (ixN xs.length k).map fun j => h.set n (.lst (xs.set j v))
    | _ => none)
  | _, _ => none

/-! ## the text -/
mutual
inductive E where
  | var (i : Nat) | cst (v : Val) | glo (i : Nat)
  | bin (op : Operator) (a b : E) | neg (a : E) | not (a : E)
  | and (a b : E) | or (a b : E)
  | cmp (op : CmpOp) (a b : E) | chain (op op' : CmpOp) (a b c : E)
  | ife (c a b : E)
  | call (f : Nat) (as : Es) | callk (f : Nat) (as ks : Es) (perm : List Nat)
  | bt (b : Bt) (as : Es) | mt (m : Mt) (o : E) (as : Es)
  | isin (a : E) (tys : List Ty)
  | ix (a b : E) | sl (a lo hi : E) | rev (a : E) | nope
  | tup (as : Es) | lst (as : Es)
  | comp (own : List (Str × Nat)) (tg : List Nat) (it : It) (cond elt : E)
inductive Es where
  | nil | cons (e : E) (es : Es)
/-- what is walked -/
inductive It where
  | seq (e : E) | rng1 (a : E) | rng2 (a b : E) | rng3 (a b c : E) | enm (e : E) | zip (a b : E)
end
mutual
inductive S where
  | expr (e : E) | set (i : Nat) (e : E) | setT (is : List Nat) (e : E) | par (is : List Nat) (es : Es)
  | setIx (o i e : E) | aug (i : Nat) (op : Operator) (e : E)
  | cond (c : E) (a b : Ss) | for_ (tg : List Nat) (it : It) (b : Ss) | while_ (c : E) (b : Ss)
  | ret (e : E) | retN | raise_ (c : Nat) (e : E) | brk | cnt | pass
inductive Ss where
  | nil | cons (s : S) (r : Ss)
end
/-- a def: its name, how many parameters it has, their defaults, the names by slot, the body -/
structure FD where
  name : Str
  np : Nat
  dfl : List Val
  kws : List (Nat × List Str × List Nat)
  N : List Str
  body : Ss
structure Prg where
  fns : List FD
  cs : List (Str × Val)

/-! ## the walk -/
inductive SR where
  | nxt (ρ : Slots) (h : AH) | brk (ρ : Slots) (h : AH) | cnt (ρ : Slots) (h : AH) | ret (v : Val) (h : AH) | exc (c : Nat) (v : Val) (h : AH) | bad
def Res.stm {α : Type} (r : Res α) (f : α → AH → SR) : SR := match r with
  | .ok v h => f v h
  | .exc c v h => .exc c v h
  | .bad => .bad
def setAll {α : Type} (ρ : List (Option α)) (ps : List (Nat × α)) : List (Option α) := ps.foldl (fun ρ p => ρ.set p.1 (some p.2)) ρ
/-- a target: one name, or some names for a tuple's, a list's items -/
def asg (h : AH) (v : Val) : List Nat → Slots → Option Slots
  | [i], ρ => some (ρ.set i (some v))
  | is, ρ => (seqOf h v).bind fun xs => if xs.length = is.length then some (setAll ρ (is.zip xs)) else none
def wipeS (ρ : Slots) : List Nat → Slots
  | [] => ρ
  | v :: vs => (wipeS ρ vs).set v none
/-- a walk's items: given ones, or those of a list as it stands at each turn -/
inductive Src where
  | its (xs : List Val) | live (n m : Nat) | enm (s : Src) | zip (a b : Src)
def Src.len : Src → Nat
  | .its xs => xs.length
  | .live _ m => m
  | .enm s => s.len
  | .zip a b => min a.len b.len
def Src.get (h : AH) (i : Nat) : Src → Option Val
  | .its xs => xs[i]?
  | .live n m => (seqOf h (.ref n)).bind fun xs => if xs.length = m then xs[i]? else none
  | .enm s => (s.get h i).map fun x => .tup [.int i, x]
  | .zip a b => (a.get h i).bind fun x => (b.get h i).map fun y => .tup [x, y]
def Src.fin (h : AH) : Src → Bool
  | .its _ => true
  | .live n m => (match seqOf h (.ref n) with
    | some xs => decide (xs.length = m)
    | none => false)
  | .enm s => s.fin h
  | .zip a b => a.fin h && b.fin h
/-- n turns from the i-th on -/
def loop (s : Src) (step : Val → Slots → AH → SR) : Nat → Nat → Slots → AH → SR
  | 0, _, ρ, h => if s.fin h = true then .nxt ρ h else .bad
  | n + 1, i, ρ, h => match s.get h i with
    | none => .bad
    | some x => (match step x ρ h with
      | .nxt ρ' h' => loop s step n (i + 1) ρ' h'
      | .cnt ρ' h' => loop s step n (i + 1) ρ' h'
      | .brk ρ' h' => .nxt ρ' h'
      | r => r)
/-- the turns of a comprehension; the new list stands at d -/
def cloop (s : Src) (step : Val → AH → Res (Option Val)) (d : Nat) : Nat → Nat → AH → Res Unit
  | 0, _, h => if s.fin h = true then .ok () h else .bad
  | n + 1, i, h => match s.get h i with
    | none => .bad
    | some x => (match step x h with
      | .ok none h' => cloop s step d n (i + 1) h'
      | .ok (some y) h' => (match h'[d]? with
        | some (.lst acc) => if acc.length < sizeLine then cloop s step d n (i + 1) (h'.set d (.lst (acc ++ [y]))) else .bad
        | _ => .bad)
      | .exc c v h' => .exc c v h'
      | .bad => .bad)
def wloop (test : Slots → AH → Res Bool) (step : Slots → AH → SR) : Nat → Slots → AH → SR
  | 0, _, _ => .bad
  | n + 1, ρ, h => (test ρ h).stm fun t h' => if t = true then (match step ρ h' with
      | .nxt ρ' h' => wloop test step n ρ' h'
      | .cnt ρ' h' => wloop test step n ρ' h'
      | .brk ρ' h' => .nxt ρ' h'
      | r => r) else .nxt ρ h'
def fuel : Nat := 2 ^ 40
def rngOf (a c : Int) (n : Nat) : List Val := (List.range n).map fun (i : Nat) => .int (a + i * c)
def srcOf (h : AH) : Val → Option Src
  | .str x => some (.its (x.cps.toList.map fun c => .str ⟨#[c]⟩))
  | .tup xs => some (.its xs)
  | .ref n => (seqOf h (.ref n)).map fun xs => .live n xs.length
  | _ => none
def permL {α : Type} : List Nat → List α → Option (List α)
  | [], _ => some []
  | i :: r, vs => (vs[i]?).bind fun v => (permL r vs).map (v :: ·)
def okI (i : Int) : Prop := -(2 ^ 62) ≤ i ∧ i < 2 ^ 62
instance (i : Int) : Decidable (okI i) := inferInstanceAs (Decidable (_ ∧ _))
def E.isNope : E → Bool
  | .nope => true
  | _ => false
def intO (x : Val) (h : AH) : Res (Option Int) := match x with
  | .int i => .ok (some i) h
  | _ => .bad
section
variable (P : Prg) (φ : Nat → List Val → AH → Res Val)
def lift (r : VR) : Res Val := match r with
  | some p => .ok p.1 p.2
  | none => .bad
def liftO {α : Type} (h : AH) (r : Option α) : Res α := match r with
  | some v => .ok v h
  | none => .bad
/-- nothing is raised within a comprehension -/
def noX {α : Type} (r : Res α) : Res α := match r with
  | .ok v h => .ok v h
  | _ => .bad
/-- the step of a comprehension, of a for -/
def stepC (vs tg : List Nat) (fc fe : Slots → AH → Res Val) (ρ : Slots) : Val → AH → Res (Option Val) := fun x h => match asg h x tg (wipeS ρ vs) with
  | none => .bad
  | some ρ' => (gcT h ((fc ρ' h).bind fun t h1 => liftO h1 (truth h1 t))).bind fun t h1 => if t = true then (gcR h1 (fe ρ' h1)).bind fun y h2 => .ok (some y) h2 else .ok none h1
def stepF (tg : List Nat) (f : Slots → AH → SR) : Val → Slots → AH → SR := fun x ρ h => match asg h x tg ρ with
  | some ρ' => f ρ' h
  | none => .bad
mutual
def evE : E → Slots → AH → Res Val
  | .var i, ρ, h => (match ρ[i]? with
    | some (some v) => .ok v h
    | _ => .bad)
  | .cst v, _, h => .ok v h
  | .glo i, _, h => (match P.cs[i]? with
    | some c => .ok c.2 h
    | none => .bad)
  | .bin op a b, ρ, h => (evE a ρ h).bind fun x h1 => (evE b ρ h1).bind fun y h2 => lift (binV op h2 x y)
  | .neg a, ρ, h => (evE a ρ h).bind fun x h1 => (match x with
    | .int i => .ok (.int (-i)) h1
    | _ => .bad)
  | .not a, ρ, h => (evE a ρ h).bind fun x h1 => (match truth h1 x with
    | some b => .ok (.bl (!b)) h1
    | none => .bad)
  | .and a b, ρ, h => (evE a ρ h).bind fun x h1 => (match truth h1 x with
    | some true => evE b ρ h1
    | some false => .ok x h1
    | none => .bad)
  | .or a b, ρ, h => (evE a ρ h).bind fun x h1 => (match truth h1 x with
    | some true => .ok x h1
    | some false => evE b ρ h1
    | none => .bad)
  | .cmp op a b, ρ, h => (evE a ρ h).bind fun x h1 => (evE b ρ h1).bind fun y h2 => liftO h2 ((cmpV op h2 x y).map .bl)
  | .chain op op' a b c, ρ, h => (evE a ρ h).bind fun x h1 => (evE b ρ h1).bind fun y h2 => (match cmpV op h2 x y with
    | some true => (evE c ρ h2).bind fun z h3 => liftO h3 ((cmpV op' h3 y z).map .bl)
    | some false => .ok (.bl false) h2
    | none => .bad)
  | .ife c a b, ρ, h => (evE c ρ h).bind fun x h1 => (match truth h1 x with
    | some true => evE a ρ h1
    | some false => evE b ρ h1
    | none => .bad)
  | .call f as, ρ, h => (evEs as ρ h).bind fun vs h1 => (match P.fns[f]? with
    | some fd => if (vs ++ fd.dfl.drop (vs.length + fd.dfl.length - fd.np)).length = fd.np then φ f (vs ++ fd.dfl.drop (vs.length + fd.dfl.length - fd.np)) h1 else .bad
    | none => .bad)
  | .callk f as ks perm, ρ, h => (evEs as ρ h).bind fun us h1 => (evEs ks ρ h1).bind fun ws h2 => (match permL perm (us ++ ws) with
    | some vs => (match P.fns[f]? with
      | some fd => if vs.length = fd.np then φ f vs h2 else .bad
      | none => .bad)
    | none => .bad)
  | .bt b as, ρ, h => (evEs as ρ h).bind fun vs h1 => lift (btV b h1 vs)
  | .mt m o as, ρ, h => (evE o ρ h).bind fun x h1 => if tyOf h1 x = some m.ty then (evEs as ρ h1).bind fun vs h2 => lift (mtV m h2 x vs) else .bad
  | .isin a tys, ρ, h => (evE a ρ h).bind fun x h1 => (match tyOf h1 x with
    | some t => .ok (.bl (tys.any fun c => isTy t c.name)) h1
    | none => .bad)
  | .ix a b, ρ, h => (evE a ρ h).bind fun x h1 => (evE b ρ h1).bind fun y h2 => liftO h2 (ixV h2 x y)
  | .sl a lo hi, ρ, h => (evE a ρ h).bind fun x h1 => (if lo.isNope = true then .ok none h1 else (evE lo ρ h1).bind intO).bind fun l h2 => (if hi.isNope = true then .ok none h2 else (evE hi ρ h2).bind intO).bind fun u h3 => lift (slV h3 x l u)
  | .rev a, ρ, h => (evE a ρ h).bind fun x h1 => (match x with
    | .ref n => lift ((seqOf h1 (.ref n)).bind fun xs => newL h1 xs.reverse)
    | _ => .bad)
  | .nope, _, _ => .bad
  | .tup as, ρ, h => (evEs as ρ h).bind fun vs h1 => if vs.length ≤ sizeLine then .ok (.tup vs) h1 else .bad
  | .lst as, ρ, h => (evEs as ρ h).bind fun vs h1 => lift (newL h1 vs)
  | .comp own tg it c e, ρ, h => (evI it ρ h).bind fun s h1 => (noX (cloop s (stepC (own.map (·.2)) tg (fun ρ h => evE c ρ h) (fun ρ h => evE e ρ h) ρ) h1.length s.len 0 (h1 ++ [.lst []]))).bind fun _ h2 => .ok (.ref h1.length) h2
def evEs : Es → Slots → AH → Res (List Val)
  | .nil, _, h => .ok [] h
  | .cons e es, ρ, h => (evE e ρ h).bind fun v h1 => (evEs es ρ h1).bind fun vs h2 => .ok (v :: vs) h2
def evI : It → Slots → AH → Res Src
  | .seq e, ρ, h => (evE e ρ h).bind fun x h1 => liftO h1 (srcOf h1 x)
  | .rng1 a, ρ, h => (evE a ρ h).bind fun x h1 => (match x with
    | .int j => if okI j then .ok (.its (rngOf 0 1 j.toNat)) h1 else .bad
    | _ => .bad)
  | .rng2 a b, ρ, h => (evE a ρ h).bind fun x h1 => (evE b ρ h1).bind fun y h2 => (match x, y with
    | .int i, .int j => if okI i ∧ okI j then .ok (.its (rngOf i 1 (j - i).toNat)) h2 else .bad
    | _, _ => .bad)
  | .rng3 a b c, ρ, h => (evE a ρ h).bind fun x h1 => (evE b ρ h1).bind fun y h2 => (evE c ρ h2).bind fun z h3 => (match x, y, z with
    | .int i, .int j, .int k => if k ≠ 0 ∧ k.natAbs < 2 ^ 30 ∧ PySem.Builtin.Range.small i j k = true ∧ 0 ≤ PySem.Builtin.Range.rangeSize i j k then .ok (.its (rngOf i k (PySem.Builtin.Range.rangeSize i j k).toNat)) h3 else .bad
    | _, _, _ => .bad)
  | .enm e, ρ, h => (evE e ρ h).bind fun x h1 => liftO h1 ((srcOf h1 x).map .enm)
  | .zip a b, ρ, h => (evE a ρ h).bind fun x h1 => (evE b ρ h1).bind fun y h2 => (match x, y with
    | .tup xs, .tup ys => .ok (.zip (.its xs) (.its ys)) h2
    | .ref n, .ref m => liftO h2 ((srcOf h2 (.ref n)).bind fun s => (srcOf h2 (.ref m)).map fun t => .zip s t)
    | _, _ => .bad)
end
/-- x op= y -/
def augV (op : Operator) (x y : Val) : Option Val := match op, x, y with
  | .Add, .int a, .int b => some (.int (a + b))
  | .Sub, .int a, .int b => some (.int (a - b))
  | _, _, _ => none
def evT (e : E) (ρ : Slots) (h : AH) : Res Bool := gcT h ((evE P φ e ρ h).bind fun x h1 => liftO h1 (truth h1 x))
mutual
def exS : S → Slots → AH → SR
  | .expr e, ρ, h => (gcR h (evE P φ e ρ h)).stm fun _ h1 => .nxt ρ h1
  | .set i e, ρ, h => (gcR h (evE P φ e ρ h)).stm fun v h1 => .nxt (ρ.set i (some v)) h1
  | .setT is e, ρ, h => (gcR h (evE P φ e ρ h)).stm fun v h1 => (match asg h1 v is ρ with
    | some ρ' => .nxt ρ' h1
    | none => .bad)
  | .par is es, ρ, h => (evEs P φ es ρ h).stm fun vs h1 => if vs.length = is.length then .nxt (setAll ρ (is.zip vs)) h1 else .bad
  | .setIx o i e, ρ, h => ((evE P φ e ρ h).bind fun v h1 => (evE P φ o ρ h1).bind fun x h2 => (evE P φ i ρ h2).bind fun y h3 => (match setV h3 x y v with
        | some h4 => Res.ok () h4
        | none => .bad)).stm fun _ h1 => .nxt ρ h1
  | .aug i op e, ρ, h => (match ρ[i]? with
    | some (some x) => (gcR h ((evE P φ e ρ h).bind fun y h1 => liftO h1 (augV op x y))).stm fun v h1 => .nxt (ρ.set i (some v)) h1
    | _ => .bad)
  | .cond c a b, ρ, h => (evT P φ c ρ h).stm fun t h1 => if t = true then exSs a ρ h1 else exSs b ρ h1
  | .for_ tg it b, ρ, h => (evI P φ it ρ h).stm fun s h1 => loop s (stepF tg (fun ρ h => exSs b ρ h)) s.len 0 ρ h1
  | .while_ c b, ρ, h => wloop (fun ρ h => evT P φ c ρ h) (fun ρ h => exSs b ρ h) fuel ρ h
  | .ret e, ρ, h => (evE P φ e ρ h).stm fun v h1 => .ret v h1
  | .retN, _, h => .ret .non h
  | .raise_ c e, ρ, h => (evE P φ e ρ h).stm fun v h1 => .exc c v h1
  | .brk, ρ, h => .brk ρ h
  | .cnt, ρ, h => .cnt ρ h
  | .pass, ρ, h => .nxt ρ h
def exSs : Ss → Slots → AH → SR
  | .nil, ρ, h => .nxt ρ h
  | .cons s r, ρ, h => (match exS s ρ h with
    | .nxt ρ' h' => exSs r ρ' h'
    | q => q)
end
end
/-- a body's end, as the def's -/
def bodyR (r : SR) : Res Val := match r with
  | .ret v h1 => .ok v h1
  | .nxt _ h1 => .ok .non h1
  | .exc c v h1 => .exc c v h1
  | .brk _ _ => .bad
  | .cnt _ _ => .bad
  | .bad => .bad
/-- a def called with all its arguments, so many calls deep -/
def runF (P : Prg) : Nat → Nat → List Val → AH → Res Val
  | 0, _, _, _ => .bad
  | k + 1, f, args, h => match P.fns[f]? with
    | none => .bad
    | some fd => if args.length = fd.np then gcR h (bodyR (exSs P (runF P k) fd.body (args.map some ++ List.replicate (fd.N.length - args.length) none) h)) else .bad
end MP
set_option Elab.async false
set_option linter.all false
set_option maxRecDepth 100000
set_option maxHeartbeats 1000000
namespace MP
open PySem PySem.Spec PyProof.Rows L2

/-! ## how values lie in the model's heap -/
/-- what stays the same through a law: the written part, the tables of code objects, where the error classes stand -/
structure Cc where
  K : PySem.W.Frag
  T : List (Addr × Str)
  CA : Nat → Addr

mutual
inductive Rep (K : PySem.W.Frag) (M : Nat → Addr) (n : Nat) (H : Hp) : Val → V → Prop
  | non : Rep K M n H .non .non
  | bl (b : Bool) : Rep K M n H (.bl b) (.bl b)
  | int (i : Int) : Rep K M n H (.int i) (.int i)
  | str (x : Str) : Rep K M n H (.str x) (.str x)
  | tup {a : Addr} {xs : List Val} {vs : List V} : SqT K H a vs → Reps K M n H xs vs → Rep K M n H (.tup xs) (.ref a)
  | ref {i : Nat} : i < n → Rep K M n H (.ref i) (.ref (M i))
inductive Reps (K : PySem.W.Frag) (M : Nat → Addr) (n : Nat) (H : Hp) : List Val → List V → Prop
  | nil : Reps K M n H [] []
  | cons {x : Val} {v : V} {xs : List Val} {vs : List V} : Rep K M n H x v → Reps K M n H xs vs → Reps K M n H (x :: xs) (v :: vs)
end
/-- a list of the module -/
def KL (K : PySem.W.Frag) (a : Addr) (xs : List V) : Prop := ∃ (o : Obj) (its : Array Value) (n : Nat), K.lookup a = some o ∧ o.cls = .type "list" ∧ o.dict = none ∧ o.data = .seq its n ∧ its.size ≤ sizeLine ∧ Vals xs its.toList
def AObj.isRo : AObj → Bool
  | .ro _ => true
  | _ => false
def DRep {κ : Type} (K : PySem.W.Frag) (M : Nat → Addr) (n : Nat) (H : Hp) (kvs : List (κ × Val)) (ws : List (κ × V)) : Prop := kvs.map (·.1) = ws.map (·.1) ∧ Reps K M n H (kvs.map (·.2)) (ws.map (·.2))
def ObjRep (K : PySem.W.Frag) (M : Nat → Addr) (n : Nat) (H : Hp) (a : Addr) : AObj → Prop
  | .lst xs => ∃ vs, H a = some (.lst vs) ∧ Reps K M n H xs vs
  | .ro xs => ∃ vs, ((∃ o, H a = some (.frz o (.lst vs))) ∨ KL K a vs) ∧ Reps K M n H xs vs
  | .dK kvs => ∃ ws, H a = some (.dK ws) ∧ DRep K M n H kvs ws
  | .dT kvs => ∃ ws, H a = some (.dT ws) ∧ DRep K M n H kvs ws
structure Sim (C : Cc) (M : Nat → Addr) (h : AH) (H : Hp) : Prop where
  obj : ∀ i o, h[i]? = some o → ObjRep C.K M h.length H (M i) o
  inj : ∀ i j oi oj, h[i]? = some oi → h[j]? = some oj → oi.isRo = false → oj.isRo = false → M i = M j → i = j
  tab : LamX.Tabs C.T H
/-- later: more objects, the old ones under their names, tuples as they were -/
structure Le (C : Cc) (M : Nat → Addr) (n : Nat) (H : Hp) (M' : Nat → Addr) (n' : Nat) (H' : Hp) : Prop where
  le : n ≤ n'
  map : ∀ i, i < n → M' i = M i
  tup : ∀ a xs, SqT C.K H a xs → SqT C.K H' a xs
theorem Le.refl {C : Cc} {M : Nat → Addr} {n : Nat} {H : Hp} : Le C M n H M n H := ⟨Nat.le_refl _, fun _ _ => rfl, fun _ _ h => h⟩
theorem Le.trans {C : Cc} {M M1 M2 : Nat → Addr} {n n1 n2 : Nat} {H H1 H2 : Hp} (a : Le C M n H M1 n1 H1) (b : Le C M1 n1 H1 M2 n2 H2) : Le C M n H M2 n2 H2 :=
  ⟨Nat.le_trans a.le b.le, fun i hi => (b.map i (Nat.lt_of_lt_of_le hi a.le)).trans (a.map i hi), fun x xs h => b.tup x xs (a.tup x xs h)⟩
section
variable {K : PySem.W.Frag} {M M' : Nat → Addr} {n n' : Nat} {H H' : Hp}
mutual
theorem Rep.go (hn : n ≤ n') (hM : ∀ i, i < n → M' i = M i) (hT : ∀ a xs, SqT K H a xs → SqT K H' a xs) : ∀ {x : Val} {v : V}, Rep K M n H x v → Rep K M' n' H' x v
  | _, _, .non => .non
  | _, _, .bl b => .bl b
  | _, _, .int i => .int i
  | _, _, .str x => .str x
  | _, _, .tup h r => .tup (hT _ _ h) (Reps.go hn hM hT r)
  | _, _, .ref (i := i) h => by
    rw [← hM i h]
    exact .ref (Nat.lt_of_lt_of_le h hn)
theorem Reps.go (hn : n ≤ n') (hM : ∀ i, i < n → M' i = M i) (hT : ∀ a xs, SqT K H a xs → SqT K H' a xs) : ∀ {xs : List Val} {vs : List V}, Reps K M n H xs vs → Reps K M' n' H' xs vs
  | _, _, .nil => .nil
  | _, _, .cons h r => .cons (Rep.go hn hM hT h) (Reps.go hn hM hT r)
end
theorem Reps.length : ∀ {xs : List Val} {vs : List V}, Reps K M n H xs vs → xs.length = vs.length
  | _, _, .nil => rfl
  | _, _, .cons _ r => by simp [Reps.length r]
theorem Reps.get : ∀ {xs : List Val} {vs : List V} {i : Nat} {x : Val}, Reps K M n H xs vs → xs[i]? = some x → ∃ v, vs[i]? = some v ∧ Rep K M n H x v
  | _, _, _, _, .nil, h => by simp at h
  | _, _, 0, _, .cons r _, h => by
    simp at h
    subst h
    exact ⟨_, rfl, r⟩
  | _, _, i + 1, x, .cons _ r, h => by
    obtain ⟨v, h1, h2⟩ := Reps.get (i := i) (x := x) r (by simpa using h)
    exact ⟨v, by simpa using h1, h2⟩
theorem Reps.append : ∀ {xs ys : List Val} {vs ws : List V}, Reps K M n H xs vs → Reps K M n H ys ws → Reps K M n H (xs ++ ys) (vs ++ ws)
  | _, _, _, _, .nil, s => s
  | _, _, _, _, .cons r t, s => .cons r (Reps.append t s)
theorem Reps.take (k : Nat) : ∀ {xs : List Val} {vs : List V}, Reps K M n H xs vs → Reps K M n H (xs.take k) (vs.take k) := by
  induction k with
  | zero => intro xs vs _; simp; exact .nil
  | succ k ih =>
    intro xs vs r
    cases r with
    | nil => exact .nil
    | cons h t => exact .cons h (ih t)
theorem Reps.drop (k : Nat) : ∀ {xs : List Val} {vs : List V}, Reps K M n H xs vs → Reps K M n H (xs.drop k) (vs.drop k) := by
  induction k with
  | zero => intro xs vs r; simpa using r
  | succ k ih =>
    intro xs vs r
    cases r with
    | nil => exact .nil
    | cons h t => exact ih t
theorem Reps.set {x : Val} {v : V} (r : Rep K M n H x v) : ∀ (j : Nat) {xs : List Val} {vs : List V}, Reps K M n H xs vs → Reps K M n H (xs.set j x) (vs.set j v) := by
  intro j
  induction j with
  | zero =>
    intro xs vs q
    cases q with
    | nil => exact .nil
    | cons h t => exact .cons r t
  | succ j ih =>
    intro xs vs q
    cases q with
    | nil => exact .nil
    | cons h t => exact .cons h (ih t)
theorem Reps.reverse : ∀ {xs : List Val} {vs : List V}, Reps K M n H xs vs → Reps K M n H xs.reverse vs.reverse
  | _, _, .nil => .nil
  | _, _, .cons h t => by
    rw [List.reverse_cons, List.reverse_cons]
    exact (Reps.reverse t).append (.cons h .nil)
theorem Reps.dropLast {xs : List Val} {vs : List V} (r : Reps K M n H xs vs) : Reps K M n H xs.dropLast vs.dropLast := by
  rw [List.dropLast_eq_take, List.dropLast_eq_take, ← r.length]
  exact r.take _
theorem Reps.eraseIdx (k : Nat) : ∀ {xs : List Val} {vs : List V}, Reps K M n H xs vs → Reps K M n H (xs.eraseIdx k) (vs.eraseIdx k) := by
  induction k with
  | zero =>
    intro xs vs r
    cases r with
    | nil => exact .nil
    | cons h t => exact t
  | succ k ih =>
    intro xs vs r
    cases r with
    | nil => exact .nil
    | cons h t => exact .cons h (ih t)
theorem Reps.rep {xs : List Val} {vs : List V} (r : Reps K M n H xs vs) : ∀ k : Nat, Reps K M n H (List.replicate k xs).flatten (List.replicate k vs).flatten
  | 0 => .nil
  | k + 1 => by
    rw [List.replicate_succ, List.replicate_succ, List.flatten_cons, List.flatten_cons]
    exact r.append (Reps.rep r k)
/-- refs below k alone: any naming that agrees there does -/
theorem Val.fit_le {k m : Nat} (h : k ≤ m) : ∀ v : Val, v.fit k = true → v.fit m = true := by
  intro v
  induction v using Val.rec (motive_2 := fun xs => Val.fits k xs = true → Val.fits m xs = true) with
  | ref i =>
    intro q
    simp only [Val.fit, decide_eq_true_eq] at q ⊢
    omega
  | tup xs ih => intro q; simp only [Val.fit] at q ⊢; exact ih q
  | nil => rfl
  | cons x xs ih1 ih2 =>
    rename_i q
    simp only [Val.fits, Bool.and_eq_true] at q ⊢
    exact ⟨ih1 q.1, ih2 q.2⟩
  | _ => intro _; rfl
mutual
theorem Rep.fit {k : Nat} (hM : ∀ i, i < k → M' i = M i) (hk : k ≤ n') : ∀ {x : Val} {v : V}, Rep K M n H x v → x.fit k = true → Rep K M' n' H x v
  | _, _, .non, _ => .non
  | _, _, .bl b, _ => .bl b
  | _, _, .int i, _ => .int i
  | _, _, .str x, _ => .str x
  | _, _, .tup h r, q => .tup h (Reps.fit hM hk r (by simpa [Val.fit] using q))
  | _, _, .ref (i := i) h, q => by
    have hi : i < k := by simpa [Val.fit] using q
    rw [← hM i hi]
    exact .ref (Nat.lt_of_lt_of_le hi hk)
theorem Reps.fit {k : Nat} (hM : ∀ i, i < k → M' i = M i) (hk : k ≤ n') : ∀ {xs : List Val} {vs : List V}, Reps K M n H xs vs → Val.fits k xs = true → Reps K M' n' H xs vs
  | _, _, .nil, _ => .nil
  | _, _, .cons h r, q => by
    simp only [Val.fits, Bool.and_eq_true] at q
    exact .cons (Rep.fit hM hk h q.1) (Reps.fit hM hk r q.2)
end
mutual
theorem Rep.fits_n : ∀ {x : Val} {v : V}, Rep K M n H x v → x.fit n = true
  | _, _, .non => rfl
  | _, _, .bl b => rfl
  | _, _, .int i => rfl
  | _, _, .str x => rfl
  | _, _, .tup h r => by simp only [Val.fit]; exact Reps.fits_n r
  | _, _, .ref h => by simp [Val.fit, h]
theorem Reps.fits_n : ∀ {xs : List Val} {vs : List V}, Reps K M n H xs vs → Val.fits n xs = true
  | _, _, .nil => rfl
  | _, _, .cons h r => by simp only [Val.fits, Rep.fits_n h, Reps.fits_n r, Bool.and_self]
end
theorem ObjRep.go {a : Addr} (hn : n ≤ n') (hM : ∀ i, i < n → M' i = M i) : ∀ {o : AObj}, ObjRep K M n H a o → ObjRep K M' n' H a o
  | .lst _, ⟨vs, h, r⟩ => ⟨vs, h, r.go hn hM fun _ _ h => h⟩
  | .ro _, ⟨vs, h, r⟩ => ⟨vs, h, r.go hn hM fun _ _ h => h⟩
  | .dK _, ⟨vs, h, e, r⟩ => ⟨vs, h, e, r.go hn hM fun _ _ h => h⟩
  | .dT _, ⟨vs, h, e, r⟩ => ⟨vs, h, e, r.go hn hM fun _ _ h => h⟩
theorem ObjRep.fit {a : Addr} {k : Nat} (hM : ∀ i, i < k → M' i = M i) (hk : k ≤ n') : ∀ {o : AObj}, ObjRep K M n H a o → o.fit k = true → ObjRep K M' n' H a o
  | .lst _, ⟨vs, h, r⟩, q => ⟨vs, h, r.fit hM hk q⟩
  | .ro _, ⟨vs, h, r⟩, q => ⟨vs, h, r.fit hM hk q⟩
  | .dK _, ⟨vs, h, e, r⟩, q => ⟨vs, h, e, r.fit hM hk q⟩
  | .dT _, ⟨vs, h, e, r⟩, q => ⟨vs, h, e, r.fit hM hk q⟩
theorem ObjRep.fits_n {a : Addr} : ∀ {o : AObj}, ObjRep K M n H a o → o.fit n = true
  | .lst _, ⟨_, _, r⟩ => r.fits_n
  | .ro _, ⟨_, _, r⟩ => r.fits_n
  | .dK _, ⟨_, _, _, r⟩ => r.fits_n
  | .dT _, ⟨_, _, _, r⟩ => r.fits_n
end
/-! ### the heap grows, changes -/
/-- a tracked object that may not change its place's kind: a written part is no new one -/
theorem sqT_upd {K : PySem.W.Frag} {H : Hp} {p : Addr} {o : HO} (hp : ∀ xs, ¬ Rd H p (.tup xs)) {a : Addr} {xs : List V} (h : SqT K H a xs) : SqT K (upd H p o) a xs := by
  rcases h with h | h
  · have ne : a ≠ p := fun e => hp xs (e ▸ h)
    rcases h with h | ⟨ob, h⟩
    · exact .inl (.inl (by rw [upd_ne ne]; exact h))
    · exact .inl (.inr ⟨ob, by rw [upd_ne ne]; exact h⟩)
  · exact .inr h
theorem sqL_upd {K : PySem.W.Frag} {H : Hp} {p : Addr} {o : HO} {a : Addr} {xs : List V} (hp : ∀ xs, ¬ Rd H p (.lst xs) ∨ a ≠ p) (h : SqL K H a xs) : SqL K (upd H p o) a xs := by
  rcases h with h | h
  · have ne : a ≠ p := (hp xs).elim (fun z e => z (e ▸ h)) id
    rcases h with h | ⟨ob, h⟩
    · exact .inl (.inl (by rw [upd_ne ne]; exact h))
    · exact .inl (.inr ⟨ob, by rw [upd_ne ne]; exact h⟩)
  · exact .inr h
theorem noRd {H : Hp} {p : Addr} {u : HO} (h : H p = none) : ¬ Rd H p u := by
  rintro (e | ⟨o, e⟩) <;> rw [h] at e <;> cases e
theorem tabs_new {T : List (Addr × Str)} {H : Hp} {p : Addr} {o : HO} (t : LamX.Tabs T H) (h : H p = none) : LamX.Tabs T (upd H p o) :=
  t.ext fun b ob e => by rw [upd_ne (ne_of_none e h)]; exact e
/-- an object's place is written that is no table, no code object -/
theorem tabs_write {T : List (Addr × Str)} {H : Hp} {p : Addr} {o u : HO} (t : LamX.Tabs T H) (h : H p = some u) (h1 : ∀ ps, u ≠ .tbl ps) (h2 : ∀ φ, u ≠ .ext φ) : LamX.Tabs T (upd H p o) := by
  intro q hq
  obtain ⟨ps, e1, e2, e3⟩ := t q hq
  refine ⟨ps, ?_, e2, fun pos cv hc => ?_⟩
  · rw [upd_ne fun z => h1 ps (by rw [z, h] at e1; exact Option.some.inj e1)]
    exact e1
  · obtain ⟨c, ec, eh⟩ := e3 pos cv hc
    refine ⟨c, ec, ?_⟩
    rw [upd_ne fun z => h2 _ (by rw [z, h] at eh; exact Option.some.inj eh)]
    exact eh
section
variable {C : Cc} {M : Nat → Addr} {h : AH} {H : Hp}
/-- a new tuple, a new anything: nothing of the abstract heap hangs on it -/
theorem Le.new {p : Addr} {o : HO} {n : Nat} (hp : H p = none) : Le C M n H M n (upd H p o) := ⟨Nat.le_refl _, fun _ _ => rfl, fun _ _ q => sqT_upd (fun _ => noRd hp) q⟩
theorem ObjRep.at {a : Addr} {n : Nat} : ∀ {o : AObj}, ObjRep C.K M n H a o → ∀ {H' : Hp}, (∀ b xs, SqT C.K H b xs → SqT C.K H' b xs) → (∀ u, H a = some u → H' a = some u) → ObjRep C.K M n H' a o
  | .lst _, ⟨vs, e, r⟩, _, hT, hk => ⟨vs, hk _ e, r.go (Nat.le_refl _) (fun _ _ => rfl) hT⟩
  | .ro _, ⟨vs, e, r⟩, _, hT, hk => ⟨vs, e.imp_left fun ⟨o, e⟩ => ⟨o, hk _ e⟩, r.go (Nat.le_refl _) (fun _ _ => rfl) hT⟩
  | .dK _, ⟨vs, e, e1, r⟩, _, hT, hk => ⟨vs, hk _ e, e1, r.go (Nat.le_refl _) (fun _ _ => rfl) hT⟩
  | .dT _, ⟨vs, e, e1, r⟩, _, hT, hk => ⟨vs, hk _ e, e1, r.go (Nat.le_refl _) (fun _ _ => rfl) hT⟩
theorem Sim.new {p : Addr} {o : HO} (S : Sim C M h H) (hp : H p = none) : Sim C M h (upd H p o) :=
  ⟨fun i ob e => (S.obj i ob e).at (fun _ _ q => sqT_upd (fun _ => noRd hp) q) fun u q => by rw [upd_ne (ne_of_none q hp)]; exact q, S.inj, tabs_new S.tab hp⟩
/-- the naming, one more -/
def more (M : Nat → Addr) (n : Nat) (p : Addr) : Nat → Addr := fun i => if i = n then p else M i
theorem more_old {n i : Nat} {p : Addr} (hi : i < n) : more M n p i = M i := if_neg (Nat.ne_of_lt hi)
theorem more_new {n : Nat} {p : Addr} : more M n p n = p := if_pos rfl
/-- what stands under a name is there -/
theorem ObjRep.there {K : PySem.W.Frag} {n : Nat} {a : Addr} {o : AObj} (q : ObjRep K M n H a o) (hn : o.isRo = false) : ∃ u, H a = some u ∧ (∀ ps, u ≠ .tbl ps) ∧ (∀ φ, u ≠ .ext φ) ∧ (∀ xs, u ≠ .tup xs) ∧ ∀ o u', u ≠ .frz o u' := by
  cases o with
  | lst _ => obtain ⟨_, e, _⟩ := q; exact ⟨_, e, fun _ => nofun, fun _ => nofun, fun _ => nofun, fun _ _ => nofun⟩
  | ro _ => exact nomatch (show true = false from hn)
  | dK _ => obtain ⟨_, e, _⟩ := q; exact ⟨_, e, fun _ => nofun, fun _ => nofun, fun _ => nofun, fun _ _ => nofun⟩
  | dT _ => obtain ⟨_, e, _⟩ := q; exact ⟨_, e, fun _ => nofun, fun _ => nofun, fun _ => nofun, fun _ _ => nofun⟩
theorem Sim.there (S : Sim C M h H) {i : Nat} {o : AObj} (e : h[i]? = some o) (hn : o.isRo = false) : ∃ u, H (M i) = some u := by
  obtain ⟨u, e, _⟩ := (S.obj i o e).there hn
  exact ⟨u, e⟩
/-- a new object that is kept under the next name -/
theorem Sim.grow {p : Addr} {o : HO} {ob : AObj} (S : Sim C M h H) (hp : H p = none) (hr : ObjRep C.K (more M h.length p) (h.length + 1) (upd H p o) p ob) : Sim C (more M h.length p) (h ++ [ob]) (upd H p o) := by
  have lt : ∀ i oi, h[i]? = some oi → oi.isRo = false → M i ≠ p := fun i oi hi hn e => by
    obtain ⟨u, q⟩ := S.there hi hn
    rw [e, hp] at q
    cases q
  have at_ : ∀ i oi, (h ++ [ob])[i]? = some oi → (i < h.length ∧ h[i]? = some oi) ∨ (i = h.length ∧ oi = ob) := fun i oi e => by
    by_cases hi : i < h.length
    · rw [List.getElem?_append_left hi] at e
      exact .inl ⟨hi, e⟩
    · rw [List.getElem?_append_right (Nat.le_of_not_lt hi)] at e
      have hi' : i = h.length := by
        by_cases z : i - h.length = 0
        · omega
        · obtain ⟨k, hk⟩ : ∃ k, i - h.length = k + 1 := ⟨i - h.length - 1, by omega⟩
          rw [hk] at e
          simp at e
      subst hi'
      simp at e
      exact .inr ⟨rfl, e.symm⟩
  refine ⟨fun i ob' e => ?_, fun i j oi oj hi hj ni nj e => ?_, tabs_new S.tab hp⟩
  · rcases at_ i ob' e with ⟨hi, e⟩ | ⟨rfl, rfl⟩
    · rw [more_old hi, List.length_append]
      exact ((S.obj i ob' e).at (fun _ _ q => sqT_upd (fun _ => noRd hp) q) fun u q => by rw [upd_ne (ne_of_none q hp)]; exact q).go (Nat.le_add_right _ _) fun j hj => more_old hj
    · rw [more_new, List.length_append]
      exact hr
  · rcases at_ i oi hi with ⟨h1, e1⟩ | ⟨rfl, rfl⟩ <;> rcases at_ j oj hj with ⟨h2, e2⟩ | ⟨rfl, rfl⟩
    · rw [more_old h1, more_old h2] at e
      exact S.inj i j oi oj e1 e2 ni nj e
    · rw [more_old h1, more_new] at e
      exact absurd e (lt i oi e1 ni)
    · rw [more_old h2, more_new] at e
      exact absurd e.symm (lt j oj e2 nj)
    · rfl
theorem Le.grow {p : Addr} {o : HO} {n : Nat} (hp : H p = none) : Le C M n H (more M n p) (n + 1) (upd H p o) :=
  ⟨Nat.le_succ _, fun _ hi => more_old hi, fun _ _ q => sqT_upd (fun _ => noRd hp) q⟩
/-- an object is written anew -/
theorem Sim.tups {i : Nat} {o : HO} {ob : AObj} (S : Sim C M h H) (e : h[i]? = some ob) (hn : ob.isRo = false) : ∀ b xs, SqT C.K H b xs → SqT C.K (upd H (M i) o) b xs := fun b xs q => by
  obtain ⟨u, hu, n1, n2, n3, n4⟩ := (S.obj i ob e).there hn
  rcases q with q | q
  · have ne : b ≠ M i := by
      rintro rfl
      rcases q with q | ⟨ob2, q⟩
      · rw [hu] at q
        exact n3 _ (Option.some.inj q)
      · rw [hu] at q
        exact n4 _ _ (Option.some.inj q)
    rcases q with q | ⟨ob2, q⟩
    · exact .inl (.inl (by rw [upd_ne ne]; exact q))
    · exact .inl (.inr ⟨ob2, by rw [upd_ne ne]; exact q⟩)
  · exact .inr q
theorem Sim.write {i : Nat} {o : HO} {ob ob' : AObj} (S : Sim C M h H) (e : h[i]? = some ob) (hr : ObjRep C.K M h.length (upd H (M i) o) (M i) ob') (hn : ob.isRo = false := by rfl) : Sim C M (h.set i ob') (upd H (M i) o) := by
  obtain ⟨u, hu, n1, n2, n3, n4⟩ := (S.obj i ob e).there hn
  have hi : i < h.length := (List.getElem?_eq_some_iff.mp e).1
  have kT := S.tups (o := o) e hn
  have other : ∀ j ob2, h[j]? = some ob2 → j ≠ i → ob2.isRo = false → M j ≠ M i := fun j ob2 q hj n2 z => hj (S.inj j i ob2 ob q e n2 hn z)
  refine ⟨fun j ob2 q => ?_, fun a b oa ob2 ha hb na nb z => ?_, tabs_write S.tab hu n1 n2⟩
  · rw [List.length_set]
    by_cases hj : j = i
    · subst hj
      rw [List.getElem?_set_self hi] at q
      cases q
      exact hr
    · rw [List.getElem?_set_ne (Ne.symm hj)] at q
      have q' := S.obj j ob2 q
      cases ob2 with
      | ro xs =>
        obtain ⟨vs, hv, r⟩ := q'
        refine ⟨vs, hv.imp_left fun ⟨o2, h2⟩ => ⟨o2, ?_⟩, r.go (Nat.le_refl _) (fun _ _ => rfl) kT⟩
        rw [upd_ne fun z => by
          rw [z, hu] at h2
          exact n4 _ _ (Option.some.inj h2)]
        exact h2
      | _ => exact q'.at kT fun u q3 => by rw [upd_ne (other j _ q hj rfl)]; exact q3
  · by_cases h1 : a = i
    · by_cases h2 : b = i
      · rw [h1, h2]
      · rw [List.getElem?_set_ne (Ne.symm h2)] at hb
        rw [h1] at z
        exact absurd z.symm (other b ob2 hb h2 nb)
    · rw [List.getElem?_set_ne (Ne.symm h1)] at ha
      by_cases h2 : b = i
      · rw [h2] at z
        exact absurd z (other a oa ha h1 na)
      · rw [List.getElem?_set_ne (Ne.symm h2)] at hb
        exact S.inj a b oa ob2 ha hb na nb z
theorem Le.write {i : Nat} {o : HO} {ob ob' : AObj} (S : Sim C M h H) (e : h[i]? = some ob) (hn : ob.isRo = false := by rfl) : Le C M h.length H M (h.set i ob').length (upd H (M i) o) :=
  ⟨by rw [List.length_set]; exact Nat.le_refl _, fun _ _ => rfl, S.tups e hn⟩
/-! ### what nothing leads to is dropped -/
theorem keptB_fit {n : Nat} : ∀ {h0 h1 : AH} {i : Nat} {o o' : AObj}, keptB n h0 h1 = true → h0[i]? = some o → h1[i]? = some o' → o' = o ∨ o'.fit n = true
  | [], _, _, _, _, _, q, _ => by simp at q
  | _ :: _, [], _, _, _, h, _, _ => by simp [keptB] at h
  | a :: h0, b :: h1, 0, o, o', h, q, q' => by
    simp at q q'
    subst q q'
    simp only [keptB, Bool.and_eq_true, Bool.or_eq_true, decide_eq_true_eq] at h
    exact h.1
  | a :: h0, b :: h1, i + 1, o, o', h, q, q' => by
    simp only [keptB, Bool.and_eq_true] at h
    exact keptB_fit (i := i) h.2 (by simpa using q) (by simpa using q')
theorem keptB_len {n : Nat} : ∀ {h0 h1 : AH}, keptB n h0 h1 = true → h0.length ≤ h1.length
  | [], _, _ => Nat.zero_le _
  | _ :: _, [], h => by simp [keptB] at h
  | a :: h0, b :: h1, h => by
    simp only [keptB, Bool.and_eq_true] at h
    simpa using keptB_len h.2
/-- the part ahead of n stands by itself -/
theorem Sim.cut {h0 : AH} {M0 : Nat → Addr} {H0 : Hp} (S0 : Sim C M0 h0 H0) (S : Sim C M h H) (kb : keptB h0.length h0 h = true) :
    ∀ (i : Nat) (o : AObj), (h.take h0.length)[i]? = some o → o.fit h0.length = true := fun i o e => by
  rw [List.getElem?_take] at e
  split at e
  · rename_i hi
    rcases keptB_fit kb (i := i) (o := h0[i]) (by simp [hi]) e with q | q
    · rw [q]
      exact (S0.obj i h0[i] (by simp [hi])).fits_n
    · exact q
  · cases e
theorem takeE {α : Type} {l : List α} {n i : Nat} {a : α} (e : (l.take n)[i]? = some a) : l[i]? = some a := by
  rw [List.getElem?_take] at e
  split at e
  · exact e
  · cases e
theorem gc_ok {h0 : AH} {M0 : Nat → Addr} {H0 : Hp} {v : Val} {x : V} (S0 : Sim C M0 h0 H0) (L : Le C M0 h0.length H0 M h.length H) (S : Sim C M h H) (r : Rep C.K M h.length H v x) :
    ∃ M', Le C M0 h0.length H0 M' (gc h0 v h).2.length H ∧ Sim C M' (gc h0 v h).2 H ∧ Rep C.K M' (gc h0 v h).2.length H (gc h0 v h).1 x := by
  unfold gc
  by_cases kb : keptB h0.length h0 h = true
  · rw [if_pos kb]
    have hl := keptB_len kb
    have cut := S0.cut S kb
    have hlen : (h.take h0.length).length = h0.length := by rw [List.length_take]; omega
    by_cases hv : v.fit h0.length = true
    · rw [if_pos hv]
      refine ⟨M, ⟨by rw [hlen]; exact Nat.le_refl _, L.map, L.tup⟩, ⟨fun i o e => ?_, fun i j oi oj hi hj => S.inj i j oi oj (takeE hi) (takeE hj), S.tab⟩, ?_⟩
      · have e' := e
        rw [List.getElem?_take] at e'
        split at e'
        · exact (S.obj i o e').fit (fun _ _ => rfl) (by rw [hlen]; exact Nat.le_refl _) (cut i o e)
        · cases e'
      · exact r.fit (fun _ _ => rfl) (by rw [hlen]; exact Nat.le_refl _) hv
    · rw [if_neg hv]
      cases v with
      | ref m =>
        simp only
        cases e : h[m]? with
        | none => exact ⟨M, L, S, r⟩
        | some o =>
          simp only
          by_cases ho : o.fit h0.length = true
          · rw [if_pos ho]
            have hm : m < h.length := (List.getElem?_eq_some_iff.mp e).1
            have hm2 : h0.length ≤ m := by
              simp only [Val.fit, decide_eq_true_eq] at hv
              omega
            have hlen2 : (h.take h0.length ++ [o]).length = h0.length + 1 := by rw [List.length_append, hlen]; rfl
            refine ⟨more M h0.length (M m), ⟨by rw [hlen2]; exact Nat.le_succ _, fun i hi => (more_old hi).trans (L.map i hi), L.tup⟩, ⟨fun i ob q => ?_, fun i j oi oj hi hj ni nj q => ?_, S.tab⟩, ?_⟩
            · rw [hlen2]
              by_cases hi : i < h0.length
              · rw [List.getElem?_append_left (by rw [hlen]; exact hi)] at q
                rw [more_old hi]
                have q' := q
                rw [List.getElem?_take, if_pos hi] at q'
                exact (S.obj i ob q').fit (fun j hj => more_old hj) (Nat.le_succ _) (cut i ob q)
              · rw [List.getElem?_append_right (by rw [hlen]; omega), hlen] at q
                have hi' : i = h0.length := by
                  by_cases z : i - h0.length = 0
                  · omega
                  · obtain ⟨k, hk⟩ : ∃ k, i - h0.length = k + 1 := ⟨i - h0.length - 1, by omega⟩
                    rw [hk] at q
                    simp at q
                subst hi'
                simp at q
                subst q
                rw [more_new]
                exact (S.obj m o e).fit (fun j hj => more_old hj) (Nat.le_succ _) ho
            · have at_ : ∀ i oi, (h.take h0.length ++ [o])[i]? = some oi → (i < h0.length ∧ h[i]? = some oi) ∨ (i = h0.length ∧ oi = o) := fun i oi q => by
                by_cases hi : i < h0.length
                · rw [List.getElem?_append_left (by rw [hlen]; exact hi), List.getElem?_take, if_pos hi] at q
                  exact .inl ⟨hi, q⟩
                · rw [List.getElem?_append_right (by rw [hlen]; omega), hlen] at q
                  have hi' : i = h0.length := by
                    by_cases z : i - h0.length = 0
                    · omega
                    · obtain ⟨k, hk⟩ : ∃ k, i - h0.length = k + 1 := ⟨i - h0.length - 1, by omega⟩
                      rw [hk] at q
                      simp at q
                  subst hi'
                  simp at q
                  exact .inr ⟨rfl, q.symm⟩
              rcases at_ i oi hi with ⟨h1, e1⟩ | ⟨rfl, rfl⟩ <;> rcases at_ j oj hj with ⟨h2, e2⟩ | ⟨rfl, rfl⟩
              · rw [more_old h1, more_old h2] at q
                exact S.inj i j oi oj e1 e2 ni nj q
              · rw [more_old h1, more_new] at q
                have := S.inj i m oi oj e1 e ni nj q
                omega
              · rw [more_old h2, more_new] at q
                have := S.inj m j oi oj e e2 ni nj q
                omega
              · rfl
            · have z : x = V.ref (M m) := by cases r; rfl
              subst z
              have z : Rep C.K (more M h0.length (M m)) (h.take h0.length ++ [o]).length H (.ref h0.length) (.ref (more M h0.length (M m) h0.length)) := .ref (by rw [hlen2]; exact Nat.lt_succ_self _)
              rw [more_new] at z
              exact z
          · rw [if_neg ho]
            exact ⟨M, L, S, r⟩
      | _ => exact ⟨M, L, S, r⟩
  · rw [if_neg kb]
    exact ⟨M, L, S, r⟩
end
end MP
set_option Elab.async false
set_option linter.all false
set_option maxRecDepth 100000
set_option maxHeartbeats 1000000
namespace MP
open PySem PySem.Spec PyProof.Rows L2

/-! ## readings by the evaluator -/
/-- an outcome of the evaluator, and what is wanted of the model there -/
def Cov {α β : Type} (rel : (Nat → Addr) → Nat → Hp → α → β → Prop) (C : Cc) (E : XK) (M : Nat → Addr) (h : AH) (H : Hp) (r : Res α) (Q : β → Hp → Prop) : Prop := match r with
  | .ok v h' => ∀ M' x H', Le C M h.length H M' h'.length H' → Sim C M' h' H' → rel M' h'.length H' v x → Q x H'
  | .exc c v h' => ∀ M' x d H', Le C M h.length H M' h'.length H' → Sim C M' h' H' → Rep C.K M' h'.length H' v x → H' d = some (.xd [(("at" : Str), x)]) → E (.ref (C.CA c)) (some d) H'
  | .bad => False
abbrev rV (C : Cc) : (Nat → Addr) → Nat → Hp → Val → V → Prop := Rep C.K
abbrev rVs (C : Cc) : (Nat → Addr) → Nat → Hp → List Val → List V → Prop := Reps C.K
abbrev rB : (Nat → Addr) → Nat → Hp → Bool → Bool → Prop := fun _ _ _ a b => a = b
abbrev rO : (Nat → Addr) → Nat → Hp → Option Int → Option Int → Prop := fun _ _ _ a b => a = b
/-- the slots are held -/
def SlotsR (C : Cc) (M : Nat → Addr) (n : Nat) (H : Hp) (ρ : Slots) (σ : L2.St) : Prop := ∀ (i : Nat) (v : Val), ρ[i]? = some (some v) → ∃ x, σ[i]? = some (some x) ∧ Rep C.K M n H v x
theorem SlotsR.go {C : Cc} {M M' : Nat → Addr} {n n' : Nat} {H H' : Hp} {ρ : Slots} {σ : L2.St} (s : SlotsR C M n H ρ σ) (L : Le C M n H M' n' H') : SlotsR C M' n' H' ρ σ := fun i v e => by
  obtain ⟨x, e1, r⟩ := s i v e
  exact ⟨x, e1, r.go L.le L.map L.tup⟩
theorem Rep.le {C : Cc} {M M' : Nat → Addr} {n n' : Nat} {H H' : Hp} {v : Val} {x : V} (r : Rep C.K M n H v x) (L : Le C M n H M' n' H') : Rep C.K M' n' H' v x := r.go L.le L.map L.tup
theorem Reps.le {C : Cc} {M M' : Nat → Addr} {n n' : Nat} {H H' : Hp} {v : List Val} {x : List V} (r : Reps C.K M n H v x) (L : Le C M n H M' n' H') : Reps C.K M' n' H' v x := r.go L.le L.map L.tup
section
variable {C : Cc} {E : XK} {M : Nat → Addr} {h : AH} {H : Hp}
/-- from an earlier moment -/
theorem Cov.back {α β : Type} {rel : (Nat → Addr) → Nat → Hp → α → β → Prop} {M0 : Nat → Addr} {h0 : AH} {H0 : Hp} {r : Res α} {Q : β → Hp → Prop} (L : Le C M0 h0.length H0 M h.length H) (c : Cov rel C E M0 h0 H0 r Q) : Cov rel C E M h H r Q := by
  cases r with
  | ok v h' => exact fun M' x H' L' => c M' x H' (L.trans L')
  | exc k v h' => exact fun M' x d H' L' => c M' x d H' (L.trans L')
  | bad => exact c
/-- one behind another -/
theorem Cov.bind {α β α' β' : Type} {rel : (Nat → Addr) → Nat → Hp → α → β → Prop} {rel' : (Nat → Addr) → Nat → Hp → α' → β' → Prop} {r : Res α} {f : α → AH → Res α'} {Q : β' → Hp → Prop} (c : Cov rel' C E M h H (r.bind f) Q) :
    Cov rel C E M h H r fun x H1 => ∃ M1 v h1, r = .ok v h1 ∧ Le C M h.length H M1 h1.length H1 ∧ Sim C M1 h1 H1 ∧ rel M1 h1.length H1 v x ∧ Cov rel' C E M1 h1 H1 (f v h1) Q := by
  cases r with
  | ok v h' => exact fun M' x H' L S q => ⟨M', v, h', rfl, L, S, q, Cov.back L c⟩
  | exc k v h' => exact c
  | bad => exact c
theorem Cov.mono {α β : Type} {rel : (Nat → Addr) → Nat → Hp → α → β → Prop} {r : Res α} {Q Q' : β → Hp → Prop} (c : Cov rel C E M h H r Q) (hq : ∀ x H, Q x H → Q' x H) : Cov rel C E M h H r Q' := by
  cases r with
  | ok v h' => exact fun M' x H' L S q => hq _ _ (c M' x H' L S q)
  | exc k v h' => exact c
  | bad => exact c
theorem Cov.ok {α β : Type} {rel : (Nat → Addr) → Nat → Hp → α → β → Prop} {v : α} {x : β} {Q : β → Hp → Prop} (c : Cov rel C E M h H (.ok v h) Q) (S : Sim C M h H) (r : rel M h.length H v x) : Q x H := c M x H Le.refl S r
end
/-- a reading of an expression -/
def tD (C : Cc) (E : XK) (f : Slots → AH → Res Val) : TE := fun σ H Q => ∃ M ρ h, Sim C M h H ∧ SlotsR C M h.length H ρ σ ∧ Cov (rV C) C E M h H (f ρ h) Q
def tDs (C : Cc) (E : XK) (f : Slots → AH → Res (List Val)) : TA := fun σ H Q => ∃ M ρ h, Sim C M h H ∧ SlotsR C M h.length H ρ σ ∧ Cov (rVs C) C E M h H (f ρ h) Q
def tDT (C : Cc) (E : XK) (f : Slots → AH → Res Bool) : TT := fun σ H Q => ∃ M ρ h, Sim C M h H ∧ SlotsR C M h.length H ρ σ ∧ Cov rB C E M h H (f ρ h) Q
def tDO (C : Cc) (E : XK) (f : Slots → AH → Res (Option Int)) : TO := fun σ H Q => ∃ M ρ h, Sim C M h H ∧ SlotsR C M h.length H ρ σ ∧ Cov rO C E M h H (f ρ h) Q
theorem wkE {X : Cx} {e : Expr} {t t' : TE} (p : PE X e t) (w : ∀ σ H Q, t' σ H Q → t σ H Q) : PE X e t' := ⟨fun pins s σ H Q I h => p.run pins s σ H Q I (w σ H Q h)⟩
theorem wkT {X : Cx} {e : Expr} {t t' : TT} (p : PT X e t) (w : ∀ σ H Q, t' σ H Q → t σ H Q) : PT X e t' := ⟨fun pins s σ H Q I h => p.run pins s σ H Q I (w σ H Q h)⟩
theorem wkA {X : Cx} {e : List Expr} {t t' : TA} (p : PA X e t) (w : ∀ σ H Q, t' σ H Q → t σ H Q) : PA X e t' := ⟨fun pos pins s σ H Q I h => p.run pos pins s σ H Q I (w σ H Q h)⟩
theorem wkW {X : Cx} {e : Expr} {t t' : TT} (p : PW X e t) (w : ∀ σ H Q, t' σ H Q → t σ H Q) : PW X e t' := ⟨fun wh pins s σ H Q I h => p.run wh pins s σ H Q I (w σ H Q h)⟩
/-- an operation by values, as the evaluator has it -/
def rD (C : Cc) (f : AH → Val → Val → Option (Val × AH)) : R2 := fun x y H Q => ∃ M h vx vy p, Sim C M h H ∧ Rep C.K M h.length H vx x ∧ Rep C.K M h.length H vy y ∧ f h vx vy = some p ∧
  ∀ M' z H', Le C M h.length H M' p.2.length H' → Sim C M' p.2 H' → Rep C.K M' p.2.length H' p.1 z → Q z H'
section
variable {X : Cx} {C : Cc} {E : XK} {a b c : Expr} {fa fb fc : Slots → AH → Res Val} {pos : Pos}
theorem d_var {i : Nat} {x : Str} (hN : X.N[i]? = some x) (hv : Vis X.env.scope x) (hd : (x == ("__debug__" : Str)) = false) (hcd : (x == ("__classdict__" : Str)) = false) :
    PE X (.Name x pos) (tD C E fun ρ h => match ρ[i]? with
      | some (some v) => .ok v h
      | _ => .bad) := by
  refine wkE (pe_var hN hv hd hcd) fun σ H Q ⟨M, ρ, h, S, sl, c⟩ => ?_
  dsimp only at c
  cases e : ρ[i]? with
  | none => rw [e] at c; exact c.elim
  | some o =>
    rw [e] at c
    cases o with
    | none => exact c.elim
    | some v =>
      obtain ⟨x, e1, r⟩ := sl i v e
      exact ⟨x, e1, Cov.ok c S r⟩
/-- constants -/
theorem d_non {j} : PE X (.Constant .none j pos) (tD C E fun _ h => .ok .non h) := wkE pe_non fun σ H Q ⟨M, ρ, h, S, sl, c⟩ => Cov.ok c S .non
theorem d_bl {b j} : PE X (.Constant (.bool b) j pos) (tD C E fun _ h => .ok (.bl b) h) := wkE pe_bl fun σ H Q ⟨M, ρ, h, S, sl, c⟩ => Cov.ok c S (.bl b)
theorem d_int {i j} : PE X (.Constant (.int i) j pos) (tD C E fun _ h => .ok (.int i) h) := wkE pe_int fun σ H Q ⟨M, ρ, h, S, sl, c⟩ => Cov.ok c S (.int i)
theorem d_str {x j} : PE X (.Constant (.str x) j pos) (tD C E fun _ h => .ok (.str x) h) := wkE pe_str fun σ H Q ⟨M, ρ, h, S, sl, c⟩ => Cov.ok c S (.str x)
/-- a constant of the module -/
theorem d_glo {x : Str} {v : Val} {y : V} {u : Value} (hg : Gl X x) (hm : X.mg x = some u) (r : RelV y u) (hr : ∀ M n H, Rep C.K M n H v y) (hd : (x == ("__debug__" : Str)) = false) : PE X (.Name x pos) (tD C E fun _ h => .ok v h) :=
  wkE (pe_glob hg hm r hd) fun σ H Q ⟨M, ρ, h, S, sl, c⟩ => Cov.ok c S (hr _ _ _)
theorem tD_two {f : AH → Val → Val → Option (Val × AH)} {σ : L2.St} {H : Hp} {Q : VK} (t : tD C E (fun ρ h => (fa ρ h).bind fun x h1 => (fb ρ h1).bind fun y h2 => lift (f h2 x y)) σ H Q) : tOp (rD C f) (tD C E fa) (tD C E fb) σ H Q := by
  obtain ⟨M, ρ, h, S, sl, c⟩ := t
  refine ⟨M, ρ, h, S, sl, (Cov.bind (rel := rV C) c).mono fun x H1 ⟨M1, v, h1, _, L1, S1, r1, c1⟩ => ?_⟩
  refine ⟨M1, ρ, h1, S1, sl.go L1, (Cov.bind (rel := rV C) c1).mono fun y H2 ⟨M2, w, h2, _, L2, S2, r2, c2⟩ => ?_⟩
  cases e : f h2 v w with
  | none => rw [e] at c2; exact c2.elim
  | some p =>
    rw [e] at c2
    exact ⟨M2, h2, v, w, p, S2, r1.le L2, r2, e, c2⟩
theorem d_bin {op : Operator} (ho : OpR X (binaryOp op) (rD C (binV op))) (ha : PE X a (tD C E fa)) (hb : PE X b (tD C E fb)) :
    PE X (.BinOp a op b pos) (tD C E fun ρ h => (fa ρ h).bind fun x h1 => (fb ρ h1).bind fun y h2 => lift (binV op h2 x y)) :=
  wkE (pe_op ho ha hb) fun _ _ _ => tD_two
end
/-! ## operators by values -/
section
variable {X : Cx} {C : Cc}
theorem opR_of {f : Value → Value → Sem Value} {r r' : R2} (h : OpR X f r) (w : ∀ x y H Q, r' x y H Q → r x y H Q) : OpR X f r' := fun pins s σ H x y v u Q I rx ry q => h pins s σ H x y v u Q I rx ry (w _ _ _ _ q)
/-- what a new list asks -/
theorem newL_ok {M : Nat → Addr} {h : AH} {H : Hp} {xs : List Val} {vs : List V} {p : Val × AH} {Q : VK} (S : Sim C M h H) (r : Reps C.K M h.length H xs vs) (e : newL h xs = some p)
    (q : ∀ M' z H', Le C M h.length H M' p.2.length H' → Sim C M' p.2 H' → Rep C.K M' p.2.length H' p.1 z → Q z H') {a : Addr} (ha : H a = none) : Q (.ref a) (upd H a (.lst vs)) := by
  unfold newL at e
  split at e
  · cases e
    have r' : Reps C.K (more M h.length a) (h.length + 1) (upd H a (.lst vs)) xs vs := r.go (Nat.le_succ _) (fun _ hi => more_old hi) fun _ _ q => sqT_upd (fun _ => noRd ha) q
    have z := q (more M h.length a) (.ref (more M h.length a h.length)) (upd H a (.lst vs)) (by simpa using Le.grow ha) (S.grow ha ⟨vs, upd_same, r'⟩) (.ref (by simp))
    rw [more_new] at z
    exact z
  · cases e
theorem newL_len {h : AH} {xs : List Val} {p : Val × AH} (e : newL h xs = some p) : xs.length ≤ sizeLine := by
  unfold newL at e
  split at e
  · assumption
  · cases e
/-- the list under a name -/
theorem Sim.lst {M : Nat → Addr} {h : AH} {H : Hp} {n : Nat} {xs : List Val} (S : Sim C M h H) (e : h[n]? = some (.lst xs)) : ∃ vs, H (M n) = some (.lst vs) ∧ Reps C.K M h.length H xs vs := S.obj n _ e
theorem Sim.seq {M : Nat → Addr} {h : AH} {H : Hp} {n : Nat} {xs : List Val} (S : Sim C M h H) (e : seqOf h (.ref n) = some xs) : ∃ vs, SqL C.K H (M n) vs ∧ Reps C.K M h.length H xs vs := by
  simp only [seqOf] at e
  cases q : h[n]? with
  | none => rw [q] at e; cases e
  | some o =>
    rw [q] at e
    cases o with
    | lst ys =>
      cases e
      obtain ⟨vs, h1, h2⟩ := S.obj n _ q
      exact ⟨vs, .of h1, h2⟩
    | ro ys =>
      cases e
      obtain ⟨vs, h1, h2⟩ := S.obj n _ q
      exact ⟨vs, h1.elim (fun ⟨o, h1⟩ => .inl (.inr ⟨o, h1⟩)) .inr, h2⟩
    | dK _ => cases e
    | dT _ => cases e
theorem i_int {M : Nat → Addr} {n : Nat} {H : Hp} {i : Int} {x : V} (r : Rep C.K M n H (.int i) x) : x = .int i := by cases r; rfl
theorem i_str {M : Nat → Addr} {n : Nat} {H : Hp} {i : Str} {x : V} (r : Rep C.K M n H (.str i) x) : x = .str i := by cases r; rfl
theorem i_bl {M : Nat → Addr} {n : Nat} {H : Hp} {i : Bool} {x : V} (r : Rep C.K M n H (.bl i) x) : x = .bl i := by cases r; rfl
theorem i_non {M : Nat → Addr} {n : Nat} {H : Hp} {x : V} (r : Rep C.K M n H .non x) : x = .non := by cases r; rfl
theorem i_ref {M : Nat → Addr} {n : Nat} {H : Hp} {i : Nat} {x : V} (r : Rep C.K M n H (.ref i) x) : x = .ref (M i) ∧ i < n := by cases r; exact ⟨rfl, by assumption⟩
theorem i_tup {M : Nat → Addr} {n : Nat} {H : Hp} {xs : List Val} {x : V} (r : Rep C.K M n H (.tup xs) x) : ∃ a vs, x = .ref a ∧ SqT C.K H a vs ∧ Reps C.K M n H xs vs := by
  cases r with
  | tup h r => exact ⟨_, _, rfl, h, r⟩
/-- two ints -/
theorem op_ii {f : Value → Value → Sem Value} {g : Int → Int → Option Int} {Cd : Int → Int → Prop} {k : Int → Int → Int} (ho : OpR X f (rI Cd fun i j => .int (k i j))) (hg : ∀ i j z, g i j = some z → Cd i j ∧ z = k i j) {F : AH → Val → Val → Option (Val × AH)}
    {x y : V} {H : Hp} {Q : VK} {M : Nat → Addr} {h : AH} {i j : Int} {p : Val × AH} (S : Sim C M h H) (rx : Rep C.K M h.length H (.int i) x) (ry : Rep C.K M h.length H (.int j) y) (e : (g i j).map (fun k => (Val.int k, h)) = some p)
    (q : ∀ M' z H', Le C M h.length H M' p.2.length H' → Sim C M' p.2 H' → Rep C.K M' p.2.length H' p.1 z → Q z H') : rI Cd (fun i j => .int (k i j)) x y H Q := by
  cases e1 : g i j with
  | none => rw [e1] at e; cases e
  | some z =>
    rw [e1] at e
    cases e
    obtain ⟨h1, h2⟩ := hg i j z e1
    subst h2
    exact ⟨i, j, i_int rx, i_int ry, h1, q M _ H Le.refl S (.int _)⟩
/-- the choice of the rule by the values -/
theorem opR_by {f : Value → Value → Sem Value} {F : AH → Val → Val → Option (Val × AH)}
    (h : ∀ (M : Nat → Addr) (h : AH) (H : Hp) (vx vy : Val) (x y : V) (p : Val × AH) (Q : VK), Sim C M h H → Rep C.K M h.length H vx x → Rep C.K M h.length H vy y → F h vx vy = some p →
      (∀ M' z H', Le C M h.length H M' p.2.length H' → Sim C M' p.2 H' → Rep C.K M' p.2.length H' p.1 z → Q z H') → ∃ r, OpR X f r ∧ r x y H Q) : OpR X f (rD C F) := fun pins s σ H x y v u Q I rx ry ⟨M, ah, vx, vy, p, S, r1, r2, e, q⟩ => by
  obtain ⟨r, ho, hr⟩ := h M ah H vx vy x y p Q S r1 r2 e q
  exact ho pins s σ H x y v u Q I rx ry hr
theorem op_mulK : OpR X (binaryOp .Mult) (rI IntMulOk fun i j => .int (i * j)) := opI fun _ _ _ _ _ _ _ hc q => mul_int q hc
theorem mulI_ok (i j z : Int) (e : mulI i j = some z) : IntMulOk i j ∧ z = i * j := by
  unfold mulI at e
  split at e
  · cases e; exact ⟨by assumption, rfl⟩
  · cases e
theorem fdivI_ok (i j z : Int) (e : fdivI i j = some z) : CDivW i j ∧ z = i / j := by
  unfold fdivI at e
  split at e
  · cases e; exact ⟨by assumption, rfl⟩
  · cases e
theorem modI_ok (i j z : Int) (e : modI i j = some z) : 0 < j ∧ z = i % j := by
  unfold modI at e
  split at e
  · cases e; exact ⟨by assumption, rfl⟩
  · cases e
theorem powI_ok (i j z : Int) (e : powI i j = some z) : CPow i j ∧ z = i ^ j.toNat := by
  unfold powI at e
  split at e
  · cases e; exact ⟨by assumption, rfl⟩
  · cases e
theorem op_bin (hK : C.K = X.K) (op : Operator) : OpR X (binaryOp op) (rD C (binV op)) := opR_by fun M h H vx vy x y p Q S rx ry e q => by
  cases op <;> cases vx <;> cases vy <;> simp only [binV] at e <;> try (simp only [reduceCtorEq] at e)
  case Add.int.int i j =>
    cases e
    exact ⟨_, op_add, i, j, i_int rx, i_int ry, q M _ H Le.refl S (.int _)⟩
  case Add.str.str i j =>
    split at e
    · cases e
      exact ⟨_, op_add_str, i, j, i_str rx, i_str ry, by assumption, q M _ H Le.refl S (.str _)⟩
    · cases e
  case Add.tup.tup xs ys =>
    split at e
    · rename_i hz
      cases e
      obtain ⟨a, vs, rfl, ha, r1⟩ := i_tup rx
      obtain ⟨b, ws, rfl, hb, r2⟩ := i_tup ry
      have l1 := r1.length
      have l2 := r2.length
      refine ⟨_, op_catA, a, b, vs, ws, rfl, rfl, hK ▸ ha, hK ▸ hb, by omega, fun e0 => ?_, fun _ e0 => ?_, fun _ _ p hp => ?_⟩
      · subst e0
        have : xs = [] := List.length_eq_zero_iff.mp (by simpa using l1)
        subst this
        exact q M _ H Le.refl S (.tup hb (by simpa using r2))
      · subst e0
        have : ys = [] := List.length_eq_zero_iff.mp (by simpa using l2)
        subst this
        exact q M _ H Le.refl S (.tup ha (by simpa using r1))
      · have L : Le C M h.length H M h.length (upd H p (.tup (vs ++ ws))) := Le.new hp
        exact q M _ _ L (S.new hp) (.tup (.of upd_same) ((r1.append r2).le L))
    · cases e
  case Add.ref.ref a b =>
    cases e1 : h[a]? with
    | none => rw [e1] at e; simp at e
    | some o1 =>
      rw [e1] at e
      cases e2 : h[b]? with
      | none => rw [e2] at e; cases o1 <;> simp at e
      | some o2 =>
        rw [e2] at e
        cases o1 <;> cases o2 <;> simp only at e <;> try (simp only [reduceCtorEq] at e)
        rename_i xs ys
        obtain ⟨vs, h1, r1⟩ := Sim.lst S e1
        obtain ⟨ws, h2, r2⟩ := Sim.lst S e2
        have hz := newL_len e
        rw [List.length_append, r1.length, r2.length] at hz
        exact ⟨_, op_cat, M a, M b, vs, ws, (i_ref rx).1, (i_ref ry).1, h1, h2, hz, fun p hp => newL_ok S (r1.append r2) e q hp⟩
  case Sub.int.int i j =>
    cases e
    exact ⟨_, op_sub, i, j, i_int rx, i_int ry, q M _ H Le.refl S (.int _)⟩
  case Mult.int.int i j => exact ⟨_, op_mulK, op_ii (X := X) op_mulK mulI_ok (F := fun h _ _ => none) S rx ry e q⟩
  case FloorDiv.int.int i j => exact ⟨_, op_fdivW, op_ii (X := X) op_fdivW fdivI_ok (F := fun h _ _ => none) S rx ry e q⟩
  case Mod.int.int i j => exact ⟨_, op_mod, op_ii (X := X) op_mod modI_ok (F := fun h _ _ => none) S rx ry e q⟩
  case Pow.int.int i j => exact ⟨_, op_pow, op_ii (X := X) op_pow powI_ok (F := fun h _ _ => none) S rx ry e q⟩
  case Mult.ref.int a k =>
    cases e1 : h[a]? with
    | none => rw [e1] at e; simp at e
    | some o1 =>
      rw [e1] at e
      cases o1 <;> simp only at e <;> try (simp only [reduceCtorEq] at e)
      rename_i xs
      split at e
      · rename_i hz
        obtain ⟨vs, h1, r1⟩ := Sim.lst S e1
        rw [r1.length] at hz
        exact ⟨_, op_rep, M a, k, vs, (i_ref rx).1, i_int ry, h1, hz.1, hz.2.1, hz.2.2, fun p hp => newL_ok S (r1.rep _) e q hp⟩
      · cases e
  case Mult.str.int x k =>
    split at e
    · cases e
      have ho : OpR X (binaryOp .Mult) (fun x y H Q => ∃ i j, x = .str i ∧ y = .int j ∧ MulOk i j ∧ Q (.str (Txt.mul i j)) H) := fun pins s σ H x y v u Q I rx ry ⟨i, j, e1, e2, hm, q⟩ => by
        subst e1 e2
        obtain ⟨t, rfl⟩ := rx
        obtain ⟨t', rfl⟩ := ry
        exact SB.mul hm fun t2 k => ⟨.str _, H, I.tok k, ⟨_, rfl⟩, q⟩
      exact ⟨_, ho, x, k, i_str rx, i_int ry, by assumption, q M _ H Le.refl S (.str _)⟩
    · cases e
end
end MP
set_option Elab.async false
set_option linter.all false
set_option maxRecDepth 100000
set_option maxHeartbeats 1000000
namespace MP
open PySem PySem.Spec PyProof.Rows L2
/-! ## data, equality -/
theorem mapM_cons_some {α β : Type} {f : α → Option β} {x : α} {xs : List α} {ys : List β} (e : (x :: xs).mapM f = some ys) : ∃ y r, f x = some y ∧ xs.mapM f = some r ∧ ys = y :: r := by
  rw [List.mapM_cons] at e
  cases e1 : f x with
  | none => rw [e1] at e; cases e
  | some y =>
    rw [e1] at e
    cases e2 : xs.mapM f with
    | none => simp [e2] at e
    | some r =>
      simp [e2] at e
      exact ⟨y, r, rfl, rfl, e.symm⟩
theorem mapM_nil_some {α β : Type} {f : α → Option β} {ys : List β} (e : ([] : List α).mapM f = some ys) : ys = [] := by
  rw [List.mapM_nil] at e
  cases e
  rfl
theorem mapM_depth {f : Val → Option PyData} {d : Nat} (hf : ∀ v e, f v = some e → e.depth ≤ d) : ∀ (xs : List Val) (es : List PyData), xs.mapM f = some es → PyData.depthAll es ≤ d
  | [], es, e => by
    rw [mapM_nil_some e]
    simp [PyData.depthAll]
  | x :: xs, es, e => by
    obtain ⟨y, r, h1, h2, rfl⟩ := mapM_cons_some e
    have a := hf x y h1
    have b := mapM_depth hf xs r h2
    simp only [PyData.depthAll]
    omega
theorem toP_depth (h : AH) : ∀ (d : Nat) (v : Val) (e : PyData), toP h d v = some e → e.depth ≤ d
  | 0, _, _, q => by simp [toP] at q
  | d + 1, v, e, q => by
    cases v <;> simp only [toP] at q
    case non => cases q; simp [PyData.depth]
    case bl => cases q; simp [PyData.depth]
    case int => cases q; simp [PyData.depth]
    case str => cases q; simp [PyData.depth]
    case tup xs =>
      cases e1 : xs.mapM (toP h d) with
      | none => rw [e1] at q; cases q
      | some es =>
        rw [e1] at q
        cases q
        have := mapM_depth (toP_depth h d) xs es e1
        simp only [PyData.depth]
        omega
    case ref n =>
      have go : ∀ xs : List Val, (xs.mapM (toP h d)).map PyData.list = some e → e.depth ≤ d + 1 := fun xs q => by
        cases e1 : xs.mapM (toP h d) with
        | none => rw [e1] at q; cases q
        | some es =>
          rw [e1] at q
          cases q
          have := mapM_depth (toP_depth h d) xs es e1
          simp only [PyData.depth]
          omega
      cases e0 : h[n]? with
      | none => rw [e0] at q; cases q
      | some o =>
        rw [e0] at q
        cases o with
        | lst xs => exact go xs q
        | ro xs => exact go xs q
        | dK _ => cases q
        | dT _ => cases q
section
variable {C : Cc} {M : Nat → Addr} {h : AH} {H : Hp}
theorem mapM_Dp {f : Val → Option PyData} (hf : ∀ v x e, Rep C.K M h.length H v x → f v = some e → Dp C.K H x e) : ∀ (xs : List Val) (vs : List V) (es : List PyData), Reps C.K M h.length H xs vs → xs.mapM f = some es → DpAll C.K H vs es
  | [], _, es, .nil, e => by
    rw [mapM_nil_some e]
    exact .nil
  | x :: xs, _, es, .cons r rs, e => by
    obtain ⟨y, t, h1, h2, rfl⟩ := mapM_cons_some e
    exact .cons (hf _ _ _ r h1) (mapM_Dp hf xs _ t rs h2)
theorem toP_Dp (S : Sim C M h H) : ∀ (d : Nat) (v : Val) (x : V) (e : PyData), Rep C.K M h.length H v x → toP h d v = some e → Dp C.K H x e
  | 0, _, _, _, _, q => by simp [toP] at q
  | d + 1, v, x, e, r, q => by
    cases v <;> simp only [toP] at q
    case non => cases q; cases r; exact .non
    case bl => cases q; cases r; exact .bl _
    case int => cases q; cases r; exact .int _
    case str => cases q; cases r; exact .str _
    case tup xs =>
      obtain ⟨a, vs, rfl, ha, rs⟩ := i_tup r
      cases e1 : xs.mapM (toP h d) with
      | none => rw [e1] at q; cases q
      | some es =>
        rw [e1] at q
        cases q
        exact .tup ha (mapM_Dp (toP_Dp S d) xs vs es rs e1)
    case ref n =>
      obtain ⟨rfl, hn⟩ := i_ref r
      cases e0 : h[n]? with
      | none => rw [e0] at q; cases q
      | some o =>
        rw [e0] at q
        have go : ∀ xs : List Val, seqOf h (.ref n) = some xs → (xs.mapM (toP h d)).map PyData.list = some e → Dp C.K H (.ref (M n)) e := fun xs hs q => by
          obtain ⟨vs, h1, rs⟩ := S.seq hs
          cases e1 : xs.mapM (toP h d) with
          | none => rw [e1] at q; cases q
          | some es =>
            rw [e1] at q
            cases q
            exact .lst h1 (mapM_Dp (toP_Dp S d) xs vs es rs e1)
        cases o with
        | lst xs => exact go xs (by simp [seqOf, e0]) q
        | ro xs => exact go xs (by simp [seqOf, e0]) q
        | dK _ => cases q
        | dT _ => cases q
theorem eqV_ok {vx vy : Val} {x y : V} {b : Bool} (S : Sim C M h H) (rx : Rep C.K M h.length H vx x) (ry : Rep C.K M h.length H vy y) (e : eqV h vx vy = some b) : ∃ d e, Dp C.K H x d ∧ Dp C.K H y e ∧ SeqAt.shaped d = true ∧ SeqAt.shaped e = true ∧ PyData.eqv d e = b := by
  unfold eqV at e
  cases e1 : toP h 60 vx with
  | none => rw [e1] at e; simp at e
  | some d =>
    rw [e1] at e
    cases e2 : toP h 60 vy with
    | none => rw [e2] at e; simp at e
    | some d' =>
      rw [e2] at e
      simp only at e
      split at e
      · rename_i hc
        cases e
        have s : ∀ {v : Val} {d : PyData}, toP h 60 v = some d → d.canLay0 = true → SeqAt.shaped d = true := fun {v d} q c => by
          have := toP_depth h 60 v d q
          unfold SeqAt.shaped
          rw [c, Bool.true_and, decide_eq_true_eq]
          omega
        exact ⟨d, d', toP_Dp S 60 vx x d rx e1, toP_Dp S 60 vy y d' ry e2, s e1 hc.1, s e2 hc.2, rfl⟩
      · cases e
end
/-! ## comparisons -/
def rDc (C : Cc) (op : CmpOp) : R2 := fun x y H Q => ∃ M h vx vy b, Sim C M h H ∧ Rep C.K M h.length H vx x ∧ Rep C.K M h.length H vy y ∧ cmpV op h vx vy = some b ∧ Q (.bl b) H
section
variable {X : Cx} {C : Cc}
theorem rep_non {M : Nat → Addr} {n : Nat} {H : Hp} {v : Val} {x : V} (r : Rep C.K M n H v x) : decide (x = .non) = decide (v = .non) := by
  cases r <;> simp
theorem op_cmp (hK : C.K = X.K) (hu : X.A.units + 64 < cLine) (op : CmpOp) : OpR X (compareOp op) (rDc C op) := fun pins s σ H x y v u Q I rx ry ⟨M, h, vx, vy, b, S, r1, r2, e, q⟩ => by
  cases op <;> simp only [cmpV] at e
  case Eq =>
    obtain ⟨d, d', h1, h2, h3, h4, rfl⟩ := eqV_ok S r1 r2 e
    exact op_eqD hu pins s σ H x y v u Q I rx ry ⟨d, d', hK ▸ h1, hK ▸ h2, h3, h4, q⟩
  case NotEq =>
    cases e0 : eqV h vx vy with
    | none => rw [e0] at e; cases e
    | some b' =>
      rw [e0] at e
      cases e
      obtain ⟨d, d', h1, h2, h3, h4, rfl⟩ := eqV_ok S r1 r2 e0
      exact op_neD hu pins s σ H x y v u Q I rx ry ⟨d, d', hK ▸ h1, hK ▸ h2, h3, h4, q⟩
  case Lt =>
    split at e
    · cases e
      exact op_lt pins s σ H x y v u Q I rx ry ⟨_, _, i_int r1, i_int r2, q⟩
    · cases e
  case LtE =>
    split at e
    · cases e
      exact op_le pins s σ H x y v u Q I rx ry ⟨_, _, i_int r1, i_int r2, q⟩
    · cases e
  case Gt =>
    split at e
    · cases e
      exact op_gt pins s σ H x y v u Q I rx ry ⟨_, _, i_int r1, i_int r2, q⟩
    · cases e
  case GtE =>
    split at e
    · cases e
      exact op_ge pins s σ H x y v u Q I rx ry ⟨_, _, i_int r1, i_int r2, q⟩
    · cases e
  case Is =>
    split at e
    · cases e
      exact op_isN pins s σ H x y v u Q I rx ry ⟨i_non r2, by rw [rep_non r1]; exact q⟩
    · cases e
      exact op_isBl pins s σ H x y v u Q I rx ry ⟨_, _, i_bl r1, i_bl r2, q⟩
    · cases e
  case IsNot =>
    split at e
    · cases e
      exact op_notN pins s σ H x y v u Q I rx ry ⟨i_non r2, by rw [rep_non r1]; exact q⟩
    · cases e
      exact op_notBl pins s σ H x y v u Q I rx ry ⟨_, _, i_bl r1, i_bl r2, q⟩
    · cases e
  case In =>
    split at e
    · split at e
      · rename_i c z _ k hk
        cases e
        have ec : c = ⟨#[k]⟩ := by
          cases c with
          | mk a =>
            have : a.toList = [k] := hk
            rw [← Array.toList_inj.mp (show a.toList = #[k].toList from this)]
        subst ec
        exact op_in_sign pins s σ H x y v u Q I rx ry ⟨k, z, i_str r1, i_str r2, q⟩
      · cases e
    · cases e
  case NotIn =>
    split at e
    · split at e
      · rename_i c z _ k hk
        cases e
        have ec : c = ⟨#[k]⟩ := by
          cases c with
          | mk a =>
            have : a.toList = [k] := hk
            rw [← Array.toList_inj.mp (show a.toList = #[k].toList from this)]
        subst ec
        exact op_notIn_sign pins s σ H x y v u Q I rx ry ⟨k, z, i_str r1, i_str r2, q⟩
      · cases e
    · cases e
end
end MP
set_option Elab.async false
set_option linter.all false
set_option maxRecDepth 100000
set_option maxHeartbeats 2000000
namespace MP
open PySem PySem.Spec PyProof.Rows PySem.W PySem.Calls PyProof.V
/-! ## list(text) -/
section
variable {prog : Program} {w : World} {A : Around} {E : Value → Shared → Prop} {s : Shared} {x : Str} {t : Tok}
theorem hint_text {Q : Bool → Shared → Prop} (q : Q false s) : wpAny (model prog w) A (Builtin.List.listLengthHint (.str x t)) Q E s := by
  unfold Builtin.List.listLengthHint
  have hT := typeIs_str s x t
  refine wpAny_bind (wpAny_specialOf (T := "str") hT PySem.F.slot_str_len.lookup ?_)
  generalize hid : ("str.__len__" : String) = i0
  wp_delta
  rw [show splitId i0 = some ("str", "__len__") from by subst hid; decide +kernel]
  subst hid
  refine wpAny_bind (wpAny_isInstance (T := "str") (b := true) hT (by rw [isSubtype_type]; kernel_rfl) ?_)
  refine wpAny_ite_split (fun z => absurd z (by decide)) (fun _ => wpAny_ite_split (fun _ => ?_) (fun z => absurd (by decide +kernel) z))
  exact wpAny_bind (wpAny_typeOf hT (wpAny_pure q))
/-- what walks a text -/
theorem text_walks (hh : A.handled = none) (I : Addr) : ∃ St : Nat → Heap → Prop, Walks prog w A I [I] [I] x.cps.size (SignAt x) St ∧ ∀ h : Heap, h.get? I = some { cls := .type (strIterType x), data := .fields #[.str x t, .int 0 0] } → St 0 h := by
  unfold strIterType
  cases ha : x.cps.all (· < 128)
  · exact ⟨_, Walks.strWide hh I x t, fun h e => ⟨_, e, rfl, rfl⟩⟩
  · exact ⟨_, Walks.strAscii hh I x t, fun h e => ⟨_, e, rfl, rfl⟩⟩
abbrev listAt (acc : Array Value) (c : Nat) : Obj := { cls := .type "list", dict := none, data := .seq acc c, slots := #[] }
theorem extend_text {R : Result → Shared → Prop} (hh : A.handled = none) (S : Addr) (res : Value) (c0 : Nat) (hS : s.heap.get? S = some (listAt #[] c0)) (hn : x.cps.size ≤ sizeLine)
    (hR : ∀ h' tk acc' c', (∀ b o, b ≠ S → s.heap.get? b = some o → h'.get? b = some o) → h'.get? S = some (listAt acc' c') → ItemsOf (SignAt x) acc' x.cps.size → R (.ok (.ret res)) { s with heap := h', toks := tk }) :
    wpAny (model prog w) A.in1 (Builtin.List.listExtendWith (.ref S) (.str x t) res)
      (fun fin s' => match fin with
        | .done f => R (.ok f) s'
        | .again c' => c'.quiet = true ∧ codeAny (model prog w) A c' R s') (fun e s' => R (.error e) s') s := by
  have hSI : S ≠ s.heap.objs.size := Nat.ne_of_lt (Heap.lt_size hS)
  have hSf : S ∉ [s.heap.objs.size] := by simpa using hSI
  obtain ⟨St, W, st0⟩ := text_walks (prog := prog) (w := w) (A := A.in1) (x := x) (t := t) hh s.heap.objs.size
  let oI : Obj := { cls := .type (strIterType x), data := .fields #[.str x t, .int 0 0] }
  have key : ∀ (h : Heap) (c1 tk : Nat), St 0 h → (∀ b o, b ≠ S → s.heap.get? b = some o → h.get? b = some o) → h.get? S = some (listAt #[] c1) →
      codeAny (model prog w) A (.builtin "list.extend.loop" ⟨[.ref S, .ref s.heap.objs.size, res], []⟩) R { s with heap := h, toks := tk } := fun h c1 tk hst hk hS1 => by
    refine codeAny_extend_loopS W.toS hn S hSf res x.cps.size 0 _ #[] c1 rfl (Nat.zero_le _) hst hS1 (ItemsOf.nil _) fun s' acc' c' hm hS' hacc => ?_
    rw [Moved.eq_with hm]
    refine hR s'.heap s'.toks acc' c' (fun b o hb e => hm.heap b o (fun z => ?_) (hk b o hb e)) hS' hacc
    rcases List.mem_cons.mp z with z | z
    · exact hb z
    · have := Heap.lt_size e
      rw [List.mem_singleton.mp z] at this
      exact Nat.lt_irrefl _ this
  unfold Builtin.List.listExtendWith
  refine wpAny_bind (wpAny_typeOf (T := "str") (typeIs_str s x t) ?_)
  have h1 : Builtin.List.listSameRef (.ref S) (.str x t) = false := rfl
  have h2 : (Value.type "str" == Value.type "list") = false := by decide
  have h3 : (Value.type "str" == Value.type "tuple") = false := by decide
  simp only [h1, h2, h3, Bool.or_false, Bool.false_eq_true, if_false]
  refine wpAny_bind (wpAny_pyIter_strU ?_)
  have hS1 := Heap.get?_push_of_some oI hS
  have hI : (s.heap.push oI).get? s.heap.objs.size = some oI := Heap.get?_push_size _ rfl
  refine wpAny_bind (wpAny_holding (hint_text ?_))
  refine wpAny_ite_split (fun z => absurd z (by decide)) (fun _ => wpAny_pure ⟨plainId_quiet PySem.F.plain_extend_loop _, ?_⟩)
  exact key _ c0 _ (st0 _ hI) (fun b o _ e => Heap.get?_push_of_some _ e) hS1
theorem list_text {Q : Value → Shared → Prop} (hh : A.handled = none) (hn : x.cps.size ≤ sizeLine)
    (hQ : ∀ h' tk acc' c', (∀ b o, s.heap.get? b = some o → h'.get? b = some o) → h'.get? s.heap.objs.size = some (listAt acc' c') → ItemsOf (SignAt x) acc' x.cps.size → Q (.ref s.heap.objs.size) { s with heap := h', toks := tk }) :
    wpAny (model prog w) A (call (.type "list") [.str x t]) Q E s := by
  refine callType_codes (Q₁ := fun obj s1 => obj = .ref s.heap.objs.size ∧ s1 = { s with heap := s.heap.push { cls := .type "list", data := .seq #[] } }) PySem.F.called_list (PySem.F.typeCall_list_1 _) PySem.F.entry_list_init
    (code_list_new _ ⟨rfl, rfl⟩) fun obj s1 hobj => ?_
  obtain ⟨rfl, rfl⟩ := hobj
  have hS : (s.heap.push { cls := .type "list", data := .seq #[] }).get? s.heap.objs.size = some (listAt #[] 0) := Heap.get?_push_size _ rfl
  refine ⟨⟨_, hS, rfl⟩, PySem.F.args_list_init_2 _ _, ?_⟩
  show wpAny _ _ (do let old ← Builtin.List.listItems (.ref s.heap.objs.size); Builtin.List.listUpdate (.ref s.heap.objs.size) (fun _ => #[]); letGo old.toList.reverse; Builtin.List.listExtendWith (.ref s.heap.objs.size) (.str x t) .none) _ _ _
  refine wpAny_bind ?_
  unfold Builtin.List.listItems
  refine wpAny_bind (wpAny_seqItems hS rfl (wpAny_pure ?_))
  show wpAny _ _ (updateSeq s.heap.objs.size (fun _ => #[]) >>= fun _ => letGo (#[] : Array Value).toList.reverse >>= fun _ => Builtin.List.listExtendWith (.ref s.heap.objs.size) (.str x t) .none) _ _ _
  refine wpAny_bind (wpAny_updateSeq hS rfl ?_)
  have hS2 := Heap.get?_update_self (Obj.mapSeq (fun _ => (#[] : Array Value))) hS rfl
  refine wpAny_bind (wpAny_letGo (extend_text (A := A.in1) (R := wants (fun r s2 => r = .none ∧ Q (.ref s.heap.objs.size) s2) E) hh _ .none 0 hS2 hn fun h' tk acc' c' hk hS' hacc => ⟨rfl, ?_⟩))
  exact hQ h' tk acc' c' (fun b o e => hk b o (Nat.ne_of_lt (Heap.lt_size e)) ((Heap.get?_update_other _ _ (Nat.ne_of_gt (Heap.lt_size e))).trans (Heap.get?_push_of_some _ e))) hS' hacc
end
end MP
set_option Elab.async false
set_option linter.all false
set_option maxRecDepth 100000
set_option maxHeartbeats 1000000
namespace MP
open PySem PySem.Spec PyProof.Rows L2
section
variable {C : Cc} {M : Nat → Addr} {h : AH} {H : Hp}
theorem isEmpty_reps {n : Nat} {xs : List Val} {vs : List V} (r : Reps C.K M n H xs vs) : xs.isEmpty = vs.isEmpty := by cases r <;> rfl
theorem isEmpty_drep {κ : Type} {n : Nat} {kvs : List (κ × Val)} {ws : List (κ × V)} (r : DRep C.K M n H kvs ws) : kvs.isEmpty = ws.isEmpty := by
  have e := congrArg List.length r.1
  rw [List.length_map, List.length_map] at e
  cases kvs <;> cases ws <;> simp at e ⊢
theorem truth_ok {v : Val} {x : V} {b : Bool} (S : Sim C M h H) (r : Rep C.K M h.length H v x) (e : truth h v = some b) : TruV C.K x H b := by
  cases v <;> simp only [truth] at e
  case non => cases e; cases r; rfl
  case bl => cases e; cases r; rfl
  case int => cases e; cases r; rfl
  case str y =>
    split at e
    · cases e
      cases r
      refine ⟨by assumption, ?_⟩
      rw [Bool.eq_iff_iff]
      simp
    · cases e
  case tup xs =>
    cases e
    obtain ⟨a, vs, rfl, ha, rs⟩ := i_tup r
    exact .inr (.inl ⟨vs, ha, by rw [isEmpty_reps rs]⟩)
  case ref n =>
    obtain ⟨rfl, hn⟩ := i_ref r
    cases e0 : h[n]? with
    | none => rw [e0] at e; cases e
    | some o =>
      rw [e0] at e
      cases o with
      | lst xs =>
        cases e
        obtain ⟨vs, h1, rs⟩ := S.lst e0
        exact .inl ⟨vs, .of h1, by rw [isEmpty_reps rs]⟩
      | ro xs =>
        cases e
        obtain ⟨vs, h1, rs⟩ := Sim.seq S (n := n) (xs := xs) (by simp [seqOf, e0])
        exact .inl ⟨vs, h1, by rw [isEmpty_reps rs]⟩
      | dK kvs =>
        cases e
        obtain ⟨ws, h1, rs⟩ := S.obj n _ e0
        exact .inr (.inr ⟨ws, h1, by rw [isEmpty_drep rs]⟩)
      | dT kvs => cases e
theorem seq_bls {n : Nat} : ∀ {xs : List Val} {vs : List V} {bs : List Bool}, Reps C.K M n H xs vs → blsOf xs = some bs → vs = bs.map V.bl
  | [], _, bs, .nil, e => by cases e; rfl
  | x :: xs, _, bs, .cons r rs, e => by
    cases x <;> simp only [blsOf, reduceCtorEq] at e
    cases e1 : blsOf xs with
    | none => rw [e1] at e; cases e
    | some t =>
      rw [e1] at e
      cases e
      rw [i_bl r, seq_bls rs e1]
      rfl
theorem seq_ints {n : Nat} : ∀ {xs : List Val} {vs : List V} {bs : List Int}, Reps C.K M n H xs vs → intsOf xs = some bs → vs = bs.map V.int
  | [], _, bs, .nil, e => by cases e; rfl
  | x :: xs, _, bs, .cons r rs, e => by
    cases x <;> simp only [intsOf, reduceCtorEq] at e
    cases e1 : intsOf xs with
    | none => rw [e1] at e; cases e
    | some t =>
      rw [e1] at e
      cases e
      rw [i_int r, seq_ints rs e1]
      rfl
theorem i_one {n : Nat} {a : Val} {vs : List V} (r : Reps C.K M n H [a] vs) : ∃ x, vs = [x] ∧ Rep C.K M n H a x := by
  cases r with
  | cons r t => cases t; exact ⟨_, rfl, r⟩
theorem i_two {n : Nat} {a b : Val} {vs : List V} (r : Reps C.K M n H [a, b] vs) : ∃ x y, vs = [x, y] ∧ Rep C.K M n H a x ∧ Rep C.K M n H b y := by
  cases r with
  | cons r t =>
    obtain ⟨y, rfl, q⟩ := i_one t
    exact ⟨_, _, rfl, r, q⟩
end
/-! ## built-in functions -/
def Bt.fn : Bt → Value
  | .len => .builtin "len" | .int => .type "int" | .bool => .type "bool" | .abs => .builtin "abs" | .all => .builtin "all" | .any => .builtin "any" | .sum => .builtin "sum" | .min2 => .builtin "min" | .max2 => .builtin "max" | .list => .type "list" | .tuple => .type "tuple"
def rBt (C : Cc) (b : Bt) : List V → Hp → VK → Prop := fun xs H Q => ∃ M h vs p, Sim C M h H ∧ Reps C.K M h.length H vs xs ∧ btV b h vs = some p ∧ ∀ M' z H', Le C M h.length H M' p.2.length H' → Sim C M' p.2 H' → Rep C.K M' p.2.length H' p.1 z → Q z H'
section
variable {X : Cx} {C : Cc}
theorem bt_by {b : Bt} (hh : ∀ (M : Nat → Addr) (h : AH) (H : Hp) (vs : List Val) (xs : List V) (p : Val × AH) (Q : VK), Sim C M h H → Reps C.K M h.length H vs xs → btV b h vs = some p →
    (∀ M' z H', Le C M h.length H M' p.2.length H' → Sim C M' p.2 H' → Rep C.K M' p.2.length H' p.1 z → Q z H') → ∃ r, CallR X b.fn r ∧ r xs H Q) : CallR X b.fn (rBt C b) := fun pins s σ H xs us Q I r ⟨M, h, vs, p, S, r1, e, q⟩ => by
  obtain ⟨r2, hc, hr⟩ := hh M h H vs xs p Q S r1 e q
  exact hc pins s σ H xs us Q I r hr
theorem vals_of : ∀ {xs : List V} {us : List Value}, xs.length = us.length → (∀ (j : Nat) x u, xs[j]? = some x → us[j]? = some u → RelV x u) → Vals xs us
  | [], [], _, _ => .nil
  | [], _ :: _, h, _ => nomatch h
  | _ :: _, [], h, _ => nomatch h
  | x :: xs, u :: us, h, q => .cons (q 0 x u rfl rfl) (vals_of (Nat.succ.inj h) fun j y v h1 h2 => q (j + 1) y v h1 h2)
theorem list_of_str (hc : X.calm = true) (z : Str) (hz : z.length ≤ sizeLine) : CallR X (.type "list") (fun xs H Q => xs = [.str z] ∧ ∀ l, H l = none → Q (.ref l) (upd H l (.lst (z.cps.toList.map fun c => V.str ⟨#[c]⟩)))) := fun pins s σ H xs us Q I rv ⟨e, q⟩ => by
  subst e
  cases rv with
  | cons r rr =>
    cases rr
    obtain ⟨t, rfl⟩ := r
    refine list_text (I.ok.hd hc) hz fun h' tk acc' c' hk hS hacc => ?_
    have hN : H s.heap.objs.size = none := I.hok.fresh (Nat.le_refl _)
    have rv : Vals (z.cps.toList.map fun c => V.str ⟨#[c]⟩) acc'.toList := vals_of (by rw [List.length_map, Array.length_toList, Array.length_toList, hacc.1]) fun j y u h1 h2 => by
      rw [List.getElem?_map, Option.map_eq_some_iff] at h1
      obtain ⟨c, hcj, rfl⟩ := h1
      obtain ⟨c', t', hc', rfl⟩ := hacc.2 j u (by rw [← Array.getElem?_toList]; exact h2)
      rw [← Array.getElem?_toList, hcj] at hc'
      cases hc'
      exact ⟨t', rfl⟩
    refine ⟨.ref s.heap.objs.size, upd H s.heap.objs.size (.lst (z.cps.toList.map fun c => V.str ⟨#[c]⟩)), I.laid (t' := tk) hk (Nat.le_refl _) ⟨by rw [List.length_map, Array.length_toList]; exact hz, acc'.toList, c', rv, ?_⟩, rfl, q _ hN⟩
    rw [hS, Array.toArray_toList]
theorem ch_bt (hK : C.K = X.K) (hc : X.calm = true) (b : Bt) : CallR X b.fn (rBt C b) := bt_by fun M h H vs xs p Q S r e q => by
  unfold btV at e
  split at e
  · rename_i x
    split at e
    · cases e
      obtain ⟨x', rfl, r1⟩ := i_one r
      exact ⟨_, call_len, _, x.length, rfl, by rw [i_str r1]; exact ⟨by assumption, rfl⟩, q M _ H Le.refl S (.int _)⟩
    · cases e
  · rename_i ys
    cases e
    obtain ⟨x', rfl, r1⟩ := i_one r
    obtain ⟨a, ws, rfl, ha, rs⟩ := i_tup r1
    exact ⟨_, call_len, _, ys.length, rfl, .inr ⟨ws, hK ▸ ha, rs.length⟩, q M _ H Le.refl S (.int _)⟩
  · rename_i n
    obtain ⟨x', rfl, r1⟩ := i_one r
    obtain ⟨rfl, hn⟩ := i_ref r1
    have go : ∀ ys : List Val, seqOf h (.ref n) = some ys → (Val.int ys.length, h) = p → ∃ r, CallR X (Bt.fn .len) r ∧ r [.ref (M n)] H Q := fun ys hs e => by
      subst e
      obtain ⟨ws, h1, rs⟩ := Sim.seq S hs
      exact ⟨_, call_len, _, ys.length, rfl, .inl ⟨ws, hK ▸ h1, rs.length⟩, q M _ H Le.refl S (.int _)⟩
    cases e0 : h[n]? with
    | none => rw [e0] at e; cases e
    | some o =>
      rw [e0] at e
      cases o with
      | lst ys => exact go ys (by simp [seqOf, e0]) (Option.some.inj e)
      | ro ys => exact go ys (by simp [seqOf, e0]) (Option.some.inj e)
      | dK _ => cases e
      | dT _ => cases e
  · rename_i i
    cases e
    obtain ⟨x', rfl, r1⟩ := i_one r
    exact ⟨_, call_int1, .inl ⟨i, by rw [i_int r1], q M _ H Le.refl S (.int _)⟩⟩
  · rename_i i
    cases e
    obtain ⟨x', rfl, r1⟩ := i_one r
    exact ⟨_, call_int1, .inr ⟨i, by rw [i_bl r1], q M _ H Le.refl S (.int _)⟩⟩
  · rename_i i
    cases e
    obtain ⟨x', rfl, r1⟩ := i_one r
    exact ⟨_, call_bool1, .inl ⟨i, by rw [i_int r1], q M _ H Le.refl S (.bl _)⟩⟩
  · rename_i i
    cases e
    obtain ⟨x', rfl, r1⟩ := i_one r
    exact ⟨_, call_bool1, .inr ⟨i, by rw [i_bl r1], q M _ H Le.refl S (.bl _)⟩⟩
  · rename_i i
    cases e
    obtain ⟨x', rfl, r1⟩ := i_one r
    exact ⟨_, call_abs, i, by rw [i_int r1], q M _ H Le.refl S (.int _)⟩
  · rename_i n
    obtain ⟨x', rfl, r1⟩ := i_one r
    obtain ⟨rfl, hn⟩ := i_ref r1
    cases e0 : h[n]? with
    | none => rw [e0] at e; cases e
    | some o =>
      rw [e0] at e
      cases o <;> simp only [reduceCtorEq] at e
      rename_i ys
      cases e1 : blsOf ys with
      | none => rw [e1] at e; cases e
      | some bs =>
        rw [e1] at e
        cases e
        obtain ⟨ws, h1, rs⟩ := S.lst e0
        have := seq_bls rs e1
        subst this
        exact ⟨_, cr_all hc, M n, bs, rfl, .of h1, q M _ H Le.refl S (.bl _)⟩
  · rename_i n
    obtain ⟨x', rfl, r1⟩ := i_one r
    obtain ⟨rfl, hn⟩ := i_ref r1
    cases e0 : h[n]? with
    | none => rw [e0] at e; cases e
    | some o =>
      rw [e0] at e
      cases o <;> simp only [reduceCtorEq] at e
      rename_i ys
      cases e1 : blsOf ys with
      | none => rw [e1] at e; cases e
      | some bs =>
        rw [e1] at e
        cases e
        obtain ⟨ws, h1, rs⟩ := S.lst e0
        have := seq_bls rs e1
        subst this
        exact ⟨_, cr_any hc, M n, bs, rfl, .of h1, q M _ H Le.refl S (.bl _)⟩
  · rename_i n
    obtain ⟨x', rfl, r1⟩ := i_one r
    obtain ⟨rfl, hn⟩ := i_ref r1
    cases e0 : h[n]? with
    | none => rw [e0] at e; cases e
    | some o =>
      rw [e0] at e
      cases o <;> simp only [reduceCtorEq] at e
      rename_i ys
      cases e1 : intsOf ys with
      | none => rw [e1] at e; cases e
      | some bs =>
        rw [e1] at e
        cases e
        obtain ⟨ws, h1, rs⟩ := S.lst e0
        have := seq_ints rs e1
        subst this
        exact ⟨_, cr_sum hc, M n, bs, rfl, .of h1, q M _ H Le.refl S (.int _)⟩
  · rename_i i j
    cases e
    obtain ⟨x', y', rfl, r1, r2⟩ := i_two r
    exact ⟨_, call_min2 hc, i, j, by rw [i_int r1, i_int r2], q M _ H Le.refl S (.int _)⟩
  · rename_i i j
    cases e
    obtain ⟨x', y', rfl, r1, r2⟩ := i_two r
    exact ⟨_, call_max2 hc, i, j, by rw [i_int r1, i_int r2], q M _ H Le.refl S (.int _)⟩
  · rename_i x
    obtain ⟨x', rfl, r1⟩ := i_one r
    have hz := newL_len e
    rw [List.length_map] at hz
    refine ⟨_, list_of_str hc x (by simpa [Str.length] using hz), by rw [i_str r1], fun l hl => newL_ok S ?_ e q hl⟩
    generalize x.cps.toList = l
    induction l with
    | nil => exact .nil
    | cons c r ih => exact .cons (.str _) ih
  · rename_i v _
    obtain ⟨x', rfl, r1⟩ := i_one r
    cases v with
    | tup ys =>
      simp only [seqOf, Option.bind_some] at e
      obtain ⟨a, ws, rfl, ha, rs⟩ := i_tup r1
      exact ⟨_, call_list_of, a, ws, rfl, .inr (hK ▸ ha), fun l hl => newL_ok S rs e q hl⟩
    | ref n =>
      obtain ⟨rfl, hn⟩ := i_ref r1
      cases e1 : seqOf h (.ref n) with
      | none => rw [e1] at e; cases e
      | some ys =>
        rw [e1] at e
        obtain ⟨ws, h1, rs⟩ := Sim.seq S e1
        exact ⟨_, call_list_of, M n, ws, rfl, .inl (hK ▸ h1), fun l hl => newL_ok S rs e q hl⟩
    | _ => cases e
  · rename_i v
    obtain ⟨x', rfl, r1⟩ := i_one r
    cases v with
    | tup ys =>
      simp only [seqOf, Option.map_some] at e
      cases e
      obtain ⟨a, ws, rfl, ha, rs⟩ := i_tup r1
      exact ⟨_, call_tuple_of, a, ws, rfl, .inr ⟨hK ▸ ha, q M _ H Le.refl S r1⟩⟩
    | ref n =>
      obtain ⟨rfl, hn⟩ := i_ref r1
      cases e1 : seqOf h (.ref n) with
      | none => rw [e1] at e; cases e
      | some ys =>
        rw [e1] at e
        cases e
        obtain ⟨ws, h1, rs⟩ := Sim.seq S e1
        refine ⟨_, call_tuple_of, M n, ws, rfl, .inl ⟨hK ▸ h1, fun l hl => ?_⟩⟩
        have L : Le C M h.length H M h.length (upd H l (.tup ws)) := Le.new hl
        exact q M _ _ L (S.new hl) (.tup (.of upd_same) (rs.le L))
    | _ => cases e
  · cases e
/-! ## methods, subscripts -/
def rMt (C : Cc) (m : Mt) : V → List V → Hp → VK → Prop := fun x xs H Q => ∃ M h v vs p, Sim C M h H ∧ Rep C.K M h.length H v x ∧ Reps C.K M h.length H vs xs ∧ mtV m h v vs = some p ∧ ∀ M' z H', Le C M h.length H M' p.2.length H' → Sim C M' p.2 H' → Rep C.K M' p.2.length H' p.1 z → Q z H'
def Mt.id : Mt → String
  | .append => "list.append" | .pop => "list.pop" | .popAt => "list.pop"
theorem mt_by {m : Mt} (hh : ∀ (M : Nat → Addr) (h : AH) (H : Hp) (v : Val) (vs : List Val) (x : V) (xs : List V) (p : Val × AH) (Q : VK), Sim C M h H → Rep C.K M h.length H v x → Reps C.K M h.length H vs xs → mtV m h v vs = some p →
    (∀ M' z H', Le C M h.length H M' p.2.length H' → Sim C M' p.2 H' → Rep C.K M' p.2.length H' p.1 z → Q z H') → ∃ r, MtR X m.id r ∧ r x xs H Q) : MtR X m.id (rMt C m) := fun pins s σ H x xs v us Q I rx r ⟨M, h, v', vs, p, S, r0, r1, e, q⟩ => by
  obtain ⟨r2, hc, hr⟩ := hh M h H v' vs x xs p Q S r0 r1 e q
  exact hc pins s σ H x xs v us Q I rx r hr
theorem mt_ok (m : Mt) : MtR X m.id (rMt C m) := mt_by fun M h H v vs x xs p Q S r0 r e q => by
  unfold mtV at e
  split at e
  · rename_i n w
    obtain ⟨rfl, hn⟩ := i_ref r0
    obtain ⟨y, rfl, r1⟩ := i_one r
    cases e0 : h[n]? with
    | none => rw [e0] at e; cases e
    | some o =>
      rw [e0] at e
      cases o <;> simp only [reduceCtorEq] at e
      rename_i ys
      split at e
      · cases e
        obtain ⟨ws, h1, rs⟩ := Sim.lst S e0
        have hz := rs.length
        have L : Le C M h.length H M (h.set n (.lst (ys ++ [w]))).length (upd H (M n) (.lst (ws ++ [y]))) := Le.write S e0
        refine ⟨_, mt_append, M n, ws, y, rfl, rfl, h1, by omega, q M _ _ L (S.write e0 ⟨_, upd_same, ?_⟩) .non⟩
        have := (rs.append (.cons r1 .nil)).le L
        rwa [List.length_set] at this
      · cases e
  · rename_i n
    obtain ⟨rfl, hn⟩ := i_ref r0
    cases r
    cases e0 : h[n]? with
    | none => rw [e0] at e; cases e
    | some o =>
      rw [e0] at e
      cases o <;> simp only [reduceCtorEq] at e
      rename_i ys
      cases e1 : ys[ys.length - 1]? with
      | none => rw [e1] at e; cases e
      | some y =>
        rw [e1] at e
        cases e
        obtain ⟨ws, h1, rs⟩ := Sim.lst S e0
        obtain ⟨z, hz, rz⟩ := rs.get e1
        have L : Le C M h.length H M (h.set n (.lst ys.dropLast)).length (upd H (M n) (.lst ws.dropLast)) := Le.write S e0
        refine ⟨_, mt_pop, M n, ws, z, rfl, rfl, h1, by rw [← rs.length]; exact hz, q M _ _ L (S.write e0 ⟨_, upd_same, ?_⟩) (rz.le L)⟩
        have := rs.dropLast.le L
        rwa [List.length_set] at this
  · rename_i n i
    obtain ⟨rfl, hn⟩ := i_ref r0
    obtain ⟨y, rfl, r1⟩ := i_one r
    have := i_int r1
    subst this
    cases e0 : h[n]? with
    | none => rw [e0] at e; cases e
    | some o =>
      rw [e0] at e
      cases o <;> simp only [reduceCtorEq] at e
      rename_i ys
      split at e
      · rename_i hi
        cases e2 : seqIndex? i ys.length with
        | none => rw [e2] at e; cases e
        | some k =>
          rw [e2] at e
          simp only [Option.bind_some] at e
          cases e1 : ys[k]? with
          | none => rw [e1] at e; cases e
          | some y =>
            rw [e1] at e
            cases e
            obtain ⟨ws, h1, rs⟩ := Sim.lst S e0
            obtain ⟨z, hz, rz⟩ := rs.get e1
            have L : Le C M h.length H M (h.set n (.lst (ys.eraseIdx k))).length (upd H (M n) (.lst (ws.eraseIdx k))) := Le.write S e0
            refine ⟨_, mt_popAt, M n, ws, i, k, z, rfl, rfl, h1, hi.1, hi.2, by rw [← rs.length]; exact e2, hz, q M _ _ L (S.write e0 ⟨_, upd_same, ?_⟩) (rz.le L)⟩
            have := (rs.eraseIdx k).le L
            rwa [List.length_set] at this
      · cases e
  · cases e
theorem atI_reps {M : Nat → Addr} {n : Nat} {H : Hp} {xs : List Val} {vs : List V} {i : Int} {v : Val} (r : Reps C.K M n H xs vs) (e : atI xs i = some v) : ∃ x, atI vs i = some x ∧ Rep C.K M n H v x := by
  unfold atI at e ⊢
  rw [← r.length]
  cases e1 : ixN xs.length i with
  | none => rw [e1] at e; cases e
  | some j =>
    rw [e1] at e
    exact r.get e
def rIxD (C : Cc) : R2 := fun x y H Q => ∃ M h vx vy v, Sim C M h H ∧ Rep C.K M h.length H vx x ∧ Rep C.K M h.length H vy y ∧ ixV h vx vy = some v ∧ ∀ z, Rep C.K M h.length H v z → Q z H
theorem ix_ok (hK : C.K = X.K) : IxR X (rIxD C) := fun value slice pins s σ H x y v u Q I rx ry ⟨M, h, vx, vy, w, S, r1, r2, e, q⟩ hs => by
  unfold ixV at e
  split at e
  · split at e
    · rename_i z i hz
      cases e1 : atI z.cps.toList i with
      | none => rw [e1] at e; cases e
      | some c =>
        rw [e1] at e
        cases e
        exact ix_str value slice pins s σ H x y v u Q I rx ry ⟨z, i, c, i_str r1, i_int r2, hz, e1, q _ (.str _)⟩ hs
    · cases e
  · rename_i xs i
    obtain ⟨a, vs, rfl, ha, rs⟩ := i_tup r1
    obtain ⟨z, hz, rz⟩ := atI_reps rs e
    exact ix_tup value slice pins s σ H _ y v u Q I rx ry ⟨a, vs, i, z, rfl, i_int r2, hK ▸ ha, hz, q z rz⟩ hs
  · rename_i n i
    obtain ⟨rfl, hn⟩ := i_ref r1
    cases e1 : seqOf h (.ref n) with
    | none => rw [e1] at e; cases e
    | some xs =>
      rw [e1] at e
      obtain ⟨vs, h1, rs⟩ := Sim.seq S e1
      obtain ⟨z, hz, rz⟩ := atI_reps rs e
      exact ix_list value slice pins s σ H _ y v u Q I rx ry ⟨M n, vs, i, z, rfl, i_int r2, hK ▸ h1, hz, q z rz⟩ hs
  · cases e
theorem cut_reps {M : Nat → Addr} {n : Nat} {H : Hp} {xs : List Val} {vs : List V} (lo hi : Option Int) (r : Reps C.K M n H xs vs) : Reps C.K M n H (cutL xs lo hi) (cutV vs lo hi) := by
  unfold cutL cutV
  rw [← r.length]
  exact (r.drop _).take _
def rSlD (C : Cc) : V → Option Int → Option Int → Hp → VK → Prop := fun x lo hi H Q => ∃ M h v p, Sim C M h H ∧ Rep C.K M h.length H v x ∧ slV h v lo hi = some p ∧ ∀ M' z H', Le C M h.length H M' p.2.length H' → Sim C M' p.2 H' → Rep C.K M' p.2.length H' p.1 z → Q z H'
theorem sl_ok (hK : C.K = X.K) : L2.SlR X (rSlD C) := fun pins s σ H x v vl vu lo hi sl Q I rx hs pl pu ⟨M, h, vx, p, S, r1, e, q⟩ => by
  unfold slV at e
  split at e
  · split at e
    · cases e
      exact sl_str pins s σ H x v vl vu lo hi sl Q I rx hs pl pu ⟨_, i_str r1, by assumption, q M _ H Le.refl S (.str _)⟩
    · cases e
  · rename_i xs
    cases e
    obtain ⟨a, vs, rfl, ha, rs⟩ := i_tup r1
    refine sl_tupA pins s σ H _ v vl vu lo hi sl Q I rx hs pl pu ⟨a, vs, rfl, hK ▸ ha, fun w => ?_, fun _ p hp => ?_⟩
    · have : cutL xs lo hi = xs := by
        unfold cutL
        rw [rs.length, w.1, w.2, ← rs.length]
        simp
      simp only [this] at q
      exact q M _ H Le.refl S r1
    · have L : Le C M h.length H M h.length (upd H p (.tup (cutV vs lo hi))) := Le.new hp
      exact q M _ _ L (S.new hp) (.tup (.of upd_same) ((cut_reps lo hi rs).le L))
  · rename_i n
    obtain ⟨rfl, hn⟩ := i_ref r1
    cases e1 : seqOf h (.ref n) with
    | none => rw [e1] at e; cases e
    | some xs =>
      rw [e1] at e
      obtain ⟨vs, h1, rs⟩ := Sim.seq S e1
      exact sl_list pins s σ H _ v vl vu lo hi sl Q I rx hs pl pu ⟨M n, vs, rfl, hK ▸ h1, fun p hp => newL_ok S (cut_reps lo hi rs) e q hp⟩
  · cases e
/-- o[i] = v -/
def rSetD (C : Cc) : TSet := fun o i v H Q => ∃ M h vo vi vv h', Sim C M h H ∧ Rep C.K M h.length H vo o ∧ Rep C.K M h.length H vi i ∧ Rep C.K M h.length H vv v ∧ setV h vo vi vv = some h' ∧ ∀ M' H', Le C M h.length H M' h'.length H' → Sim C M' h' H' → Q H'
theorem set_ok : PSet X (rSetD C) := fun pins s σ H o i v ov iv u Q I ro ri rv ⟨M, h, vo, vi, vv, h', S, r1, r2, r3, e, q⟩ => by
  unfold setV at e
  split at e
  · rename_i n k
    obtain ⟨rfl, hn⟩ := i_ref r1
    cases e0 : h[n]? with
    | none => rw [e0] at e; cases e
    | some o =>
      rw [e0] at e
      cases o <;> simp only [reduceCtorEq] at e
      rename_i ys
      cases e1 : ixN ys.length k with
      | none => rw [e1] at e; cases e
      | some j =>
        rw [e1] at e
        cases e
        obtain ⟨ws, h1, rs⟩ := Sim.lst S e0
        have L : Le C M h.length H M (h.set n (.lst (ys.set j vv))).length (upd H (M n) (.lst (ws.set j v))) := Le.write S e0
        refine set_list pins s σ H _ i v ov iv u Q I ro ri rv ⟨M n, ws, k, j, rfl, i_int r2, h1, by rw [← rs.length]; exact e1, q M _ L (S.write e0 ⟨_, upd_same, ?_⟩)⟩
        have := (rs.set r3 j).le L
        rwa [List.length_set] at this
  · cases e
end
end MP
set_option Elab.async false
set_option linter.all false
set_option maxRecDepth 100000
set_option maxHeartbeats 1000000
namespace MP
open PySem PySem.Spec PyProof.Rows L2
/-! ## forms of the text -/
def noStar : Expr → Bool
  | .Starred .. => false
  | _ => true
def noSuper : Expr → Bool
  | .Call (.Name ..) [] [] _ => false
  | _ => true
def noSlice : Expr → Bool
  | .Slice .. => false
  | _ => true
def noSet : Expr → Bool
  | .Set .. => false
  | _ => true
def plainT : Expr → Bool
  | .UnaryOp .Not .. | .BoolOp .. | .IfExp .. | .Compare .. => false
  | _ => true
theorem star_ok {e : Expr} {es : List Expr} {env : PySem.Env} (h : noStar e = true) : starEach (e :: es) env = (false, eval e env) :: starEach es env := by
  cases e <;> first | rfl | (simp [noStar] at h)
theorem base_ok {e : Expr} {f : Str} {env : PySem.Env} {w : Sem Value} (h : noSuper e = true) : attributeBase e f env w = w := by
  cases e with
  | Call fn as ks p =>
    cases fn <;> first | rfl | skip
    cases as <;> first | rfl | skip
    cases ks <;> first | rfl | skip
    simp [noSuper] at h
  | _ => rfl
theorem ix_plain {b : Expr} (h : noSlice b = true) : PlainIx b := fun o i => by
  cases b <;> first | rfl | (simp [noSlice] at h)
theorem set_plain {e : Expr} {env : PySem.Env} (h : noSet e = true) (x : Value) : foldedSetIterable e env x = pure x := by
  cases e <;> first | rfl | (simp [noSet] at h)
theorem truth_plain {e : Expr} {env : PySem.Env} (h : plainT e = true) : ∀ whole, isTrue e env whole = (do let v ← whole; standAt e.pos; holding [v] (truthy v)) := by
  cases e with
  | UnaryOp op a p => cases op <;> first | (intro _; rfl) | (simp [plainT] at h)
  | _ => first | (intro _; rfl) | (simp [plainT] at h)
theorem mark_ok {op : CmpOp} {b : Expr} (h : noSet b = true) : behindInMarks op b = false := by
  cases b <;> first | rfl | (simp [noSet] at h)
theorem stars_ok {env : PySem.Env} {pos : Pos} : ∀ {es : List Expr}, es.all noStar = true → (backTo pos (starEach es env)).any (·.1) = false
  | [], _ => rfl
  | e :: es, h => by
    rw [List.all_cons, Bool.and_eq_true] at h
    rw [star_ok h.1]
    show (false || (backTo pos (starEach es env)).any (·.1)) = false
    rw [stars_ok h.2] <;> rfl
end MP
set_option Elab.async false
set_option linter.all false
set_option maxRecDepth 100000
set_option maxHeartbeats 2000000
namespace MP
open PySem PySem.Spec PyProof.Rows L2
/-! ## the text is what the evaluator takes -/
def visB (sc : Scope) (x : Str) : Bool := (match sc.names.lookup x with
  | some .local => true
  | some .cell => true
  | some .free => true
  | _ => false) && (!(x == ("__debug__" : Str)) && !(x == ("__classdict__" : Str)))
def glB (sc : Scope) (x : Str) : Bool := decide (sc.names.lookup x = some .globalImplicit) && !(x == ("__debug__" : Str))
def cstB : Val → Const → Bool
  | .non, .none => true
  | .bl a, .bool b => a == b
  | .int i, .int j => decide (i = j)
  | .str x, .str y => decide (x = y)
  | _, _ => false
instance : DecidableEq CmpOp := fun a b => by cases a <;> cases b <;> first | exact .isTrue rfl | exact .isFalse nofun
instance : DecidableEq Operator := fun a b => by cases a <;> cases b <;> first | exact .isTrue rfl | exact .isFalse nofun
def kwNames (kws : List Keyword) : List Str := kws.filterMap fun z => z.arg
def tyB (sc : Scope) (t : Ty) : Expr → Bool
  | .Name x _ => decide (x = Str.ofString t.name) && glB sc x
  | _ => false
def tysL (sc : Scope) : List Ty → List Expr → Bool
  | [], [] => true
  | t :: ts, e :: es => tyB sc t e && tysL sc ts es
  | _, _ => false
def tysB (sc : Scope) (ts : List Ty) : Expr → Bool
  | .Name x p => (match ts with
    | [t] => tyB sc t (.Name x p)
    | _ => false)
  | .Tuple es _ _ => decide (ts.length < 100) && tysL sc ts es
  | _ => false
def locB (sc : Scope) (x : Str) : Bool := decide (sc.names.lookup x = some .local) || decide (sc.names.lookup x = some .cell)
def tgL (sc : Scope) (N : List Str) : List Nat → List Expr → Bool
  | [], [] => true
  | i :: is, .Name x _ :: es => (decide (N[i]? = some x) && locB sc x) && tgL sc N is es
  | _, _ => false
/-- a target: a name, a tuple of names -/
def tgB (sc : Scope) (N : List Str) (is : List Nat) : Expr → Bool
  | .Name x p => decide (is.length = 1) && tgL sc N is [.Name x p]
  | .Tuple es _ _ => decide (is.length ≠ 1) && tgL sc N is es
  | _ => false
def tup2 : Expr → Bool
  | .Tuple .. => true
  | _ => false
def E.isYes : E → Bool
  | .cst (.bl true) => true
  | _ => false
mutual
def chkE (P : Prg) (sc : Scope) (N : List Str) : E → Expr → Bool
  | .var i, .Name x _ => decide (N[i]? = some x) && visB sc x
  | .cst v, .Constant c _ _ => cstB v c
  | .glo i, .Name x _ => (match P.cs[i]? with
    | some p => decide (p.1 = x)
    | none => false) && glB sc x
  | .bin op a b, .BinOp l o r _ => decide (op = o) && (chkE P sc N a l && chkE P sc N b r)
  | .neg a, .UnaryOp .USub e _ => chkE P sc N a e
  | .not a, .UnaryOp .Not e _ => chkE P sc N a e
  | .and a b, .BoolOp .And (x :: y :: r) p => chkE P sc N a x && (if r.isEmpty = true then chkE P sc N b y else chkE P sc N b (.BoolOp .And (y :: r) p))
  | .or a b, .BoolOp .Or (x :: y :: r) p => chkE P sc N a x && (if r.isEmpty = true then chkE P sc N b y else chkE P sc N b (.BoolOp .Or (y :: r) p))
  | .cmp op a b, .Compare l [o] [r] _ => decide (op = o) && (noSet r && (chkE P sc N a l && chkE P sc N b r))
  | .chain op op' a b c, .Compare l [o, o'] [r, r'] _ => decide (op = o) && (decide (op' = o') && (noSet r && (noSet r' && (chkE P sc N a l && (chkE P sc N b r && chkE P sc N c r')))))
  | .ife c a b, .IfExp t x y _ => chkE P sc N c t && (chkE P sc N a x && chkE P sc N b y)
  | .call f as, .Call (.Name x _) es [] _ => (match P.fns[f]? with
    | some fd => decide (fd.name = x)
    | none => false) && (glB sc x && (es.all noStar && chkEs P sc N as es))
  | .callk f as ks perm, .Call (.Name x _) es kws _ => (match P.fns[f]? with
    | some fd => decide (fd.name = x) && fd.kws.contains (es.length, kwNames kws, perm)
    | none => false) && (glB sc x && (es.all noStar && (kws.all (fun z => z.arg.isSome) && (chkEs P sc N as es && chkEs P sc N ks (kws.map fun z => z.value)))))
  | .isin a tys, .Call (.Name x _) [e, t] [] _ => decide (x = ("isinstance" : Str)) && (glB sc x && (noStar e && (chkE P sc N a e && tysB sc tys t)))
  | .bt b as, .Call (.Name x _) es [] _ => decide (b.name = x) && (glB sc x && (es.all noStar && (!es.isEmpty && chkEs P sc N as es)))
  | .mt m o as, .Call (.Attribute e x ap) es [] cp => decide (m.name = x) && (noSuper e && (decide (es.length < 29) && ((ap.endLine == cp.line) && (es.all noStar && (chkE P sc N o e && chkEs P sc N as es)))))
  | .ix a b, .Subscript e i _ => noSlice i && (chkE P sc N a e && chkE P sc N b i)
  | .sl a lo hi, .Subscript e (.Slice l u none _) _ => chkE P sc N a e && ((match l with
      | none => lo.isNope
      | some l => !lo.isNope && chkE P sc N lo l) && (match u with
      | none => hi.isNope
      | some u => !hi.isNope && chkE P sc N hi u))
  | .rev a, .Subscript e (.Slice none none (some (.UnaryOp .USub (.Constant (.int 1) _ _) _)) _) _ => chkE P sc N a e
  | .tup as, .Tuple es _ _ => es.all noStar && chkEs P sc N as es
  | .lst as, .List es _ => es.all noStar && chkEs P sc N as es
  | .comp own tg it c e, .ListComp elt [⟨t, iter, ifs, asy⟩] scope _ => decide (asy = 0) && (blkC N sc scope own && (tg.all (fun i => (own.map (·.2)).contains i) && (tgB scope N tg t && (noSet iter && (chkI P sc N it t iter && ((match ifs with
      | [] => c.isYes
      | [f] => chkE P (relS scope sc) N c f
      | _ => false) && chkE P (relS scope sc) N e elt))))))
  | _, _ => false
def chkEs (P : Prg) (sc : Scope) (N : List Str) : Es → List Expr → Bool
  | .nil, [] => true
  | .cons a as, e :: es => chkE P sc N a e && chkEs P sc N as es
  | _, _ => false
def chkI (P : Prg) (sc : Scope) (N : List Str) : It → Expr → Expr → Bool
  | .seq e, _, x => chkE P sc N e x
  | .rng1 a, _, .Call (.Name x _) [ea] [] _ => decide (x = ("range" : Str)) && (glB sc x && (noStar ea && chkE P sc N a ea))
  | .rng2 a b, _, .Call (.Name x _) [ea, eb] [] _ => decide (x = ("range" : Str)) && (glB sc x && (noStar ea && (noStar eb && (chkE P sc N a ea && chkE P sc N b eb))))
  | .rng3 a b c, _, .Call (.Name x _) [ea, eb, ec] [] _ => decide (x = ("range" : Str)) && (glB sc x && (noStar ea && (noStar eb && (noStar ec && (chkE P sc N a ea && (chkE P sc N b eb && chkE P sc N c ec))))))
  | .enm e, t, .Call (.Name x _) [ea] [] _ => tup2 t && (decide (x = ("enumerate" : Str)) && (glB sc x && (noStar ea && chkE P sc N e ea)))
  | .zip a b, t, .Call (.Name x _) [ea, eb] [] _ => tup2 t && (decide (x = ("zip" : Str)) && (glB sc x && (noStar ea && (noStar eb && (chkE P sc N a ea && chkE P sc N b eb)))))
  | _, _, _ => false
end
/-! ## what a def's body may lean on -/
def spD (C : Cc) (φ : Nat → List Val → AH → Res Val) (np f : Nat) : Sp := fun vs H Q E => ∃ M args h, Sim C M h H ∧ Reps C.K M h.length H args vs ∧ args.length = np ∧ Cov (rV C) C E M h H (φ f args h) Q
/-- a def that may be called -/
structure FnU (P : Program) (w : World) (K : PySem.W.Frag) (mg : Str → Option Value) (base : Heap) (C : Cc) (φ : Nat → List Val → AH → Res Val) (k f : Nat) (fd : FD) : Prop where
  ex : ∃ (a : Addr) (fu : FuncData) (ps : List Str), mg fd.name = some (.ref a) ∧ PySem.W.keepIn K (.ref a) = true ∧ ps.length = fd.np ∧ FnOk P w K mg base (L2.CX P w) k a fu ps (spD C φ fd.np f) ∧
    (∀ j, j ≤ fd.dfl.length → ∃ (dvs : List V) (ds : List Value), (∀ M n H, Reps C.K M n H (fd.dfl.drop j) dvs) ∧ Vals dvs ds ∧ Binds K fu ps ds) ∧
    (∀ n ks perm, (n, ks, perm) ∈ fd.kws → ∀ (s : Shared) (us ws vs : List Value), us.length = n → ws.length = ks.length → (permL perm (us ++ ws) = some vs → BindsTo s fu ⟨us, ks.zip ws⟩ (ps.zip vs))) ∧
    (ps = fd.N.take fd.np ∧ (fd.dfl = [] → ∀ (s : Shared) (us : List Value), us.length = ps.length → BindsTo s fu ⟨us, []⟩ (ps.zip us)))
/-- the built-in names that a text may use -/
def bltns : List Str := ["len", "int", "bool", "abs", "all", "any", "sum", "min", "max", "list", "tuple", "str", "dict", "set", "sorted", "isinstance", "range", "enumerate", "zip"]
structure XOk (P : Prg) (C : Cc) (φ : Nat → List Val → AH → Res Val) (sc : Scope) (N : List Str) (k : Nat) (E : XK) (X : Cx) : Prop where
  hK : C.K = X.K
  hN : X.N = N
  nd : N.Nodup
  hsc : X.env.scope = sc
  calm : X.calm = true
  room : Room k X.A
  pass : Passes (L2.CX X.prog X.w) X E
  fns : ∀ f fd, P.fns[f]? = some fd → FnU X.prog X.w X.K X.mg X.base C φ k f fd
  free : ∀ x ∈ bltns, X.mg x = none
  cs : ∀ (i : Nat) (c : Str × Val), P.cs[i]? = some c → ∃ y u, X.mg c.1 = some u ∧ RelV y u ∧ ∀ M n H, Rep C.K M n H c.2 y
end MP
set_option Elab.async false
set_option linter.all false
set_option maxRecDepth 100000
set_option maxHeartbeats 2000000
namespace MP
open PySem PySem.Spec PyProof.Rows L2
/-! ## one rule a construct -/
section
variable {X : Cx} {C : Cc} {E : XK} {a b c : Expr} {fa fb fc : Slots → AH → Res Val} {pos : Pos} {rest : List Expr}
/-- a value's truth -/
def tf (f : Slots → AH → Res Val) : Slots → AH → Res Bool := fun ρ h => (f ρ h).bind fun x h1 => liftO h1 (truth h1 x)
theorem d_neg (ha : PE X a (tD C E fa)) : PE X (.UnaryOp .USub a pos) (tD C E fun ρ h => (fa ρ h).bind fun x h1 => (match x with
    | .int i => .ok (.int (-i)) h1
    | _ => .bad)) :=
  wkE (pe_un un_neg ha) fun σ H Q ⟨M, ρ, h, S, sl, c⟩ => ⟨M, ρ, h, S, sl, (Cov.bind (rel := rV C) c).mono fun x H1 ⟨M1, v, h1, _, L1, S1, r1, c1⟩ => by
    cases v with
    | int i => exact ⟨i, i_int r1, Cov.ok c1 S1 (.int _)⟩
    | _ => exact c1.elim⟩
theorem d_not (hK : C.K = X.K) (ha : PE X a (tD C E fa)) : PE X (.UnaryOp .Not a pos) (tD C E fun ρ h => (fa ρ h).bind fun x h1 => (match truth h1 x with
    | some b => .ok (.bl (!b)) h1
    | none => .bad)) :=
  wkE (pe_notT ha) fun σ H Q ⟨M, ρ, h, S, sl, c⟩ => ⟨M, ρ, h, S, sl, (Cov.bind (rel := rV C) c).mono fun x H1 ⟨M1, v, h1, _, L1, S1, r1, c1⟩ => by
    cases e : truth h1 v with
    | none => rw [e] at c1; exact c1.elim
    | some b =>
      rw [e] at c1
      exact ⟨b, hK ▸ truth_ok S1 r1 e, Cov.ok c1 S1 (.bl _)⟩⟩
theorem d_and (hK : C.K = X.K) (ha : PE X a (tD C E fa)) (hb : PE X (.BoolOp .And (b :: rest) pos) (tD C E fb)) : PE X (.BoolOp .And (a :: b :: rest) pos) (tD C E fun ρ h => (fa ρ h).bind fun x h1 => (match truth h1 x with
    | some true => fb ρ h1
    | some false => .ok x h1
    | none => .bad)) :=
  wkE (pe_andT ha hb) fun σ H Q ⟨M, ρ, h, S, sl, c⟩ => ⟨M, ρ, h, S, sl, (Cov.bind (rel := rV C) c).mono fun x H1 ⟨M1, v, h1, _, L1, S1, r1, c1⟩ => by
    cases e : truth h1 v with
    | none => rw [e] at c1; exact c1.elim
    | some k =>
      rw [e] at c1
      refine ⟨k, hK ▸ truth_ok S1 r1 e, ?_⟩
      cases k with
      | true => exact iteT ⟨M1, ρ, h1, S1, sl.go L1, c1⟩
      | false => exact iteF (Cov.ok c1 S1 r1)⟩
theorem d_or (hK : C.K = X.K) (ha : PE X a (tD C E fa)) (hb : PE X (.BoolOp .Or (b :: rest) pos) (tD C E fb)) : PE X (.BoolOp .Or (a :: b :: rest) pos) (tD C E fun ρ h => (fa ρ h).bind fun x h1 => (match truth h1 x with
    | some true => .ok x h1
    | some false => fb ρ h1
    | none => .bad)) :=
  wkE (pe_orT ha hb) fun σ H Q ⟨M, ρ, h, S, sl, c⟩ => ⟨M, ρ, h, S, sl, (Cov.bind (rel := rV C) c).mono fun x H1 ⟨M1, v, h1, _, L1, S1, r1, c1⟩ => by
    cases e : truth h1 v with
    | none => rw [e] at c1; exact c1.elim
    | some k =>
      rw [e] at c1
      refine ⟨k, hK ▸ truth_ok S1 r1 e, ?_⟩
      cases k with
      | true => exact iteT (Cov.ok c1 S1 r1)
      | false => exact iteF ⟨M1, ρ, h1, S1, sl.go L1, c1⟩⟩
/-- tests -/
theorem t_plain (hK : C.K = X.K) (ha : PE X a (tD C E fa)) (hp : plainT a = true) : PT X a (tDT C E (tf fa)) :=
  wkT (pt_truth ha (truth_plain hp)) fun σ H Q ⟨M, ρ, h, S, sl, c⟩ => ⟨M, ρ, h, S, sl, (Cov.bind (rel := rV C) c).mono fun x H1 ⟨M1, v, h1, _, L1, S1, r1, c1⟩ => by
    cases e : truth h1 v with
    | none => rw [e] at c1; exact c1.elim
    | some k =>
      rw [e] at c1
      exact ⟨k, hK ▸ truth_ok S1 r1 e, Cov.ok c1 S1 rfl⟩⟩
theorem tf_eq {f : Slots → AH → Res Val} {ρ : Slots} {h : AH} : tf f ρ h = (f ρ h).bind fun x h1 => liftO h1 (truth h1 x) := rfl
theorem bind_assoc' {α β γ : Type} (r : Res α) (f : α → AH → Res β) (g : β → AH → Res γ) : (r.bind f).bind g = r.bind fun x h => (f x h).bind g := by cases r <;> rfl
theorem t_not (ha : PT X a (tDT C E (tf fa))) : PT X (.UnaryOp .Not a pos) (tDT C E (tf fun ρ h => (fa ρ h).bind fun x h1 => (match truth h1 x with
    | some b => .ok (.bl (!b)) h1
    | none => .bad))) :=
  wkT (pt_not ha) fun σ H Q ⟨M, ρ, h, S, sl, c⟩ => ⟨M, ρ, h, S, sl, by
    simp only [tf] at c ⊢
    cases e : fa ρ h with
    | bad => rw [e] at c; exact c
    | exc k v h1 => rw [e] at c; exact c
    | ok v h1 =>
      rw [e] at c
      simp only [Res.bind] at c ⊢
      cases e2 : truth h1 v with
      | none => rw [e2] at c; exact c
      | some k =>
        rw [e2] at c
        simp only [Res.bind, truth, liftO] at c ⊢
        exact fun M' x H' L S q => c M' (!x) H' L S (by rw [← show k = x from q])⟩
/-- tests of and, or: whole chains -/
theorem w_and (ha : PT X a (tDT C E (tf fa))) (hb : PW X (.BoolOp .And (b :: rest) pos) (tDT C E (tf fb))) : PW X (.BoolOp .And (a :: b :: rest) pos) (tDT C E (tf fun ρ h => (fa ρ h).bind fun x h1 => (match truth h1 x with
    | some true => fb ρ h1
    | some false => .ok x h1
    | none => .bad))) :=
  wkW (pw_and ha hb) fun σ H Q ⟨M, ρ, h, S, sl, c⟩ => ⟨M, ρ, h, S, sl, by
    simp only [tf] at c ⊢
    cases e : fa ρ h with
    | bad => rw [e] at c; exact c
    | exc k v h1 => rw [e] at c; exact c
    | ok v h1 =>
      rw [e] at c
      simp only [Res.bind] at c ⊢
      cases e2 : truth h1 v with
      | none => rw [e2] at c; exact c
      | some k =>
        rw [e2] at c
        intro M1 x H1 L1 S1 q
        cases (show k = x from q)
        cases k with
        | true => exact iteT ⟨M1, ρ, h1, S1, sl.go L1, Cov.back L1 c⟩
        | false =>
          simp only [e2, liftO] at c
          exact iteF (c M1 false H1 L1 S1 rfl)⟩
theorem w_or (ha : PT X a (tDT C E (tf fa))) (hb : PW X (.BoolOp .Or (b :: rest) pos) (tDT C E (tf fb))) : PW X (.BoolOp .Or (a :: b :: rest) pos) (tDT C E (tf fun ρ h => (fa ρ h).bind fun x h1 => (match truth h1 x with
    | some true => .ok x h1
    | some false => fb ρ h1
    | none => .bad))) :=
  wkW (pw_or ha hb) fun σ H Q ⟨M, ρ, h, S, sl, c⟩ => ⟨M, ρ, h, S, sl, by
    simp only [tf] at c ⊢
    cases e : fa ρ h with
    | bad => rw [e] at c; exact c
    | exc k v h1 => rw [e] at c; exact c
    | ok v h1 =>
      rw [e] at c
      simp only [Res.bind] at c ⊢
      cases e2 : truth h1 v with
      | none => rw [e2] at c; exact c
      | some k =>
        rw [e2] at c
        intro M1 x H1 L1 S1 q
        cases (show k = x from q)
        cases k with
        | true =>
          simp only [e2, liftO] at c
          exact iteT (c M1 true H1 L1 S1 rfl)
        | false => exact iteF ⟨M1, ρ, h1, S1, sl.go L1, Cov.back L1 c⟩⟩
/-- a if t else b -/
theorem d_ife (hc : PT X c (tDT C E (tf fc))) (ha : PE X a (tD C E fa)) (hb : PE X b (tD C E fb)) : PE X (.IfExp c a b pos) (tD C E fun ρ h => (fc ρ h).bind fun x h1 => (match truth h1 x with
    | some true => fa ρ h1
    | some false => fb ρ h1
    | none => .bad)) :=
  wkE (pe_ifExp hc ha hb) fun σ H Q ⟨M, ρ, h, S, sl, c⟩ => ⟨M, ρ, h, S, sl, by
    dsimp only at c
    simp only [tf]
    cases e : fc ρ h with
    | bad => rw [e] at c; exact c
    | exc k v h1 => rw [e] at c; exact c
    | ok v h1 =>
      rw [e] at c
      simp only [Res.bind] at c ⊢
      cases e2 : truth h1 v with
      | none => rw [e2] at c; exact c
      | some k =>
        rw [e2] at c
        intro M1 x H1 L1 S1 q
        cases (show k = x from q)
        cases k with
        | true => exact iteT ⟨M1, ρ, h1, S1, sl.go L1, Cov.back L1 c⟩
        | false => exact iteF ⟨M1, ρ, h1, S1, sl.go L1, Cov.back L1 c⟩⟩
theorem t_ife (hc : PT X c (tDT C E (tf fc))) (ha : PT X a (tDT C E (tf fa))) (hb : PT X b (tDT C E (tf fb))) : PT X (.IfExp c a b pos) (tDT C E (tf fun ρ h => (fc ρ h).bind fun x h1 => (match truth h1 x with
    | some true => fa ρ h1
    | some false => fb ρ h1
    | none => .bad))) := by
  refine ⟨fun pins s σ H Q I ⟨M, ρ, h, S, sl, c⟩ => isTrue_IfExp ?_⟩
  have go : tDT C E (tf fc) σ H fun k H1 => ∃ M1 h1, Sim C M1 h1 H1 ∧ Le C M h.length H M1 h1.length H1 ∧ (if k = true then Cov rB C E M1 h1 H1 (tf fa ρ h1) Q else Cov rB C E M1 h1 H1 (tf fb ρ h1) Q) := ⟨M, ρ, h, S, sl, by
    simp only [tf] at c ⊢
    cases e : fc ρ h with
    | bad => rw [e] at c; exact c
    | exc k v h1 => rw [e] at c; exact c
    | ok v h1 =>
      rw [e] at c
      simp only [Res.bind] at c ⊢
      cases e2 : truth h1 v with
      | none => rw [e2] at c; exact c
      | some k =>
        rw [e2] at c
        intro M1 x H1 L1 S1 q
        cases (show k = x from q)
        cases k with
        | true => exact ⟨M1, h1, S1, L1, iteT (Cov.back L1 c)⟩
        | false => exact ⟨M1, h1, S1, L1, iteF (Cov.back L1 c)⟩⟩
  refine thn (hc.run pins s σ H _ I go) fun k s1 ⟨H1, I1, M1, h1, S1, L1, q⟩ => ?_
  cases k with
  | true => exact ha.run pins s1 σ H1 Q I1 ⟨M1, ρ, h1, S1, sl.go L1, by simpa using q⟩
  | false => exact hb.run pins s1 σ H1 Q I1 ⟨M1, ρ, h1, S1, sl.go L1, by simpa using q⟩
/-- comparisons -/
theorem cmp_read {op : CmpOp} {σ : L2.St} {H : Hp} {Q : VK} (t : tD C E (fun ρ h => (fa ρ h).bind fun x h1 => (fb ρ h1).bind fun y h2 => liftO h2 ((cmpV op h2 x y).map .bl)) σ H Q) : tOp (rDc C op) (tD C E fa) (tD C E fb) σ H Q := by
  obtain ⟨M, ρ, h, S, sl, c⟩ := t
  refine ⟨M, ρ, h, S, sl, (Cov.bind (rel := rV C) c).mono fun x H1 ⟨M1, v, h1, _, L1, S1, r1, c1⟩ => ?_⟩
  refine ⟨M1, ρ, h1, S1, sl.go L1, (Cov.bind (rel := rV C) c1).mono fun y H2 ⟨M2, w, h2, _, L2, S2, r2, c2⟩ => ?_⟩
  cases e : cmpV op h2 v w with
  | none => rw [e] at c2; exact c2.elim
  | some k =>
    rw [e] at c2
    exact ⟨M2, h2, v, w, k, S2, r1.le L2, r2, e, Cov.ok c2 S2 (.bl _)⟩
theorem d_cmp (hK : C.K = X.K) (hu : X.A.units + 64 < cLine) {op : CmpOp} (ha : PE X a (tD C E fa)) (hb : PE X b (tD C E fb)) (hn : noSet b = true) :
    PE X (.Compare a [op] [b] pos) (tD C E fun ρ h => (fa ρ h).bind fun x h1 => (fb ρ h1).bind fun y h2 => liftO h2 ((cmpV op h2 x y).map .bl)) :=
  wkE (pe_cmpR (op_cmp hK hu op) ha hb (mark_ok hn)) fun _ _ _ => cmp_read
/-- a value that is surely a bool, as a test -/
theorem bool_read {f : Slots → AH → Res Val} (hb : ∀ ρ h v h1, f ρ h = .ok v h1 → ∃ b, v = .bl b) {σ : L2.St} {H : Hp} {Q : Bool → Hp → Prop} (t : tDT C E (tf f) σ H Q) : tD C E f σ H fun x H' => ∃ k, x = .bl k ∧ Q k H' := by
  obtain ⟨M, ρ, h, S, sl, c⟩ := t
  refine ⟨M, ρ, h, S, sl, ?_⟩
  simp only [tf] at c
  cases e : f ρ h with
  | bad => rw [e] at c; exact c
  | exc k v h1 => rw [e] at c; exact c
  | ok v h1 =>
    obtain ⟨b, rfl⟩ := hb ρ h v h1 e
    rw [e] at c
    exact fun M' x H' L S q => ⟨b, i_bl q, c M' b H' L S rfl⟩
theorem cmp_bool {op : CmpOp} {ρ : Slots} {h : AH} {v : Val} {h1 : AH} (e : ((fa ρ h).bind fun x h1 => (fb ρ h1).bind fun y h2 => liftO h2 ((cmpV op h2 x y).map .bl)) = .ok v h1) : ∃ b, v = .bl b := by
  cases e1 : fa ρ h with
  | bad => rw [e1] at e; cases e
  | exc k v h1 => rw [e1] at e; cases e
  | ok x h1 =>
    rw [e1] at e
    simp only [Res.bind] at e
    cases e2 : fb ρ h1 with
    | bad => rw [e2] at e; cases e
    | exc k v h1 => rw [e2] at e; cases e
    | ok y h2 =>
      rw [e2] at e
      simp only at e
      cases e3 : cmpV op h2 x y with
      | none => rw [e3] at e; cases e
      | some k =>
        rw [e3] at e
        cases e
        exact ⟨k, rfl⟩
theorem t_cmp (hK : C.K = X.K) (hu : X.A.units + 64 < cLine) {op : CmpOp} (ha : PE X a (tD C E fa)) (hb : PE X b (tD C E fb)) (hn : noSet b = true) :
    PT X (.Compare a [op] [b] pos) (tDT C E (tf fun ρ h => (fa ρ h).bind fun x h1 => (fb ρ h1).bind fun y h2 => liftO h2 ((cmpV op h2 x y).map .bl))) :=
  wkT (pt_cmpR (op_cmp hK hu op) ha hb (mark_ok hn)) fun σ H Q t => cmp_read (bool_read (fun ρ h v h1 e => cmp_bool e) t)
theorem marks2 {op op' : CmpOp} {b c : Expr} (hb : noSet b = true) (hc : noSet c = true) : lastMarks [op, op'] [b, c] = false := mark_ok hc
theorem chain_read {op op' : CmpOp} {σ : L2.St} {H : Hp} {Q : VK} (t : tD C E (fun ρ h => (fa ρ h).bind fun x h1 => (fb ρ h1).bind fun y h2 => (match cmpV op h2 x y with
    | some true => (fc ρ h2).bind fun z h3 => liftO h3 ((cmpV op' h3 y z).map .bl)
    | some false => .ok (.bl false) h2
    | none => .bad)) σ H Q) : tChain (rDc C op) (rDc C op') (tD C E fa) (tD C E fb) (tD C E fc) σ H Q := by
  obtain ⟨M, ρ, h, S, sl, c⟩ := t
  refine ⟨M, ρ, h, S, sl, (Cov.bind (rel := rV C) c).mono fun x H1 ⟨M1, v, h1, _, L1, S1, r1, c1⟩ => ?_⟩
  refine ⟨M1, ρ, h1, S1, sl.go L1, (Cov.bind (rel := rV C) c1).mono fun y H2 ⟨M2, w, h2, _, L2, S2, r2, c2⟩ => ?_⟩
  cases e : cmpV op h2 v w with
  | none => rw [e] at c2; exact c2.elim
  | some k =>
    rw [e] at c2
    refine ⟨M2, h2, v, w, k, S2, r1.le L2, r2, e, k, rfl, ?_⟩
    cases k with
    | false => exact iteF (Cov.ok c2 S2 (.bl _))
    | true =>
      refine iteT ⟨M2, ρ, h2, S2, (sl.go L1).go L2, (Cov.bind (rel := rV C) c2).mono fun z H3 ⟨M3, u, h3, _, L3, S3, r3, c3⟩ => ?_⟩
      cases e3 : cmpV op' h3 w u with
      | none => rw [e3] at c3; exact c3.elim
      | some k' =>
        rw [e3] at c3
        exact ⟨M3, h3, w, u, k', S3, r2.le L3, r3, e3, Cov.ok c3 S3 (.bl _)⟩
theorem d_chain (hK : C.K = X.K) (hu : X.A.units + 64 < cLine) {op op' : CmpOp} (ha : PE X a (tD C E fa)) (hb : PE X b (tD C E fb)) (hc : PE X c (tD C E fc)) (hn : noSet b = true) (hn' : noSet c = true) :
    PE X (.Compare a [op, op'] [b, c] pos) (tD C E fun ρ h => (fa ρ h).bind fun x h1 => (fb ρ h1).bind fun y h2 => (match cmpV op h2 x y with
    | some true => (fc ρ h2).bind fun z h3 => liftO h3 ((cmpV op' h3 y z).map .bl)
    | some false => .ok (.bl false) h2
    | none => .bad)) :=
  wkE (pe_chain (op_cmp hK hu op) (op_cmp hK hu op') ha hb hc (marks2 hn hn')) fun _ _ _ => chain_read
theorem chain_bool {op op' : CmpOp} {ρ : Slots} {h : AH} {v : Val} {h1 : AH} (e : ((fa ρ h).bind fun x h1 => (fb ρ h1).bind fun y h2 => (match cmpV op h2 x y with
    | some true => (fc ρ h2).bind fun z h3 => liftO h3 ((cmpV op' h3 y z).map .bl)
    | some false => .ok (.bl false) h2
    | none => .bad)) = .ok v h1) : ∃ b, v = .bl b := by
  cases e1 : fa ρ h with
  | bad => rw [e1] at e; cases e
  | exc k v h1 => rw [e1] at e; cases e
  | ok x h1 =>
    rw [e1] at e
    simp only [Res.bind] at e
    cases e2 : fb ρ h1 with
    | bad => rw [e2] at e; cases e
    | exc k v h1 => rw [e2] at e; cases e
    | ok y h2 =>
      rw [e2] at e
      simp only at e
      cases e3 : cmpV op h2 x y with
      | none => rw [e3] at e; cases e
      | some k =>
        rw [e3] at e
        cases k with
        | false => cases e; exact ⟨_, rfl⟩
        | true =>
          simp only at e
          cases e4 : fc ρ h2 with
          | bad => rw [e4] at e; cases e
          | exc k v h1 => rw [e4] at e; cases e
          | ok z h3 =>
            rw [e4] at e
            simp only at e
            cases e5 : cmpV op' h3 y z with
            | none => rw [e5] at e; cases e
            | some k =>
              rw [e5] at e
              cases e
              exact ⟨k, rfl⟩
theorem t_chain (hK : C.K = X.K) (hu : X.A.units + 64 < cLine) {op op' : CmpOp} (ha : PE X a (tD C E fa)) (hb : PE X b (tD C E fb)) (hc : PE X c (tD C E fc)) (hn : noSet b = true) (hn' : noSet c = true) :
    PT X (.Compare a [op, op'] [b, c] pos) (tDT C E (tf fun ρ h => (fa ρ h).bind fun x h1 => (fb ρ h1).bind fun y h2 => (match cmpV op h2 x y with
    | some true => (fc ρ h2).bind fun z h3 => liftO h3 ((cmpV op' h3 y z).map .bl)
    | some false => .ok (.bl false) h2
    | none => .bad))) :=
  wkT (pt_chain (op_cmp hK hu op) (op_cmp hK hu op') ha hb hc (marks2 hn hn')) fun σ H Q t => chain_read (bool_read (fun ρ h v h1 e => chain_bool e) t)
/-! ### argument lists, displays, calls -/
variable {e : Expr} {es : List Expr} {fe : Slots → AH → Res Val} {fs : Slots → AH → Res (List Val)}
theorem d_nil : PA X [] (tDs C E fun _ h => .ok [] h) := wkA pa_nil fun σ H Q ⟨M, ρ, h, S, sl, c⟩ => Cov.ok c S .nil
theorem d_cons (he : PE X e (tD C E fe)) (hs : PA X es (tDs C E fs)) (hn : noStar e = true) : PA X (e :: es) (tDs C E fun ρ h => (fe ρ h).bind fun v h1 => (fs ρ h1).bind fun vs h2 => .ok (v :: vs) h2) :=
  wkA (pa_cons he hs (star_ok hn)) fun σ H Q ⟨M, ρ, h, S, sl, c⟩ => ⟨M, ρ, h, S, sl, (Cov.bind (rel := rV C) c).mono fun x H1 ⟨M1, v, h1, _, L1, S1, r1, c1⟩ =>
    ⟨M1, ρ, h1, S1, sl.go L1, (Cov.bind (rel := rVs C) c1).mono fun xs H2 ⟨M2, vs, h2, _, L2, S2, r2, c2⟩ => Cov.ok c2 S2 (.cons (r1.le L2) r2)⟩⟩
theorem d_tup {k} (hs : PA X es (tDs C E fs)) : PE X (.Tuple es k pos) (tD C E fun ρ h => (fs ρ h).bind fun vs h1 => if vs.length ≤ sizeLine then .ok (.tup vs) h1 else .bad) :=
  wkE (pe_tup hs) fun σ H Q ⟨M, ρ, h, S, sl, c⟩ => ⟨M, ρ, h, S, sl, (Cov.bind (rel := rVs C) c).mono fun xs H1 ⟨M1, vs, h1, _, L1, S1, r1, c1⟩ => by
    split at c1
    · rename_i hz
      refine ⟨by rw [← r1.length]; exact hz, fun p hp => ?_⟩
      have L : Le C M1 h1.length H1 M1 h1.length (upd H1 p (.tup xs)) := Le.new hp
      exact c1 M1 _ _ L (S1.new hp) (.tup (.of upd_same) (r1.le L))
    · exact c1.elim⟩
theorem lift_new {M : Nat → Addr} {h : AH} {H : Hp} {xs : List Val} {vs : List V} {Q : VK} (S : Sim C M h H) (r : Reps C.K M h.length H xs vs) (c : Cov (rV C) C E M h H (lift (newL h xs)) Q) : vs.length ≤ sizeLine ∧ ∀ p, H p = none → Q (.ref p) (upd H p (.lst vs)) := by
  cases e : newL h xs with
  | none => rw [e] at c; exact c.elim
  | some p =>
    rw [e] at c
    have hz := newL_len e
    rw [r.length] at hz
    exact ⟨hz, fun a ha => newL_ok S r e c ha⟩
theorem d_lst (hs : PA X es (tDs C E fs)) : PE X (.List es pos) (tD C E fun ρ h => (fs ρ h).bind fun vs h1 => lift (newL h1 vs)) :=
  wkE (pe_lst hs) fun σ H Q ⟨M, ρ, h, S, sl, c⟩ => ⟨M, ρ, h, S, sl, (Cov.bind (rel := rVs C) c).mono fun xs H1 ⟨M1, vs, h1, _, L1, S1, r1, c1⟩ => lift_new S1 r1 c1⟩
theorem d_ix (hK : C.K = X.K) (ha : PE X a (tD C E fa)) (hb : PE X b (tD C E fb)) (hn : noSlice b = true) : PE X (.Subscript a b pos) (tD C E fun ρ h => (fa ρ h).bind fun x h1 => (fb ρ h1).bind fun y h2 => liftO h2 (ixV h2 x y)) :=
  wkE (pe_ix (ix_ok hK) ha hb (ix_plain hn)) fun σ H Q ⟨M, ρ, h, S, sl, c⟩ => by
    refine ⟨M, ρ, h, S, sl, (Cov.bind (rel := rV C) c).mono fun x H1 ⟨M1, v, h1, _, L1, S1, r1, c1⟩ => ?_⟩
    refine ⟨M1, ρ, h1, S1, sl.go L1, (Cov.bind (rel := rV C) c1).mono fun y H2 ⟨M2, w, h2, _, L2, S2, r2, c2⟩ => ?_⟩
    cases e : ixV h2 v w with
    | none => rw [e] at c2; exact c2.elim
    | some u =>
      rw [e] at c2
      exact ⟨M2, h2, v, w, u, S2, r1.le L2, r2, e, fun z rz => Cov.ok c2 S2 rz⟩
/-- a slice's part -/
theorem d_po {o : Option Expr} {fo : Slots → AH → Res Val} {none_ : Bool} (h0 : none_ = true → o = none) (h1 : none_ = false → ∃ e, o = some e ∧ PE X e (tD C E fo)) :
    ∃ t, PO X o t ∧ ∀ σ H (Q : Option Int → Hp → Prop), tDO C E (fun ρ h => if none_ = true then .ok none h else (fo ρ h).bind intO) σ H Q → t σ H Q := by
  cases none_ with
  | true =>
    rw [h0 rfl]
    exact ⟨_, po_none, fun σ H Q ⟨M, ρ, h, S, sl, c⟩ => Cov.ok (rel := rO) c S rfl⟩
  | false =>
    obtain ⟨e, rfl, he⟩ := h1 rfl
    refine ⟨_, po_some he, fun σ H Q ⟨M, ρ, h, S, sl, c⟩ => ⟨M, ρ, h, S, sl, ?_⟩⟩
    dsimp only at c
    rw [if_neg Bool.false_ne_true] at c
    refine (Cov.bind (rel := rV C) c).mono fun x H1 ⟨M1, v, h1, _, L1, S1, r1, c1⟩ => ?_
    cases v with
    | int i => exact ⟨i, i_int r1, Cov.ok (rel := rO) c1 S1 rfl⟩
    | _ => exact c1.elim
theorem d_sl (hK : C.K = X.K) {lo hi : Option Expr} {fl fh : Slots → AH → Res (Option Int)} {tl th : TO} {p2 : Pos} (ha : PE X a (tD C E fa)) (hl : PO X lo tl) (wl : ∀ σ H (Q : Option Int → Hp → Prop), tDO C E fl σ H Q → tl σ H Q)
    (hh : PO X hi th) (wh : ∀ σ H (Q : Option Int → Hp → Prop), tDO C E fh σ H Q → th σ H Q) : PE X (.Subscript a (.Slice lo hi none p2) pos) (tD C E fun ρ h => (fa ρ h).bind fun x h1 => (fl ρ h1).bind fun l h2 => (fh ρ h2).bind fun u h3 => lift (slV h3 x l u)) :=
  wkE (pe_slice (sl_ok hK) ha hl hh) fun σ H Q ⟨M, ρ, h, S, sl, c⟩ => by
    refine ⟨M, ρ, h, S, sl, (Cov.bind (rel := rV C) c).mono fun x H1 ⟨M1, v, h1, _, L1, S1, r1, c1⟩ => ?_⟩
    refine wl _ _ _ ⟨M1, ρ, h1, S1, sl.go L1, (Cov.bind (rel := rO) c1).mono fun l H2 ⟨M2, l', h2, _, L2, S2, r2, c2⟩ => ?_⟩
    refine wh _ _ _ ⟨M2, ρ, h2, S2, (sl.go L1).go L2, (Cov.bind (rel := rO) c2).mono fun u H3 ⟨M3, u', h3, _, L3, S3, r3, c3⟩ => ?_⟩
    rw [show l = l' from r2.symm, show u = u' from r3.symm]
    cases e : slV h3 v l' u' with
    | none => rw [e] at c3; exact c3.elim
    | some p =>
      rw [e] at c3
      exact ⟨M3, h3, v, p, S3, (r1.le L2).le L3, e, c3⟩
theorem d_rev (hK : C.K = X.K) {k} {p1 p2 p3 : Pos} (ha : PE X a (tD C E fa)) : PE X (.Subscript a (.Slice none none (some (.UnaryOp .USub (.Constant (.int 1) k p1) p2)) p3) pos) (tD C E fun ρ h => (fa ρ h).bind fun x h1 => (match x with
    | .ref n => lift ((seqOf h1 (.ref n)).bind fun xs => newL h1 xs.reverse)
    | _ => .bad)) :=
  wkE (pe_revL ha) fun σ H Q ⟨M, ρ, h, S, sl, c⟩ => ⟨M, ρ, h, S, sl, (Cov.bind (rel := rV C) c).mono fun x H1 ⟨M1, v, h1, _, L1, S1, r1, c1⟩ => by
    cases v with
    | ref n =>
      obtain ⟨rfl, hn⟩ := i_ref r1
      simp only at c1
      cases e : seqOf h1 (.ref n) with
      | none => rw [e] at c1; exact c1.elim
      | some xs =>
        rw [e] at c1
        obtain ⟨vs, h2, rs⟩ := Sim.seq S1 e
        exact ⟨M1 n, vs, rfl, hK ▸ h2, (lift_new S1 rs.reverse c1).2⟩
    | _ => exact c1.elim⟩
end
end MP
set_option Elab.async false
set_option linter.all false
set_option maxRecDepth 100000
set_option maxHeartbeats 2000000
namespace MP
open PySem PySem.Spec PyProof.Rows L2
section
variable {X : Cx} {C : Cc} {E : XK} {e : Expr} {es : List Expr} {fe : Slots → AH → Res Val} {fs gs : Slots → AH → Res (List Val)} {pos p : Pos} {x : Str} {k f : Nat} {φ : Nat → List Val → AH → Res Val} {fd : FD}
theorem glB_ok {sc : Scope} (hsc : X.env.scope = sc) (h : glB sc x = true) : Gl X x ∧ (x == ("__debug__" : Str)) = false := by
  unfold glB at h
  simp only [Bool.and_eq_true, decide_eq_true_eq, Bool.not_eq_true'] at h
  exact ⟨by show X.env.scope.names.lookup x = _; rw [hsc]; exact h.1, h.2⟩
theorem Reps.lengthV {K : PySem.W.Frag} {M : Nat → Addr} {n : Nat} {H : Hp} {xs : List Val} {vs : List V} (r : Reps K M n H xs vs) : vs.length = xs.length := r.length.symm
/-- f(..) -/
theorem d_call (U : FnU X.prog X.w X.K X.mg X.base C φ k f fd) (hr : Room k X.A) (hx : Passes (L2.CX X.prog X.w) X E) (hg : Gl X x) (hdb : (x == ("__debug__" : Str)) = false) (hn : fd.name = x)
    (hs : PA X es (tDs C E fs)) (hst : es.all noStar = true) (he : es ≠ []) :
    PE X (.Call (.Name x p) es [] pos) (tD C E fun ρ h => (fs ρ h).bind fun vs h1 => if (vs ++ fd.dfl.drop (vs.length + fd.dfl.length - fd.np)).length = fd.np then φ f (vs ++ fd.dfl.drop (vs.length + fd.dfl.length - fd.np)) h1 else .bad) := by
  obtain ⟨a, fu, ps, hm, hk, hps, F, hb, _⟩ := U.ex
  subst hn
  refine ⟨fun pins s σ H Q I ⟨M, ρ, h, S, sl, c⟩ => wpAny_Call_Name_kw (ld_glob I hg hm ?_ hdb)⟩
  have go : tDs C E fs σ H fun xs H1 => ∃ (dvs : List V) (ds : List Value), Vals dvs ds ∧ Binds X.K fu ps ds ∧ spD C φ fd.np f (xs ++ dvs) H1 Q E := ⟨M, ρ, h, S, sl, (Cov.bind (rel := rVs C) c).mono fun xs H1 ⟨M1, vs, h1, _, L1, S1, r1, c1⟩ => by
    split at c1
    · rename_i hl
      have hl2 := hl
      rw [List.length_append, List.length_drop] at hl2
      obtain ⟨dvs, ds, rd, vd, bd⟩ := hb (vs.length + fd.dfl.length - fd.np) (by omega)
      exact ⟨dvs, ds, vd, bd, M1, _, h1, S1, r1.append (rd _ _ _), hl, c1⟩
    · exact c1.elim⟩
  cases es with
  | nil => exact absurd rfl he
  | cons e0 es0 =>
    rw [List.all_cons, Bool.and_eq_true] at hst
    refine PySem.W.callWith_K (h₀ := X.base) I.ok.mod.kin hk (thn (hs.run pos pins s σ H _ I go) fun us s1 ⟨xs, H1, I1, r, dvs, ds, vd, bd, q⟩ => ⟨I1.kIn, ?_⟩) (star_ok hst.1) (stars_ok hst.2)
    exact run_fn F hr bd vd hx I1 r q
/-- f() -/
theorem d_call0 (U : FnU X.prog X.w X.K X.mg X.base C φ k f fd) (hr : Room k X.A) (hx : Passes (L2.CX X.prog X.w) X E) (hg : Gl X x) (hdb : (x == ("__debug__" : Str)) = false) (hn : fd.name = x) :
    PE X (.Call (.Name x p) [] [] pos) (tD C E fun _ h1 => if (([] : List Val) ++ fd.dfl.drop (([] : List Val).length + fd.dfl.length - fd.np)).length = fd.np then φ f ([] ++ fd.dfl.drop (([] : List Val).length + fd.dfl.length - fd.np)) h1 else .bad) := by
  obtain ⟨a, fu, ps, hm, hk, hps, F, hb, _⟩ := U.ex
  subst hn
  refine ⟨fun pins s σ H Q I ⟨M, ρ, h, S, sl, c⟩ => wpAny_Call_Name_kw (ld_glob I hg hm ?_ hdb)⟩
  dsimp only at c
  split at c
  · rename_i hl
    have hl2 := hl
    rw [List.length_append, List.length_drop] at hl2
    obtain ⟨dvs, ds, rd, vd, bd⟩ := hb (([] : List Val).length + fd.dfl.length - fd.np) (by simp)
    exact PySem.W.callWith_K0 I.kIn hk (run_fn (us := []) (vs := []) F hr bd vd hx I .nil ⟨M, _, h, S, rd _ _ _, hl, c⟩)
  · exact c.elim
theorem names_all {env : PySem.Env} {pos : Pos} : ∀ {kws : List Keyword}, kws.all (fun z => z.arg.isSome) = true → (backToKw pos (keywordEach kws env)).all (·.1.isSome) = true ∧ (backToKw pos (keywordEach kws env)).filterMap (·.1) = kwNames kws ∧ (backToKw pos (keywordEach kws env)).any (·.1.isNone) = false
  | [], _ => ⟨rfl, rfl, rfl⟩
  | ⟨nm, v, p⟩ :: r, h => by
    rw [List.all_cons, Bool.and_eq_true] at h
    obtain ⟨h1, h2, h3⟩ := names_all (env := env) (pos := pos) h.2
    cases nm with
    | none => simp at h
    | some n =>
      refine ⟨?_, ?_, ?_⟩
      · show (true && (backToKw pos (keywordEach r env)).all (·.1.isSome)) = true
        rw [h1] <;> rfl
      · show n :: (backToKw pos (keywordEach r env)).filterMap (·.1) = n :: kwNames r
        rw [h2]
      · show (false || (backToKw pos (keywordEach r env)).any (·.1.isNone)) = false
        rw [h3] <;> rfl
theorem wkK {kws : List Keyword} {t t' : TA} (p : PK X kws t) (w : ∀ σ H Q, t' σ H Q → t σ H Q) : PK X kws t' := ⟨fun pos pins s σ H Q I h => p.run pos pins s σ H Q I (w σ H Q h)⟩
theorem k_nil : PK X [] (tDs C E fun _ h => .ok [] h) := wkK pk_nil fun σ H Q ⟨M, ρ, h, S, sl, c⟩ => Cov.ok c S .nil
theorem k_cons {nm : Option Str} {kpos : Pos} {kws : List Keyword} (he : PE X e (tD C E fe)) (hs : PK X kws (tDs C E fs)) : PK X (⟨nm, e, kpos⟩ :: kws) (tDs C E fun ρ h => (fe ρ h).bind fun v h1 => (fs ρ h1).bind fun vs h2 => .ok (v :: vs) h2) :=
  wkK (pk_cons he hs) fun σ H Q ⟨M, ρ, h, S, sl, c⟩ => ⟨M, ρ, h, S, sl, (Cov.bind (rel := rV C) c).mono fun x H1 ⟨M1, v, h1, _, L1, S1, r1, c1⟩ =>
    ⟨M1, ρ, h1, S1, sl.go L1, (Cov.bind (rel := rVs C) c1).mono fun xs H2 ⟨M2, vs, h2, _, L2, S2, r2, c2⟩ => Cov.ok c2 S2 (.cons (r1.le L2) r2)⟩⟩
theorem permL_len {α : Type} : ∀ {perm : List Nat} {l r : List α}, permL perm l = some r → r.length = perm.length
  | [], _, _, h => by cases h; rfl
  | i :: p, l, r, h => by
    simp only [permL] at h
    cases e : l[i]? with
    | none => rw [e] at h; cases h
    | some v =>
      rw [e] at h
      cases e2 : permL p l with
      | none => rw [e2] at h; cases h
      | some t =>
        rw [e2] at h
        cases h
        simp [permL_len e2]
theorem permL_rel {α β : Type} {R : α → β → Prop} {l : List α} {m : List β} (hl : ∀ (i : Nat) a, l[i]? = some a → ∃ b, m[i]? = some b ∧ R a b) : ∀ {perm : List Nat} {r : List α}, permL perm l = some r → ∃ t, permL perm m = some t ∧ Paired R r t
  | [], _, h => by cases h; exact ⟨[], rfl, .nil⟩
  | i :: p, r, h => by
    simp only [permL] at h
    cases e : l[i]? with
    | none => rw [e] at h; cases h
    | some v =>
      rw [e] at h
      cases e2 : permL p l with
      | none => rw [e2] at h; cases h
      | some t =>
        rw [e2] at h
        cases h
        obtain ⟨b, hb, rb⟩ := hl i v e
        obtain ⟨t', ht, rt⟩ := permL_rel hl e2
        exact ⟨b :: t', by simp [permL, hb, ht], .cons rb rt⟩
theorem paired_reps {K : PySem.W.Frag} {M : Nat → Addr} {n : Nat} {H : Hp} : ∀ {xs : List Val} {vs : List V}, Paired (fun a b => Rep K M n H a b) xs vs → Reps K M n H xs vs
  | _, _, .nil => .nil
  | _, _, .cons r t => .cons r (paired_reps t)
theorem kwNames_len : ∀ {kws : List Keyword}, kws.all (fun z => z.arg.isSome) = true → (kwNames kws).length = kws.length
  | [], _ => rfl
  | ⟨nm, v, p⟩ :: r, h => by
    rw [List.all_cons, Bool.and_eq_true] at h
    cases nm with
    | none => simp at h
    | some n =>
      have := kwNames_len h.2
      show (n :: kwNames r).length = _
      rw [List.length_cons, this] <;> rfl
/-- f(.., k = v, ..) -/
theorem d_callk (U : FnU X.prog X.w X.K X.mg X.base C φ k f fd) (hr : Room k X.A) (hx : Passes (L2.CX X.prog X.w) X E) (hg : Gl X x) (hdb : (x == ("__debug__" : Str)) = false) (hn : fd.name = x) {kws : List Keyword} {perm : List Nat}
    (hs : PA X es (tDs C E fs)) (hks : PK X kws (tDs C E gs)) (hst : es.all noStar = true) (hka : kws.all (fun z => z.arg.isSome) = true) (hin : (es.length, kwNames kws, perm) ∈ fd.kws)
    (ln : ∀ ρ h vs h1, fs ρ h = .ok vs h1 → vs.length = es.length) (lk : ∀ ρ h vs h1, gs ρ h = .ok vs h1 → vs.length = kws.length) (f0 : es = [] → fs = fun _ h => .ok [] h) :
    PE X (.Call (.Name x p) es kws pos) (tD C E fun ρ h => (fs ρ h).bind fun us h1 => (gs ρ h1).bind fun ws h2 => match permL perm (us ++ ws) with
      | some vs => if vs.length = fd.np then φ f vs h2 else .bad
      | none => .bad) := by
  obtain ⟨a, fu, ps, hm, hk, hps, F, _, hb, _⟩ := U.ex
  subst hn
  obtain ⟨n1, n2, n3⟩ := names_all (env := X.env) (pos := pos) hka
  have kl := kwNames_len hka
  refine ⟨fun pins s σ H Q I ⟨M, ρ, h, S, sl, c⟩ => wpAny_Call_Name_kw (ld_glob I hg hm ?_ hdb)⟩
  -- behind both lists
  let B : List V → List V → Hp → Prop := fun xs zs H2 => xs.length = es.length ∧ zs.length = kws.length ∧ ∃ ts, permL perm (xs ++ zs) = some ts ∧ spD C φ fd.np f ts H2 Q E
  have tail : ∀ M1 us h1 (xs : List V) H1, fs ρ h = .ok us h1 → Le C M h.length H M1 h1.length H1 → Sim C M1 h1 H1 → Reps C.K M1 h1.length H1 us xs → Cov (rV C) C E M1 h1 H1 ((gs ρ h1).bind fun ws h2 => match permL perm (us ++ ws) with
      | some vs => if vs.length = fd.np then φ f vs h2 else .bad
      | none => .bad) Q → tDs C E gs σ H1 (fun zs H2 => B xs zs H2) := fun M1 us h1 xs H1 e1 L1 S1 r1 c1 => ⟨M1, ρ, h1, S1, sl.go L1, (Cov.bind (rel := rVs C) c1).mono fun zs H2 ⟨M2, ws, h2, e2, L2, S2, r2, c2⟩ => by
    refine ⟨by rw [← r1.length]; exact ln _ _ _ _ e1, by rw [← r2.length]; exact lk _ _ _ _ e2, ?_⟩
    cases e3 : permL perm (us ++ ws) with
    | none => rw [e3] at c2; exact c2.elim
    | some vs =>
      rw [e3] at c2
      simp only at c2
      split at c2
      · rename_i hl
        obtain ⟨ts, ht, rt⟩ := permL_rel (R := fun a b => Rep C.K M2 h2.length H2 a b) (m := xs ++ zs) (fun i a q => ((r1.le L2).append r2).get q) e3
        exact ⟨ts, ht, M2, vs, h2, S2, paired_reps rt, hl, c2⟩
      · exact c2.elim⟩
  have run : ∀ {us : List Value} {xs : List V} {s1 : Shared} {H1 : Hp}, Inv X pins σ H1 s1 → Vals xs us → tDs C E gs σ H1 (fun zs H2 => B xs zs H2) →
      wpAny (model X.prog X.w) X.A (evalAll ((backToKw pos (keywordEach kws X.env)).map (·.2))) (fun ws s2 => X.K.In s2.heap ∧ wpAny (model X.prog X.w) X.A (call (.ref a) ([] ++ us) (((backToKw pos (keywordEach kws X.env)).filterMap (·.1)).zip ws)) (EP X pins σ Q) X.xe s2) X.xe s1 := fun {us xs s1 H1} I1 r t => by
    refine thn (hks.run pos pins s1 σ H1 _ I1 t) fun ws s2 ⟨zs, H2, I2, rz, l1, l2, ts, ht, q⟩ => ⟨I2.kIn, ?_⟩
    rw [n2]
    obtain ⟨vs, hv, rv⟩ := permL_rel (R := RelV) (m := us ++ ws) (fun i a q => (r.append rz).get q) ht
    have bt := hb es.length (kwNames kws) perm hin s2 us ws vs (by rw [← r.length]; exact l1) (by rw [← rz.length, kl]; exact l2) hv
    refine wpAny_call (codeAny_mono (F.run X.A X.stack s2 H2 ⟨us, (kwNames kws).zip ws⟩ vs ts Q E hr I2.env0 bt rv q) fun r s' hq => ?_)
    cases r with
    | error e => exact hx pins σ H2 s2 e s' I2 hq
    | ok fl =>
      cases fl with
      | ret u => exact I2.after hq
      | next => exact False.elim hq
      | brk => exact False.elim hq
      | cont => exact False.elim hq
  cases es with
  | nil =>
    have e0 := f0 rfl
    subst e0
    refine PySem.W.callWith_KW0 (h₀ := X.base) I.ok.mod.kin hk n1 (run (us := []) (xs := []) I .nil ?_) (by show (false || (backToKw pos (keywordEach kws X.env)).any (·.1.isNone)) = false; rw [n3] <;> rfl)
    exact tail M [] h [] H rfl Le.refl S .nil c
  | cons e0 es0 =>
    have hst2 := hst
    rw [List.all_cons, Bool.and_eq_true] at hst
    have go : tDs C E fs σ H fun xs H1 => tDs C E gs σ H1 (fun zs H2 => B xs zs H2) := ⟨M, ρ, h, S, sl, (Cov.bind (rel := rVs C) c).mono fun xs H1 ⟨M1, us, h1, e1, L1, S1, r1, c1⟩ => tail M1 us h1 xs H1 e1 L1 S1 r1 c1⟩
    refine PySem.W.callWith_KW (h₀ := X.base) I.ok.mod.kin hk n1 (thn (hs.run pos pins s σ H _ I go) fun us s1 ⟨xs, H1, I1, r, t⟩ => run I1 r t) (by rw [stars_ok hst2, n3]; rfl) (star_ok hst.1)
/-! ### built-ins, methods, isinstance -/
theorem bt_boot (b : Bt) : bootBuiltins b.name = some b.fn := by cases b <;> decide +kernel
theorem bt_in (b : Bt) : b.name ∈ bltns := by cases b <;> decide +kernel
theorem bt_ne (b : Bt) : b.name ≠ "__name__" := by cases b <;> decide +kernel
theorem d_bt {b : Bt} (hK : C.K = X.K) (hc : X.calm = true) (hf : X.mg b.name = none) (hg : Gl X b.name) (hdb : (b.name == ("__debug__" : Str)) = false) (hs : PA X (e :: es) (tDs C E fs)) (hst : (e :: es).all noStar = true) :
    PE X (.Call (.Name b.name p) (e :: es) [] pos) (tD C E fun ρ h => (fs ρ h).bind fun vs h1 => lift (btV b h1 vs)) := by
  rw [List.all_cons, Bool.and_eq_true] at hst
  have base : PE X (.Call (.Name b.name p) (e :: es) [] pos) (tCB (rBt C b) (tDs C E fs)) := by
    have hh := ch_bt (X := X) hK hc b
    have hb := bt_boot b
    cases hv : b.fn with
    | builtin id =>
      rw [hv] at hh hb
      exact pe_callB hh hg hf hb hs (bt_ne b) hdb (star_ok hst.1) (stars_ok hst.2)
    | type T =>
      rw [hv] at hh hb
      exact pe_callTy hh hg hf hb hs (bt_ne b) hdb (star_ok hst.1) (stars_ok hst.2)
    | _ => cases b <;> cases hv
  exact wkE base fun σ H Q ⟨M, ρ, h, S, sl, c⟩ => ⟨M, ρ, h, S, sl, (Cov.bind (rel := rVs C) c).mono fun xs H1 ⟨M1, vs, h1, _, L1, S1, r1, c1⟩ => by
    cases e0 : btV b h1 vs with
    | none => rw [e0] at c1; exact c1.elim
    | some q =>
      rw [e0] at c1
      exact ⟨M1, h1, vs, q, S1, r1, e0, c1⟩⟩
theorem ty_list {M : Nat → Addr} {h : AH} {H : Hp} {v : Val} {x : V} (S : Sim C M h H) (r : Rep C.K M h.length H v x) (t : tyOf h v = some "list") : tyV C.K "list" x H := by
  cases v with
  | ref n =>
    obtain ⟨rfl, hn⟩ := i_ref r
    simp only [tyOf] at t
    cases e0 : h[n]? with
    | none => rw [e0] at t; cases t
    | some o =>
      rw [e0] at t
      cases o with
      | lst xs =>
        obtain ⟨vs, h1, rs⟩ := Sim.seq S (n := n) (xs := xs) (by simp [seqOf, e0])
        exact .inl ⟨rfl, vs, h1⟩
      | ro xs =>
        obtain ⟨vs, h1, rs⟩ := Sim.seq S (n := n) (xs := xs) (by simp [seqOf, e0])
        exact .inl ⟨rfl, vs, h1⟩
      | dK _ => simp at t
      | dT _ => simp at t
  | _ => simp [tyOf] at t
theorem few_ok {env : PySem.Env} {pos : Pos} : ∀ {es : List Expr}, es.all noStar = true → (backTo pos (starEach es env)).all (fun x => !x.1) = true
  | [], _ => rfl
  | e :: es, h => by
    rw [List.all_cons, Bool.and_eq_true] at h
    rw [star_ok h.1]
    show (true && (backTo pos (starEach es env)).all (fun x => !x.1)) = true
    rw [few_ok h.2] <;> rfl
theorem d_mt {m : Mt} {o : Expr} {fo : Slots → AH → Res Val} {ap cp : Pos} (hK : C.K = X.K) (ho : PE X o (tD C E fo)) (hs : PA X es (tDs C E fs)) (hb : noSuper o = true) (hst : es.all noStar = true) (hl : es.length < 29) (hline : (ap.endLine == cp.line) = true)
    (f0 : es = [] → fs = fun _ h => .ok [] h) :
    PE X (.Call (.Attribute o m.name ap) es [] cp) (tD C E fun ρ h => (fo ρ h).bind fun x h1 => if tyOf h1 x = some m.ty then (fs ρ h1).bind fun vs h2 => lift (mtV m h2 x vs) else .bad) := by
  have slot : Slot "list" m.name m.id := by
    cases m
    · exact PySem.F.slot_list_append
    · exact PySem.F.slot_list_pop
    · exact PySem.F.slot_list_pop
  have hty : typeOf (.builtin m.id) = pure (.type "method_descriptor") := by
    cases m
    · exact PySem.F.type_list_append
    · exact PySem.F.type_list_pop
    · exact PySem.F.type_list_pop
  have mty : m.ty = "list" := by cases m <;> rfl
  have read : ∀ {σ : L2.St} {H : Hp} {Q : VK}, tD C E (fun ρ h => (fo ρ h).bind fun x h1 => if tyOf h1 x = some m.ty then (fs ρ h1).bind fun vs h2 => lift (mtV m h2 x vs) else .bad) σ H Q → tBM X.K "list" (rMt C m) (tD C E fo) (tDs C E fs) σ H Q := fun {σ H Q} ⟨M, ρ, h, S, sl, c⟩ => by
    refine ⟨M, ρ, h, S, sl, (Cov.bind (rel := rV C) c).mono fun x H1 ⟨M1, v, h1, _, L1, S1, r1, c1⟩ => ?_⟩
    split at c1
    · rename_i ht
      rw [mty] at ht
      refine ⟨hK ▸ ty_list S1 r1 ht, M1, ρ, h1, S1, sl.go L1, (Cov.bind (rel := rVs C) c1).mono fun xs H2 ⟨M2, vs, h2, _, L2, S2, r2, c2⟩ => ?_⟩
      cases e0 : mtV m h2 v vs with
      | none => rw [e0] at c2; exact c2.elim
      | some q =>
        rw [e0] at c2
        exact ⟨M2, h2, v, vs, q, S2, r1.le L2, r2, e0, c2⟩
    · exact c1.elim
  cases es with
  | nil =>
    have e0 := f0 rfl
    subst e0
    refine wkE (pe_bm0 PySem.F.plainAttrs_list slot hty (mt_ok (C := C) m) ho (base_ok hb) hline) fun σ H Q t => ?_
    obtain ⟨M, ρ, h, S, sl, c⟩ := read t
    refine ⟨M, ρ, h, S, sl, c.mono fun x H1 ⟨h1, M1, ρ1, a1, S1, sl1, c1⟩ => ⟨h1, Cov.ok c1 S1 .nil⟩⟩
  | cons e0 es0 =>
    have hst2 := hst
    rw [List.all_cons, Bool.and_eq_true] at hst
    refine wkE (pe_bm PySem.F.plainAttrs_list slot hty (mt_ok (C := C) m) ho hs (base_ok hb) ?_ hline (star_ok hst.1) (stars_ok hst.2)) fun σ H Q => read
    rw [few_ok hst2]
    show (true && decide ((e0 :: es0).length + 0 + 0 < 30)) = true
    rw [Bool.true_and, decide_eq_true_eq]
    omega
/-- the type of a value, for isinstance -/
theorem ty_x {M : Nat → Addr} {h : AH} {H : Hp} {v : Val} {x : V} {t : String} (S : Sim C M h H) (r : Rep C.K M h.length H v x) (e : tyOf h v = some t) : TyX C.K H x (.type t) := by
  cases v with
  | non => cases e; cases r; exact .base .non
  | bl b => cases e; cases r; exact .base (.bl b)
  | int b => cases e; cases r; exact .base (.int b)
  | str b => cases e; cases r; exact .base (.str b)
  | tup xs =>
    cases e
    obtain ⟨a, vs, rfl, ha, rs⟩ := i_tup r
    rcases ha with (ha | ⟨o, ha⟩) | ⟨o, its, n, h1, h2, _⟩
    · exact .base (.tup ha)
    · exact .fTuple ha
    · exact .kTuple h1 h2
  | ref n =>
    obtain ⟨rfl, hn⟩ := i_ref r
    simp only [tyOf] at e
    cases e0 : h[n]? with
    | none => rw [e0] at e; cases e
    | some o =>
      rw [e0] at e
      have q := S.obj n o e0
      cases o with
      | lst xs => cases e; obtain ⟨vs, h1, _⟩ := q; exact .base (.lst h1)
      | ro xs =>
        cases e
        obtain ⟨vs, ⟨o, h1⟩ | ⟨o, its, k, h1, h2, _⟩, _⟩ := q
        · exact .base (.frz h1)
        · exact .kList h1 h2
      | dK xs => cases e; obtain ⟨vs, h1, _⟩ := q; exact .base (.dK h1)
      | dT xs => cases e; obtain ⟨vs, h1, _⟩ := q; exact .base (.dT h1)
theorem tyOf_in {h : AH} {v : Val} {t : String} (e : tyOf h v = some t) : t = "NoneType" ∨ t = "bool" ∨ t = "int" ∨ t = "str" ∨ t = "tuple" ∨ t = "list" ∨ t = "dict" := by
  cases v with
  | ref n =>
    simp only [tyOf] at e
    cases e0 : h[n]? with
    | none => rw [e0] at e; cases e
    | some o =>
      rw [e0] at e
      cases o <;> cases e <;> simp
  | _ => cases e; simp
theorem kit_is {K : PySem.W.Frag} {h : AH} {v : Val} {t : String} (e : tyOf h v = some t) (c : Ty) : PySem.W.kitOne K (.type t) (.type c.name) = some (isTy t c.name) := by
  rcases tyOf_in e with h | h | h | h | h | h | h <;> subst h <;> cases c <;> exact kit_ty (by decide +kernel)
theorem kit_any {K : PySem.W.Frag} {h : AH} {v : Val} {t : String} (e : tyOf h v = some t) : ∀ tys : List Ty, PySem.W.kitAny K (.type t) (tys.map fun c => Value.type c.name) = some (tys.any fun c => isTy t c.name)
  | [] => kitAny_nil
  | c :: r => by
    rw [List.map_cons, List.any_cons]
    refine kitAny_cons (kit_is e c) (fun hb => ?_) (fun hb => by rw [hb] <;> rfl)
    rw [hb, Bool.false_or]
    exact kit_any e r
theorem ty_boot (t : Ty) : bootBuiltins (Str.ofString t.name) = some (.type t.name) := by cases t <;> decide +kernel
theorem ty_bin (t : Ty) : Str.ofString t.name ∈ bltns := by cases t <;> decide +kernel
theorem ty_ne (t : Ty) : Str.ofString t.name ≠ "__name__" := by cases t <;> decide +kernel
theorem tyB_ok {sc : Scope} {t : Ty} {e : Expr} (hsc : X.env.scope = sc) (hf : ∀ x ∈ bltns, X.mg x = none) (h : tyB sc t e = true) : PE X e (tC (.ty t.name)) ∧ noStar e = true := by
  cases e <;> simp only [tyB, Bool.false_eq_true] at h
  rw [Bool.and_eq_true, decide_eq_true_eq] at h
  obtain ⟨rfl, h2⟩ := h
  obtain ⟨g1, g2⟩ := glB_ok hsc h2
  exact ⟨pe_bltn g1 (hf _ (ty_bin t)) (ty_boot t) rfl (ty_ne t) g2, rfl⟩
def tTys : List Ty → TA
  | [] => tNil
  | t :: r => tCons (tC (.ty t.name)) (tTys r)
theorem tysL_ok {sc : Scope} (hsc : X.env.scope = sc) (hf : ∀ x ∈ bltns, X.mg x = none) : ∀ {ts : List Ty} {es : List Expr}, tysL sc ts es = true → PA X es (tTys ts)
  | [], [], _ => pa_nil
  | [], _ :: _, h => by simp [tysL] at h
  | _ :: _, [], h => by simp [tysL] at h
  | t :: ts, e :: es, h => by
    simp only [tysL, Bool.and_eq_true] at h
    obtain ⟨h1, h2⟩ := tyB_ok hsc hf h.1
    exact pa_cons h1 (tysL_ok hsc hf h.2) (star_ok h2)
theorem tTys_at {σ : L2.St} {H : Hp} {Q : List V → Hp → Prop} : ∀ {ts : List Ty}, Q (ts.map fun t => V.ty t.name) H → tTys ts σ H Q
  | [], q => q
  | t :: r, q => tTys_at (ts := r) (Q := fun xs H2 => Q (V.ty t.name :: xs) H2) q
theorem cls_paired : ∀ ts : List Ty, Paired ClsV (ts.map fun t => V.ty t.name) (ts.map fun t => Value.type t.name)
  | [] => .nil
  | t :: r => .cons (.ty t.name) (cls_paired r)
theorem isi_name : (Str.ofString "isinstance") ≠ "__name__" := by decide +kernel
theorem isi_boot : bootBuiltins (Str.ofString "isinstance") = some (.builtin "isinstance") := by decide +kernel
/-- isinstance(e, T), isinstance(e, (T, U)) -/
theorem d_isin {sc : Scope} {tys : List Ty} {t : Expr} (hK : C.K = X.K) (hsc : X.env.scope = sc) (hf : ∀ x ∈ bltns, X.mg x = none) (hg : Gl X (Str.ofString "isinstance")) (he : PE X e (tD C E fe)) (hn : noStar e = true) (ht : tysB sc tys t = true) :
    PE X (.Call (.Name (Str.ofString "isinstance") p) [e, t] [] pos) (tD C E fun ρ h => (fe ρ h).bind fun x h1 => (match tyOf h1 x with
      | some t => .ok (.bl (tys.any fun c => isTy t c.name)) h1
      | none => .bad)) := by
  have hm : X.mg (Str.ofString "isinstance") = none := hf _ (by decide +kernel)
  cases t <;> simp only [tysB, Bool.false_eq_true] at ht
  case Name x pp =>
    match tys, ht with
    | [ty], ht =>
      obtain ⟨h1, h2⟩ := tyB_ok hsc hf ht
      refine wkE (pe_callB call_isi hg hm isi_boot (pa_cons he (pa_cons h1 pa_nil (star_ok h2)) (star_ok hn)) isi_name (by decide +kernel) (star_ok hn) (stars_ok (by simp [noStar]))) fun σ H Q ⟨M, ρ, h, S, sl, c⟩ => ?_
      refine ⟨M, ρ, h, S, sl, (Cov.bind (rel := rV C) c).mono fun x H1 ⟨M1, v, h1, _, L1, S1, r1, c1⟩ => ?_⟩
      cases e0 : tyOf h1 v with
      | none => rw [e0] at c1; exact c1.elim
      | some t =>
        rw [e0] at c1
        refine ⟨x, _, .type t, .type ty.name, isTy t ty.name, rfl, .ty _, hK ▸ ty_x S1 r1 e0, kit_is e0 ty, ?_⟩
        have q := Cov.ok (rel := rV C) c1 S1 (.bl _)
        simpa using q
  case Tuple es k pp =>
    refine wkE (pe_callB call_isiT hg hm isi_boot (pa_cons he (pa_cons (pe_tup (tysL_ok hsc hf (Bool.and_eq_true_iff.mp ht).2)) pa_nil (star_ok rfl)) (star_ok hn)) isi_name (by decide +kernel) (star_ok hn) (stars_ok (by simp [noStar]))) fun σ H Q ⟨M, ρ, h, S, sl, c⟩ => ?_
    refine ⟨M, ρ, h, S, sl, (Cov.bind (rel := rV C) c).mono fun x H1 ⟨M1, v, h1, _, L1, S1, r1, c1⟩ => ?_⟩
    cases e0 : tyOf h1 v with
    | none => rw [e0] at c1; exact c1.elim
    | some t =>
      rw [e0] at c1
      rw [Bool.and_eq_true, decide_eq_true_eq] at ht
      refine tTys_at ⟨by rw [List.length_map]; have := ht.1; rw [sizeLine_eq]; omega, fun p hp => ?_⟩
      have L : Le C M1 h1.length H1 M1 h1.length (upd H1 p (.tup (tys.map fun t => V.ty t.name))) := Le.new hp
      have S2 : Sim C M1 h1 (upd H1 p (.tup (tys.map fun t => V.ty t.name))) := S1.new hp
      refine ⟨x, p, _, .type t, _, _, rfl, upd_same, cls_paired tys, hK ▸ ty_x S2 (r1.le L) e0, kit_any e0 tys, ?_⟩
      exact c1 M1 _ _ L S2 (.bl _)
end
end MP
set_option Elab.async false
set_option linter.all false
set_option maxRecDepth 100000
set_option maxHeartbeats 2000000
namespace MP
open PySem PySem.Spec PyProof.Rows L2
/-! ## enumerate over a tuple, a text -/
/-- pairs of a number and the tuple's item there -/
def EnT (K : PySem.W.Frag) (a : Addr) : L2.It where
  go := fun i H => ∃ (xs : List V) (x : V), SqT K H a xs ∧ xs[i]? = some x
  yld := fun i H v H' => ∃ T x, v = .ref T ∧ H T = none ∧ H' = upd H T (.tup [.int (i : Nat), x]) ∧ ∀ xs, SqT K H a xs → xs[i]? = some x
  stop := fun i H => ∃ xs : List V, SqT K H a xs ∧ xs.length = i
/-- pairs of a number and the text's sign there -/
def EnS (z : Str) : L2.It where
  go := fun i _ => i < z.cps.size
  yld := fun i H v H' => ∃ T c, v = .ref T ∧ H T = none ∧ H' = upd H T (.tup [.int (i : Nat), .str ⟨#[c]⟩]) ∧ z.cps[i]? = some c
  stop := fun i _ => z.cps.size = i
/-- a pair has come out of an enumerate -/
theorem enum_out {X : Cx} {pins : List (Addr × Obj)} {σ : L2.St} {H : Hp} {s : Shared} {e it : Addr} {i : Nat} {x : V} {u : Value} {h' : Heap} {tk : Nat} {elts : List Expr} {kk : Nat} {tpos : Pos} {E : Value → Shared → Prop} {yl : V → Hp → Prop} {tn : Heap → Prop}
    (I : Inv X pins σ H s) (hf : ∀ b ∈ [e, it], FpOk X pins H b) (hel : e < s.heap.objs.size) (hil : it < s.heap.objs.size) (ru : RelV x u)
    (ho : IsEnumOut h' e it ((i : Int) + 1) u s.heap.objs.size) (hT : h'.get? s.heap.objs.size = some { cls := .type "tuple", data := .seq #[.int i tk, u] })
    (hk : ∀ b o, b ≠ e → b ≠ it → s.heap.get? b = some o → h'.get? b = some o)
    (hy : yl (.ref s.heap.objs.size) (upd H s.heap.objs.size (.tup [.int (i : Nat), x]))) (htn : ∀ h'', IsEnum h'' e it (((i + 1 : Nat)) : Int) u → Heap.SameBut e h' h'' → tn h'') :
    wpAny (model X.prog X.w) X.A (letOwnedTupleGo (.Tuple elts kk tpos) (.ref e) (.ref s.heap.objs.size)) (fun _ s2 => ∃ x H', Inv X pins σ H' s2 ∧ RelV x (.ref s.heap.objs.size) ∧ yl x H' ∧ tn s2.heap ∧ ∀ b ∈ [e, it], H' b = none) E { s with heap := h', toks := tk + 1 } := by
  refine wpAny_letOwnedTupleGo_enum (s := { s with heap := h', toks := tk + 1 }) ho fun h'' he' sb => ?_
  have hT2 := (sb.2 _ (Nat.ne_of_gt hel)).trans hT
  have new : ObjOk X.prog X.w (upd H s.heap.objs.size (.tup [.int (i : Nat), x])) h'' s.heap.objs.size (.tup [.int (i : Nat), x]) :=
    ⟨(by decide : 2 ≤ sizeLine), [.int i tk, u], .cons ⟨tk, rfl⟩ (.cons ru .nil), ⟨_, hT2, rfl, _, rfl⟩⟩
  have I1 : Inv X pins σ (upd H s.heap.objs.size (.tup [.int (i : Nat), x])) { s with heap := h'', toks := tk + 1 } :=
    I.turnedNew (ch := [e, it]) (fun b ob hb q => by
      simp only [List.mem_cons, List.not_mem_nil, or_false, not_or] at hb
      exact (sb.2 b hb.1).trans (hk b ob hb.1 hb.2 q)) hf (Nat.le_refl _) new
  refine ⟨.ref s.heap.objs.size, _, I1, rfl, hy, htn h'' ?_ sb, fun b hb => ?_⟩
  · have e1 : ((i + 1 : Nat) : Int) = (i : Int) + 1 := Int.natCast_succ i
    rw [e1]
    exact he'
  · have hb' : b < s.heap.objs.size := by
      simp only [List.mem_cons, List.not_mem_nil, or_false] at hb
      rcases hb with z | z <;> rw [z] <;> assumption
    rw [upd_ne (Nat.ne_of_lt hb')]
    exact (hf b hb).1
theorem turn_enT {P : Program} {w : World} {K : PySem.W.Frag} {elts : List Expr} {kk : Nat} {tpos : Pos} (a e it : Addr) (hei : e ≠ it) :
    Turn P w K (.Tuple elts kk tpos) (EnT K a) [e, it] e (fun i h => (∃ old, IsEnum h e it ((i : Nat) : Int) old) ∧ h.IsTupleIter it a i) where
  mem := .head _
  obj := fun i h st b hb => by
    obtain ⟨⟨old, he⟩, o, ho, hc, hd⟩ := st
    simp only [List.mem_cons, List.not_mem_nil, or_false] at hb
    rcases hb with z | z <;> rw [z]
    · exact ⟨_, he, nofun⟩
    · refine ⟨o, ho, fun v q => ?_⟩
      rw [hd] at q
      cases q
  keep := fun i h h' ⟨⟨old, he⟩, hi⟩ k => ⟨⟨old, k e (.head _) _ he⟩, hi.at fun o q => k it (.tail _ (.head _)) o q⟩
  item := fun X hP hw hK hc i pins s σ H E I hf ⟨⟨old, he⟩, hit⟩ ⟨xs, x, hq, hx⟩ => by
    subst hP hw hK
    obtain ⟨its, rv, p, hz⟩ := I.tuple hq
    obtain ⟨u, hu, ru⟩ := rv.get hx
    have pt : s.heap.IsTuple a its.toArray := p
    have hae : a ≠ e := fun z => by
      obtain ⟨o, h1, h2, _⟩ := id pt
      rw [z, he] at h1
      cases h1
      simp at h2
    have hai : a ≠ it := fun z => by
      obtain ⟨o, h1, h2, _⟩ := id pt
      obtain ⟨o2, h3, h4, _⟩ := id hit
      rw [z, h3] at h1
      cases h1
      rw [h4] at h2
      simp at h2
    have hil : it < s.heap.objs.size := by obtain ⟨_, q, _⟩ := hit; exact Heap.lt_size q
    have D := Draws.tuple (prog := X.prog) (w := X.w) (A := X.A.in1) (I.ok.hd hc) it a hai its.toArray
    refine wpAny_pyNext_enum_itemC (c := (i : Int)) D he ⟨hit, pt⟩ (i := i) ?_ hei ?_ fun y h' tk hP ho hs' hT hsz hk => ?_
    · simpa using (List.getElem?_eq_some_iff.mp hu).1
    · simp only [List.mem_cons, List.not_mem_nil, or_false, not_or]
      exact ⟨hei, fun z => hae z.symm⟩
    · have hy : y = u := by
        have hP' : its[i]? = some y := by simpa using hP
        rw [hu] at hP'
        exact (Option.some.inj hP').symm
      subst hy
      refine ⟨_, rfl, enum_out (yl := fun v H' => (EnT X.K a).yld i H v H') (tn := fun h => (∃ old, IsEnum h e it ((i + 1 : Nat) : Int) old) ∧ h.IsTupleIter it a (i + 1)) I hf (Heap.lt_size he) hil ru ho hT hk ⟨_, x, rfl, I.hok.fresh (Nat.le_refl _), rfl, fun ys hy => by rw [I.tuple_inj hy hq]; exact hx⟩ fun h'' he' sb => ⟨⟨_, he'⟩, ?_⟩⟩
      exact hs'.1.at fun o q => (sb.2 it (Ne.symm hei)).trans q
  done := fun X hP hw hK hc i pins s σ H E I hf ⟨⟨old, he⟩, hit⟩ ⟨xs, hq, hx⟩ => by
    subst hP hw hK
    obtain ⟨its, rv, p, hz⟩ := I.tuple hq
    have pt : s.heap.IsTuple a its.toArray := p
    obtain ⟨f0, f1, f2, f3, f4, f5⟩ := hf it (.tail _ (.head _))
    have hai : a ≠ it := fun z => by
      obtain ⟨o, h1, h2, _⟩ := id pt
      obtain ⟨o2, h3, h4, _⟩ := id hit
      rw [z, h3] at h1
      cases h1
      rw [h4] at h2
      simp at h2
    have hl := rv.length
    have hn : its.toArray.size = i := by simp; omega
    have D := Draws.tuple (prog := X.prog) (w := X.w) (A := X.A.in1) (I.ok.hd hc) it a hai its.toArray
    exact wpAny_pyNext_enum_endD D he ⟨by rw [hn]; exact hit, pt⟩ fun h' eb => ⟨rfl, I.turned (t' := s.toks) (fun b o hb q => eb b o hb q) f0 f1 f3 f4 f5⟩
  self := fun A i s Q E ⟨⟨_, he⟩, _⟩ h => wpAny_pyIter_enum he h
theorem turn_enS {P : Program} {w : World} {K : PySem.W.Frag} {elts : List Expr} {kk : Nat} {tpos : Pos} (z : Str) (t : Tok) (e it : Addr) (hei : e ≠ it) :
    Turn P w K (.Tuple elts kk tpos) (EnS z) [e, it] e (fun i h => (∃ old, IsEnum h e it ((i : Nat) : Int) old) ∧ h.IsStrIter it (strIterType z) z t i) where
  mem := .head _
  obj := fun i h st b hb => by
    obtain ⟨⟨old, he⟩, o, ho, hc, hd⟩ := st
    simp only [List.mem_cons, List.not_mem_nil, or_false] at hb
    rcases hb with z | z <;> rw [z]
    · exact ⟨_, he, nofun⟩
    · refine ⟨o, ho, fun v q => ?_⟩
      rw [hd] at q
      cases q
  keep := fun i h h' ⟨⟨old, he⟩, o, ho, r⟩ k => ⟨⟨old, k e (.head _) _ he⟩, o, k it (.tail _ (.head _)) o ho, r⟩
  item := fun X hP hw hK hc i pins s σ H E I hf ⟨⟨old, he⟩, hit⟩ hlt => by
    subst hP hw hK
    have hil : it < s.heap.objs.size := by obtain ⟨_, q, _⟩ := hit; exact Heap.lt_size q
    have D := Draws.text (prog := X.prog) (w := X.w) (A := X.A.in1) (I.ok.hd hc) it z t
    refine wpAny_pyNext_enum_itemC (c := (i : Int)) D he hit (i := i) hlt hei (by simpa using hei) fun y h' tk hP ho hs' hT hsz hk => ?_
    obtain ⟨c, u, hcx, rfl⟩ := hP
    refine ⟨_, rfl, enum_out (x := .str ⟨#[c]⟩) (yl := fun v H' => (EnS z).yld i H v H') (tn := fun h => (∃ old, IsEnum h e it ((i + 1 : Nat) : Int) old) ∧ h.IsStrIter it (strIterType z) z t (i + 1)) I hf (Heap.lt_size he) hil ⟨u, rfl⟩ ho hT hk ⟨_, c, rfl, I.hok.fresh (Nat.le_refl _), rfl, hcx⟩ fun h'' he' sb => ⟨⟨_, he'⟩, ?_⟩⟩
    obtain ⟨o, q, r⟩ := hs'
    exact ⟨o, (sb.2 it (Ne.symm hei)).trans q, r⟩
  done := fun X hP hw hK hc i pins s σ H E I hf ⟨⟨old, he⟩, hit⟩ hn => by
    subst hP hw hK
    obtain ⟨f0, f1, f2, f3, f4, f5⟩ := hf it (.tail _ (.head _))
    have hn : z.cps.size = i := hn
    have D := Draws.text (prog := X.prog) (w := X.w) (A := X.A.in1) (I.ok.hd hc) it z t
    exact wpAny_pyNext_enum_endD D he (by rw [hn]; exact hit) fun h' eb => ⟨rfl, I.turned (t' := s.toks) (fun b o hb q => eb b o hb q) f0 f1 f3 f4 f5⟩
  self := fun A i s Q E ⟨⟨_, he⟩, _⟩ h => wpAny_pyIter_enum he h
/-- enumerate(v) for a v that begins -/
theorem meets_en1 {v : Value} {ob : Obj} {Hx : Heap → Prop} (B : Begins v ob Hx) :
    Meets (Builtin.«enumerate.__new__» ⟨[.type "enumerate", v], []⟩) (fun _ R s => Hx s.heap ∧
      R (.ok (.ret (.ref (s.heap.push ob).objs.size))) { s with heap := (s.heap.push ob).push { cls := .type "enumerate", data := .fields #[.none, .bool false, .ref s.heap.objs.size, rawInt 0, .none, .none] } }) :=
  .of_wp fun pr wo A R s hh => by
    obtain ⟨hp, g, d, tk, os⟩ := s; obtain ⟨h1, hR⟩ := hh
    have hsub := sub_enumerate
    have go : ∀ {A' : Around} {E : Value → Shared → Prop} {Q : Value → Shared → Prop}, Q (.ref hp.objs.size) ⟨hp.push ob, g, d, tk, os⟩ → wpAny (model pr wo) A' (pyIter v) Q E ⟨hp, g, d, tk, os⟩ := fun q => B.iter pr wo _ _ ⟨hp, g, d, tk, os⟩ _ h1 q
    wp_walk using go
    refine wpAny_stack_any fun st => wpAny_pure ?_
    split
    · rename_i c _ _ _ _ _
      cases (c == Value.type "enumerate")
      · wp_walk using go
        exact ⟨_, rfl, hR⟩
      · wp_walk using go
        exact ⟨_, rfl, hR⟩
    · wp_walk using go
      exact ⟨_, rfl, hR⟩
theorem call_en {prog : Program} {w : World} {A : Around} {E : Value → Shared → Prop} {s : Shared} {v : Value} {ob : Obj} {Hx : Heap → Prop} {Q : Value → Shared → Prop} (B : Begins v ob Hx) (h1 : Hx s.heap)
    (h : ∀ h', IsEnum h' (s.heap.objs.size + 1) s.heap.objs.size 0 .none → h'.get? s.heap.objs.size = some ob → (∀ b o, s.heap.get? b = some o → h'.get? b = some o) → Q (.ref (s.heap.objs.size + 1)) { s with heap := h' }) :
    wpAny (model prog w) A (call (.type "enumerate") [v]) Q E s := by
  refine callType_new F.called_enumerate (by decide) (F.typeCall_enumerate_1 _) (F.newCall_enumerate_1 _) (fun obj => F.args_object_init_2 obj _) F.entry_enumerate_new (meets_en1 B) ⟨h1, ?_⟩
  have hz : (s.heap.push ob).objs.size = s.heap.objs.size + 1 := Heap.size_push ..
  show _ ∧ _
  rw [hz]
  have he : IsEnum ((s.heap.push ob).push { cls := .type "enumerate", data := .fields #[.none, .bool false, .ref s.heap.objs.size, rawInt 0, .none, .none] }) (s.heap.objs.size + 1) s.heap.objs.size 0 .none := by
    have q := Heap.get?_push_size (s.heap.push ob) (o := { cls := .type "enumerate", data := .fields #[.none, .bool false, .ref s.heap.objs.size, rawInt 0, .none, .none] }) rfl
    rw [hz] at q
    exact q
  exact ⟨⟨_, he, rfl⟩, h _ he (Heap.get?_push_of_some _ (Heap.get?_push_size _ B.free)) fun b o x => Heap.get?_push_of_some _ (Heap.get?_push_of_some _ x)⟩
/-- the walk of enumerate(v), by v -/
def iEn (K : PySem.W.Frag) (ta : TA) : TI := fun σ H R => ta σ H fun vs H1 => (∃ a xs, vs = [.ref a] ∧ SqL K H1 a xs ∧ R (Ite K a) H1) ∨ (∃ a xs, vs = [.ref a] ∧ SqT K H1 a xs ∧ R (EnT K a) H1) ∨ ∃ z, vs = [.str z] ∧ R (EnS z) H1
theorem pi_en {X : Cx} {e : Expr} {ta : TA} {p pos tpos : Pos} {elts : List Expr} {kk : Nat} (hg : Gl X "enumerate") (hm : X.mg "enumerate" = none) (ha : PA X [e] ta) (hs : starEach [e] X.env = [(false, eval e X.env)]) :
    PI X (.Tuple elts kk tpos) (.Call (.Name "enumerate" p) [e] [] pos) (iEn X.K ta) := by
  refine ⟨fun pins s σ H R I h => Call_ (ld_blt I hg hm boot_enumerate (PyProof.Rows.callWith_type1 (thn (ha.run pos pins s σ H _ I h) fun us s1 ⟨vs, H1, I1, r1, q1⟩ => ?_) hs rfl))⟩
  have fp : ∀ b ∈ [s1.heap.objs.size + 1, s1.heap.objs.size], FpOk X pins H1 b := fun b hb => by
    have hle : s1.heap.objs.size ≤ b := by
      simp only [List.mem_cons, List.not_mem_nil, or_false] at hb
      omega
    exact I1.fpOk hle (I1.hok.fresh hle)
  rcases q1 with ⟨a, xs, rfl, hq, q⟩ | ⟨a, xs, rfl, hq, q⟩ | ⟨z, rfl, q⟩
  · cases r1 with
    | cons r rr =>
      cases rr
      cases r
      obtain ⟨its, rv, pl, hz⟩ := I1.list hq
      refine call_en (begins_list a its.toArray) pl.isList fun h' he hit hk => wpAny_pyIter_enum he ?_
      exact ⟨_, [_, _], _, _, H1, rfl, I1.kept (t' := s1.toks) hk, turn_enum a _ s1.heap.objs.size, ⟨⟨.none, he⟩, ⟨_, hit, rfl, rfl⟩, Nat.succ_ne_self _⟩, fp, q⟩
  · cases r1 with
    | cons r rr =>
      cases rr
      cases r
      obtain ⟨its, rv, pl, hz⟩ := I1.tuple hq
      refine call_en (begins_tuple a its.toArray) pl fun h' he hit hk => wpAny_pyIter_enum he ?_
      exact ⟨_, [_, _], _, _, H1, rfl, I1.kept (t' := s1.toks) hk, turn_enT a _ s1.heap.objs.size (Nat.succ_ne_self _), ⟨⟨.none, he⟩, _, hit, rfl, rfl⟩, fp, q⟩
  · cases r1 with
    | cons r rr =>
      cases rr
      obtain ⟨t, rfl⟩ := r
      refine call_en (begins_text z t) trivial fun h' he hit hk => wpAny_pyIter_enum he ?_
      exact ⟨_, [_, _], _, _, H1, rfl, I1.kept (t' := s1.toks) hk, turn_enS z t _ s1.heap.objs.size (Nat.succ_ne_self _), ⟨⟨.none, he⟩, _, hit, rfl, rfl⟩, fp, q⟩
end MP
set_option Elab.async false
set_option linter.all false
set_option maxRecDepth 100000
set_option maxHeartbeats 2000000
namespace MP
open PySem PySem.Spec PyProof.Rows L2
/-! ## what is walked, and where it goes -/
/-- the model's walk gives a source's items -/
def SrcOk (C : Cc) (M : Nat → Addr) (n : Nat) (H : Hp) (s : Src) (J : L2.It) : Prop := ∀ M2 h2 H2, Le C M n H M2 h2.length H2 → Sim C M2 h2 H2 →
  (∀ i v, s.get h2 i = some v → J.go i H2 ∧ ∀ x H3, J.yld i H2 x H3 → Le C M2 h2.length H2 M2 h2.length H3 ∧ Sim C M2 h2 H3 ∧ Rep C.K M2 h2.length H3 v x) ∧ (s.fin h2 = true → J.stop s.len H2)
def tDI (C : Cc) (E : XK) (f : Slots → AH → Res Src) : TI := fun σ H R => ∃ M ρ h, Sim C M h H ∧ SlotsR C M h.length H ρ σ ∧ Cov (SrcOk C) C E M h H (f ρ h) R
theorem wkI {X : Cx} {tg e : Expr} {t t' : TI} (p : PI X tg e t) (w : ∀ σ H R, t' σ H R → t σ H R) : PI X tg e t' := ⟨fun pins s σ H R I h => p.run pins s σ H R I (w σ H R h)⟩
section
variable {X : Cx} {C : Cc} {E : XK} {tg a b c e : Expr} {fa fb fc fe : Slots → AH → Res Val} {pos p : Pos}
variable {M : Nat → Addr} {h : AH} {H : Hp}
theorem src_tup {a : Addr} {xs : List Val} {vs : List V} {n : Nat} (hq : SqT C.K H a vs) (r : Reps C.K M n H xs vs) : SrcOk C M n H (.its xs) (Itt C.K a) := fun M2 h2 H2 L S2 => by
  refine ⟨fun i v e => ?_, fun _ => ⟨vs, L.tup _ _ hq, by show vs.length ≤ xs.length; rw [r.length]; exact Nat.le_refl _⟩⟩
  obtain ⟨w, hw, rw'⟩ := (r.le L).get e
  refine ⟨⟨vs, w, L.tup _ _ hq, hw⟩, ?_⟩
  rintro x H3 ⟨rfl, y⟩
  have z := y vs (L.tup _ _ hq)
  rw [hw] at z
  cases z
  exact ⟨Le.refl, S2, rw'⟩
theorem src_str {z : Str} {n : Nat} : SrcOk C M n H (.its (z.cps.toList.map fun c => .str ⟨#[c]⟩)) (Its z) := fun M2 h2 H2 L S2 => by
  refine ⟨fun i v e => ?_, fun _ => ?_⟩
  · simp only [Src.get, List.getElem?_map, Option.map_eq_some_iff] at e
    obtain ⟨c, hc, rfl⟩ := e
    have hc' : z.cps[i]? = some c := by simpa using hc
    refine ⟨(Array.getElem?_eq_some_iff.mp hc').1, ?_⟩
    rintro x H3 ⟨rfl, c', h1, rfl⟩
    rw [hc'] at h1
    cases h1
    exact ⟨Le.refl, S2, .str _⟩
  · show z.cps.size ≤ (z.cps.toList.map _).length
    simp
theorem live_get {n m i : Nat} {h : AH} {v : Val} (e : (Src.live n m).get h i = some v) : ∃ xs, seqOf h (.ref n) = some xs ∧ xs.length = m ∧ xs[i]? = some v := by
  simp only [Src.get] at e
  cases q : seqOf h (.ref n) with
  | none => rw [q] at e; cases e
  | some xs =>
    rw [q] at e
    simp only [Option.bind_some] at e
    split at e
    · exact ⟨xs, rfl, by assumption, e⟩
    · cases e
theorem live_fin {n m : Nat} {h : AH} (e : (Src.live n m).fin h = true) : ∃ xs, seqOf h (.ref n) = some xs ∧ xs.length = m := by
  simp only [Src.fin] at e
  cases q : seqOf h (.ref n) with
  | none => rw [q] at e; cases e
  | some xs =>
    rw [q] at e
    exact ⟨xs, rfl, by simpa using e⟩
theorem src_lst {n m k : Nat} (hk : k < n) : SrcOk C M n H (.live k m) (Itl C.K (M k)) := fun M2 h2 H2 L S2 => by
  refine ⟨fun i v e => ?_, fun e => ?_⟩
  · obtain ⟨xs, e1, e2, e3⟩ := live_get e
    obtain ⟨vs, q, r⟩ := Sim.seq S2 e1
    rw [L.map k hk] at q
    obtain ⟨w, hw, rw'⟩ := r.get e3
    refine ⟨⟨vs, w, q, hw⟩, ?_⟩
    rintro x H3 ⟨rfl, y⟩
    have z := y vs q
    rw [hw] at z
    cases z
    exact ⟨Le.refl, S2, rw'⟩
  · obtain ⟨xs, e1, e2⟩ := live_fin e
    obtain ⟨vs, q, r⟩ := Sim.seq S2 e1
    rw [L.map k hk] at q
    exact ⟨vs, q, by rw [← r.length, e2]; exact Nat.le_refl _⟩
theorem rng_get {lo c : Int} {n i : Nat} {v : Val} (e : (rngOf lo c n)[i]? = some v) : i < n ∧ v = .int (lo + (i : Nat) * c) := by
  unfold rngOf at e
  rw [List.getElem?_map] at e
  by_cases hi : i < n
  · rw [List.getElem?_range hi] at e
    exact ⟨hi, (Option.some.inj e).symm⟩
  · rw [List.getElem?_eq_none (by simpa using hi)] at e
    cases e
theorem rng_len {lo c : Int} {n : Nat} : (rngOf lo c n).length = n := by simp [rngOf]
theorem src_rng {lo : Int} {n k : Nat} : SrcOk C M k H (.its (rngOf lo 1 n)) (Itr lo n) := fun M2 h2 H2 L S2 => by
  refine ⟨fun i v e => ?_, fun _ => by show n ≤ (rngOf lo 1 n).length; rw [rng_len]; exact Nat.le_refl _⟩
  obtain ⟨hi, rfl⟩ := rng_get e
  refine ⟨hi, ?_⟩
  rintro x H3 ⟨rfl, rfl⟩
  rw [Int.mul_one]
  exact ⟨Le.refl, S2, .int _⟩
theorem src_rngC {lo c : Int} {n k : Nat} : SrcOk C M k H (.its (rngOf lo c n)) (Itc lo c n) := fun M2 h2 H2 L S2 => by
  refine ⟨fun i v e => ?_, fun _ => by show n ≤ (rngOf lo c n).length; rw [rng_len]; exact Nat.le_refl _⟩
  obtain ⟨hi, rfl⟩ := rng_get e
  refine ⟨hi, ?_⟩
  rintro x H3 ⟨rfl, rfl⟩
  exact ⟨Le.refl, S2, .int _⟩
/-- a new pair -/
theorem pair_new {n : Nat} {T : Addr} {x y : Val} {v w : V} (S : Sim C M h H) (hT : H T = none) (r1 : Rep C.K M h.length H x v) (r2 : Rep C.K M h.length H y w) :
    Le C M h.length H M h.length (upd H T (.tup [v, w])) ∧ Sim C M h (upd H T (.tup [v, w])) ∧ Rep C.K M h.length (upd H T (.tup [v, w])) (.tup [x, y]) (.ref T) := by
  have L : Le C M h.length H M h.length (upd H T (.tup [v, w])) := Le.new hT
  exact ⟨L, S.new hT, .tup (.of upd_same) (.cons (r1.le L) (.cons (r2.le L) .nil))⟩
theorem enm_get {s : Src} {h : AH} {i : Nat} {v : Val} (e : (Src.enm s).get h i = some v) : ∃ x, s.get h i = some x ∧ v = .tup [.int (i : Nat), x] := by
  simp only [Src.get, Option.map_eq_some_iff] at e
  obtain ⟨x, h1, h2⟩ := e
  exact ⟨x, h1, h2.symm⟩
theorem src_enT {a : Addr} {xs : List Val} {vs : List V} {n : Nat} (hq : SqT C.K H a vs) (r : Reps C.K M n H xs vs) : SrcOk C M n H (.enm (.its xs)) (EnT C.K a) := fun M2 h2 H2 L S2 => by
  refine ⟨fun i v e => ?_, fun _ => ⟨vs, L.tup _ _ hq, r.length.symm⟩⟩
  obtain ⟨x, e1, rfl⟩ := enm_get e
  obtain ⟨w, hw, rw'⟩ := (r.le L).get e1
  refine ⟨⟨vs, w, L.tup _ _ hq, hw⟩, ?_⟩
  rintro _ H3 ⟨T, y, rfl, hT, rfl, f⟩
  have z := f vs (L.tup _ _ hq)
  rw [hw] at z
  cases z
  exact pair_new (n := n) S2 hT (.int _) rw'
theorem src_enS {z : Str} {n : Nat} : SrcOk C M n H (.enm (.its (z.cps.toList.map fun c => .str ⟨#[c]⟩))) (EnS z) := fun M2 h2 H2 L S2 => by
  refine ⟨fun i v e => ?_, fun _ => ?_⟩
  · obtain ⟨x, e1, rfl⟩ := enm_get e
    simp only [Src.get, List.getElem?_map, Option.map_eq_some_iff] at e1
    obtain ⟨c, hc, rfl⟩ := e1
    have hc' : z.cps[i]? = some c := by simpa using hc
    refine ⟨(Array.getElem?_eq_some_iff.mp hc').1, ?_⟩
    rintro _ H3 ⟨T, c', rfl, hT, rfl, h1⟩
    rw [hc'] at h1
    cases h1
    exact pair_new (n := n) S2 hT (.int _) (.str _)
  · show z.cps.size = (z.cps.toList.map _).length
    simp
theorem src_enL {n m k : Nat} (hk : k < n) : SrcOk C M n H (.enm (.live k m)) (Ite C.K (M k)) := fun M2 h2 H2 L S2 => by
  refine ⟨fun i v e => ?_, fun e => ?_⟩
  · obtain ⟨x, e0, rfl⟩ := enm_get e
    obtain ⟨xs, e1, e2, e3⟩ := live_get e0
    obtain ⟨vs, q, r⟩ := Sim.seq S2 e1
    rw [L.map k hk] at q
    obtain ⟨w, hw, rw'⟩ := r.get e3
    refine ⟨⟨vs, w, q, hw⟩, ?_⟩
    rintro _ H3 ⟨T, y, rfl, hT, rfl, f⟩
    have z := f vs q
    rw [hw] at z
    cases z
    exact pair_new (n := n) S2 hT (.int _) rw'
  · obtain ⟨xs, e1, e2⟩ := live_fin (n := k) (m := m) e
    obtain ⟨vs, q, r⟩ := Sim.seq S2 e1
    rw [L.map k hk] at q
    exact ⟨vs, q, by show vs.length ≤ m; rw [← r.length, e2]; exact Nat.le_refl _⟩
theorem zip_get {s t : Src} {h : AH} {i : Nat} {v : Val} (e : (Src.zip s t).get h i = some v) : ∃ x y, s.get h i = some x ∧ t.get h i = some y ∧ v = .tup [x, y] := by
  simp only [Src.get] at e
  cases e1 : s.get h i with
  | none => rw [e1] at e; cases e
  | some x =>
    rw [e1] at e
    cases e2 : t.get h i with
    | none => rw [e2] at e; cases e
    | some y =>
      rw [e2] at e
      cases e
      exact ⟨x, y, rfl, rfl, rfl⟩
theorem src_zipT {a b : Addr} {xs ys : List Val} {vs ws : List V} {n : Nat} (hq : SqT C.K H a vs) (r : Reps C.K M n H xs vs) (hq' : SqT C.K H b ws) (r' : Reps C.K M n H ys ws) : SrcOk C M n H (.zip (.its xs) (.its ys)) (RZ.ItzT C.K a b) := fun M2 h2 H2 L S2 => by
  refine ⟨fun i v e => ?_, fun _ => ⟨vs, ws, L.tup _ _ hq, L.tup _ _ hq', ?_⟩⟩
  · obtain ⟨x, y, e1, e2, rfl⟩ := zip_get e
    obtain ⟨w, hw, rw'⟩ := (r.le L).get e1
    obtain ⟨u, hu, ru⟩ := (r'.le L).get e2
    refine ⟨⟨vs, ws, w, u, L.tup _ _ hq, L.tup _ _ hq', hw, hu⟩, ?_⟩
    rintro _ H3 ⟨T, p, q, rfl, hT, rfl, f, g⟩
    have z := f vs (L.tup _ _ hq)
    rw [hw] at z
    cases z
    have z := g ws (L.tup _ _ hq')
    rw [hu] at z
    cases z
    exact pair_new (n := n) S2 hT rw' ru
  · show _ ∨ _
    have l1 := r.length
    have l2 := r'.length
    show vs.length ≤ min xs.length ys.length ∨ ws.length ≤ min xs.length ys.length
    omega
theorem src_zipL {n m k l k' : Nat} (hk : k < n) (hl : l < n) : SrcOk C M n H (.zip (.live k m) (.live l k')) (Itz C.K (M k) (M l)) := fun M2 h2 H2 L S2 => by
  refine ⟨fun i v e => ?_, fun e => ?_⟩
  · obtain ⟨x, y, e0, e0', rfl⟩ := zip_get e
    obtain ⟨xs, e1, e2, e3⟩ := live_get e0
    obtain ⟨ys, d1, d2, d3⟩ := live_get e0'
    obtain ⟨vs, q, r⟩ := Sim.seq S2 e1
    obtain ⟨us, q', r'⟩ := Sim.seq S2 d1
    rw [L.map k hk] at q
    rw [L.map l hl] at q'
    obtain ⟨w, hw, rw'⟩ := r.get e3
    obtain ⟨u, hu, ru⟩ := r'.get d3
    refine ⟨⟨vs, us, w, u, q, q', hw, hu⟩, ?_⟩
    rintro _ H3 ⟨T, p1, p2, rfl, hT, rfl, f, g⟩
    have z := f vs q
    rw [hw] at z
    cases z
    have z := g us q'
    rw [hu] at z
    cases z
    exact pair_new (n := n) S2 hT rw' ru
  · simp only [Src.fin, Bool.and_eq_true] at e
    obtain ⟨xs, e1, e2⟩ := live_fin (n := k) (m := m) e.1
    obtain ⟨ys, d1, d2⟩ := live_fin (n := l) (m := k') e.2
    obtain ⟨vs, q, r⟩ := Sim.seq S2 e1
    obtain ⟨us, q', r'⟩ := Sim.seq S2 d1
    rw [L.map k hk] at q
    rw [L.map l hl] at q'
    have l1 := r.length
    have l2 := r'.length
    refine ⟨vs, us, q, q', ?_⟩
    show vs.length ≤ min m k' ∨ us.length ≤ min m k'
    omega
/-! ### the rules -/
theorem srcOf_cases {h : AH} {v : Val} {s : Src} (e : srcOf h v = some s) : (∃ z, v = .str z ∧ s = .its (z.cps.toList.map fun c => .str ⟨#[c]⟩)) ∨ (∃ xs, v = .tup xs ∧ s = .its xs) ∨ ∃ n xs, v = .ref n ∧ seqOf h (.ref n) = some xs ∧ s = .live n xs.length := by
  cases v with
  | str z => cases e; exact .inl ⟨z, rfl, rfl⟩
  | tup xs => cases e; exact .inr (.inl ⟨xs, rfl, rfl⟩)
  | ref n =>
    simp only [srcOf, Option.map_eq_some_iff] at e
    obtain ⟨xs, h1, h2⟩ := e
    exact .inr (.inr ⟨n, xs, rfl, h1, h2.symm⟩)
  | _ => cases e
theorem i_seq (hK : C.K = X.K) (he : PE X e (tD C E fe)) : PI X tg e (tDI C E fun ρ h => (fe ρ h).bind fun x h1 => liftO h1 (srcOf h1 x)) := by
  refine ⟨fun pins s σ H R I ⟨M, ρ, h, S, sl, c⟩ => ?_⟩
  dsimp only at c
  cases ev : fe ρ h with
  | bad => rw [ev] at c; exact c.elim
  | exc k v h1 =>
    rw [ev] at c
    refine (pi_tup he).run pins s σ H R I ⟨M, ρ, h, S, sl, ?_⟩
    rw [ev]
    exact c
  | ok v h1 =>
    rw [ev] at c
    simp only [Res.bind] at c
    cases es : srcOf h1 v with
    | none => rw [es] at c; exact c.elim
    | some sc =>
      rw [es] at c
      rcases srcOf_cases es with ⟨z, rfl, rfl⟩ | ⟨xs, rfl, rfl⟩ | ⟨n, xs, rfl, hq, rfl⟩
      · refine (pi_str he).run pins s σ H R I ⟨M, ρ, h, S, sl, ?_⟩
        rw [ev]
        exact fun M' x H' L S' r => ⟨z, i_str r, c M' _ H' L S' src_str⟩
      · refine (pi_tup he).run pins s σ H R I ⟨M, ρ, h, S, sl, ?_⟩
        rw [ev]
        intro M' x H' L S' r
        obtain ⟨a, vs, rfl, ha, rs⟩ := i_tup r
        exact ⟨a, rfl, ⟨vs, hK ▸ ha⟩, hK ▸ c M' _ H' L S' (src_tup ha rs)⟩
      · refine (pi_list he).run pins s σ H R I ⟨M, ρ, h, S, sl, ?_⟩
        rw [ev]
        intro M' x H' L S' r
        obtain ⟨rfl, hn⟩ := i_ref r
        obtain ⟨vs, q, rs⟩ := Sim.seq S' hq
        exact ⟨M' n, rfl, ⟨vs, hK ▸ q⟩, hK ▸ c M' _ H' L S' (src_lst hn)⟩
theorem cov_one {σ : L2.St} {f : Slots → AH → Res Val} {Q : List V → Hp → Prop} (t : tD C E f σ H fun x H' => Q [x] H') : tCons (tD C E f) tNil σ H Q := t
theorem okI_b {i : Int} (h : okI i) : -(2 ^ 62) ≤ i ∧ i < 2 ^ 62 := h
theorem i_rng1 (hg : Gl X "range") (hm : X.mg "range" = none) (ha : PE X a (tD C E fa)) (hn : noStar a = true) :
    PI X tg (.Call (.Name "range" p) [a] [] pos) (tDI C E fun ρ h => (fa ρ h).bind fun x h1 => (match x with
      | .int j => if okI j then .ok (.its (rngOf 0 1 j.toNat)) h1 else .bad
      | _ => .bad)) := by
  have hs : starEach [a] X.env = [(false, eval a X.env)] := star_ok hn
  refine wkI (pi_range1 hg hm (pa_cons ha pa_nil hs) hs) fun σ H R ⟨M, ρ, h, S, sl, c⟩ => ?_
  refine ⟨M, ρ, h, S, sl, (Cov.bind (rel := rV C) c).mono fun x H1 ⟨M1, v, h1, _, L1, S1, r1, c1⟩ => ?_⟩
  cases v with
  | int j =>
    simp only at c1
    split at c1
    · rename_i hj
      exact ⟨j, by rw [i_int r1], hj.1, hj.2, Cov.ok c1 S1 src_rng⟩
    · exact c1.elim
  | _ => exact c1.elim
theorem i_rng2 (hg : Gl X "range") (hm : X.mg "range" = none) (ha : PE X a (tD C E fa)) (hb : PE X b (tD C E fb)) (hn : noStar a = true) (hn2 : noStar b = true) :
    PI X tg (.Call (.Name "range" p) [a, b] [] pos) (tDI C E fun ρ h => (fa ρ h).bind fun x h1 => (fb ρ h1).bind fun y h2 => (match x, y with
      | .int i, .int j => if okI i ∧ okI j then .ok (.its (rngOf i 1 (j - i).toNat)) h2 else .bad
      | _, _ => .bad)) := by
  have hs2 : starEach [b] X.env = [(false, eval b X.env)] := star_ok hn2
  have hs : starEach [a, b] X.env = [(false, eval a X.env), (false, eval b X.env)] := (star_ok hn).trans (by rw [hs2])
  refine wkI (pi_range2 hg hm (pa_cons ha (pa_cons hb pa_nil hs2) (star_ok hn)) hs hs2) fun σ H R ⟨M, ρ, h, S, sl, c⟩ => ?_
  refine ⟨M, ρ, h, S, sl, (Cov.bind (rel := rV C) c).mono fun x H1 ⟨M1, v, h1, _, L1, S1, r1, c1⟩ => ?_⟩
  refine ⟨M1, ρ, h1, S1, sl.go L1, (Cov.bind (rel := rV C) c1).mono fun y H2 ⟨M2, w, h2, _, L2, S2, r2, c2⟩ => ?_⟩
  cases v with
  | int i =>
    cases w with
    | int j =>
      simp only at c2
      split at c2
      · rename_i hj
        exact ⟨i, j, by rw [i_int r1, i_int r2], ⟨hj.1.1, hj.1.2, hj.2.1, hj.2.2⟩, Cov.ok c2 S2 src_rng⟩
      · exact c2.elim
    | _ => exact c2.elim
  | _ => exact c2.elim
theorem i_rng3 (hg : Gl X "range") (hm : X.mg "range" = none) (ha : PE X a (tD C E fa)) (hb : PE X b (tD C E fb)) (hc : PE X c (tD C E fc)) (hn : noStar a = true) (hn2 : noStar b = true) (hn3 : noStar c = true) :
    PI X tg (.Call (.Name "range" p) [a, b, c] [] pos) (tDI C E fun ρ h => (fa ρ h).bind fun x h1 => (fb ρ h1).bind fun y h2 => (fc ρ h2).bind fun z h3 => (match x, y, z with
      | .int i, .int j, .int k => if k ≠ 0 ∧ k.natAbs < 2 ^ 30 ∧ PySem.Builtin.Range.small i j k = true ∧ 0 ≤ PySem.Builtin.Range.rangeSize i j k then .ok (.its (rngOf i k (PySem.Builtin.Range.rangeSize i j k).toNat)) h3 else .bad
      | _, _, _ => .bad)) := by
  have hs3 : starEach [c] X.env = (false, eval c X.env) :: starEach [] X.env := star_ok hn3
  refine wkI (pi_range3 hg hm (pa_cons ha (pa_cons hb (pa_cons hc pa_nil hs3) (star_ok hn2)) (star_ok hn)) (star_ok hn) (stars_ok (by simp [hn2, hn3]))) fun σ H R ⟨M, ρ, h, S, sl, c⟩ => ?_
  refine ⟨M, ρ, h, S, sl, (Cov.bind (rel := rV C) c).mono fun x H1 ⟨M1, v, h1, _, L1, S1, r1, c1⟩ => ?_⟩
  refine ⟨M1, ρ, h1, S1, sl.go L1, (Cov.bind (rel := rV C) c1).mono fun y H2 ⟨M2, w, h2, _, L2, S2, r2, c2⟩ => ?_⟩
  refine ⟨M2, ρ, h2, S2, (sl.go L1).go L2, (Cov.bind (rel := rV C) c2).mono fun z H3 ⟨M3, u, h3, _, L3, S3, r3, c3⟩ => ?_⟩
  cases v with
  | int i =>
    cases w with
    | int j =>
      cases u with
      | int k =>
        simp only at c3
        split at c3
        · rename_i hj
          exact ⟨i, j, k, _, by rw [i_int r1, i_int r2, i_int r3], ⟨hj.1, by have := hj.2.1; omega, hj.2.2.1, (Int.toNat_of_nonneg hj.2.2.2).symm⟩, Cov.ok c3 S3 src_rngC⟩
        · exact c3.elim
      | _ => exact c3.elim
    | _ => exact c3.elim
  | _ => exact c3.elim
theorem i_enm {elts : List Expr} {kk : Nat} {tpos : Pos} (hK : C.K = X.K) (hg : Gl X "enumerate") (hm : X.mg "enumerate" = none) (he : PE X e (tD C E fe)) (hn : noStar e = true) :
    PI X (.Tuple elts kk tpos) (.Call (.Name "enumerate" p) [e] [] pos) (tDI C E fun ρ h => (fe ρ h).bind fun x h1 => liftO h1 ((srcOf h1 x).map .enm)) := by
  have hs : starEach [e] X.env = [(false, eval e X.env)] := star_ok hn
  refine wkI (pi_en hg hm (pa_cons he pa_nil hs) hs) fun σ H R ⟨M, ρ, h, S, sl, c⟩ => ?_
  refine ⟨M, ρ, h, S, sl, (Cov.bind (rel := rV C) c).mono fun x H1 ⟨M1, v, h1, _, L1, S1, r1, c1⟩ => ?_⟩
  cases es : srcOf h1 v with
  | none => rw [es] at c1; exact c1.elim
  | some sc =>
    rw [es] at c1
    rcases srcOf_cases es with ⟨z, rfl, rfl⟩ | ⟨xs, rfl, rfl⟩ | ⟨n, xs, rfl, hq, rfl⟩
    · exact .inr (.inr ⟨z, by rw [i_str r1], Cov.ok c1 S1 src_enS⟩)
    · obtain ⟨a, vs, rfl, ha, rs⟩ := i_tup r1
      exact .inr (.inl ⟨a, vs, rfl, hK ▸ ha, hK ▸ Cov.ok c1 S1 (src_enT ha rs)⟩)
    · obtain ⟨rfl, hn⟩ := i_ref r1
      obtain ⟨vs, q, rs⟩ := Sim.seq S1 hq
      exact .inl ⟨M1 n, vs, rfl, hK ▸ q, hK ▸ Cov.ok c1 S1 (src_enL hn)⟩
theorem i_zip {elts : List Expr} {kk : Nat} {tpos : Pos} (hK : C.K = X.K) (hg : Gl X "zip") (hm : X.mg "zip" = none) (ha : PE X a (tD C E fa)) (hb : PE X b (tD C E fb)) (hn : noStar a = true) (hn2 : noStar b = true) :
    PI X (.Tuple elts kk tpos) (.Call (.Name "zip" p) [a, b] [] pos) (tDI C E fun ρ h => (fa ρ h).bind fun x h1 => (fb ρ h1).bind fun y h2 => (match x, y with
      | .tup xs, .tup ys => .ok (.zip (.its xs) (.its ys)) h2
      | .ref n, .ref m => liftO h2 ((srcOf h2 (.ref n)).bind fun s => (srcOf h2 (.ref m)).map fun t => .zip s t)
      | _, _ => .bad)) := by
  have hs2 : starEach [b] X.env = [(false, eval b X.env)] := star_ok hn2
  refine wkI (RZ.pi_zipA hg hm (pa_cons ha (pa_cons hb pa_nil hs2) (star_ok hn)) (star_ok hn) (stars_ok (by simp [hn2]))) fun σ H R ⟨M, ρ, h, S, sl, c⟩ => ?_
  refine ⟨M, ρ, h, S, sl, (Cov.bind (rel := rV C) c).mono fun x H1 ⟨M1, v, h1, _, L1, S1, r1, c1⟩ => ?_⟩
  refine ⟨M1, ρ, h1, S1, sl.go L1, (Cov.bind (rel := rV C) c1).mono fun y H2 ⟨M2, w, h2, _, L2, S2, r2, c2⟩ => ?_⟩
  cases v with
  | tup xs =>
    cases w with
    | tup ys =>
      obtain ⟨a, vs, rfl, ha, rs⟩ := i_tup (r1.le L2)
      obtain ⟨b, ws, rfl, hb, rs'⟩ := i_tup r2
      exact ⟨a, b, vs, ws, rfl, .inr ⟨hK ▸ ha, hK ▸ hb, hK ▸ Cov.ok c2 S2 (src_zipT ha rs hb rs')⟩⟩
    | _ => exact c2.elim
  | ref n =>
    cases w with
    | ref m =>
      simp only at c2
      cases e1 : srcOf h2 (.ref n) with
      | none => rw [e1] at c2; exact c2.elim
      | some s1 =>
        rw [e1] at c2
        cases e2 : srcOf h2 (.ref m) with
        | none => rw [e2] at c2; exact c2.elim
        | some s2 =>
          rw [e2] at c2
          rcases srcOf_cases e1 with ⟨_, z, _⟩ | ⟨_, z, _⟩ | ⟨n', xs, z, hq, rfl⟩ <;> cases z
          rcases srcOf_cases e2 with ⟨_, z, _⟩ | ⟨_, z, _⟩ | ⟨m', ys, z, hq', rfl⟩ <;> cases z
          obtain ⟨rfl, hn⟩ := i_ref (r1.le L2)
          obtain ⟨rfl, hm⟩ := i_ref r2
          obtain ⟨vs, q, rs⟩ := Sim.seq S2 hq
          obtain ⟨ws, q', rs'⟩ := Sim.seq S2 hq'
          exact ⟨_, _, vs, ws, rfl, .inl ⟨hK ▸ q, hK ▸ q', hK ▸ Cov.ok c2 S2 (src_zipL hn hm)⟩⟩
    | _ => exact c2.elim
  | _ => exact c2.elim
end
end MP
set_option Elab.async false
set_option linter.all false
set_option maxRecDepth 100000
set_option maxHeartbeats 2000000
namespace MP
open PySem PySem.Spec PyProof.Rows L2
/-! ## targets -/
/-- slots beside is stay -/
def SetsIn (is : List Nat) (σ σ' : L2.St) : Prop := σ'.length = σ.length ∧ ∀ k, k ∉ is → σ'[k]? = σ[k]?
def gD (C : Cc) (is : List Nat) : TG := fun x σ H Q => ∃ M ρ h v ρ', Sim C M h H ∧ SlotsR C M h.length H ρ σ ∧ Rep C.K M h.length H v x ∧ asg h v is ρ = some ρ' ∧ ∀ σ', SlotsR C M h.length H ρ' σ' → SetsIn is σ σ' → Q σ' H
def gDs (C : Cc) (is : List Nat) : TGs := fun xs σ H Q => ∃ M n ρ vs, SlotsR C M n H ρ σ ∧ Reps C.K M n H vs xs ∧ vs.length = is.length ∧ ∀ σ', SlotsR C M n H (setAll ρ (is.zip vs)) σ' → SetsIn is σ σ' → Q σ' H
section
variable {X : Cx} {C : Cc} {E : XK} {e : Expr} {es : List Expr} {pos : Pos} {M : Nat → Addr} {n : Nat} {H : Hp} {ρ : Slots} {σ : L2.St}
theorem SlotsR.set {i : Nat} {v : Val} {x : V} (s : SlotsR C M n H ρ σ) (r : Rep C.K M n H v x) (hi : i < σ.length) : SlotsR C M n H (ρ.set i (some v)) (σ.set i (some x)) := fun k w e => by
  by_cases hk : i = k
  · subst hk
    by_cases hl : i < ρ.length
    · rw [List.getElem?_set_self hl] at e
      cases e
      exact ⟨x, List.getElem?_set_self hi, r⟩
    · rw [List.getElem?_eq_none (by simpa using hl)] at e
      cases e
  · rw [List.getElem?_set_ne hk] at e
    obtain ⟨y, h1, h2⟩ := s k w e
    exact ⟨y, by rw [List.getElem?_set_ne hk]; exact h1, h2⟩
theorem SetsIn.one {i : Nat} {is : List Nat} {x : V} (hi : i ∈ is) : SetsIn is σ (σ.set i (some x)) := ⟨List.length_set, fun k hk => List.getElem?_set_ne fun z => hk (by rw [← z]; exact hi)⟩
theorem SetsIn.trans {is : List Nat} {σ1 σ2 : L2.St} (a : SetsIn is σ σ1) (b : SetsIn is σ1 σ2) : SetsIn is σ σ2 := ⟨b.1.trans a.1, fun k hk => (b.2 k hk).trans (a.2 k hk)⟩
theorem SetsIn.mono {is js : List Nat} {σ1 : L2.St} (a : SetsIn is σ σ1) (h : ∀ i ∈ is, i ∈ js) : SetsIn js σ σ1 := ⟨a.1, fun k hk => a.2 k fun z => hk (h k z)⟩
/-- a name that may be stored -/
structure NmOk (X : Cx) (i : Nat) (x : Str) : Prop where
  ix : X.N[i]? = some x
  loc : Loc X.env.scope x
  fn : X.fn x = true ∨ X.env.scope.names.lookup x = some .local
theorem g_name {i : Nat} {x : Str} (nd : X.N.Nodup) (ok : NmOk X i x) : PG X (.Name x pos) (gD C [i]) := by
  refine ⟨fun pins s σ H v u Q I r ⟨M, ρ, h, w, ρ', S, sl, rw', e, q⟩ => (pg_name nd ok.ix ok.loc ok.fn).run pins s σ H v u Q I r ?_⟩
  cases e
  exact q _ (sl.set rw' (by rw [I.len]; exact (List.getElem?_eq_some_iff.mp ok.ix).1)) (SetsIn.one (.head _))
/-- names one behind another -/
def NmsOk (X : Cx) : List Nat → List Expr → Prop
  | [], [] => True
  | i :: is, .Name x _ :: es => NmOk X i x ∧ NmsOk X is es
  | _, _ => False
theorem NmsOk.facts : ∀ {is : List Nat} {es : List Expr}, NmsOk X is es → (assignEach es X.env).length = is.length ∧ (assignEach es X.env).findIdx? (·.1) = none
  | [], [], _ => ⟨rfl, rfl⟩
  | [], _ :: _, h => h.elim
  | _ :: _, [], h => h.elim
  | i :: is, e :: es, h => by
    cases e <;> first | exact h.elim | skip
    obtain ⟨h1, h2⟩ := NmsOk.facts h.2
    refine ⟨?_, ?_⟩
    · show (assignEach es X.env).length + 1 = is.length + 1
      rw [h1]
    · show List.findIdx? _ ((false, _) :: assignEach es X.env) = none
      rw [List.findIdx?_cons, h2]
      rfl
theorem g_names (nd : X.N.Nodup) : ∀ {is : List Nat} {es : List Expr}, NmsOk X is es → PGs X es (gDs C is)
  | [], [], _ => ⟨fun pins s σ H vs us Q I r ⟨M, n, ρ, ws, sl, rr, l, q⟩ => pgs_nil.run pins s σ H vs us Q I r ⟨by
      have := rr.length
      simp only [List.length_nil] at l
      exact List.length_eq_zero_iff.mp (by omega), q σ (by
        have : ws = [] := List.length_eq_zero_iff.mp l
        subst this
        exact sl) ⟨rfl, fun _ _ => rfl⟩⟩⟩
  | [], _ :: _, h => h.elim
  | _ :: _, [], h => h.elim
  | i :: is, e :: es, h => by
    cases e <;> first | exact h.elim | skip
    rename_i x p
    have ih := g_names nd h.2
    refine ⟨fun pins s σ H vs us Q I r ⟨M, n, ρ, ws, sl, rr, l, q⟩ => (pgs_cons (pg_name nd h.1.ix h.1.loc h.1.fn) ih rfl).run pins s σ H vs us Q I r ?_⟩
    cases rr with
    | nil => simp at l
    | cons r1 rs =>
      refine ⟨_, _, rfl, M, n, ρ.set i (some _), _, sl.set r1 (by rw [I.len]; exact (List.getElem?_eq_some_iff.mp h.1.ix).1), rs, by simpa using l, fun σ' s1 s2 => q σ' s1 ?_⟩
      exact (SetsIn.one (.head _)).trans (s2.mono fun k hk => .tail _ hk)
theorem g_tuple {k : Nat} {is : List Nat} (hK : C.K = X.K) (hc : X.calm = true) (nd : X.N.Nodup) (ok : NmsOk X is es) (hl : is.length ≠ 1) : PG X (.Tuple es k pos) (gD C is) := by
  obtain ⟨n1, n2⟩ := ok.facts
  have asgE : ∀ {h : AH} {v : Val} {ρ ρ' : Slots}, asg h v is ρ = some ρ' → ∃ xs, seqOf h v = some xs ∧ xs.length = is.length ∧ ρ' = setAll ρ (is.zip xs) := fun {h v ρ ρ'} e => by
    unfold asg at e
    split at e
    · exact absurd rfl hl
    · cases q : seqOf h v with
      | none => rw [q] at e; cases e
      | some xs =>
        rw [q] at e
        simp only [Option.bind_some] at e
        split at e
        · cases e
          exact ⟨xs, rfl, by assumption, rfl⟩
        · cases e
  refine ⟨fun pins s σ H x u Q I r ⟨M, ρ, h, v, ρ', S, sl, rx, e, q⟩ => ?_⟩
  obtain ⟨xs, e1, e2, rfl⟩ := asgE e
  cases v with
  | tup ys =>
    cases e1
    obtain ⟨a, vs, rfl, ha, rs⟩ := i_tup rx
    exact (pg_tup hc (g_names nd ok) rfl n2).run pins s σ H _ u Q I r ⟨a, vs, rfl, hK ▸ ha, by rw [n1, ← e2, rs.length], M, h.length, ρ, _, sl, rs, e2, q⟩
  | ref m =>
    obtain ⟨rfl, hm⟩ := i_ref rx
    obtain ⟨vs, hq, rs⟩ := Sim.seq S e1
    exact (pg_lst hc (g_names nd ok) rfl n2).run pins s σ H _ u Q I r ⟨M m, vs, rfl, hK ▸ hq, by rw [n1, ← e2, rs.length], M, h.length, ρ, _, sl, rs, e2, q⟩
  | _ => cases e1
end
/-! ## garbage -/
section
variable {C : Cc} {E : XK} {σ : L2.St} {H : Hp}
theorem gcT_w {f : Slots → AH → Res Bool} {Q : Bool → Hp → Prop} (t : tDT C E (fun ρ h => gcT h (f ρ h)) σ H Q) : tDT C E f σ H Q := by
  obtain ⟨M, ρ, h, S, sl, c⟩ := t
  refine ⟨M, ρ, h, S, sl, ?_⟩
  dsimp only at c
  cases e : f ρ h with
  | bad => rw [e] at c; exact c
  | exc k v h1 => rw [e] at c; exact c
  | ok b h1 =>
    rw [e] at c
    intro M' x H' L S' q
    obtain ⟨M2, L2, S2, _⟩ := gc_ok (v := .bl b) (x := .bl b) S L S' (.bl b)
    exact c M2 x H' L2 S2 q
theorem gcR_w {f : Slots → AH → Res Val} {Q : VK} (t : tD C E (fun ρ h => gcR h (f ρ h)) σ H Q) : tD C E f σ H Q := by
  obtain ⟨M, ρ, h, S, sl, c⟩ := t
  refine ⟨M, ρ, h, S, sl, ?_⟩
  dsimp only at c
  cases e : f ρ h with
  | bad => rw [e] at c; exact c
  | exc k v h1 =>
    rw [e] at c
    intro M' x d H' L S' r hd
    obtain ⟨M2, L2, S2, r2⟩ := gc_ok S L S' r
    exact c M2 x d H' L2 S2 r2 hd
  | ok v h1 =>
    rw [e] at c
    intro M' x H' L S' r
    obtain ⟨M2, L2, S2, r2⟩ := gc_ok S L S' r
    exact c M2 x H' L2 S2 r2
end
/-! ## comprehensions -/
abbrev E0 : XK := fun _ _ _ => False
abbrev rU : (Nat → Addr) → Nat → Hp → Unit → Unit → Prop := fun _ _ _ _ _ => True
theorem wipe_at (σ : L2.St) (k : Nat) : ∀ vs : List Nat, (wipe σ vs)[k]? = if k ∈ vs ∧ k < σ.length then some none else σ[k]?
  | [] => by simp [wipe]
  | v :: vs => by
    unfold wipe
    rw [List.getElem?_set, wipe_length, wipe_at σ k vs]
    by_cases h1 : v = k
    · subst h1
      by_cases h2 : v < σ.length
      · simp [h2]
      · rw [if_pos rfl, if_neg h2, if_neg (fun z => h2 z.2)]
        rw [List.getElem?_eq_none (Nat.le_of_not_lt h2)]
    · have h2 : k ≠ v := fun z => h1 z.symm
      rw [if_neg h1]
      simp [List.mem_cons, h2]
theorem wipe_back {σ σ' : L2.St} {is vs : List Nat} (s : SetsIn is (wipe σ vs) σ') (h : ∀ i ∈ is, i ∈ vs) : wipe σ' vs = wipe σ vs := by
  refine List.ext_getElem? fun k => ?_
  have l : σ'.length = σ.length := s.1.trans (wipe_length σ vs)
  rw [wipe_at, l]
  by_cases hk : k ∈ vs
  · by_cases hl : k < σ.length
    · rw [if_pos ⟨hk, hl⟩, wipe_at, if_pos ⟨hk, hl⟩]
    · rw [if_neg fun z => hl z.2, List.getElem?_eq_none (by omega), List.getElem?_eq_none (by rw [wipe_length]; omega)]
  · rw [if_neg fun z => hk z.1, s.2 k fun z => hk (h k z)]
theorem SlotsR.wipe {C : Cc} {M : Nat → Addr} {n : Nat} {H : Hp} {ρ : Slots} {σ : L2.St} (s : SlotsR C M n H ρ σ) : ∀ vs : List Nat, SlotsR C M n H (wipeS ρ vs) (L2.wipe σ vs)
  | [] => s
  | v :: vs => fun k w e => by
    have ih := SlotsR.wipe s vs
    unfold wipeS at e
    unfold L2.wipe
    by_cases hk : v = k
    · subst hk
      by_cases hl : v < (wipeS ρ vs).length
      · rw [List.getElem?_set_self hl] at e
        cases e
      · rw [List.getElem?_eq_none (by simpa using hl)] at e
        cases e
    · rw [List.getElem?_set_ne hk] at e
      obtain ⟨x, h1, h2⟩ := ih k w e
      exact ⟨x, by rw [List.getElem?_set_ne hk]; exact h1, h2⟩
def compF (vs tg : List Nat) (fi : Slots → AH → Res Src) (fc fe : Slots → AH → Res Val) : Slots → AH → Res Val := fun ρ h => (fi ρ h).bind fun s h1 => (noX (cloop s (stepC vs tg fc fe ρ) h1.length s.len 0 (h1 ++ [.lst []]))).bind fun _ h2 => .ok (.ref h1.length) h2
section
variable {X : Cx} {C : Cc} {E : XK}
theorem lc_read {vs tg : List Nat} {fi : Slots → AH → Res Src} {fc fe : Slots → AH → Res Val} {tt : TT} (sub : ∀ i ∈ tg, i ∈ vs) (wt : ∀ σ H (Q : Bool → Hp → Prop), tDT C E0 (tf fc) σ H Q → tt σ H Q) {σ : L2.St} {H : Hp} {Q : VK}
    (t : tD C E (compF vs tg fi fc fe) σ H Q) : tLc (tDI C E fi) (gD C tg) tt (tD C E0 fe) vs σ H Q := by
  obtain ⟨M, ρ, h, S, sl, c⟩ := t
  refine ⟨M, ρ, h, S, sl, (Cov.bind (rel := SrcOk C) (rel' := rV C) c).mono fun J H1 ⟨M1, s, h1, _, L1, S1, src, c1⟩ D hD => ?_⟩
  have sl1 := sl.go L1
  clear c
  -- the new list
  have Sb : Sim C (more M1 h1.length D) (h1 ++ [.lst []]) (upd H1 D (.lst [])) := S1.grow hD ⟨[], upd_same, .nil⟩
  have Lb : Le C M1 h1.length H1 (more M1 h1.length D) (h1 ++ [AObj.lst []]).length (upd H1 D (.lst [])) := by simpa using Le.grow (C := C) (M := M1) (n := h1.length) hD
  have mD : more M1 h1.length D h1.length = D := more_new
  generalize more M1 h1.length D = Mb at Sb Lb mD
  have hdb : h1.length < (h1 ++ [AObj.lst []]).length := by simp
  generalize hb0 : h1 ++ [AObj.lst []] = hb at Sb Lb hdb c1
  generalize upd H1 D (.lst []) = Hb at Sb Lb
  have slb := sl1.go Lb
  have srcb : ∀ M2 h2 H2, Le C Mb hb.length Hb M2 h2.length H2 → Sim C M2 h2 H2 → _ := fun M2 h2 H2 L2 S2 => src M2 h2 H2 (Lb.trans L2) S2
  have c2 : Cov rU C E0 Mb hb Hb (cloop s (stepC vs tg fc fe ρ) h1.length s.len 0 hb) fun _ H' => Q (.ref D) H' := by
    cases e : cloop s (stepC vs tg fc fe ρ) h1.length s.len 0 hb with
    | bad => rw [e] at c1; exact c1.elim
    | exc k v h' => rw [e] at c1; exact c1.elim
    | ok u h' =>
      rw [e] at c1
      intro M2 _ H2 L2 S2 _
      have z := c1 M2 (.ref (M2 h1.length)) H2 (Lb.trans L2) S2 (.ref (Nat.lt_of_lt_of_le hdb L2.le))
      rw [L2.map _ hdb, mD] at z
      exact z
  refine ⟨fun i m H => m = s.len - i ∧ i ≤ s.len ∧ ∃ M2 h2, Le C Mb hb.length Hb M2 h2.length H ∧ Sim C M2 h2 H ∧ Cov rU C E0 M2 h2 H (cloop s (stepC vs tg fc fe ρ) h1.length (s.len - i) i h2) fun _ H' => Q (.ref D) H',
    ⟨s.len, rfl, Nat.zero_le _, Mb, hb, Le.refl, Sb, c2⟩, ?_⟩
  clear c1 c2
  rintro i m H ⟨rfl, hi, M2, h2, L2, S2, c2⟩
  by_cases hlt : i < s.len
  · obtain ⟨n, hn⟩ : ∃ n, s.len - i = n + 1 := ⟨s.len - i - 1, by omega⟩
    rw [hn] at c2
    have hn' : s.len - (i + 1) = n := by omega
    simp only [cloop] at c2
    cases e1 : s.get h2 i with
    | none => rw [e1] at c2; exact c2.elim
    | some v =>
      rw [e1] at c2
      simp only at c2
      obtain ⟨go, yl⟩ := (srcb M2 h2 H L2 S2).1 i v e1
      refine .inr ⟨go, fun H' => ∃ M3 h3, Le C Mb hb.length Hb M3 h3.length H' ∧ Sim C M3 h3 H' ∧ Cov rU C E0 M3 h3 H' (cloop s (stepC vs tg fc fe ρ) h1.length n (i + 1) h3) fun _ H' => Q (.ref D) H',
        fun H' ⟨M3, h3, q⟩ => ⟨s.len - (i + 1), by omega, rfl, by omega, M3, h3, by rw [hn']; exact q⟩, fun x H3 y => ?_⟩
      obtain ⟨L3, S3, r3⟩ := yl x H3 y
      have c3 := Cov.back L3 c2
      have LL := L2.trans L3
      have sl3 := (slb.go LL).wipe vs
      clear c2 yl go y
      cases e2 : asg h2 v tg (wipeS ρ vs) with
      | none =>
        have st : stepC vs tg fc fe ρ v h2 = .bad := by unfold stepC; rw [e2]
        rw [st] at c3
        exact c3.elim
      | some ρ' =>
        have st : stepC vs tg fc fe ρ v h2 = (gcT h2 ((fc ρ' h2).bind fun t h1 => liftO h1 (truth h1 t))).bind fun t h1 => if t = true then (gcR h1 (fe ρ' h1)).bind fun y h2 => .ok (some y) h2 else .ok none h1 := by unfold stepC; rw [e2]
        rw [st] at c3
        clear st
        refine ⟨M2, _, h2, v, ρ', S3, sl3, r3, e2, fun σ' sl' st => ⟨wipe_back st sub, wt _ _ _ (gcT_w ⟨M2, ρ', h2, S3, sl', ?_⟩)⟩⟩
        show Cov rB C E0 M2 h2 H3 (gcT h2 ((fc ρ' h2).bind fun t h1 => liftO h1 (truth h1 t))) _
        cases e5 : gcT h2 ((fc ρ' h2).bind fun t h1 => liftO h1 (truth h1 t)) with
        | bad => rw [e5] at c3; exact c3.elim
        | exc k w h' => rw [e5] at c3; exact c3
        | ok b h3 =>
          rw [e5] at c3
          simp only [Res.bind] at c3
          intro M4 b' H4 L4 S4 rb
          cases (show b = b' from rb)
          cases b with
          | false =>
            simp only [Bool.false_eq_true, if_false] at c3 ⊢
            exact ⟨M4, h3, LL.trans L4, S4, Cov.back L4 c3⟩
          | true =>
            simp only [if_true] at c3 ⊢
            refine gcR_w ⟨M4, ρ', h3, S4, sl'.go L4, ?_⟩
            dsimp only
            cases e6 : gcR h3 (fe ρ' h3) with
            | bad => rw [e6] at c3; exact c3.elim
            | exc k w h' => rw [e6] at c3; exact Cov.back L4 c3
            | ok y h5 =>
              rw [e6] at c3
              simp only at c3
              cases e7 : h5[h1.length]? with
              | none => rw [e7] at c3; exact c3.elim
              | some ob =>
                cases ob <;> rw [e7] at c3 <;> first | exact c3.elim | skip
                rename_i acc
                simp only at c3
                split at c3
                · rename_i hz
                  intro M5 y' H5 L5 S5 r5
                  have LX := (LL.trans L4).trans L5
                  have mD5 : M5 h1.length = D := (LX.map _ hdb).trans mD
                  obtain ⟨ws, q1, rs⟩ := S5.obj _ _ e7
                  rw [mD5] at q1
                  have up := S5.tups (o := .lst (ws ++ [y'])) e7
                  have S6 := S5.write (o := .lst (ws ++ [y'])) (ob' := .lst (acc ++ [y])) e7 ⟨ws ++ [y'], upd_same, (rs.append (.cons r5 .nil)).go (Nat.le_refl _) (fun _ _ => rfl) (up rfl)⟩
                  have L6 := Le.write (o := .lst (ws ++ [y'])) (ob' := .lst (acc ++ [y])) S5 e7
                  rw [mD5] at S6 L6
                  refine ⟨ws, q1, by rw [← rs.length]; exact hz, M5, _, LX.trans L6, S6, Cov.back ((L4.trans L5).trans L6) c3⟩
                · exact c3.elim
  · have hi' : i = s.len := by omega
    subst hi'
    rw [Nat.sub_self] at c2
    simp only [cloop] at c2
    split at c2
    · rename_i hf
      exact .inl ⟨(srcb M2 h2 H L2 S2).2 hf, Cov.ok (x := ()) c2 S2 trivial⟩
    · exact c2.elim
end
end MP
set_option Elab.async false
set_option linter.all false
set_option maxRecDepth 100000
set_option maxHeartbeats 4000000
namespace MP
open PySem PySem.Spec PyProof.Rows L2
/-! ## every checked expression does what the evaluator says -/
def bo : Expr → Bool
  | .BoolOp .. => true
  | _ => false
structure ES (C : Cc) (E : XK) (X : Cx) (f : Slots → AH → Res Val) (ex : Expr) : Prop where
  pe : PE X ex (tD C E f)
  pt : PT X ex (tDT C E (tf f))
  pw : bo ex = true → PW X ex (tDT C E (tf f))
theorem ES.plain {C : Cc} {E : XK} {X : Cx} {f : Slots → AH → Res Val} {ex : Expr} (hK : C.K = X.K) (h : PE X ex (tD C E f)) (hp : plainT ex = true) : ES C E X f ex :=
  ⟨h, t_plain hK h hp, fun z => by cases ex <;> first | (exact nomatch (show false = true from z)) | (exact nomatch (show false = true from hp))⟩
theorem andB {a b : Bool} (h : (a && b) = true) : a = true ∧ b = true := by cases a <;> cases b <;> first | exact ⟨rfl, rfl⟩ | cases h
section
variable {P : Prg} {C : Cc} {φ : Nat → List Val → AH → Res Val} {N : List Str} {k : Nat} {sc : Scope} {E : XK} {X : Cx}
theorem XOk.hu (x : XOk P C φ sc N k E X) : X.A.units + 64 < cLine := by have := x.room.un; omega
theorem XOk.ndN (x : XOk P C φ sc N k E X) : X.N.Nodup := by rw [x.hN]; exact x.nd
theorem XOk.gl (x : XOk P C φ sc N k E X) {y : Str} (h : glB sc y = true) : Gl X y ∧ (y == ("__debug__" : Str)) = false := glB_ok x.hsc h
/-- in a comprehension's block -/
theorem XOk.blk (x : XOk P C φ sc N k E X) (s : Shared) (H : Hp) (scope : Scope) (cl : List (Str × Addr)) (a : Addr) (fp : List Addr) : XOk P C φ (relS scope sc) N k E0 (X.blk s H scope (compEnvC scope cl a X.env) fp) where
  hK := x.hK
  hN := x.hN
  nd := x.nd
  hsc := by
    have e : (compEnvC scope cl a X.env).scope = relS scope X.env.scope := rfl
    show (compEnvC scope cl a X.env).scope = _
    rw [e, x.hsc]
  calm := x.calm
  room := x.room
  pass := fun _ _ _ _ _ _ _ c => by
    obtain ⟨_, _, _, _, _, _, _, _, _, _, _, _, z⟩ := c
    exact z.elim
  fns := x.fns
  free := x.free
  cs := x.cs
theorem tgL_ok {sc' : Scope} (hN : X.N = N) (st : ∀ y, locB sc' y = true → Loc X.env.scope y ∧ (X.fn y = true ∨ X.env.scope.names.lookup y = some .local)) : ∀ {is : List Nat} {es : List Expr}, tgL sc' N is es = true → NmsOk X is es
  | [], [], _ => trivial
  | [], _ :: _, h => nomatch (show false = true from h)
  | _ :: _, [], h => nomatch (show false = true from h)
  | i :: is, e :: es, h => by
    cases e <;> first | (exact nomatch (show false = true from h)) | skip
    rename_i y p
    obtain ⟨h1, h2⟩ := andB (show ((decide (N[i]? = some y) && locB sc' y) && tgL sc' N is es) = true from h)
    obtain ⟨h3, h4⟩ := andB h1
    obtain ⟨l1, l2⟩ := st y h4
    exact ⟨⟨by rw [hN]; exact of_decide_eq_true h3, l1, l2⟩, tgL_ok hN st h2⟩
theorem tg_ok {sc' : Scope} {is : List Nat} {t : Expr} (hK : C.K = X.K) (hc : X.calm = true) (nd : X.N.Nodup) (hN : X.N = N) (st : ∀ y, locB sc' y = true → Loc X.env.scope y ∧ (X.fn y = true ∨ X.env.scope.names.lookup y = some .local)) (h : tgB sc' N is t = true) : PG X t (gD C is) := by
  cases t <;> first | (exact nomatch (show false = true from h)) | skip
  case Name y p =>
    obtain ⟨h1, h2⟩ := andB (show (decide (is.length = 1) && tgL sc' N is [.Name y p]) = true from h)
    obtain ⟨i, rfl⟩ := List.length_eq_one_iff.mp (of_decide_eq_true h1)
    exact g_name nd (tgL_ok hN st h2).1
  case Tuple es c p =>
    obtain ⟨h1, h2⟩ := andB (show (decide (is.length ≠ 1) && tgL sc' N is es) = true from h)
    exact g_tuple hK hc nd (tgL_ok hN st h2) (of_decide_eq_true h1)
theorem blk_st {scope sc : Scope} {X : Cx} (hsc : X.env.scope = relS scope sc) (hf : ∀ y, X.fn y = (scope.names.lookup y == some .cell)) : ∀ y, locB scope y = true → Loc X.env.scope y ∧ (X.fn y = true ∨ X.env.scope.names.lookup y = some .local) := fun y h => by
  unfold locB at h
  rw [Bool.or_eq_true, decide_eq_true_eq, decide_eq_true_eq] at h
  have key : ∀ kd : NameKind, kd ≠ .free → scope.names.lookup y = some kd → X.env.scope.names.lookup y = some kd := fun kd hk e => by
    rw [hsc]
    exact lookup_relS_keep hk e
  rcases h with h | h
  · exact ⟨.inl (key _ nofun h), .inr (key _ nofun h)⟩
  · exact ⟨.inr (key _ nofun h), .inl (by rw [hf, h]; rfl)⟩
theorem cst_ok {v : Val} {c : Const} {j} {p : Pos} (hK : C.K = X.K) (h : cstB v c = true) : ES C E X (fun _ h => .ok v h) (.Constant c j p) := by
  cases v <;> cases c <;> first | (exact nomatch (show false = true from h)) | skip
  · exact .plain hK d_non rfl
  · rename_i a b
    have e : a = b := by simpa [cstB] using h
    subst e
    exact .plain hK d_bl rfl
  · rename_i a b
    have e : a = b := of_decide_eq_true h
    subst e
    exact .plain hK d_int rfl
  · rename_i a b
    have e : a = b := of_decide_eq_true h
    subst e
    exact .plain hK d_str rfl
theorem vis_ok {y : Str} (hsc : X.env.scope = sc) (h : visB sc y = true) : Vis X.env.scope y ∧ (y == ("__debug__" : Str)) = false ∧ (y == ("__classdict__" : Str)) = false := by
  unfold visB at h
  obtain ⟨h1, h2⟩ := andB h
  obtain ⟨h2, h3⟩ := andB h2
  rw [hsc]
  refine ⟨?_, by simpa using h2, by simpa using h3⟩
  unfold Vis
  split at h1
  · exact .inl (by assumption)
  · exact .inr (.inl (by assumption))
  · exact .inr (.inr (by assumption))
  · cases h1
theorem evEs_len {P : Prg} : ∀ {as : Es} {sc : Scope} {es : List Expr}, chkEs P sc N as es = true → ∀ ρ h vs h1, evEs P φ as ρ h = .ok vs h1 → vs.length = es.length
  | .nil, _, [], _, _, _, _, _, e => by cases e; rfl
  | .nil, _, _ :: _, h, _, _, _, _, _ => nomatch (show false = true from h)
  | .cons _ _, _, [], h, _, _, _, _, _ => nomatch (show false = true from h)
  | .cons a as, sc, x :: es, h, ρ, h0, vs, h1, e => by
    obtain ⟨_, h2⟩ := andB (show (chkE P sc N a x && chkEs P sc N as es) = true from h)
    have e : (evE P φ a ρ h0).bind (fun v h1 => (evEs P φ as ρ h1).bind fun vs h2 => .ok (v :: vs) h2) = .ok vs h1 := e
    cases e1 : evE P φ a ρ h0 with
    | bad => rw [e1] at e; cases e
    | exc _ _ _ => rw [e1] at e; cases e
    | ok v h3 =>
      rw [e1] at e
      simp only [Res.bind] at e
      cases e2 : evEs P φ as ρ h3 with
      | bad => rw [e2] at e; cases e
      | exc _ _ _ => rw [e2] at e; cases e
      | ok ws h4 =>
        rw [e2] at e
        cases e
        simp [evEs_len h2 _ _ _ _ e2]
theorem evEs_nil {P : Prg} {as : Es} {sc : Scope} (h : chkEs P sc N as [] = true) : evEs P φ as = fun _ h => .ok [] h := by
  cases as with
  | nil => rfl
  | cons _ _ => exact nomatch (show false = true from h)
theorem isYes_ok : ∀ {c : MP.E}, c.isYes = true → c = .cst (.bl true)
  | .cst (.bl true), _ => rfl
  | .cst (.bl false), h | .cst .non, h | .cst (.int _), h | .cst (.str _), h | .cst (.tup _), h | .cst (.ref _), h => nomatch (show false = true from h)
  | .var _, h | .glo _, h | .bin .., h | .neg _, h | .not _, h | .and .., h | .or .., h | .cmp .., h | .chain .., h | .ife .., h | .call .., h | .callk .., h | .bt .., h | .mt .., h | .isin .., h | .ix .., h | .sl .., h | .rev _, h | .nope, h | .tup _, h | .lst _, h | .comp .., h => nomatch (show false = true from h)
mutual
theorem soundE : ∀ (e : MP.E) {sc : Scope} {E : XK} {X : Cx} {ex : Expr}, XOk P C φ sc N k E X → chkE P sc N e ex = true → ES C E X (evE P φ e) ex
  | .var i, sc, E, X, ex, x, h => by
    cases ex <;> first | (exact nomatch (show false = true from h)) | skip
    rename_i y p
    obtain ⟨h1, h2⟩ := andB (show (decide (N[i]? = some y) && visB sc y) = true from h)
    obtain ⟨v1, v2, v3⟩ := vis_ok x.hsc h2
    exact .plain x.hK (d_var (by rw [x.hN]; exact of_decide_eq_true h1) v1 v2 v3) rfl
  | .cst v, sc, E, X, ex, x, h => by
    cases ex <;> first | (exact nomatch (show false = true from h)) | skip
    exact cst_ok x.hK h
  | .glo i, sc, E, X, ex, x, h => by
    cases ex <;> first | (exact nomatch (show false = true from h)) | skip
    rename_i y p
    obtain ⟨h1, h2⟩ := andB (show ((match P.cs[i]? with
      | some p => decide (p.1 = y)
      | none => false) && glB sc y) = true from h)
    cases e : P.cs[i]? with
    | none => rw [e] at h1; cases h1
    | some c =>
      rw [e] at h1
      obtain ⟨w, u, hm, r, hr⟩ := x.cs i c e
      have hy : c.1 = y := of_decide_eq_true h1
      rw [hy] at hm
      obtain ⟨g1, g2⟩ := x.gl h2
      have hf : evE P φ (.glo i) = fun _ h => .ok c.2 h := by
        funext ρ h0
        show (match P.cs[i]? with
          | some c => Res.ok c.2 h0
          | none => .bad) = _
        rw [e]
      rw [hf]
      exact .plain x.hK (d_glo g1 hm r hr g2) rfl
  | .bin op a b, sc, E, X, ex, x, h => by
    cases ex <;> first | (exact nomatch (show false = true from h)) | skip
    rename_i l o r p
    obtain ⟨h1, h2⟩ := andB (show (decide (op = o) && (chkE P sc N a l && chkE P sc N b r)) = true from h)
    obtain ⟨h2, h3⟩ := andB h2
    cases (of_decide_eq_true h1 : op = o)
    exact .plain x.hK (d_bin (op_bin x.hK op) (soundE a x h2).pe (soundE b x h3).pe) rfl
  | .neg a, sc, E, X, ex, x, h => by
    cases ex <;> first | (exact nomatch (show false = true from h)) | skip
    rename_i o l p
    cases o <;> first | (exact nomatch (show false = true from h)) | skip
    exact .plain x.hK (d_neg (soundE a x (show chkE P sc N a l = true from h)).pe) rfl
  | .not a, sc, E, X, ex, x, h => by
    cases ex <;> first | (exact nomatch (show false = true from h)) | skip
    rename_i o l p
    cases o <;> first | (exact nomatch (show false = true from h)) | skip
    have ih := soundE a x (show chkE P sc N a l = true from h)
    exact ⟨d_not x.hK ih.pe, t_not ih.pt, nofun⟩
  | .and a b, sc, E, X, ex, x, h => by
    cases ex <;> first | (exact nomatch (show false = true from h)) | skip
    rename_i o es p
    cases o <;> first | (exact nomatch (show false = true from h)) | skip
    match es, h with
    | [], h => exact nomatch (show false = true from h)
    | [_], h => exact nomatch (show false = true from h)
    | l :: r :: rest, h =>
      obtain ⟨h1, h2⟩ := andB (show (chkE P sc N a l && (if rest.isEmpty = true then chkE P sc N b r else chkE P sc N b (.BoolOp .And (r :: rest) p))) = true from h)
      have ha := soundE a x h1
      have hb : PE X (.BoolOp .And (r :: rest) p) (tD C E (evE P φ b)) ∧ PW X (.BoolOp .And (r :: rest) p) (tDT C E (tf (evE P φ b))) := by
        cases rest with
        | nil =>
          have ih := soundE b x (show chkE P sc N b r = true from h2)
          exact ⟨pe_one ih.pe, pw_and1 ih.pt⟩
        | cons r2 rest =>
          have ih := soundE b x (show chkE P sc N b (.BoolOp .And (r :: r2 :: rest) p) = true from h2)
          exact ⟨ih.pe, ih.pw rfl⟩
      have w := w_and ha.pt hb.2
      exact ⟨d_and x.hK ha.pe hb.1, w.pt, fun _ => w⟩
  | .or a b, sc, E, X, ex, x, h => by
    cases ex <;> first | (exact nomatch (show false = true from h)) | skip
    rename_i o es p
    cases o <;> first | (exact nomatch (show false = true from h)) | skip
    match es, h with
    | [], h => exact nomatch (show false = true from h)
    | [_], h => exact nomatch (show false = true from h)
    | l :: r :: rest, h =>
      obtain ⟨h1, h2⟩ := andB (show (chkE P sc N a l && (if rest.isEmpty = true then chkE P sc N b r else chkE P sc N b (.BoolOp .Or (r :: rest) p))) = true from h)
      have ha := soundE a x h1
      have hb : PE X (.BoolOp .Or (r :: rest) p) (tD C E (evE P φ b)) ∧ PW X (.BoolOp .Or (r :: rest) p) (tDT C E (tf (evE P φ b))) := by
        cases rest with
        | nil =>
          have ih := soundE b x (show chkE P sc N b r = true from h2)
          exact ⟨pe_one ih.pe, pw_or1 ih.pt⟩
        | cons r2 rest =>
          have ih := soundE b x (show chkE P sc N b (.BoolOp .Or (r :: r2 :: rest) p) = true from h2)
          exact ⟨ih.pe, ih.pw rfl⟩
      have w := w_or ha.pt hb.2
      exact ⟨d_or x.hK ha.pe hb.1, w.pt, fun _ => w⟩
  | .cmp op a b, sc, E, X, ex, x, h => by
    cases ex <;> first | (exact nomatch (show false = true from h)) | skip
    rename_i l os rs p
    match os, rs, h with
    | [], _, h => exact nomatch (show false = true from h)
    | [_], [], h => exact nomatch (show false = true from h)
    | [_], _ :: _ :: _, h => exact nomatch (show false = true from h)
    | _ :: _ :: _, _, h => exact nomatch (show false = true from h)
    | [o], [r], h =>
      obtain ⟨h1, h2⟩ := andB (show (decide (op = o) && (noSet r && (chkE P sc N a l && chkE P sc N b r))) = true from h)
      obtain ⟨h2, h3⟩ := andB h2
      obtain ⟨h3, h4⟩ := andB h3
      cases (of_decide_eq_true h1 : op = o)
      exact ⟨d_cmp x.hK x.hu (soundE a x h3).pe (soundE b x h4).pe h2, t_cmp x.hK x.hu (soundE a x h3).pe (soundE b x h4).pe h2, nofun⟩
  | .chain op op' a b c, sc, E, X, ex, x, h => by
    cases ex <;> first | (exact nomatch (show false = true from h)) | skip
    rename_i l os rs p
    match os, rs, h with
    | [], _, h => exact nomatch (show false = true from h)
    | [_], _, h => exact nomatch (show false = true from h)
    | [_, _], [], h => exact nomatch (show false = true from h)
    | [_, _], [_], h => exact nomatch (show false = true from h)
    | [_, _], _ :: _ :: _ :: _, h => exact nomatch (show false = true from h)
    | _ :: _ :: _ :: _, _, h => exact nomatch (show false = true from h)
    | [o, o'], [r, r'], h =>
      obtain ⟨h1, h2⟩ := andB (show (decide (op = o) && (decide (op' = o') && (noSet r && (noSet r' && (chkE P sc N a l && (chkE P sc N b r && chkE P sc N c r')))))) = true from h)
      obtain ⟨h2, h3⟩ := andB h2
      obtain ⟨h3, h4⟩ := andB h3
      obtain ⟨h4, h5⟩ := andB h4
      obtain ⟨h5, h6⟩ := andB h5
      obtain ⟨h6, h7⟩ := andB h6
      cases (of_decide_eq_true h1 : op = o)
      cases (of_decide_eq_true h2 : op' = o')
      exact ⟨d_chain x.hK x.hu (soundE a x h5).pe (soundE b x h6).pe (soundE c x h7).pe h3 h4, t_chain x.hK x.hu (soundE a x h5).pe (soundE b x h6).pe (soundE c x h7).pe h3 h4, nofun⟩
  | .ife c a b, sc, E, X, ex, x, h => by
    cases ex <;> first | (exact nomatch (show false = true from h)) | skip
    rename_i t l r p
    obtain ⟨h1, h2⟩ := andB (show (chkE P sc N c t && (chkE P sc N a l && chkE P sc N b r)) = true from h)
    obtain ⟨h2, h3⟩ := andB h2
    exact ⟨d_ife (soundE c x h1).pt (soundE a x h2).pe (soundE b x h3).pe, t_ife (soundE c x h1).pt (soundE a x h2).pt (soundE b x h3).pt, nofun⟩
  | .call f as, sc, E, X, ex, x, h => by
    cases ex <;> first | (exact nomatch (show false = true from h)) | skip
    rename_i fn es kws p
    cases fn <;> first | (exact nomatch (show false = true from h)) | skip
    rename_i y q
    cases kws <;> first | (exact nomatch (show false = true from h)) | skip
    obtain ⟨h1, h2⟩ := andB (show ((match P.fns[f]? with
      | some fd => decide (fd.name = y)
      | none => false) && (glB sc y && (es.all noStar && chkEs P sc N as es))) = true from h)
    obtain ⟨h2, h3⟩ := andB h2
    obtain ⟨h3, h4⟩ := andB h3
    cases e : P.fns[f]? with
    | none => rw [e] at h1; cases h1
    | some fd =>
      rw [e] at h1
      obtain ⟨g1, g2⟩ := x.gl h2
      have U := x.fns f fd e
      have hf : evE P φ (.call f as) = fun ρ h => (evEs P φ as ρ h).bind fun vs h1 => if (vs ++ fd.dfl.drop (vs.length + fd.dfl.length - fd.np)).length = fd.np then φ f (vs ++ fd.dfl.drop (vs.length + fd.dfl.length - fd.np)) h1 else .bad := by
        funext ρ h0
        show (evEs P φ as ρ h0).bind (fun vs h1 => (match P.fns[f]? with
          | some fd => if (vs ++ fd.dfl.drop (vs.length + fd.dfl.length - fd.np)).length = fd.np then φ f (vs ++ fd.dfl.drop (vs.length + fd.dfl.length - fd.np)) h1 else .bad
          | none => .bad)) = _
        rw [e]
      rw [hf]
      refine .plain x.hK ?_ rfl
      cases es with
      | nil =>
        have e0 := evEs_nil (φ := φ) h4
        rw [e0]
        exact d_call0 U x.room x.pass g1 g2 (of_decide_eq_true h1)
      | cons e1 es1 => exact d_call U x.room x.pass g1 g2 (of_decide_eq_true h1) (soundEs as x h3 h4) h3 nofun
  | .callk f as ks perm, sc, E, X, ex, x, h => by
    cases ex <;> first | (exact nomatch (show false = true from h)) | skip
    rename_i fn es kws p
    cases fn <;> first | (exact nomatch (show false = true from h)) | skip
    rename_i y q
    obtain ⟨h1, h2⟩ := andB (show ((match P.fns[f]? with
      | some fd => decide (fd.name = y) && fd.kws.contains (es.length, kwNames kws, perm)
      | none => false) && (glB sc y && (es.all noStar && (kws.all (fun z => z.arg.isSome) && (chkEs P sc N as es && chkEs P sc N ks (kws.map fun z => z.value)))))) = true from h)
    obtain ⟨h2, h3⟩ := andB h2
    obtain ⟨h3, h4⟩ := andB h3
    obtain ⟨h4, h5⟩ := andB h4
    obtain ⟨h5, h6⟩ := andB h5
    cases e : P.fns[f]? with
    | none => rw [e] at h1; cases h1
    | some fd =>
      rw [e] at h1
      obtain ⟨h1, h7⟩ := andB h1
      obtain ⟨g1, g2⟩ := x.gl h2
      have U := x.fns f fd e
      have hf : evE P φ (.callk f as ks perm) = fun ρ h => (evEs P φ as ρ h).bind fun us h1 => (evEs P φ ks ρ h1).bind fun ws h2 => match permL perm (us ++ ws) with
          | some vs => if vs.length = fd.np then φ f vs h2 else .bad
          | none => .bad := by
        funext ρ h0
        show (evEs P φ as ρ h0).bind (fun us h1 => (evEs P φ ks ρ h1).bind fun ws h2 => match permL perm (us ++ ws) with
          | some vs => (match P.fns[f]? with
            | some fd => if vs.length = fd.np then φ f vs h2 else .bad
            | none => .bad)
          | none => .bad) = _
        rw [e]
      rw [hf]
      have lk := evEs_len (φ := φ) h6
      rw [List.length_map] at lk
      exact .plain x.hK (d_callk U x.room x.pass g1 g2 (of_decide_eq_true h1) (soundEs as x h3 h5) (soundKs ks x h6) h3 h4 (List.contains_iff_mem.mp h7) (evEs_len h5) lk (fun z => by
        subst z
        exact evEs_nil h5)) rfl
  | .bt b as, sc, E, X, ex, x, h => by
    cases ex <;> first | (exact nomatch (show false = true from h)) | skip
    rename_i fn es kws p
    cases fn <;> first | (exact nomatch (show false = true from h)) | skip
    rename_i y q
    cases kws <;> first | (exact nomatch (show false = true from h)) | skip
    obtain ⟨h1, h2⟩ := andB (show (decide (b.name = y) && (glB sc y && (es.all noStar && (!es.isEmpty && chkEs P sc N as es)))) = true from h)
    obtain ⟨h2, h3⟩ := andB h2
    obtain ⟨h3, h4⟩ := andB h3
    obtain ⟨h4, h5⟩ := andB h4
    cases (of_decide_eq_true h1 : b.name = y)
    obtain ⟨g1, g2⟩ := x.gl h2
    cases es with
    | nil => cases h4
    | cons e1 es1 => exact .plain x.hK (d_bt x.hK x.calm (x.free _ (bt_in b)) g1 g2 (soundEs as x h3 h5) h3) rfl
  | .mt m o as, sc, E, X, ex, x, h => by
    cases ex <;> first | (exact nomatch (show false = true from h)) | skip
    rename_i fn es kws p
    cases fn <;> first | (exact nomatch (show false = true from h)) | skip
    rename_i l y q
    cases kws <;> first | (exact nomatch (show false = true from h)) | skip
    obtain ⟨h1, h2⟩ := andB (show (decide (m.name = y) && (noSuper l && (decide (es.length < 29) && ((q.endLine == p.line) && (es.all noStar && (chkE P sc N o l && chkEs P sc N as es)))))) = true from h)
    obtain ⟨h2, h3⟩ := andB h2
    obtain ⟨h3, h4⟩ := andB h3
    obtain ⟨h4, h5⟩ := andB h4
    obtain ⟨h5, h6⟩ := andB h5
    obtain ⟨h6, h7⟩ := andB h6
    cases (of_decide_eq_true h1 : m.name = y)
    exact .plain x.hK (d_mt x.hK (soundE o x h6).pe (soundEs as x h5 h7) h2 h5 (of_decide_eq_true h3) h4 fun z => by
      subst z
      exact evEs_nil h7) rfl
  | .isin a tys, sc, E, X, ex, x, h => by
    cases ex <;> first | (exact nomatch (show false = true from h)) | skip
    rename_i fn es kws p
    cases fn <;> first | (exact nomatch (show false = true from h)) | skip
    rename_i y q
    match es, kws, h with
    | [], _, h => exact nomatch (show false = true from h)
    | [_], _, h => exact nomatch (show false = true from h)
    | _ :: _ :: _ :: _, _, h => exact nomatch (show false = true from h)
    | [_, _], _ :: _, h => exact nomatch (show false = true from h)
    | [l, t], [], h =>
      obtain ⟨h1, h2⟩ := andB (show (decide (y = ("isinstance" : Str)) && (glB sc y && (noStar l && (chkE P sc N a l && tysB sc tys t)))) = true from h)
      obtain ⟨h2, h3⟩ := andB h2
      obtain ⟨h3, h4⟩ := andB h3
      obtain ⟨h4, h5⟩ := andB h4
      have hy : y = ("isinstance" : Str) := of_decide_eq_true h1
      subst hy
      obtain ⟨g1, g2⟩ := x.gl h2
      exact .plain x.hK (d_isin x.hK x.hsc x.free g1 (soundE a x h4).pe h3 h5) rfl
  | .ix a b, sc, E, X, ex, x, h => by
    cases ex <;> first | (exact nomatch (show false = true from h)) | skip
    rename_i l r p
    have h' : (noSlice r && (chkE P sc N a l && chkE P sc N b r)) = true := by
      cases r <;> exact h
    obtain ⟨h1, h2⟩ := andB h'
    obtain ⟨h2, h3⟩ := andB h2
    exact .plain x.hK (d_ix x.hK (soundE a x h2).pe (soundE b x h3).pe h1) rfl
  | .sl a lo hi, sc, E, X, ex, x, h => by
    cases ex <;> first | (exact nomatch (show false = true from h)) | skip
    rename_i l r p
    cases r <;> first | (exact nomatch (show false = true from h)) | skip
    rename_i lb ub st q
    cases st <;> first | (exact nomatch (show false = true from h)) | skip
    obtain ⟨h1, h2⟩ := andB (show (chkE P sc N a l && ((match (generalizing := false) lb with
      | none => lo.isNope
      | some l => !lo.isNope && chkE P sc N lo l) && (match (generalizing := false) ub with
      | none => hi.isNope
      | some u => !hi.isNope && chkE P sc N hi u))) = true from h)
    obtain ⟨h2, h3⟩ := andB h2
    obtain ⟨tl, pl, wl⟩ := d_po (X := X) (C := C) (E := E) (o := lb) (fo := evE P φ lo) (none_ := lo.isNope) (fun z => by
      cases lb with
      | none => rfl
      | some l => rw [z] at h2; cases h2) (fun z => by
      cases lb with
      | none => rw [show lo.isNope = true from h2] at z; cases z
      | some l => exact ⟨l, rfl, (soundE lo x (andB h2).2).pe⟩)
    obtain ⟨tu, pu, wu⟩ := d_po (X := X) (C := C) (E := E) (o := ub) (fo := evE P φ hi) (none_ := hi.isNope) (fun z => by
      cases ub with
      | none => rfl
      | some l => rw [z] at h3; cases h3) (fun z => by
      cases ub with
      | none => rw [show hi.isNope = true from h3] at z; cases z
      | some l => exact ⟨l, rfl, (soundE hi x (andB h3).2).pe⟩)
    exact .plain x.hK (d_sl x.hK (soundE a x h1).pe pl wl pu wu) rfl
  | .rev a, sc, E, X, ex, x, h => by
    cases ex <;> first | (exact nomatch (show false = true from h)) | skip
    rename_i l r p
    cases r <;> first | (exact nomatch (show false = true from h)) | skip
    rename_i lb ub st q
    cases lb <;> first | (exact nomatch (show false = true from h)) | skip
    cases ub <;> first | (exact nomatch (show false = true from h)) | skip
    cases st <;> first | (exact nomatch (show false = true from h)) | skip
    rename_i st
    cases st <;> first | (exact nomatch (show false = true from h)) | skip
    rename_i uo ue up
    cases uo <;> first | (exact nomatch (show false = true from h)) | skip
    cases ue <;> first | (exact nomatch (show false = true from h)) | skip
    rename_i c j cp
    cases c <;> first | (exact nomatch (show false = true from h)) | skip
    rename_i i
    have hi : i = 1 ∧ chkE P sc N a l = true := by
      by_cases hi : i = 1
      · subst hi
        exact ⟨rfl, h⟩
      · exfalso
        have h := h
        unfold chkE at h
        split at h <;> simp_all
    obtain ⟨rfl, h1⟩ := hi
    exact .plain x.hK (d_rev x.hK (soundE a x h1).pe) rfl
  | .nope, sc, E, X, ex, x, h => by
    cases ex <;> exact nomatch (show false = true from h)
  | .tup as, sc, E, X, ex, x, h => by
    cases ex <;> first | (exact nomatch (show false = true from h)) | skip
    rename_i es c p
    obtain ⟨h1, h2⟩ := andB (show (es.all noStar && chkEs P sc N as es) = true from h)
    exact .plain x.hK (d_tup (soundEs as x h1 h2)) rfl
  | .lst as, sc, E, X, ex, x, h => by
    cases ex <;> first | (exact nomatch (show false = true from h)) | skip
    rename_i es p
    obtain ⟨h1, h2⟩ := andB (show (es.all noStar && chkEs P sc N as es) = true from h)
    exact .plain x.hK (d_lst (soundEs as x h1 h2)) rfl
  | .comp own tg it c e, sc, E, X, ex, x, h => by
    cases ex <;> first | (exact nomatch (show false = true from h)) | skip
    rename_i elt gs scope p
    match gs, h with
    | [], h => exact nomatch (show false = true from h)
    | ⟨_, _, _, _⟩ :: _ :: _, h => exact nomatch (show false = true from h)
    | [⟨t, iter, ifs, asy⟩], h =>
      obtain ⟨h1, h2⟩ := andB (show (decide (asy = 0) && (blkC N sc scope own && (tg.all (fun i => (own.map (·.2)).contains i) && (tgB scope N tg t && (noSet iter && (chkI P sc N it t iter && ((match (generalizing := false) ifs with
        | [] => c.isYes
        | [f] => chkE P (relS scope sc) N c f
        | _ => false) && chkE P (relS scope sc) N e elt))))))) = true from h)
      obtain ⟨h2, h3⟩ := andB h2
      obtain ⟨h3, h4⟩ := andB h3
      obtain ⟨h4, h5⟩ := andB h4
      obtain ⟨h5, h6⟩ := andB h5
      obtain ⟨h6, h7⟩ := andB h6
      obtain ⟨h7, h8⟩ := andB h7
      cases (of_decide_eq_true h1 : asy = 0)
      have ok : BlkOk X.N X.env.scope scope own := by
        rw [x.hN, x.hsc]
        exact blkOk_by h2
      have sub : ∀ i ∈ tg, i ∈ own.map (·.2) := fun i hi => List.contains_iff_mem.mp (List.all_eq_true.mp h3 i hi)
      have hg : ∀ (s : Shared) (H : Hp) (A : Addr) (cl : List (Str × Addr)) (fp : List Addr), PG (X.blk s H scope (compEnvC scope cl A X.env) fp) t (gD C tg) := fun s H A cl fp =>
        tg_ok x.hK x.calm x.ndN x.hN (blk_st (x.blk s H scope cl A fp).hsc fun _ => rfl) h4
      have he : ∀ (s : Shared) (H : Hp) (A : Addr) (cl : List (Str × Addr)) (fp : List Addr), PE (X.blk s H scope (compEnvC scope cl A X.env) fp) elt (tD C E0 (evE P φ e)) := fun s H A cl fp => (soundE e (x.blk s H scope cl A fp) h8).pe
      have hi := soundI it x h6
      have ht : ∃ tt, (∀ (s : Shared) (H : Hp) (A : Addr) (cl : List (Str × Addr)) (fp : List Addr), PTs (X.blk s H scope (compEnvC scope cl A X.env) fp) ifs tt) ∧ ∀ σ H (Q : Bool → Hp → Prop), tDT C E0 (tf (evE P φ c)) σ H Q → tt σ H Q := by
        match ifs, h7 with
        | [], h7 =>
          refine ⟨tYes, fun _ _ _ _ _ => pts_nil, fun σ H Q ⟨M, ρ, h, S, sl, cv⟩ => ?_⟩
          have hc : c = .cst (.bl true) := isYes_ok (show c.isYes = true from h7)
          subst hc
          exact Cov.ok (rel := rB) (v := true) cv S rfl
        | [f], h7 => exact ⟨_, fun s H A cl fp => pts_one (soundE c (x.blk s H scope cl A fp) h7).pt, fun _ _ _ z => z⟩
        | _ :: _ :: _, h7 => exact nomatch (show false = true from h7)
      obtain ⟨tt, ht, wt⟩ := ht
      exact .plain x.hK (wkE (pe_lc x.calm x.ndN hi ok hg ht he fun y => set_plain h5 y) fun σ H Q z => lc_read sub wt z) rfl
theorem soundEs : ∀ (as : Es) {sc : Scope} {E : XK} {X : Cx} {es : List Expr}, XOk P C φ sc N k E X → es.all noStar = true → chkEs P sc N as es = true → PA X es (tDs C E (evEs P φ as))
  | .nil, sc, E, X, [], x, hn, h => d_nil
  | .nil, _, _, _, _ :: _, _, _, h => nomatch (show false = true from h)
  | .cons _ _, _, _, _, [], _, _, h => nomatch (show false = true from h)
  | .cons a as, sc, E, X, e :: es, x, hn, h => by
    obtain ⟨h1, h2⟩ := andB (show (chkE P sc N a e && chkEs P sc N as es) = true from h)
    obtain ⟨n1, n2⟩ := andB (show (noStar e && es.all noStar) = true from by rw [← List.all_cons]; exact hn)
    exact d_cons (soundE a x h1).pe (soundEs as x n2 h2) n1
theorem soundKs : ∀ (as : Es) {sc : Scope} {E : XK} {X : Cx} {kws : List Keyword}, XOk P C φ sc N k E X → chkEs P sc N as (kws.map fun z => z.value) = true → PK X kws (tDs C E (evEs P φ as))
  | .nil, sc, E, X, [], x, h => k_nil
  | .nil, _, _, _, _ :: _, _, h => nomatch (show false = true from h)
  | .cons _ _, _, _, _, [], _, h => nomatch (show false = true from h)
  | .cons a as, sc, E, X, ⟨nm, e, kp⟩ :: es, x, h => by
    obtain ⟨h1, h2⟩ := andB (show (chkE P sc N a e && chkEs P sc N as (es.map fun z => z.value)) = true from h)
    exact k_cons (soundE a x h1).pe (soundKs as x h2)
theorem soundI : ∀ (it : MP.It) {sc : Scope} {E : XK} {X : Cx} {t ex : Expr}, XOk P C φ sc N k E X → chkI P sc N it t ex = true → PI X t ex (tDI C E (evI P φ it))
  | .seq e, sc, E, X, t, ex, x, h => i_seq x.hK (soundE e x (show chkE P sc N e ex = true from h)).pe
  | .rng1 a, sc, E, X, t, ex, x, h => by
    cases ex <;> first | (exact nomatch (show false = true from h)) | skip
    rename_i fn es kws p
    cases fn <;> first | (exact nomatch (show false = true from h)) | skip
    rename_i y q
    match es, kws, h with
    | [], _, h => exact nomatch (show false = true from h)
    | _ :: _ :: _, _, h => exact nomatch (show false = true from h)
    | [_], _ :: _, h => exact nomatch (show false = true from h)
    | [ea], [], h =>
      obtain ⟨h1, h2⟩ := andB (show (decide (y = ("range" : Str)) && (glB sc y && (noStar ea && chkE P sc N a ea))) = true from h)
      obtain ⟨h2, h3⟩ := andB h2
      obtain ⟨h3, h4⟩ := andB h3
      have hy : y = ("range" : Str) := of_decide_eq_true h1
      subst hy
      exact i_rng1 (x.gl h2).1 (x.free _ (by decide +kernel)) (soundE a x h4).pe h3
  | .rng2 a b, sc, E, X, t, ex, x, h => by
    cases ex <;> first | (exact nomatch (show false = true from h)) | skip
    rename_i fn es kws p
    cases fn <;> first | (exact nomatch (show false = true from h)) | skip
    rename_i y q
    match es, kws, h with
    | [], _, h => exact nomatch (show false = true from h)
    | [_], _, h => exact nomatch (show false = true from h)
    | _ :: _ :: _ :: _, _, h => exact nomatch (show false = true from h)
    | [_, _], _ :: _, h => exact nomatch (show false = true from h)
    | [ea, eb], [], h =>
      obtain ⟨h1, h2⟩ := andB (show (decide (y = ("range" : Str)) && (glB sc y && (noStar ea && (noStar eb && (chkE P sc N a ea && chkE P sc N b eb))))) = true from h)
      obtain ⟨h2, h3⟩ := andB h2
      obtain ⟨h3, h4⟩ := andB h3
      obtain ⟨h4, h5⟩ := andB h4
      obtain ⟨h5, h6⟩ := andB h5
      have hy : y = ("range" : Str) := of_decide_eq_true h1
      subst hy
      exact i_rng2 (x.gl h2).1 (x.free _ (by decide +kernel)) (soundE a x h5).pe (soundE b x h6).pe h3 h4
  | .rng3 a b c, sc, E, X, t, ex, x, h => by
    cases ex <;> first | (exact nomatch (show false = true from h)) | skip
    rename_i fn es kws p
    cases fn <;> first | (exact nomatch (show false = true from h)) | skip
    rename_i y q
    match es, kws, h with
    | [], _, h => exact nomatch (show false = true from h)
    | [_], _, h => exact nomatch (show false = true from h)
    | [_, _], _, h => exact nomatch (show false = true from h)
    | _ :: _ :: _ :: _ :: _, _, h => exact nomatch (show false = true from h)
    | [_, _, _], _ :: _, h => exact nomatch (show false = true from h)
    | [ea, eb, ec], [], h =>
      obtain ⟨h1, h2⟩ := andB (show (decide (y = ("range" : Str)) && (glB sc y && (noStar ea && (noStar eb && (noStar ec && (chkE P sc N a ea && (chkE P sc N b eb && chkE P sc N c ec))))))) = true from h)
      obtain ⟨h2, h3⟩ := andB h2
      obtain ⟨h3, h4⟩ := andB h3
      obtain ⟨h4, h5⟩ := andB h4
      obtain ⟨h5, h6⟩ := andB h5
      obtain ⟨h6, h7⟩ := andB h6
      obtain ⟨h7, h8⟩ := andB h7
      have hy : y = ("range" : Str) := of_decide_eq_true h1
      subst hy
      exact i_rng3 (x.gl h2).1 (x.free _ (by decide +kernel)) (soundE a x h6).pe (soundE b x h7).pe (soundE c x h8).pe h3 h4 h5
  | .enm e, sc, E, X, t, ex, x, h => by
    cases ex <;> first | (exact nomatch (show false = true from h)) | skip
    rename_i fn es kws p
    cases fn <;> first | (exact nomatch (show false = true from h)) | skip
    rename_i y q
    match es, kws, h with
    | [], _, h => exact nomatch (show false = true from h)
    | _ :: _ :: _, _, h => exact nomatch (show false = true from h)
    | [_], _ :: _, h => exact nomatch (show false = true from h)
    | [ea], [], h =>
      obtain ⟨h0, h1⟩ := andB (show (tup2 t && (decide (y = ("enumerate" : Str)) && (glB sc y && (noStar ea && chkE P sc N e ea)))) = true from h)
      obtain ⟨h1, h2⟩ := andB h1
      obtain ⟨h2, h3⟩ := andB h2
      obtain ⟨h3, h4⟩ := andB h3
      have hy : y = ("enumerate" : Str) := of_decide_eq_true h1
      subst hy
      cases t <;> first | (exact nomatch (show false = true from h0)) | skip
      exact i_enm x.hK (x.gl h2).1 (x.free _ (by decide +kernel)) (soundE e x h4).pe h3
  | .zip a b, sc, E, X, t, ex, x, h => by
    cases ex <;> first | (exact nomatch (show false = true from h)) | skip
    rename_i fn es kws p
    cases fn <;> first | (exact nomatch (show false = true from h)) | skip
    rename_i y q
    match es, kws, h with
    | [], _, h => exact nomatch (show false = true from h)
    | [_], _, h => exact nomatch (show false = true from h)
    | _ :: _ :: _ :: _, _, h => exact nomatch (show false = true from h)
    | [_, _], _ :: _, h => exact nomatch (show false = true from h)
    | [ea, eb], [], h =>
      obtain ⟨h0, h1⟩ := andB (show (tup2 t && (decide (y = ("zip" : Str)) && (glB sc y && (noStar ea && (noStar eb && (chkE P sc N a ea && chkE P sc N b eb)))))) = true from h)
      obtain ⟨h1, h2⟩ := andB h1
      obtain ⟨h2, h3⟩ := andB h2
      obtain ⟨h3, h4⟩ := andB h3
      obtain ⟨h4, h5⟩ := andB h4
      obtain ⟨h5, h6⟩ := andB h5
      have hy : y = ("zip" : Str) := of_decide_eq_true h1
      subst hy
      cases t <;> first | (exact nomatch (show false = true from h0)) | skip
      exact i_zip x.hK (x.gl h2).1 (x.free _ (by decide +kernel)) (soundE a x h5).pe (soundE b x h6).pe h3 h4
end
end
end MP
set_option Elab.async false
set_option linter.all false
set_option maxRecDepth 100000
set_option maxHeartbeats 4000000
namespace MP
open PySem PySem.Spec PyProof.Rows L2
/-! ## statements -/
def SCov (C : Cc) (E : XK) (M : Nat → Addr) (h : AH) (H : Hp) (r : SR) (D : Ends) : Prop := match r with
  | .nxt ρ h' => ∀ M' σ H', Le C M h.length H M' h'.length H' → Sim C M' h' H' → SlotsR C M' h'.length H' ρ σ → D.nx σ H'
  | .brk ρ h' => ∀ M' σ H', Le C M h.length H M' h'.length H' → Sim C M' h' H' → SlotsR C M' h'.length H' ρ σ → D.bk σ H'
  | .cnt ρ h' => ∀ M' σ H', Le C M h.length H M' h'.length H' → Sim C M' h' H' → SlotsR C M' h'.length H' ρ σ → D.ct σ H'
  | .ret v h' => ∀ M' x H', Le C M h.length H M' h'.length H' → Sim C M' h' H' → Rep C.K M' h'.length H' v x → D.rt x H'
  | .exc c v h' => ∀ M' x d H', Le C M h.length H M' h'.length H' → Sim C M' h' H' → Rep C.K M' h'.length H' v x → H' d = some (.xd [(("at" : Str), x)]) → E (.ref (C.CA c)) (some d) H'
  | .bad => False
theorem SCov.back {C : Cc} {E : XK} {M M0 : Nat → Addr} {h h0 : AH} {H H0 : Hp} {r : SR} {D : Ends} (L : Le C M0 h0.length H0 M h.length H) (c : SCov C E M0 h0 H0 r D) : SCov C E M h H r D := by
  cases r with
  | nxt ρ h' => exact fun M' σ H' L' => c M' σ H' (L.trans L')
  | brk ρ h' => exact fun M' σ H' L' => c M' σ H' (L.trans L')
  | cnt ρ h' => exact fun M' σ H' L' => c M' σ H' (L.trans L')
  | ret v h' => exact fun M' σ H' L' => c M' σ H' (L.trans L')
  | exc k v h' => exact fun M' x d H' L' => c M' x d H' (L.trans L')
  | bad => exact c
/-- a reading of a statement -/
def tDS (C : Cc) (E : XK) (f : Slots → AH → SR) : TS := fun D σ H => ∃ M ρ h, Sim C M h H ∧ SlotsR C M h.length H ρ σ ∧ SCov C E M h H (f ρ h) D
/-- .. that may look at how many slots there are -/
theorem wkS {X : Cx} {st : Stmt} {t t' : TS} (p : PS X st t) (w : ∀ σ H D, σ.length = X.N.length → t' D σ H → t D σ H) : PS X st t' := ⟨fun pins s σ H D I h => p.run pins s σ H D I (w σ H D I.len h)⟩
theorem wkSs {X : Cx} {st : List Stmt} {t t' : TS} (p : PSs X st t) (w : ∀ σ H D, σ.length = X.N.length → t' D σ H → t D σ H) : PSs X st t' := ⟨fun pins s σ H D I h => p.run pins s σ H D I (w σ H D I.len h)⟩
/-- behind an expression -/
theorem Cov.stm {C : Cc} {E : XK} {M : Nat → Addr} {h : AH} {H : Hp} {D : Ends} {α β : Type} {rel : (Nat → Addr) → Nat → Hp → α → β → Prop} {r : Res α} {f : α → AH → SR} (c : SCov C E M h H (r.stm f) D) : Cov rel C E M h H r fun x H1 => ∃ M1 v h1, Le C M h.length H M1 h1.length H1 ∧ Sim C M1 h1 H1 ∧ rel M1 h1.length H1 v x ∧ SCov C E M1 h1 H1 (f v h1) D := by
  cases r with
  | ok v h' => exact fun M' x H' L S q => ⟨M', v, h', L, S, q, SCov.back L c⟩
  | exc k v h' => exact c
  | bad => exact c
section
variable {X : Cx} {C : Cc} {E : XK} {ex : Expr} {pos p : Pos} {fe : Slots → AH → Res Val}
theorem s_pass : PS X (.Pass pos) (tDS C E fun ρ h => .nxt ρ h) := wkS ps_pass fun σ H D _ ⟨M, ρ, h, S, sl, c⟩ => c M σ H Le.refl S sl
theorem s_doc {x j} : PS X (.Expr (.Constant (.str x) j p) pos) (tDS C E fun ρ h => .nxt ρ h) := wkS ps_doc fun σ H D _ ⟨M, ρ, h, S, sl, c⟩ => c M σ H Le.refl S sl
theorem s_brk : PS X (.Break pos) (tDS C E fun ρ h => .brk ρ h) := wkS ps_break fun σ H D _ ⟨M, ρ, h, S, sl, c⟩ => c M σ H Le.refl S sl
theorem s_cnt : PS X (.Continue pos) (tDS C E fun ρ h => .cnt ρ h) := wkS ps_continue fun σ H D _ ⟨M, ρ, h, S, sl, c⟩ => c M σ H Le.refl S sl
theorem s_retN : PS X (.Return none pos) (tDS C E fun _ h => .ret .non h) := wkS ps_retN fun σ H D _ ⟨M, ρ, h, S, sl, c⟩ => c M _ H Le.refl S .non
theorem s_ret (he : PE X ex (tD C E fe)) : PS X (.Return (some ex) pos) (tDS C E fun ρ h => (fe ρ h).stm fun v h1 => .ret v h1) := wkS (ps_ret he) fun σ H D _ ⟨M, ρ, h, S, sl, c⟩ => ⟨M, ρ, h, S, sl, (Cov.stm (rel := rV C) c).mono fun x H1 ⟨M1, v, h1, L, S1, r, c1⟩ => c1 M1 x H1 Le.refl S1 r⟩
/-- by the value, the garbage dropped -/
theorem gc_stm {f : Val → AH → SR} {ρ : Slots} {σ : L2.St} {M : Nat → Addr} {h : AH} {H : Hp} {D : Ends} {Q : VK} (S : Sim C M h H) (sl : SlotsR C M h.length H ρ σ) (c : SCov C E M h H ((gcR h (fe ρ h)).stm f) D) (q : ∀ M1 v h1 x H1, Le C M h.length H M1 h1.length H1 → Sim C M1 h1 H1 → Rep C.K M1 h1.length H1 v x → SlotsR C M1 h1.length H1 ρ σ → SCov C E M1 h1 H1 (f v h1) D → Q x H1) : tD C E fe σ H Q :=
  gcR_w ⟨M, ρ, h, S, sl, (Cov.stm (rel := rV C) (r := gcR h (fe ρ h)) (f := f) c).mono fun x H1 ⟨M1, v, h1, L, S1, r, c1⟩ => q M1 v h1 x H1 L S1 r (sl.go L) c1⟩
theorem s_expr (he : PE X ex (tD C E fe)) (hs : swapsWith ex none pos.line X.env = pure false) : PS X (.Expr ex pos) (tDS C E fun ρ h => (gcR h (fe ρ h)).stm fun _ h1 => .nxt ρ h1) := wkS (ps_expr he hs) fun σ H D _ ⟨M, ρ, h, S, sl, c⟩ => gc_stm S sl c fun M1 v h1 x H1 L S1 r sl1 c1 => c1 M1 σ H1 Le.refl S1 sl1
theorem s_asg {tg : Expr} {is : List Nat} (he : PE X ex (tD C E fe)) (hg : PG X tg (gD C is)) (hs : swapsWithSole [tg] ex pos.line X.env = pure false) (hw : swappedStores [tg] ex X.env = pure none) (h1 : (assignEach [tg] X.env).map (·.2) = [assign tg X.env]) :
    PS X (.Assign [tg] ex pos) (tDS C E fun ρ h => (gcR h (fe ρ h)).stm fun v h1 => (match asg h1 v is ρ with
        | some ρ' => .nxt ρ' h1
        | none => .bad)) := wkS (ps_asg he hg hs hw h1) fun σ H D _ ⟨M, ρ, h, S, sl, c⟩ => gc_stm S sl c fun M1 v h1 x H1 L S1 r sl1 c1 => by
    cases e : asg h1 v is ρ with
    | none => rw [e] at c1; exact c1.elim
    | some ρ' =>
      rw [e] at c1
      exact ⟨M1, ρ, h1, v, ρ', S1, sl1, r, e, fun σ' s' _ => c1 M1 σ' H1 Le.refl S1 s'⟩
theorem s_set {i : Nat} {x : Str} (nd : X.N.Nodup) (ok : NmOk X i x) (he : PE X ex (tD C E fe)) (hs : swapsWith ex (some (.Name x p)) pos.line X.env = pure false) :
    PS X (.Assign [.Name x p] ex pos) (tDS C E fun ρ h => (gcR h (fe ρ h)).stm fun v h1 => .nxt (ρ.set i (some v)) h1) := wkS (ps_set nd ok.ix ok.loc he hs ok.fn) fun σ H D hl ⟨M, ρ, h, S, sl, c⟩ => gc_stm S sl c fun M1 v h1 x H1 L S1 r sl1 c1 =>
    c1 M1 _ H1 Le.refl S1 (sl1.set r (by rw [hl]; exact (List.getElem?_eq_some_iff.mp ok.ix).1))
/-- name = [..] on one line -/
theorem s_setLc {i : Nat} {y : Str} {py : Pos} {elt tg iter : Expr} {ifs : List Expr} {scope : Scope} {own : List (Str × Nat)} {spos : Pos} {wi : TI} {g : TG} {tt : TT} {te : TE} (hc : X.calm = true) (hN : X.N.Nodup) (hy : X.N[i]? = some y) (hyl : X.env.scope.names.lookup y = some .local)
    (hsw : swapsWith (.ListComp elt [⟨tg, iter, ifs, 0⟩] scope pos) (some (.Name y py)) spos.line X.env = pure true) (hi : PI X tg iter wi) (ok : BlkOk X.N X.env.scope scope own)
    (hg : ∀ (s : Shared) (H : Hp) (C : Addr) (cl : List (Str × Addr)) (fp : List Addr), PG (X.blk s H scope (compEnvC scope cl C X.env) fp) tg g) (ht : ∀ (s : Shared) (H : Hp) (C : Addr) (cl : List (Str × Addr)) (fp : List Addr), PTs (X.blk s H scope (compEnvC scope cl C X.env) fp) ifs tt)
    (he : ∀ (s : Shared) (H : Hp) (C : Addr) (cl : List (Str × Addr)) (fp : List Addr), PE (X.blk s H scope (compEnvC scope cl C X.env) fp) elt te) (hs : ∀ x, foldedSetIterable iter X.env x = pure x) (w : ∀ σ H Q, tD C E fe σ H Q → tLc wi g tt te (own.map (·.2)) σ H Q) :
    PS X (.Assign [.Name y py] (.ListComp elt [⟨tg, iter, ifs, 0⟩] scope pos) spos) (tDS C E fun ρ h => (gcR h (fe ρ h)).stm fun v h1 => .nxt (ρ.set i (some v)) h1) := wkS (ps_setLc hc hN hy hyl hsw hi ok hg ht he hs) fun σ H D hl ⟨M, ρ, h, S, sl, c⟩ => w _ _ _ (gc_stm S sl c fun M1 v h1 x H1 L S1 r sl1 c1 =>
    c1 M1 _ H1 Le.refl S1 (sl1.set r (by rw [hl]; exact (List.getElem?_eq_some_iff.mp hy).1)))
/-- o[i] = e -/
theorem s_setIx {o i : Expr} {fo fi : Slots → AH → Res Val} (ho : PE X o (tD C E fo)) (hi : PE X i (tD C E fi)) (he : PE X ex (tD C E fe)) (hs : swapsWithSole [.Subscript o i p] ex pos.line X.env = pure false) (hn : noSlice i = true) :
    PS X (.Assign [.Subscript o i p] ex pos) (tDS C E fun ρ h => ((fe ρ h).bind fun v h1 => (fo ρ h1).bind fun x h2 => (fi ρ h2).bind fun y h3 => (match setV h3 x y v with
        | some h4 => Res.ok () h4
        | none => .bad)).stm fun _ h1 => .nxt ρ h1) := by
  have ha : ∀ v, assign (.Subscript o i p) X.env v = (do
      let ov ← holding [v] (eval o X.env)
      let iv ← holding [v, ov] (eval i X.env)
      standAt p
      holding [v, ov, iv] (setItem ov iv v)
      release [v, ov, iv] []) := fun v => by cases i <;> first | rfl | exact nomatch (show false = true from hn)
  refine wkS (ps_asg he (pg_sub ho hi (set_ok (C := C)) ha) hs rfl rfl) fun σ H D _ ⟨M, ρ, h, S, sl, c⟩ => ⟨M, ρ, h, S, sl, ?_⟩
  have c0 := Cov.stm (rel := rU) c
  refine (Cov.bind (rel := rV C) c0).mono fun v H1 ⟨M1, v', h1, _, L1, S1, r1, c1⟩ => ?_
  refine ⟨M1, ρ, h1, S1, sl.go L1, (Cov.bind (rel := rV C) c1).mono fun x H2 ⟨M2, x', h2, _, L2, S2, r2, c2⟩ => ?_⟩
  refine ⟨M2, ρ, h2, S2, (sl.go L1).go L2, (Cov.bind (rel := rV C) c2).mono fun y H3 ⟨M3, y', h3, _, L3, S3, r3, c3⟩ => ?_⟩
  cases e : setV h3 x' y' v' with
  | none => rw [e] at c3; exact c3.elim
  | some h4 =>
    rw [e] at c3
    refine ⟨M3, h3, x', y', v', h4, S3, r2.le L3, r3, (r1.le L2).le L3, e, fun M4 H4 L4 S4 => ?_⟩
    obtain ⟨M5, u, h5, L5, S5, _, c5⟩ := c3 M4 () H4 L4 S4 trivial
    exact c5 M5 σ H4 Le.refl S5 (sl.go L5)
/-! ### several names at once -/
theorem sw_two {env : PySem.Env} {x y : Str} {px py pt pt2 : Pos} {kt k2} {a b : Expr} (hb : env.blockKind = .function) (hx : env.kindOf x = some .local) (hy : env.kindOf y = some .local) (hl : py.line = px.line) (hxy : x ≠ y) (na : noStar a = true) (nb : noStar b = true)
    (hf : [a, b].all (foldedForSure 8) = false) (hc : [a, b].all (constantsAlone 8) = false) : swappedStores [.Tuple [.Name x px, .Name y py] kt pt] (.Tuple [a, b] k2 pt2) env = pure (some [x, y]) := by
  unfold swappedStores
  simp only [hb, hf, hc, hx, hy]
  simp [Expr.pos, hl, List.eraseDups_cons, hxy, hx, hy]
  have e : (y == x) = false := by simpa using Ne.symm hxy
  have e2 : [y].eraseDups = [y] := by simp [List.eraseDups_cons]
  rw [if_neg ?_]
  · simp [e, e2]
  · rintro (z | z)
    · cases a <;> first | exact nomatch (show false = true from na) | exact nomatch (show false = true from z)
    · cases b <;> first | exact nomatch (show false = true from nb) | exact nomatch (show false = true from z)
end
end MP
set_option Elab.async false
set_option linter.all false
set_option maxRecDepth 100000
set_option maxHeartbeats 4000000
namespace MP
open PySem PySem.Spec PyProof.Rows L2
theorem sw_three {env : PySem.Env} {x y z : Str} {px py pz pt pt2 : Pos} {kt k2} {a b c : Expr} (hb : env.blockKind = .function) (hx : env.kindOf x = some .local) (hy : env.kindOf y = some .local) (hz : env.kindOf z = some .local) (hl : py.line = px.line) (hl2 : pz.line = px.line)
    (hxy : x ≠ y) (hxz : x ≠ z) (hyz : y ≠ z) (na : noStar a = true) (nb : noStar b = true) (nc : noStar c = true)
    (hf : [a, b, c].all (foldedForSure 8) = false) (hc : [a, b, c].all (constantsAlone 8) = false) : swappedStores [.Tuple [.Name x px, .Name y py, .Name z pz] kt pt] (.Tuple [a, b, c] k2 pt2) env = pure (some [x, y, z]) := by
  have e : (y == x) = false := by simpa using Ne.symm hxy
  have e' : (z == x) = false := by simpa using Ne.symm hxz
  have e'' : (z == y) = false := by simpa using Ne.symm hyz
  have e2 : [z].eraseDups = [z] := by simp [List.eraseDups_cons]
  unfold swappedStores
  simp only [hb, hf, hc, hx, hy, hz]
  simp [Expr.pos, hl, hl2, List.eraseDups_cons, hxy, hxz, hyz, hx, hy, hz]
  rw [if_neg ?_]
  · simp [e, e', e'', e2, List.eraseDups_cons]
  · rintro (q | q | q)
    · cases a <;> first | exact nomatch (show false = true from na) | exact nomatch (show false = true from q)
    · cases b <;> first | exact nomatch (show false = true from nb) | exact nomatch (show false = true from q)
    · cases c <;> first | exact nomatch (show false = true from nc) | exact nomatch (show false = true from q)
/-- the value is no tuple, or not stored from the right -/
def noTup : Expr → Bool
  | .Tuple .. => false
  | _ => true
theorem sw_no {ts : List Expr} {kt} {pt : Pos} {v : Expr} {env : PySem.Env} (h : noTup v = true) : swappedStores [.Tuple ts kt pt] v env = pure none := by
  cases v <;> first | rfl | exact nomatch (show false = true from h)
/-- a target that is no local name -/
def outB (sc : Scope) : Expr → Bool
  | .Name x _ => !decide (sc.names.lookup x = some .local)
  | _ => true
theorem sw_out {ts vs : List Expr} {kt k2} {pt pt2 : Pos} {env : PySem.Env} {sc : Scope} (hsc : env.scope = sc) (h : ts.any (outB sc) = true ∨ (ts.length ≠ 2 ∧ ts.length ≠ 3) ∨ vs.all (foldedForSure 8) = true) : swappedStores [.Tuple ts kt pt] (.Tuple vs k2 pt2) env = pure none := by
  unfold swappedStores
  dsimp only
  split
  · rfl
  · split
    · rfl
    · split
      · rfl
      · rename_i q1 q2 q3
        rcases h with h | h | h
        · exfalso
          simp only [Bool.or_eq_true, not_or, bne_iff_ne, ne_eq, Decidable.not_not] at q3
          have q4 := List.filterMap_length_eq_length.mp q3.1
          obtain ⟨t, ht, ho⟩ := List.any_eq_true.mp h
          have q5 := q4 t ht
          cases t <;> first | exact nomatch (show false = true from q5) | skip
          rename_i x p
          simp only [outB, Bool.not_eq_true', decide_eq_false_iff_not] at ho
          have hk : (env.kindOf x == some .local) = false := by
            have e0 : env.kindOf x = sc.names.lookup x := by rw [← hsc]; rfl
            rw [e0]
            simpa using ho
          simp [hk] at q5
        · exfalso
          simp only [Bool.or_eq_true, not_or, Bool.not_eq_true', Bool.not_eq_true, Bool.not_eq_false', bne_iff_ne, ne_eq, Decidable.not_not, beq_iff_eq] at q1
          obtain ⟨h1, h2⟩ := h
          simp [h1, h2] at q1
        · rw [if_pos h] <;> rfl
section
variable {X : Cx} {C : Cc} {E : XK} {e : Expr} {es : List Expr} {pos p : Pos} {fe : Slots → AH → Res Val} {fs : Slots → AH → Res (List Val)}
def parF (is : List Nat) (fs : Slots → AH → Res (List Val)) : Slots → AH → SR := fun ρ h => (fs ρ h).stm fun vs h1 => if vs.length = is.length then .nxt (setAll ρ (is.zip vs)) h1 else .bad
/-- a, b = x, y -/
theorem s_par2 {i j : Nat} {x y : Str} {a b : Expr} {px py pt pt2 : Pos} {kt k2} (hc : X.calm = true) (nd : X.N.Nodup) (hi : X.N[i]? = some x) (hj : X.N[j]? = some y) (hxy : x ≠ y) (hx : X.env.scope.names.lookup x = some .local) (hy : X.env.scope.names.lookup y = some .local)
    (hw : swappedStores [.Tuple [.Name x px, .Name y py] kt pt] (.Tuple [a, b] k2 pt2) X.env = pure (some [x, y])) (ha : PA X [a, b] (tDs C E fs)) :
    PS X (.Assign [.Tuple [.Name x px, .Name y py] kt pt] (.Tuple [a, b] k2 pt2) pos) (tDS C E (parF [i, j] fs)) := by
  have hij : i ≠ j := fun z => by
    subst z
    rw [hi] at hj
    exact hxy (Option.some.inj hj)
  refine wkS (ps_par hc nd hi hj hij hx hy ha hw) fun σ H D hl ⟨M, ρ, h, S, sl, c⟩ => ⟨M, ρ, h, S, sl, (Cov.stm (rel := rVs C) c).mono fun xs H1 ⟨M1, vs, h1, L, S1, r, c1⟩ => ?_⟩
  split at c1
  · rename_i hz
    have hi' : i < σ.length := by rw [hl]; exact (List.getElem?_eq_some_iff.mp hi).1
    have hj' : j < σ.length := by rw [hl]; exact (List.getElem?_eq_some_iff.mp hj).1
    match vs, xs, r, hz with
    | [v1, v2], _, .cons r1 (.cons r2 .nil), _ =>
      exact ⟨_, _, rfl, c1 M1 _ H1 Le.refl S1 (((sl.go L).set r1 hi').set r2 (by rw [List.length_set]; exact hj'))⟩
  · exact c1.elim
theorem s_par3 {i j l : Nat} {x y z : Str} {a b c : Expr} {px py pz pt pt2 : Pos} {kt k2} (hc : X.calm = true) (nd : X.N.Nodup) (hi : X.N[i]? = some x) (hj : X.N[j]? = some y) (hk : X.N[l]? = some z) (hxy : x ≠ y) (hxz : x ≠ z) (hyz : y ≠ z)
    (hx : X.env.scope.names.lookup x = some .local) (hy : X.env.scope.names.lookup y = some .local) (hz : X.env.scope.names.lookup z = some .local)
    (hw : swappedStores [.Tuple [.Name x px, .Name y py, .Name z pz] kt pt] (.Tuple [a, b, c] k2 pt2) X.env = pure (some [x, y, z])) (ha : PA X [a, b, c] (tDs C E fs)) :
    PS X (.Assign [.Tuple [.Name x px, .Name y py, .Name z pz] kt pt] (.Tuple [a, b, c] k2 pt2) pos) (tDS C E (parF [i, j, l] fs)) := by
  have ne : ∀ {i j : Nat} {x y : Str}, X.N[i]? = some x → X.N[j]? = some y → x ≠ y → i ≠ j := fun hi hj hxy z => by
    subst z
    rw [hi] at hj
    exact hxy (Option.some.inj hj)
  refine wkS (ps_par3 hc nd hi hj hk (ne hi hj hxy) (ne hi hk hxz) (ne hj hk hyz) hx hy hz ha hw) fun σ H D hl ⟨M, ρ, h, S, sl, c⟩ => ⟨M, ρ, h, S, sl, (Cov.stm (rel := rVs C) c).mono fun xs H1 ⟨M1, vs, h1, L, S1, r, c1⟩ => ?_⟩
  split at c1
  · rename_i hz
    have hi' : i < σ.length := by rw [hl]; exact (List.getElem?_eq_some_iff.mp hi).1
    have hj' : j < σ.length := by rw [hl]; exact (List.getElem?_eq_some_iff.mp hj).1
    have hk' : l < σ.length := by rw [hl]; exact (List.getElem?_eq_some_iff.mp hk).1
    match vs, xs, r, hz with
    | [v1, v2, v3], _, .cons r1 (.cons r2 (.cons r3 .nil)), _ =>
      exact ⟨_, _, _, rfl, c1 M1 _ H1 Le.refl S1 ((((sl.go L).set r1 hi').set r2 (by rw [List.length_set]; exact hj')).set r3 (by rw [List.length_set, List.length_set]; exact hk'))⟩
  · exact c1.elim
/-- the same by a tuple -/
theorem s_parN {is : List Nat} {ts : List Expr} {kt k2} {pt pt2 : Pos} (hc : X.calm = true) (hK : C.K = X.K) (nd : X.N.Nodup) (ok : NmsOk X is ts) (hl : is.length ≠ 1) (hz : is.length ≤ 1000)
    (hw : swappedStores [.Tuple ts kt pt] (.Tuple es k2 pt2) X.env = pure none) (ha : PA X es (tDs C E fs)) : PS X (.Assign [.Tuple ts kt pt] (.Tuple es k2 pt2) pos) (tDS C E (parF is fs)) := by
  refine wkS (ps_asg (d_tup ha) (g_tuple hK hc nd ok hl) rfl hw rfl) fun σ H D hl' ⟨M, ρ, h, S, sl, c⟩ => ⟨M, ρ, h, S, sl, ?_⟩
  have c' : SCov C E M h H ((fs ρ h).stm fun vs h1 => if vs.length = is.length then .nxt (setAll ρ (is.zip vs)) h1 else .bad) D := c
  show Cov (rV C) C E M h H ((fs ρ h).bind fun vs h1 => if vs.length ≤ sizeLine then .ok (.tup vs) h1 else .bad) _
  cases e1 : fs ρ h with
  | bad => rw [e1] at c'; exact c'
  | exc _ _ _ => rw [e1] at c'; exact c'
  | ok vs h1 =>
    rw [e1] at c'
    simp only [Res.stm, Res.bind] at c' ⊢
    split at c'
    · rename_i hv
      rw [if_pos (by rw [hv, sizeLine_eq]; omega)]
      intro M1 x H1 L S1 r
      refine ⟨M1, ρ, h1, .tup vs, setAll ρ (is.zip vs), S1, sl.go L, r, ?_, fun σ' s' _ => c' M1 σ' H1 L S1 s'⟩
      unfold asg
      split
      · exact absurd rfl hl
      · simp [seqOf, hv]
    · exact c'.elim
/-- i += e -/
def rAug (C : Cc) (op : Operator) : TIp := fun x y H Q => ∃ M n vx vy v, Rep C.K M n H vx x ∧ Rep C.K M n H vy y ∧ augV op vx vy = some v ∧ ∀ z, Rep C.K M n H v z → Q z H
theorem aug_ok (op : Operator) : PIp X op (rAug C op) := fun pins s σ H x y v u Q I rx ry ⟨M, n, vx, vy, w, r1, r2, e, q⟩ => by
  cases op <;> cases vx <;> cases vy <;> simp only [augV] at e <;> try (simp only [reduceCtorEq] at e)
  · cases e
    exact ip_add pins s σ H x y v u Q I rx ry ⟨_, _, i_int r1, i_int r2, q _ (.int _)⟩
  · cases e
    exact ip_sub pins s σ H x y v u Q I rx ry ⟨_, _, i_int r1, i_int r2, q _ (.int _)⟩
theorem s_aug {i : Nat} {x : Str} {op : Operator} (nd : X.N.Nodup) (ok : NmOk X i x) (he : PE X e (tD C E fe)) :
    PS X (.AugAssign (.Name x p) op e pos) (tDS C E fun ρ h => (match ρ[i]? with
      | some (some x) => (gcR h ((fe ρ h).bind fun y h1 => liftO h1 (augV op x y))).stm fun v h1 => .nxt (ρ.set i (some v)) h1
      | _ => .bad)) := by
  have hi' : i < X.N.length := (List.getElem?_eq_some_iff.mp ok.ix).1
  refine wkS (ps_aug nd ok.ix ok.loc he (aug_ok (C := C) op) ok.fn) fun σ H D hl ⟨M, ρ, h, S, sl, c⟩ => ?_
  dsimp only at c
  cases e0 : ρ[i]? with
  | none => rw [e0] at c; exact c.elim
  | some o =>
    cases o with
    | none => rw [e0] at c; exact c.elim
    | some v =>
      rw [e0] at c
      simp only at c
      obtain ⟨x, e1, r0⟩ := sl i v e0
      refine ⟨x, e1, M, ρ, h, S, sl, ?_⟩
      -- without the garbage's going
      have c2 : Cov (rV C) C E M h H ((fe ρ h).bind fun y h1 => liftO h1 (augV op v y)) fun z H1 => D.nx (σ.set i (some z)) H1 := by
        generalize hr : ((fe ρ h).bind fun y h1 => liftO h1 (augV op v y)) = r at c
        cases r with
        | bad => exact c
        | exc k w h1 =>
          intro M' z d H' L S' r hd
          obtain ⟨M2, L2, S2, r2⟩ := gc_ok S L S' r
          exact c M2 z d H' L2 S2 r2 hd
        | ok w h1 =>
          intro M' z H' L S' r
          obtain ⟨M2, L2, S2, r2⟩ := gc_ok S L S' r
          exact c M2 _ H' L2 S2 ((sl.go L2).set r2 (by rw [hl]; exact hi'))
      refine (Cov.bind (rel := rV C) c2).mono fun y H1 ⟨M1, w, h1, _, L, S1, r1, c1⟩ => ?_
      cases ea : augV op v w with
      | none => rw [ea] at c1; exact c1.elim
      | some u =>
        rw [ea] at c1
        exact ⟨M1, h1.length, v, w, u, r0.le L, r1, ea, fun z rz => Cov.ok (rel := rV C) c1 S1 rz⟩
/-! ### branches, loops, rows of statements -/
variable {st : Stmt} {sts b1 b2 : List Stmt} {f g : Slots → AH → SR} {ft : Slots → AH → Res Bool}
theorem s_nil : PSs X [] (tDS C E fun ρ h => .nxt ρ h) := wkSs pss_nil fun σ H D _ ⟨M, ρ, h, S, sl, c⟩ => c M σ H Le.refl S sl
theorem s_cons (h1 : PS X st (tDS C E f)) (h2 : PSs X sts (tDS C E g)) : PSs X (st :: sts) (tDS C E fun ρ h => match f ρ h with
    | .nxt ρ' h' => g ρ' h'
    | q => q) := wkSs (pss_cons h1 h2) fun σ H D _ ⟨M, ρ, h, S, sl, c⟩ => ⟨M, ρ, h, S, sl, by
  dsimp only at c
  cases e : f ρ h with
  | nxt ρ' h' =>
    rw [e] at c
    exact fun M' σ' H' L S' sl' => ⟨M', ρ', h', S', sl', SCov.back L c⟩
  | brk _ _ => rw [e] at c; exact c
  | cnt _ _ => rw [e] at c; exact c
  | ret _ _ => rw [e] at c; exact c
  | exc _ _ _ => rw [e] at c; exact c
  | bad => rw [e] at c; exact c⟩
theorem s_if (hc : PT X e (tDT C E ft)) (ha : PSs X b1 (tDS C E f)) (hb : PSs X b2 (tDS C E g)) : PS X (.If e b1 b2 pos) (tDS C E fun ρ h => (gcT h (ft ρ h)).stm fun t h1 => if t = true then f ρ h1 else g ρ h1) :=
  wkS (ps_if hc ha hb) fun σ H D _ ⟨M, ρ, h, S, sl, c⟩ => gcT_w ⟨M, ρ, h, S, sl, (Cov.stm (rel := rB) c).mono fun t H1 ⟨M1, t', h1, L, S1, r, c1⟩ => by
    cases (show t' = t from r)
    cases t with
    | true => exact iteT ⟨M1, ρ, h1, S1, sl.go L, c1⟩
    | false => exact iteF ⟨M1, ρ, h1, S1, sl.go L, c1⟩⟩
theorem s_while (hp : PassesOwn (model X.prog X.w) X.A X.env X.xe) (hc : PT X e (tDT C E ft)) (hb : PSs X b1 (tDS C E f)) (n : Nat) : PS X (.While e b1 [] pos) (tDS C E fun ρ h => wloop (fun ρ h => gcT h (ft ρ h)) f n ρ h) :=
  wkS (ps_while hp hc hb) fun σ H D _ ⟨M, ρ, h, S, sl, c⟩ => by
    refine ⟨fun m σ H => ∃ M ρ h, Sim C M h H ∧ SlotsR C M h.length H ρ σ ∧ SCov C E M h H (wloop (fun ρ h => gcT h (ft ρ h)) f m ρ h) D, ⟨n, M, ρ, h, S, sl, c⟩, ?_⟩
    clear c S sl
    rintro m σ H ⟨M, ρ, h, S, sl, c⟩
    cases m with
    | zero => exact c.elim
    | succ m =>
      simp only [wloop] at c
      refine gcT_w ⟨M, ρ, h, S, sl, (Cov.stm (rel := rB) c).mono fun t H1 ⟨M1, t', h1, L, S1, r, c1⟩ => ?_⟩
      cases (show t' = t from r)
      cases t with
      | false => exact iteF (by simpa using c1 M1 σ H1 Le.refl S1 (sl.go L))
      | true =>
        refine iteT ⟨fun σ H => ∃ M ρ h, Sim C M h H ∧ SlotsR C M h.length H ρ σ ∧ SCov C E M h H (wloop (fun ρ h => gcT h (ft ρ h)) f m ρ h) D, fun σ' H' q => ⟨m, Nat.lt_succ_self _, q⟩, M1, ρ, h1, S1, sl.go L, ?_⟩
        simp only [if_true] at c1
        cases e : f ρ h1 with
        | nxt ρ' h' => rw [e] at c1; exact fun M' σ' H' L' S' sl' => ⟨M', ρ', h', S', sl', SCov.back L' c1⟩
        | cnt ρ' h' => rw [e] at c1; exact fun M' σ' H' L' S' sl' => ⟨M', ρ', h', S', sl', SCov.back L' c1⟩
        | brk _ _ => rw [e] at c1; exact c1
        | ret _ _ => rw [e] at c1; exact c1
        | exc _ _ _ => rw [e] at c1; exact c1
        | bad => rw [e] at c1; exact c1
theorem s_for {t : Expr} {is : List Nat} {fi : Slots → AH → Res Src} (hp : PassesOwn (model X.prog X.w) X.A X.env X.xe) (hc : X.calm = true) (hi : PI X t e (tDI C E fi)) (hg : PG X t (gD C is)) (hb : PSs X b1 (tDS C E f)) (hs : noSet e = true) :
    PS X (.For t e b1 [] pos) (tDS C E fun ρ h => (fi ρ h).stm fun s h1 => loop s (stepF is f) s.len 0 ρ h1) :=
  wkS (ps_for hp hc hi hg hb fun x => set_plain hs x) fun σ H D _ ⟨M, ρ, h, S, sl, c⟩ => by
    refine ⟨M, ρ, h, S, sl, (Cov.stm (rel := SrcOk C) c).mono fun J H1 ⟨M1, s, h1, L1, S1, src, c1⟩ => ?_⟩
    refine ⟨fun i m σ H => m = s.len - i ∧ i ≤ s.len ∧ ∃ M2 ρ2 h2, Le C M1 h1.length H1 M2 h2.length H ∧ Sim C M2 h2 H ∧ SlotsR C M2 h2.length H ρ2 σ ∧ SCov C E M2 h2 H (loop s (stepF is f) (s.len - i) i ρ2 h2) D, ⟨s.len, rfl, Nat.zero_le _, M1, ρ, h1, Le.refl, S1, sl.go L1, c1⟩, ?_⟩
    clear c c1
    rintro i m σ H ⟨rfl, hi, M2, ρ2, h2, L2, S2, sl2, c2⟩
    by_cases hlt : i < s.len
    · obtain ⟨n, hn⟩ : ∃ n, s.len - i = n + 1 := ⟨s.len - i - 1, by omega⟩
      rw [hn] at c2
      have hn' : s.len - (i + 1) = n := by omega
      simp only [loop] at c2
      cases e1 : s.get h2 i with
      | none => rw [e1] at c2; exact c2.elim
      | some v =>
        rw [e1] at c2
        simp only at c2
        obtain ⟨go, yl⟩ := (src M2 h2 H L2 S2).1 i v e1
        refine .inr ⟨go, fun σ H => ∃ M2 ρ2 h2, Le C M1 h1.length H1 M2 h2.length H ∧ Sim C M2 h2 H ∧ SlotsR C M2 h2.length H ρ2 σ ∧ SCov C E M2 h2 H (loop s (stepF is f) n (i + 1) ρ2 h2) D, fun σ' H' q => ⟨s.len - (i + 1), by omega, rfl, by omega, by rw [hn']; exact q⟩, fun x H3 y => ?_⟩
        obtain ⟨L3, S3, r3⟩ := yl x H3 y
        have c3 := SCov.back L3 c2
        have LL := L2.trans L3
        clear c2 yl go y
        cases e2 : asg h2 v is ρ2 with
        | none =>
          have st : stepF is f v ρ2 h2 = .bad := by unfold stepF; rw [e2]
          rw [st] at c3
          exact c3.elim
        | some ρ' =>
          have st : stepF is f v ρ2 h2 = f ρ' h2 := by unfold stepF; rw [e2]
          rw [st] at c3
          refine ⟨M2, ρ2, h2, v, ρ', S3, sl2.go L3, r3, e2, fun σ' sl' _ => ⟨M2, ρ', h2, S3, sl', ?_⟩⟩
          cases e5 : f ρ' h2 with
          | nxt ρ3 h3 => rw [e5] at c3; exact fun M' σ' H' L' S' s' => ⟨M', ρ3, h3, LL.trans L', S', s', SCov.back L' c3⟩
          | cnt ρ3 h3 => rw [e5] at c3; exact fun M' σ' H' L' S' s' => ⟨M', ρ3, h3, LL.trans L', S', s', SCov.back L' c3⟩
          | brk _ _ => rw [e5] at c3; exact c3
          | ret _ _ => rw [e5] at c3; exact c3
          | exc _ _ _ => rw [e5] at c3; exact c3
          | bad => rw [e5] at c3; exact c3
    · have hi' : i = s.len := by omega
      subst hi'
      rw [Nat.sub_self] at c2
      simp only [loop] at c2
      split at c2
      · rename_i hf
        exact .inl ⟨(src M2 h2 H L2 S2).2 hf, c2 M2 σ H Le.refl S2 sl2⟩
      · exact c2.elim
end
end MP
set_option Elab.async false
set_option linter.all false
set_option maxRecDepth 100000
set_option maxHeartbeats 4000000
namespace MP
open PySem PySem.Spec PyProof.Rows L2
/-! ## every checked statement does what the evaluator says -/
def noComp : Expr → Bool
  | .ListComp .. | .SetComp .. | .DictComp .. => false
  | _ => true
/-- is the name's old value let go first -/
def swC (sc : Scope) (y : Str) (py : Pos) : Expr → Bool
  | .ListComp _ _ s p => decide (sc.names.lookup y = some .local) && (py.line == p.line) && !(s.names.any fun (n, k) => n == y && (k == .local || k == .cell))
  | _ => false
/-- are two, three names stored from the right -/
def swP (sc : Scope) : List Expr → List Expr → Bool
  | [.Name x px, .Name y py], [a, b] => decide (sc.names.lookup x = some .local) && (decide (sc.names.lookup y = some .local) && (decide (py.line = px.line) && (decide (x ≠ y) && (!([a, b].all (foldedForSure 8)) && !([a, b].all (constantsAlone 8))))))
  | [.Name x px, .Name y py, .Name z pz], [a, b, c] => decide (sc.names.lookup x = some .local) && (decide (sc.names.lookup y = some .local) && (decide (sc.names.lookup z = some .local) && (decide (py.line = px.line) && (decide (pz.line = px.line) && (decide (x ≠ y) && (decide (x ≠ z) && (decide (y ≠ z) &&
      (!([a, b, c].all (foldedForSure 8)) && !([a, b, c].all (constantsAlone 8))))))))))
  | _, _ => false
mutual
def chkS (P : Prg) (sc : Scope) (N : List Str) : S → Stmt → Bool
  | .pass, .Pass _ => true
  | .pass, .Expr (.Constant (.str _) _ _) _ => true
  | .brk, .Break _ => true
  | .cnt, .Continue _ => true
  | .retN, .Return none _ => true
  | .ret e, .Return (some x) _ => chkE P sc N e x
  | .expr e, .Expr x _ => noComp x && chkE P sc N e x
  | .set i e, .Assign [.Name y _] x _ => decide (N[i]? = some y) && (locB sc y && chkE P sc N e x)
  | .setT is e, .Assign [.Tuple ts _ _] x _ => noTup x && (decide (is.length ≠ 1) && (tgL sc N is ts && chkE P sc N e x))
  | .par is es, .Assign [.Tuple ts _ _] (.Tuple vs _ _) _ => decide (is.length ≠ 1) && (decide (is.length ≤ 1000) && (tgL sc N is ts && (vs.all noStar && (chkEs P sc N es vs &&
      (swP sc ts vs || (ts.any (outB sc) || (decide (ts.length ≠ 2 ∧ ts.length ≠ 3) || vs.all (foldedForSure 8))))))))
  | .setIx o i e, .Assign [.Subscript eo ei _] x _ => noSlice ei && (chkE P sc N o eo && (chkE P sc N i ei && chkE P sc N e x))
  | .aug i op e, .AugAssign (.Name y _) o x _ => decide (op = o) && (decide (N[i]? = some y) && (locB sc y && chkE P sc N e x))
  | .cond c a b, .If t x y _ => chkE P sc N c t && (chkSs P sc N a x && chkSs P sc N b y)
  | .for_ tg it b, .For t iter x [] _ => noSet iter && (tgB sc N tg t && (chkI P sc N it t iter && chkSs P sc N b x))
  | .while_ c b, .While t x [] _ => chkE P sc N c t && chkSs P sc N b x
  | _, _ => false
def chkSs (P : Prg) (sc : Scope) (N : List Str) : Ss → List Stmt → Bool
  | .nil, [] => true
  | .cons s r, x :: xs => chkS P sc N s x && chkSs P sc N r xs
  | _, _ => false
end
/-- the context of a def's body -/
structure YOk (P : Prg) (C : Cc) (φ : Nat → List Val → AH → Res Val) (sc : Scope) (N : List Str) (k : Nat) (E : XK) (X : Cx) : Prop where
  x : XOk P C φ sc N k E X
  kind : sc.kind = .function
  po : PassesOwn (model X.prog X.w) X.A X.env X.xe
  st : ∀ y, X.fn y = true
section
variable {P : Prg} {C : Cc} {φ : Nat → List Val → AH → Res Val} {N : List Str} {k : Nat} {sc : Scope} {E : XK} {X : Cx}
theorem YOk.sto (y : YOk P C φ sc N k E X) : ∀ z, locB sc z = true → Loc X.env.scope z ∧ (X.fn z = true ∨ X.env.scope.names.lookup z = some .local) := fun z h => by
  unfold locB at h
  rw [Bool.or_eq_true, decide_eq_true_eq, decide_eq_true_eq] at h
  rw [y.x.hsc]
  exact ⟨h, .inl (y.st z)⟩
theorem YOk.nm (y : YOk P C φ sc N k E X) {i : Nat} {z : Str} (h1 : N[i]? = some z) (h2 : locB sc z = true) : NmOk X i z := ⟨by rw [y.x.hN]; exact h1, (y.sto z h2).1, (y.sto z h2).2⟩
theorem YOk.bk (y : YOk P C φ sc N k E X) : X.env.blockKind = .function := by
  unfold PySem.Env.blockKind
  rw [y.x.hsc, y.kind] <;> rfl
theorem YOk.ki (y : YOk P C φ sc N k E X) (z : Str) : X.env.kindOf z = sc.names.lookup z := by
  show X.env.scope.names.lookup z = _
  rw [y.x.hsc]
theorem swaps_is (y : YOk P C φ sc N k E X) {z : Str} {py : Pos} {l : Nat} {e : Expr} (hn : noComp e = true ∨ ∃ a b s p, e = .ListComp a b s p) : swapsWith e (some (.Name z py)) l X.env = pure (swC sc z py e) := by
  rcases hn with hn | ⟨a, b, s, p, rfl⟩
  · cases e <;> first | rfl | exact nomatch (show false = true from hn)
  · unfold swapsWith swC
    simp only [y.bk, y.ki, Expr.pos]
    have e1 : ∀ o : Option NameKind, (o == some NameKind.local) = decide (o = some .local) := fun o => by
      by_cases h : o = some .local
      · rw [h]; rfl
      · rw [decide_eq_false h]
        exact beq_false_of_ne h
    rw [e1]
    simp
theorem chk_comp {e : MP.E} {ex : Expr} (h : chkE P sc N e ex = true) : noComp ex = true ∨ ∃ a b s p, ex = .ListComp a b s p := by
  cases ex <;> first | exact .inl rfl | exact .inr ⟨_, _, _, _, rfl⟩ | (cases e <;> exact nomatch (show false = true from h))
/-- the parts of a comprehension -/
theorem comp_parts {e : MP.E} {elt : Expr} {gs : List Comprehension} {scope : Scope} {p : Pos} (x : XOk P C φ sc N k E X) (h : chkE P sc N e (.ListComp elt gs scope p) = true) :
    ∃ (t iter : Expr) (ifs : List Expr) (own : List (Str × Nat)) (tg : List Nat) (fi : Slots → AH → Res Src) (tt : TT) (te : TE), gs = [⟨t, iter, ifs, 0⟩] ∧ PI X t iter (tDI C E fi) ∧ BlkOk X.N X.env.scope scope own ∧
      (∀ (s : Shared) (H : Hp) (A : Addr) (cl : List (Str × Addr)) (fp : List Addr), PG (X.blk s H scope (compEnvC scope cl A X.env) fp) t (gD C tg)) ∧
      (∀ (s : Shared) (H : Hp) (A : Addr) (cl : List (Str × Addr)) (fp : List Addr), PTs (X.blk s H scope (compEnvC scope cl A X.env) fp) ifs tt) ∧
      (∀ (s : Shared) (H : Hp) (A : Addr) (cl : List (Str × Addr)) (fp : List Addr), PE (X.blk s H scope (compEnvC scope cl A X.env) fp) elt te) ∧
      (∀ y, foldedSetIterable iter X.env y = pure y) ∧ ∀ σ H Q, tD C E (evE P φ e) σ H Q → tLc (tDI C E fi) (gD C tg) tt te (own.map (·.2)) σ H Q := by
  cases e <;> first | (exact nomatch (show false = true from h)) | skip
  rename_i own tg it c e
  match gs, h with
  | [], h => exact nomatch (show false = true from h)
  | ⟨_, _, _, _⟩ :: _ :: _, h => exact nomatch (show false = true from h)
  | [⟨t, iter, ifs, asy⟩], h =>
    obtain ⟨h1, h2⟩ := andB (show (decide (asy = 0) && (blkC N sc scope own && (tg.all (fun i => (own.map (·.2)).contains i) && (tgB scope N tg t && (noSet iter && (chkI P sc N it t iter && ((match (generalizing := false) ifs with
      | [] => c.isYes
      | [f] => chkE P (relS scope sc) N c f
      | _ => false) && chkE P (relS scope sc) N e elt))))))) = true from h)
    obtain ⟨h2, h3⟩ := andB h2
    obtain ⟨h3, h4⟩ := andB h3
    obtain ⟨h4, h5⟩ := andB h4
    obtain ⟨h5, h6⟩ := andB h5
    obtain ⟨h6, h7⟩ := andB h6
    obtain ⟨h7, h8⟩ := andB h7
    cases (of_decide_eq_true h1 : asy = 0)
    have sub : ∀ i ∈ tg, i ∈ own.map (·.2) := fun i hi => List.contains_iff_mem.mp (List.all_eq_true.mp h3 i hi)
    have ht : ∃ tt, (∀ (s : Shared) (H : Hp) (A : Addr) (cl : List (Str × Addr)) (fp : List Addr), PTs (X.blk s H scope (compEnvC scope cl A X.env) fp) ifs tt) ∧ ∀ σ H (Q : Bool → Hp → Prop), tDT C E0 (tf (evE P φ c)) σ H Q → tt σ H Q := by
      match ifs, h7 with
      | [], h7 =>
        refine ⟨tYes, fun _ _ _ _ _ => pts_nil, fun σ H Q ⟨M, ρ, h, S, sl, cv⟩ => ?_⟩
        have hc : c = .cst (.bl true) := isYes_ok (show c.isYes = true from h7)
        subst hc
        exact Cov.ok (rel := rB) (v := true) cv S rfl
      | [f], h7 => exact ⟨_, fun s H A cl fp => pts_one (soundE c (x.blk s H scope cl A fp) h7).pt, fun _ _ _ z => z⟩
      | _ :: _ :: _, h7 => exact nomatch (show false = true from h7)
    obtain ⟨tt, ht, wt⟩ := ht
    exact ⟨t, iter, ifs, own, tg, _, tt, _, rfl, soundI it x h6, by rw [x.hN, x.hsc]; exact blkOk_by h2, fun s H A cl fp => tg_ok x.hK x.calm x.ndN x.hN (blk_st (x.blk s H scope cl A fp).hsc fun _ => rfl) h4, ht,
      fun s H A cl fp => (soundE e (x.blk s H scope cl A fp) h8).pe, fun y => set_plain h5 y, fun σ H Q z => lc_read sub wt z⟩
theorem notB {b : Bool} (h : (!b) = true) : b = false := by cases b <;> first | rfl | cases h
mutual
theorem soundS : ∀ (s : MP.S) {st : Stmt}, YOk P C φ sc N k E X → chkS P sc N s st = true → PS X st (tDS C E (exS P φ s))
  | .pass, st, y, h => by
    cases st <;> first | (exact nomatch (show false = true from h)) | skip
    case Pass => exact s_pass
    case Expr x p =>
      cases x <;> first | (exact nomatch (show false = true from h)) | skip
      rename_i c j q
      cases c <;> first | (exact nomatch (show false = true from h)) | skip
      exact s_doc
  | .brk, st, y, h => by
    cases st <;> first | (exact nomatch (show false = true from h)) | skip
    exact s_brk
  | .cnt, st, y, h => by
    cases st <;> first | (exact nomatch (show false = true from h)) | skip
    exact s_cnt
  | .retN, st, y, h => by
    cases st <;> first | (exact nomatch (show false = true from h)) | skip
    rename_i o p
    cases o <;> first | (exact nomatch (show false = true from h)) | skip
    exact s_retN
  | .ret e, st, y, h => by
    cases st <;> first | (exact nomatch (show false = true from h)) | skip
    rename_i o p
    cases o <;> first | (exact nomatch (show false = true from h)) | skip
    exact s_ret (soundE e y.x h).pe
  | .expr e, st, y, h => by
    cases st <;> first | (exact nomatch (show false = true from h)) | skip
    rename_i x p
    obtain ⟨h1, h2⟩ := andB (show (noComp x && chkE P sc N e x) = true from h)
    refine s_expr (soundE e y.x h2).pe ?_
    cases x <;> first | rfl | exact nomatch (show false = true from h1)
  | .set i e, st, y, h => by
    cases st <;> first | (exact nomatch (show false = true from h)) | skip
    rename_i ts x p
    match ts, h with
    | [], h => exact nomatch (show false = true from h)
    | _ :: _ :: _, h => exact (by rename_i a b c; cases a <;> exact nomatch (show false = true from h))
    | [t], h =>
      cases t <;> first | (exact nomatch (show false = true from h)) | skip
      rename_i z q
      obtain ⟨h1, h2⟩ := andB (show (decide (N[i]? = some z) && (locB sc z && chkE P sc N e x)) = true from h)
      obtain ⟨h2, h3⟩ := andB h2
      have nm := y.nm (of_decide_eq_true h1) h2
      have sw := swaps_is y (z := z) (py := q) (l := p.line) (chk_comp h3)
      cases hw : swC sc z q x with
      | false => exact s_set y.x.ndN nm (soundE e y.x h3).pe (by rw [sw, hw])
      | true =>
        rw [hw] at sw
        cases x <;> first | (exact nomatch (show false = true from hw)) | skip
        rename_i elt gs scope lp
        obtain ⟨t, iter, ifs, own, tg, fi, tt, te, rfl, a1, a2, a3, a4, a5, a6, a7⟩ := comp_parts y.x h3
        have hz : X.env.scope.names.lookup z = some .local := by
          rw [y.x.hsc]
          unfold swC at hw
          simp only [Bool.and_eq_true, decide_eq_true_eq] at hw
          exact hw.1.1
        exact s_setLc y.x.calm y.x.ndN nm.ix hz sw a1 a2 a3 a4 a5 a6 a7
  | .setT is e, st, y, h => by
    cases st <;> first | (exact nomatch (show false = true from h)) | skip
    rename_i ts x p
    match ts, h with
    | [], h => exact nomatch (show false = true from h)
    | _ :: _ :: _, h => exact (by rename_i a b c; cases a <;> exact nomatch (show false = true from h))
    | [t], h =>
      cases t <;> first | (exact nomatch (show false = true from h)) | skip
      rename_i ts kt q
      obtain ⟨h1, h2⟩ := andB (show (noTup x && (decide (is.length ≠ 1) && (tgL sc N is ts && chkE P sc N e x))) = true from h)
      obtain ⟨h2, h3⟩ := andB h2
      obtain ⟨h3, h4⟩ := andB h3
      refine s_asg (soundE e y.x h4).pe (g_tuple y.x.hK y.x.calm y.x.ndN (tgL_ok y.x.hN y.sto h3) (of_decide_eq_true h2)) ?_ (sw_no h1) rfl
      rcases chk_comp h4 with hn | ⟨_, _, _, _, rfl⟩
      · cases x <;> first | rfl | exact nomatch (show false = true from hn)
      · rfl
  | .par is es, st, y, h => by
    cases st <;> first | (exact nomatch (show false = true from h)) | skip
    rename_i ts x p
    match ts, h with
    | [], h => exact nomatch (show false = true from h)
    | _ :: _ :: _, h => exact (by rename_i a b c; cases a <;> exact nomatch (show false = true from h))
    | [t], h =>
      cases t <;> first | (exact nomatch (show false = true from h)) | skip
      rename_i ts kt q
      cases x <;> first | (exact nomatch (show false = true from h)) | skip
      rename_i vs k2 q2 _
      obtain ⟨h1, h2⟩ := andB (show (decide (is.length ≠ 1) && (decide (is.length ≤ 1000) && (tgL sc N is ts && (vs.all noStar && (chkEs P sc N es vs &&
        (swP sc ts vs || (ts.any (outB sc) || (decide (ts.length ≠ 2 ∧ ts.length ≠ 3) || vs.all (foldedForSure 8)))))))))  = true from h)
      obtain ⟨h2, h3⟩ := andB h2
      obtain ⟨h3, h4⟩ := andB h3
      obtain ⟨h4, h5⟩ := andB h4
      obtain ⟨h5, h6⟩ := andB h5
      have ok := tgL_ok y.x.hN y.sto h3
      have pa := soundEs es y.x h4 h5
      cases hsw : swP sc ts vs with
      | false =>
        rw [hsw, Bool.false_or, Bool.or_eq_true, Bool.or_eq_true, decide_eq_true_eq] at h6
        exact s_parN y.x.calm y.x.hK y.x.ndN ok (of_decide_eq_true h1) (of_decide_eq_true h2) (sw_out y.x.hsc h6) pa
      | true =>
        clear h h3 h6
        have lk : ∀ {z : Str}, sc.names.lookup z = some .local → X.env.scope.names.lookup z = some .local ∧ X.env.kindOf z = some .local := fun {z} hz => ⟨by rw [y.x.hsc]; exact hz, by rw [y.ki]; exact hz⟩
        match ts, vs, hsw, is, ok, h4, pa with
        | [.Name a pa', .Name b pb], [v, w], hsw, [i, j], ok, h4, pa =>
          obtain ⟨w1, w2⟩ := andB (show (decide (sc.names.lookup a = some .local) && (decide (sc.names.lookup b = some .local) && (decide (pb.line = pa'.line) && (decide (a ≠ b) && (!([v, w].all (foldedForSure 8)) && !([v, w].all (constantsAlone 8))))))) = true from hsw)
          obtain ⟨w2, w3⟩ := andB w2
          obtain ⟨w3, w4⟩ := andB w3
          obtain ⟨w4, w5⟩ := andB w4
          obtain ⟨w5, w6⟩ := andB w5
          obtain ⟨l1, k1⟩ := lk (of_decide_eq_true w1)
          obtain ⟨l2, k2⟩ := lk (of_decide_eq_true w2)
          rw [List.all_cons, List.all_cons, Bool.and_eq_true, Bool.and_eq_true] at h4
          exact s_par2 y.x.calm y.x.ndN ok.1.ix ok.2.1.ix (of_decide_eq_true w4) l1 l2 (sw_two y.bk k1 k2 (of_decide_eq_true w3) (of_decide_eq_true w4) h4.1 h4.2.1 (notB w5) (notB w6)) pa
        | [.Name a pa', .Name b pb, .Name c pc], [v, w, u], hsw, [i, j, l], ok, h4, pa =>
          obtain ⟨w1, w2⟩ := andB (show (decide (sc.names.lookup a = some .local) && (decide (sc.names.lookup b = some .local) && (decide (sc.names.lookup c = some .local) && (decide (pb.line = pa'.line) && (decide (pc.line = pa'.line) && (decide (a ≠ b) && (decide (a ≠ c) && (decide (b ≠ c) &&
            (!([v, w, u].all (foldedForSure 8)) && !([v, w, u].all (constantsAlone 8))))))))))) = true from hsw)
          obtain ⟨w2, w3⟩ := andB w2
          obtain ⟨w3, w4⟩ := andB w3
          obtain ⟨w4, w5⟩ := andB w4
          obtain ⟨w5, w6⟩ := andB w5
          obtain ⟨w6, w7⟩ := andB w6
          obtain ⟨w7, w8⟩ := andB w7
          obtain ⟨w8, w9⟩ := andB w8
          obtain ⟨w9, w10⟩ := andB w9
          obtain ⟨l1, k1⟩ := lk (of_decide_eq_true w1)
          obtain ⟨l2, k2⟩ := lk (of_decide_eq_true w2)
          obtain ⟨l3, k3⟩ := lk (of_decide_eq_true w3)
          rw [List.all_cons, List.all_cons, List.all_cons, Bool.and_eq_true, Bool.and_eq_true, Bool.and_eq_true] at h4
          exact s_par3 y.x.calm y.x.ndN ok.1.ix ok.2.1.ix ok.2.2.1.ix (of_decide_eq_true w6) (of_decide_eq_true w7) (of_decide_eq_true w8) l1 l2 l3
            (sw_three y.bk k1 k2 k3 (of_decide_eq_true w4) (of_decide_eq_true w5) (of_decide_eq_true w6) (of_decide_eq_true w7) (of_decide_eq_true w8) h4.1 h4.2.1 h4.2.2.1 (notB w9) (notB w10)) pa
  | .setIx o i e, st, y, h => by
    cases st <;> first | (exact nomatch (show false = true from h)) | skip
    rename_i ts x p
    match ts, h with
    | [], h => exact nomatch (show false = true from h)
    | _ :: _ :: _, h => exact (by rename_i a b c; cases a <;> exact nomatch (show false = true from h))
    | [t], h =>
      cases t <;> first | (exact nomatch (show false = true from h)) | skip
      rename_i eo ei q
      obtain ⟨h1, h2⟩ := andB (show (noSlice ei && (chkE P sc N o eo && (chkE P sc N i ei && chkE P sc N e x))) = true from h)
      obtain ⟨h2, h3⟩ := andB h2
      obtain ⟨h3, h4⟩ := andB h3
      refine s_setIx (soundE o y.x h2).pe (soundE i y.x h3).pe (soundE e y.x h4).pe ?_ h1
      rcases chk_comp h4 with hn | ⟨_, _, _, _, rfl⟩
      · cases x <;> first | rfl | exact nomatch (show false = true from hn)
      · rfl
  | .aug i op e, st, y, h => by
    cases st <;> first | (exact nomatch (show false = true from h)) | skip
    rename_i t o x p
    cases t <;> first | (exact nomatch (show false = true from h)) | skip
    rename_i z q
    obtain ⟨h1, h2⟩ := andB (show (decide (op = o) && (decide (N[i]? = some z) && (locB sc z && chkE P sc N e x))) = true from h)
    obtain ⟨h2, h3⟩ := andB h2
    obtain ⟨h3, h4⟩ := andB h3
    cases (of_decide_eq_true h1 : op = o)
    exact s_aug y.x.ndN (y.nm (of_decide_eq_true h2) h3) (soundE e y.x h4).pe
  | .cond c a b, st, y, h => by
    cases st <;> first | (exact nomatch (show false = true from h)) | skip
    rename_i t x z p
    obtain ⟨h1, h2⟩ := andB (show (chkE P sc N c t && (chkSs P sc N a x && chkSs P sc N b z)) = true from h)
    obtain ⟨h2, h3⟩ := andB h2
    exact s_if (soundE c y.x h1).pt (soundSs a y h2) (soundSs b y h3)
  | .for_ tg it b, st, y, h => by
    cases st <;> first | (exact nomatch (show false = true from h)) | skip
    rename_i t iter x els p
    cases els <;> first | (exact nomatch (show false = true from h)) | skip
    obtain ⟨h1, h2⟩ := andB (show (noSet iter && (tgB sc N tg t && (chkI P sc N it t iter && chkSs P sc N b x))) = true from h)
    obtain ⟨h2, h3⟩ := andB h2
    obtain ⟨h3, h4⟩ := andB h3
    exact s_for y.po y.x.calm (soundI it y.x h3) (tg_ok y.x.hK y.x.calm y.x.ndN y.x.hN y.sto h2) (soundSs b y h4) h1
  | .while_ c b, st, y, h => by
    cases st <;> first | (exact nomatch (show false = true from h)) | skip
    rename_i t x els p
    cases els <;> first | (exact nomatch (show false = true from h)) | skip
    obtain ⟨h1, h2⟩ := andB (show (chkE P sc N c t && chkSs P sc N b x) = true from h)
    exact s_while y.po (soundE c y.x h1).pt (soundSs b y h2) fuel
  | .raise_ c e, st, y, h => by
    cases st <;> exact nomatch (show false = true from h)
theorem soundSs : ∀ (r : MP.Ss) {sts : List Stmt}, YOk P C φ sc N k E X → chkSs P sc N r sts = true → PSs X sts (tDS C E (exSs P φ r))
  | .nil, [], _, _ => s_nil
  | .nil, _ :: _, _, h => nomatch (show false = true from h)
  | .cons _ _, [], _, h => nomatch (show false = true from h)
  | .cons s r, st :: sts, y, h => by
    obtain ⟨h1, h2⟩ := andB (show (chkS P sc N s st && chkSs P sc N r sts) = true from h)
    exact s_cons (soundS s y h1) (soundSs r y h2)
end
end
end MP
set_option Elab.async false
set_option linter.all false
set_option maxRecDepth 100000
set_option maxHeartbeats 4000000
namespace MP
open PySem PySem.Spec PyProof.Rows L2
/-! ## defs, level by level -/
/-- a def as the text and the module have it -/
structure DefX (P : Prg) (K : PySem.W.Frag) (mg : Str → Option Value) (C : Cc) (fd : FD) (a : Addr) (fu : FuncData) (ps : List Str) : Prop where
  ex : ∃ (qual : Str) (params : Arguments) (body : List Stmt) (scope : Scope) (dvs : List V), FunD K fd.name qual params body scope dvs [] a fu ∧ C8.scC fd.N ps scope = true ∧ chkSs P scope fd.N fd.body body = true
  mgn : mg fd.name = some (.ref a)
  len : ps.length = fd.np
  bnd : ∀ j, j ≤ fd.dfl.length → ∃ (dvs : List V) (ds : List Value), (∀ M n H, Reps C.K M n H (fd.dfl.drop j) dvs) ∧ Vals dvs ds ∧ Binds K fu ps ds
  kwb : ∀ n ks perm, (n, ks, perm) ∈ fd.kws → ∀ (s : Shared) (us ws vs : List Value), us.length = n → ws.length = ks.length → permL perm (us ++ ws) = some vs → BindsTo s fu ⟨us, ks.zip ws⟩ (ps.zip vs)
  nam : ps = fd.N.take fd.np
  all : fd.dfl = [] → ∀ (s : Shared) (us : List Value), us.length = ps.length → BindsTo s fu ⟨us, []⟩ (ps.zip us)
def DefS (P : Prg) (K : PySem.W.Frag) (mg : Str → Option Value) (C : Cc) (fd : FD) : Prop := ∃ a fu ps, DefX P K mg C fd a fu ps
section
variable {Pg : Program} {w : World} {K : PySem.W.Frag} {mg : Str → Option Value} {base : Heap} {P : Prg} {C : Cc}
theorem start_slots {M : Nat → Addr} {n m : Nat} {H : Hp} {N : List Str} {args : List Val} {vs : List V} (r : Reps C.K M n H args vs) : SlotsR C M n H (args.map some ++ List.replicate m none) (L2.start N vs) := fun i v e => by
  by_cases hi : i < args.length
  · rw [List.getElem?_append_left (by simpa using hi), List.getElem?_map] at e
    simp only [Option.map_eq_some_iff, Option.some.injEq, exists_eq_right] at e
    obtain ⟨x, hx, rx⟩ := r.get e
    refine ⟨x, ?_, rx⟩
    unfold L2.start
    have hv : i < vs.length := by rw [← r.length]; exact hi
    rw [List.getElem?_append_left (by simpa using hv), List.getElem?_map, hx]
    rfl
  · rw [List.getElem?_append_right (by simpa using hi), List.getElem?_replicate] at e
    split at e <;> cases e
theorem body_cov {E : XK} {M : Nat → Addr} {h : AH} {H : Hp} {r : SR} {Q : VK} (S : Sim C M h H) (c : Cov (rV C) C E M h H (gcR h (bodyR r)) Q) : SCov C E M h H r { nx := fun _ H' => Q .non H', rt := Q } := by
  cases r with
  | nxt ρ h1 =>
    intro M' σ H' L S' _
    obtain ⟨M2, L2, S2, r2⟩ := gc_ok (v := .non) (x := .non) S L S' .non
    exact c M2 _ H' L2 S2 r2
  | ret v h1 =>
    intro M' x H' L S' r
    obtain ⟨M2, L2, S2, r2⟩ := gc_ok S L S' r
    exact c M2 _ H' L2 S2 r2
  | exc k v h1 =>
    intro M' x d H' L S' r hd
    obtain ⟨M2, L2, S2, r2⟩ := gc_ok S L S' r
    exact c M2 x d H' L2 S2 r2 hd
  | brk _ _ => exact c.elim
  | cnt _ _ => exact c.elim
  | bad => exact c.elim
theorem sp_len {φ : Nat → List Val → AH → Res Val} {np f : Nat} {ps : List Str} (hps : ps.length = np) : ∀ vs H Q E, spD C φ np f vs H Q E → vs.length = ps.length := fun vs H Q E ⟨M, args, h, S, r, l, _⟩ => by rw [hps, ← l, r.length]
theorem fn_succ (hK : C.K = K) (hfree : ∀ x ∈ bltns, mg x = none) (hcs : ∀ (i : Nat) (c : Str × Val), P.cs[i]? = some c → ∃ y u, mg c.1 = some u ∧ RelV y u ∧ ∀ M n H, Rep C.K M n H c.2 y)
    {k f : Nat} {fd : FD} {a : Addr} {fu : FuncData} {ps : List Str} (ih : ∀ (f : Nat) fd, P.fns[f]? = some fd → FnU Pg w K mg base C (runF P k) k f fd) (e : P.fns[f]? = some fd) (x : DefX P K mg C fd a fu ps) :
    FnOk Pg w K mg base (L2.CX Pg w) (k + 1) a fu ps (spD C (runF P (k + 1)) fd.np f) := by
  obtain ⟨qual, params, body, scope, dvs, F, hsc, hch⟩ := x.ex
  have Sc := C8.fnScope_by hsc
  refine F.ok (CX := L2.CX Pg w) Sc (sp_len x.len) fun cdv A outer s H vs Q E hr ⟨M, args, h, S, r, l, c⟩ => ⟨tDS C E (exSs P (runF P k) fd.body), soundSs (sc := scope) (N := fd.N) (k := k) fd.body ?_ hch, ?_⟩
  · refine ⟨⟨hK, rfl, Sc.nd, rfl, rfl, hr, ?_, fun f fd e => ih f fd e, hfree, hcs⟩, Sc.kind, passes_of rfl, fun _ => rfl⟩
    exact passes_call (takes_of rfl rfl rfl rfl) fun _ _ _ _ h => h
  · refine ⟨M, _, h, S, start_slots (m := fd.N.length - args.length) r, body_cov S ?_⟩
    have e1 : runF P (k + 1) f args h = gcR h (bodyR (exSs P (runF P k) fd.body (args.map some ++ List.replicate (fd.N.length - args.length) none) h)) := by
      simp only [runF, e]
      rw [if_pos l]
    rw [← e1]
    exact c
theorem level (hK : C.K = K) (hfree : ∀ x ∈ bltns, mg x = none) (hcs : ∀ (i : Nat) (c : Str × Val), P.cs[i]? = some c → ∃ y u, mg c.1 = some u ∧ RelV y u ∧ ∀ M n H, Rep C.K M n H c.2 y)
    (hd : ∀ (f : Nat) fd, P.fns[f]? = some fd → DefS P K mg C fd) : ∀ (k f : Nat) fd, P.fns[f]? = some fd → FnU Pg w K mg base C (runF P k) k f fd := by
  have kp : ∀ {fd : FD} {a : Addr} {fu : FuncData} {ps : List Str}, DefX P K mg C fd a fu ps → PySem.W.keepIn K (.ref a) = true := fun x => by
    obtain ⟨_, _, _, _, _, F, _⟩ := x.ex
    exact F.kp
  intro k
  induction k with
  | zero =>
    intro f fd e
    obtain ⟨a, fu, ps, x⟩ := hd f fd e
    exact ⟨a, fu, ps, x.mgn, kp x, x.len, ⟨sp_len x.len, fun A outer s H args us vs Q E _ _ _ _ ⟨M, as, h, S, r, l, c⟩ => c.elim⟩, x.bnd, x.kwb, x.nam, x.all⟩
  | succ k ih =>
    intro f fd e
    obtain ⟨a, fu, ps, x⟩ := hd f fd e
    exact ⟨a, fu, ps, x.mgn, kp x, x.len, fn_succ hK hfree hcs ih e x, x.bnd, x.kwb, x.nam, x.all⟩
/-- without exceptions -/
theorem fn_calm {k np f : Nat} {a : Addr} {fu : FuncData} {ps : List Str} {φ : Nat → List Val → AH → Res Val} (F : FnOk Pg w K mg base (L2.CX Pg w) k a fu ps (spD C φ np f)) : FnOk Pg w K mg base L2.CX0 k a fu ps (fun vs H Q _ => spD C φ np f vs H Q E0) := by
  refine ⟨fun vs H Q E h => F.len vs H Q E0 h, fun A outer s H args us vs Q E hr he hb hv h => codeAny_mono (F.run A outer s H args us vs Q E0 hr he hb hv h) fun r s' q => ?_⟩
  cases r with
  | ok fl => cases fl <;> exact q
  | error e =>
    obtain ⟨_, _, _, _, _, _, _, _, _, _, _, _, z⟩ := q
    exact z.elim
/-- the script -/
theorem script_in {H : Hp} {a : Addr} {ns : List Int} (hO : Only H) (hS : SqL C.K H a (ns.map V.int)) (hT : C.T = []) : Sim C (fun _ => a) [.ro (ns.map Val.int)] H := by
  have rp : ∀ (M : Nat → Addr) (n : Nat) (ns : List Int), Reps C.K M n H (ns.map Val.int) (ns.map V.int) := fun M n ns => by
    induction ns with
    | nil => exact .nil
    | cons i r ih => exact .cons (.int i) ih
  refine ⟨fun i o e => ?_, fun i j oi oj hi _ ni _ _ => ?_, ?_⟩
  · match i, e with
    | 0, e =>
      cases e
      refine ⟨ns.map V.int, ?_, rp _ _ ns⟩
      rcases hS with (h | ⟨o, h⟩) | h
      · rcases hO a with z | ⟨o, xs, z⟩ <;> rw [h] at z <;> cases z
      · exact .inl ⟨o, h⟩
      · exact .inr h
    | i + 1, e => simp at e
  · match i, hi with
    | 0, hi => cases hi; exact nomatch (show true = false from ni)
    | i + 1, hi => simp at hi
  · rw [hT]
    exact fun q hq => nomatch hq
theorem law_end {k f np : Nat} {ns : List Int} {H : Hp} {a : Addr} (hnp : np = 1) (hO : Only H) (hS : SqL C.K H a (ns.map V.int)) (hT : C.T = []) (h : ∃ h', runF P k f [.ref 0] [.ro (ns.map Val.int)] = .ok (.bl true) h') :
    spD C (runF P k) np f [.ref a] H (fun v _ => v = .bl true) E0 := by
  obtain ⟨h', e⟩ := h
  refine ⟨fun _ => a, [.ref 0], [.ro (ns.map Val.int)], script_in hO hS hT, .cons (.ref (by simp)) .nil, by rw [hnp]; rfl, ?_⟩
  rw [e]
  exact fun M' x H' L S r => i_bl r
/-- no defaults -/
theorem defs_none {fu : FuncData} {ps : List Str} (b : Binds K fu ps []) {fd : FD} (hd : fd.dfl = [] := by rfl) : ∀ j, j ≤ fd.dfl.length → ∃ (dvs : List V) (ds : List Value), (∀ M n H, Reps C.K M n H (fd.dfl.drop j) dvs) ∧ Vals dvs ds ∧ Binds K fu ps ds := fun j _ =>
  ⟨[], [], fun _ _ _ => by rw [hd, List.drop_nil]; exact .nil, .nil, b⟩
/-- keywords, no defaults -/
theorem kw_of {x qual : Str} {params : Arguments} {body : List Stmt} {scope : Scope} {a : Addr} {fu : FuncData} {ps ks : List Str} {n : Nat} {perm : List Nat} (F : FunD K x qual params body scope [] [] a fu)
    (h : ∀ (kV doc pm : Value) (an : Option Addr) (cdv ct : Value) (us ws : List Value), us.length = n → ws.length = ks.length → ∃ vs, permL perm (us ++ ws) = some vs ∧ bindArgs (PySem.W.fnOf x qual params body scope .none kV doc pm an cdv ct) ⟨us, ks.zip ws⟩ = pure (ps.zip vs)) :
    ∀ (s : Shared) (us ws vs : List Value), us.length = n → ws.length = ks.length → permL perm (us ++ ws) = some vs → BindsTo s fu ⟨us, ks.zip ws⟩ (ps.zip vs) := fun s us ws vs h1 h2 h3 => by
  obtain ⟨oc, od, dV, kV, doc, pm, an, cdv, ct, osl, rfl, lk, hcd, hD, hK⟩ := F.ex
  rcases hD with ⟨_, rfl⟩ | ⟨e, _⟩
  · obtain ⟨vs', e1, e2⟩ := h kV doc pm an cdv ct us ws h1 h2
    rw [h3] at e1
    cases e1
    exact .of_eq e2
  · exact absurd rfl e
/-- what the end asks of the law's def, over all bases -/
theorem law_all {l : Program} {h : Heap} {fa : Addr} {k f : Nat} {fd : FD} (hK : C.K = K) (hT : C.T = []) (e : P.fns[f]? = some fd) (hn : fd.name = ("law" : Str)) (hp : fd.np = 1) (hN : fd.N.take fd.np = [("script" : Str)]) (hdf : fd.dfl = []) (KX : K.In h) (hmg : mg ("law" : Str) = some (.ref fa))
    (hfree : ∀ x ∈ bltns, mg x = none) (hcs : ∀ (i : Nat) (c : Str × Val), P.cs[i]? = some c → ∃ y u, mg c.1 = some u ∧ RelV y u ∧ ∀ M n H, Rep C.K M n H c.2 y) (hd : ∀ (f : Nat) fd, P.fns[f]? = some fd → DefS P K mg C fd)
    (plain : ∀ ns : List Int, ns.length ≤ 63 → ∃ h', runF P (k + 1) f [.ref 0] [.ro (ns.map Val.int)] = .ok (.bl true) h') :
    ∃ (K : PySem.W.Frag) (fd : FuncData) (sp : Sp), K.In h ∧ (∀ (s : Shared) (u : Value), BindsTo s fd ⟨[u], []⟩ [(("script" : Str), u)]) ∧
      (∀ (H : Hp) (a : Addr) (ns : List Int), ns.length ≤ 63 → Only H → SqL K H a (ns.map V.int) → sp [.ref a] H (fun v _ => v = .bl true) fun _ _ _ => False) ∧
      ∀ base : Heap, K.In base → base.Ns mainGlobals mg → FnOk l w K mg base L2.CX0 (k + 1) fa fd [("script" : Str)] sp := by
  obtain ⟨a, fu, ps, x⟩ := hd f fd e
  have ea : a = fa := by
    have q := x.mgn
    rw [hn, hmg] at q
    cases q
    rfl
  have eps : ps = [("script" : Str)] := x.nam.trans hN
  subst ea eps
  refine ⟨K, fu, fun vs H Q _ => spD C (runF P (k + 1)) fd.np f vs H Q E0, KX, fun s u => x.all hdf s [u] rfl, fun H a ns hl hO hS => law_end hp hO (hK ▸ hS) hT (plain ns hl), fun base _ _ => fn_calm (fn_succ hK hfree hcs (level hK hfree hcs hd k) e x)⟩
end
end MP
set_option Elab.async false
set_option linter.all false
set_option maxRecDepth 100000
set_option maxHeartbeats 1000000
namespace MP
open PySem
/-! # Plain laws of the evaluator -/
theorem ok_bind {α β : Type} {v : α} {h : AH} {f : α → AH → Res β} : (Res.ok v h).bind f = f v h := rfl
theorem ok_stm {α : Type} {v : α} {h : AH} {f : α → AH → SR} : (Res.ok v h).stm f = f v h := rfl
/-! ## garbage -/
theorem keptB_self (n : Nat) : ∀ (a u : AH), keptB n a (a ++ u) = true
  | [], _ => rfl
  | o :: a, u => by
    show ((decide (o = o) || o.fit n) && keptB n a (a ++ u)) = true
    rw [keptB_self n a u, decide_eq_true rfl]
    rfl
theorem gc_fit {h h1 : AH} {v : Val} (k : keptB h.length h h1 = true) (f : v.fit h.length = true) : gc h v h1 = (v, h1.take h.length) := by
  unfold gc
  rw [if_pos k, if_pos f]
theorem gc_add {h u : AH} {v : Val} (f : v.fit h.length = true) : gc h v (h ++ u) = (v, h) := by
  rw [gc_fit (keptB_self _ _ _) f, List.take_left]
theorem gc_same {h : AH} {v : Val} : gc h v h = (v, h) := by
  have k : keptB h.length h h = true := by have := keptB_self h.length h []; rwa [List.append_nil] at this
  unfold gc
  rw [if_pos k]
  split
  · rw [List.take_length]
  · rename_i hv
    cases v with
    | ref m =>
      simp only [Val.fit, decide_eq_true_eq] at hv
      simp only [List.getElem?_eq_none (Nat.le_of_not_lt hv)]
    | _ => rfl
theorem gcR_same {h : AH} {v : Val} : gcR h (.ok v h) = .ok v h := by
  show Res.ok (gc h v h).1 (gc h v h).2 = _
  rw [gc_same]
theorem gcR_add {h u : AH} {v : Val} (f : v.fit h.length = true) : gcR h (.ok v (h ++ u)) = .ok v h := by
  show Res.ok (gc h v (h ++ u)).1 (gc h v (h ++ u)).2 = _
  rw [gc_add f]
theorem gcT_same {h : AH} {b : Bool} : gcT h (.ok b h) = .ok b h := by
  show Res.ok b (gc h (.bl b) h).2 = _
  rw [gc_same]
theorem gcT_add {h u : AH} {b : Bool} : gcT h (.ok b (h ++ u)) = .ok b h := by
  show Res.ok b (gc h (.bl b) (h ++ u)).2 = _
  rw [gc_add rfl]
/-- a new flat object behind others -/
theorem gcR_obj {h u : AH} {m : Nat} {o : AObj} (hm : h.length ≤ m) (e : (h ++ u)[m]? = some o) (f : o.fit h.length = true) : gcR h (.ok (.ref m) (h ++ u)) = .ok (.ref h.length) (h ++ [o]) := by
  show Res.ok (gc h (.ref m) (h ++ u)).1 (gc h (.ref m) (h ++ u)).2 = _
  unfold gc
  rw [if_pos (keptB_self _ _ _), if_neg (by simp [Val.fit]; omega)]
  simp only [e, if_pos f, List.take_left]
/-- an object that leads on: all stays -/
theorem gc_keep {h h1 : AH} {m : Nat} {o : AObj} (hv : h.length ≤ m) (e : h1[m]? = some o) (f : o.fit h.length = false) : gc h (.ref m) h1 = (.ref m, h1) := by
  unfold gc
  split
  · rw [if_neg (by simp [Val.fit]; omega)]
    simp only [e, f]
    rfl
  · rfl
theorem gcR_keep {h h1 : AH} {m : Nat} {o : AObj} (hv : h.length ≤ m) (e : h1[m]? = some o) (f : o.fit h.length = false) : gcR h (.ok (.ref m) h1) = .ok (.ref m) h1 := by
  show Res.ok (gc h (.ref m) h1).1 (gc h (.ref m) h1).2 = _
  rw [gc_keep hv e f]
/-! ## ints -/
theorem fits_ints (n : Nat) : ∀ xs : List Int, Val.fits n (xs.map .int) = true
  | [] => rfl
  | x :: xs => by simp only [List.map_cons, Val.fits, Val.fit, fits_ints n xs, Bool.and_self]
theorem toP_int {h : AH} {d : Nat} {i : Int} : toP h (d + 1) (.int i) = some (.int i) := rfl
theorem toP_str {h : AH} {d : Nat} {x : Str} : toP h (d + 1) (.str x) = some (.str x) := rfl
theorem toP_bl {h : AH} {d : Nat} {x : Bool} : toP h (d + 1) (.bl x) = some (.bool x) := rfl
theorem toP_non {h : AH} {d : Nat} : toP h (d + 1) .non = some .none := rfl
theorem toP_tup {h : AH} {d : Nat} {xs : List Val} : toP h (d + 1) (.tup xs) = (xs.mapM (toP h d)).map .tuple := rfl
theorem toP_lst {h : AH} {d n : Nat} {xs : List Val} (e : h[n]? = some (.lst xs)) : toP h (d + 1) (.ref n) = (xs.mapM (toP h d)).map .list := by
  simp only [toP, e]
theorem toP_ints (h : AH) (d : Nat) : ∀ xs : List Int, (xs.map Val.int).mapM (toP h (d + 1)) = some (xs.map PyData.int)
  | [] => rfl
  | x :: xs => by
    rw [List.map_cons, List.mapM_cons, toP_ints h d xs, toP_int]
    rfl
theorem lay_ints : ∀ xs : List Int, PyData.canLayAll0 (xs.map PyData.int) = true
  | [] => rfl
  | x :: xs => by simp only [List.map_cons, PyData.canLayAll0, PyData.canLay0, lay_ints xs, Bool.and_self]
theorem eqv_nil {xs : List PyData} : PyData.eqvAll xs [] = xs.isEmpty := by cases xs <;> rfl
theorem eqV_of {h : AH} {x y : Val} {d e : PyData} (h1 : toP h 60 x = some d) (h2 : toP h 60 y = some e) (c1 : d.canLay0 = true) (c2 : e.canLay0 = true) : eqV h x y = some (PyData.eqv d e) := by
  unfold eqV
  rw [h1, h2]
  exact if_pos ⟨c1, c2⟩
theorem eqV_int {h : AH} {i j : Int} : eqV h (.int i) (.int j) = some (i == j) := eqV_of (toP_int (d := 59)) (toP_int (d := 59)) rfl rfl
theorem eqV_ints_nil {h : AH} {a b : Nat} {xs : List Int} (e : h[a]? = some (.lst (xs.map .int))) (e2 : h[b]? = some (.lst [])) : eqV h (.ref a) (.ref b) = some xs.isEmpty := by
  have q1 : toP h 60 (.ref a) = some (.list (xs.map .int)) := by
    rw [toP_lst (d := 59) e, toP_ints h 58]
    rfl
  have q2 : toP h 60 (.ref b) = some (.list []) := toP_lst (d := 59) e2
  rw [eqV_of q1 q2 (lay_ints xs) rfl]
  show some (PyData.eqvAll _ _) = _
  rw [eqv_nil]
  cases xs <;> rfl
/-! ## the heap of a law: four lists left over, the numbers, the pair -/
def hp (o0 o1 o2 o3 : AObj) (xs : List Int) (s : Int) (t : AH) : AH := o0 :: o1 :: o2 :: o3 :: .lst (xs.map .int) :: .lst [.ref 4, .int s] :: t
section
variable {o0 o1 o2 o3 : AObj} {xs ys : List Int} {s s' : Int} {t u : AH}
theorem hp_len : (hp o0 o1 o2 o3 xs s t).length = t.length + 6 := rfl
theorem hp_4 : (hp o0 o1 o2 o3 xs s t)[4]? = some (.lst (xs.map .int)) := rfl
theorem hp_5 : (hp o0 o1 o2 o3 xs s t)[5]? = some (.lst [.ref 4, .int s]) := rfl
theorem hp_n {n : Nat} : (hp o0 o1 o2 o3 xs s t)[n + 6]? = t[n]? := rfl
theorem hp_s4 : (hp o0 o1 o2 o3 xs s t).set 4 (.lst (ys.map .int)) = hp o0 o1 o2 o3 ys s t := rfl
theorem hp_s5 : (hp o0 o1 o2 o3 xs s t).set 5 (.lst [.ref 4, .int s']) = hp o0 o1 o2 o3 xs s' t := rfl
theorem hp_sn {n : Nat} {o : AObj} : (hp o0 o1 o2 o3 xs s t).set (n + 6) o = hp o0 o1 o2 o3 xs s (t.set n o) := rfl
theorem hp_app : hp o0 o1 o2 o3 xs s t ++ u = hp o0 o1 o2 o3 xs s (t ++ u) := rfl
theorem hp_kept : keptB (t.length + 6) (hp o0 o1 o2 o3 xs s t) (hp o0 o1 o2 o3 ys s' (t ++ u)) = true := by
  simp [hp, keptB, AObj.fit, Val.fits, Val.fit, fits_ints, keptB_self]
theorem hp_gc {v : Val} (f : v.fit (t.length + 6) = true) : gcR (hp o0 o1 o2 o3 xs s t) (.ok v (hp o0 o1 o2 o3 ys s' (t ++ u))) = .ok v (hp o0 o1 o2 o3 ys s' t) := by
  show Res.ok (gc _ v _).1 (gc _ v _).2 = _
  rw [gc_fit (h := hp o0 o1 o2 o3 xs s t) hp_kept f]
  have e : (hp o0 o1 o2 o3 ys s' (t ++ u)).take (hp o0 o1 o2 o3 xs s t).length = hp o0 o1 o2 o3 ys s' t := by
    show ((hp o0 o1 o2 o3 ys s' t) ++ u).take (hp o0 o1 o2 o3 ys s' t).length = _
    exact List.take_left
  rw [e]
theorem hp_gc0 {v : Val} (f : v.fit (t.length + 6) = true) : gcR (hp o0 o1 o2 o3 xs s t) (.ok v (hp o0 o1 o2 o3 ys s' t)) = .ok v (hp o0 o1 o2 o3 ys s' t) := by
  have := hp_gc (o0 := o0) (o1 := o1) (o2 := o2) (o3 := o3) (xs := xs) (ys := ys) (s := s) (s' := s') (t := t) (u := []) f
  rwa [List.append_nil] at this
end
structure HNum (xs : List Int) (s : Int) : Prop where
  nn : ∀ x ∈ xs, 0 ≤ x
  ln : xs.length ≤ 63
  s0 : 0 ≤ s
end MP
set_option Elab.async false
set_option linter.all false
set_option maxRecDepth 100000
set_option maxHeartbeats 1000000
namespace MP
open PySem
/-! ## drawing -/
def eHeap0 : E := .ix (.var 0) (.cst (.int 0))
def eSome : E := .cmp .NotEq eHeap0 (.lst .nil)
def eLast0 : E := .cmp .Eq (.ix eHeap0 (.neg (.cst (.int 1)))) (.cst (.int 0))
def ePop : E := .mt .pop eHeap0 .nil
def sPop : S := .expr ePop
def sRest : S := .set 2 ePop
def sBack : S := .expr (.mt .append eHeap0 (.cons (.bin .FloorDiv (.var 2) (.var 1)) .nil))
def sGive : S := .ret (.bin .Mod (.bt .int (.cons (.var 2) .nil)) (.var 1))
def sStir : S := .setIx (.var 0) (.cst (.int 1)) (.bin .Mod (.bt .int (.cons (.bin .Add (.bin .Mult (.ix (.var 0) (.cst (.int 1))) (.cst (.int 48271))) (.cst (.int 17))) .nil)) (.cst (.int 2147483647)))
def sGive2 : S := .ret (.bin .Mod (.bt .int (.cons (.bin .FloorDiv (.ix (.var 0) (.cst (.int 1))) (.cst (.int 32))) .nil)) (.var 1))
def sTrim : S := .while_ (.and eSome eLast0) (.cons sPop .nil)
def fdDraw : FD := { name := "_law_draw", np := 2, dfl := [], kws := [], N := ["heap", "many", "rest"], body :=
  (.cons sTrim (.cons (.cond eSome (.cons sRest (.cons sBack (.cons sGive .nil))) .nil) (.cons sStir (.cons sGive2 .nil)))) }
section
variable {P : Prg} {φ : Nat → List Val → AH → Res Val} {o0 o1 o2 o3 : AObj} {xs ys : List Int} {s s' : Int} {t u : AH} {ρ : Slots}
theorem ev_heap0 (h0 : ρ[0]? = some (some (.ref 5))) : evE P φ eHeap0 ρ (hp o0 o1 o2 o3 xs s t) = .ok (.ref 4) (hp o0 o1 o2 o3 xs s t) := by
  simp [eHeap0, evE, h0, Res.bind, liftO, ixV, seqOf, hp_5, L2.atI, L2.ixN]
theorem atI_neg1 {α : Type} (l : List α) : L2.atI l (-1) = l.getLast? := by
  cases l with
  | nil => rfl
  | cons x r =>
    have : L2.ixN (x :: r).length (-1) = some r.length := by
      simp [L2.ixN]
      omega
    simp only [L2.atI, this, Option.bind_some]
    rw [List.getLast?_eq_getElem?]
    simp
/-- the two tests -/
theorem ev_some (h0 : ρ[0]? = some (some (.ref 5))) : evE P φ eSome ρ (hp o0 o1 o2 o3 xs s t) = .ok (.bl (!xs.isEmpty)) (hp o0 o1 o2 o3 xs s (t ++ [.lst []])) := by
  have q : eqV (hp o0 o1 o2 o3 xs s (t ++ [.lst []])) (.ref 4) (.ref (t.length + 6)) = some xs.isEmpty := eqV_ints_nil hp_4 (by rw [hp_n]; simp)
  simp only [eSome, evE, ev_heap0 h0, ok_bind]
  simp only [evEs, ok_bind, newL, List.length_nil, Nat.zero_le, if_true, lift, hp_app, hp_len, cmpV, q]
  rfl
theorem ev_last0 (h0 : ρ[0]? = some (some (.ref 5))) : evE P φ eLast0 ρ (hp o0 o1 o2 o3 xs s t) = liftO (hp o0 o1 o2 o3 xs s t) ((xs.getLast?).map fun x => .bl (x == 0)) := by
  simp only [eLast0, evE, ev_heap0 h0, ok_bind, ixV, seqOf, hp_4, Option.bind_some]
  rw [show (-(1 : Int)) = -1 from rfl, atI_neg1, List.getLast?_map]
  cases hl : xs.getLast? with
  | none => rfl
  | some x => simp only [Option.map_some, liftO, ok_bind, cmpV, eqV_int]
theorem ev_someT (h0 : ρ[0]? = some (some (.ref 5))) : evT P φ eSome ρ (hp o0 o1 o2 o3 xs s t) = .ok (!xs.isEmpty) (hp o0 o1 o2 o3 xs s t) := by
  unfold evT
  rw [ev_some h0, ok_bind]
  simp only [truth, liftO]
  rw [← hp_app, gcT_add]
/-- the loop's test -/
theorem ev_drawT (h0 : ρ[0]? = some (some (.ref 5))) : evT P φ (.and eSome eLast0) ρ (hp o0 o1 o2 o3 xs s t) = .ok (xs.getLast? == some 0) (hp o0 o1 o2 o3 xs s t) := by
  unfold evT
  simp only [evE]
  rw [ev_some h0]
  simp only [ok_bind, truth]
  cases hl : xs.getLast? with
  | none =>
    have : xs = [] := by simpa using hl
    subst this
    simp only [List.isEmpty_nil, Bool.not_true, ok_bind, truth, liftO]
    rw [← hp_app, gcT_add]
    rfl
  | some y =>
    have hne : xs.isEmpty = false := by cases xs <;> first | rfl | simp at hl
    simp only [hne, Bool.not_false]
    rw [ev_last0 h0, hl]
    simp only [liftO, Option.map_some, ok_bind, truth]
    rw [← hp_app, gcT_add]
    simp
/-- pop -/
theorem ev_pop (h0 : ρ[0]? = some (some (.ref 5))) {y : Int} (hl : xs.getLast? = some y) : evE P φ ePop ρ (hp o0 o1 o2 o3 xs s t) = .ok (.int y) (hp o0 o1 o2 o3 xs.dropLast s t) := by
  have e : (xs.map Val.int)[(xs.map Val.int).length - 1]? = some (.int y) := by
    rw [List.getLast?_eq_getElem?] at hl
    rw [List.getElem?_map, List.length_map, hl]
    rfl
  simp only [ePop, evE, ev_heap0 h0, ok_bind, tyOf, hp_4, Mt.ty, if_true, evEs, mtV, e, Option.map_some, lift]
  rw [← List.map_dropLast, hp_s4]
theorem ex_pop (h0 : ρ[0]? = some (some (.ref 5))) {y : Int} (hl : xs.getLast? = some y) : exS P φ sPop ρ (hp o0 o1 o2 o3 xs s t) = .nxt ρ (hp o0 o1 o2 o3 xs.dropLast s t) := by
  simp only [sPop, exS]
  rw [ev_pop h0 hl, hp_gc0 (by rfl), ok_stm]
theorem ex_rest (h0 : ρ[0]? = some (some (.ref 5))) {y : Int} (hl : xs.getLast? = some y) : exS P φ sRest ρ (hp o0 o1 o2 o3 xs s t) = .nxt (ρ.set 2 (some (.int y))) (hp o0 o1 o2 o3 xs.dropLast s t) := by
  simp only [sRest, exS]
  rw [ev_pop h0 hl, hp_gc0 (by rfl), ok_stm]
/-- trailing zeros dropped -/
theorem draw_loop (h0 : ρ[0]? = some (some (.ref 5))) : ∀ (n : Nat) (xs : List Int), xs.length < n → ∃ ys, wloop (fun ρ h => evT P φ (.and eSome eLast0) ρ h) (fun ρ h => exSs P φ (.cons sPop .nil) ρ h) n ρ (hp o0 o1 o2 o3 xs s t) = .nxt ρ (hp o0 o1 o2 o3 ys s t) ∧ ys.length ≤ xs.length ∧ ∀ x ∈ ys, x ∈ xs
  | 0, xs, h => absurd h (Nat.not_lt_zero _)
  | n + 1, xs, h => by
    simp only [wloop]
    rw [ev_drawT h0, ok_stm]
    cases hl : xs.getLast? with
    | none => exact ⟨xs, by simp, Nat.le_refl _, fun _ h => h⟩
    | some y =>
      by_cases hy : y = 0
      · subst hy
        have hne : xs.length ≠ 0 := by cases xs <;> simp at hl ⊢
        obtain ⟨ys, h1, h2, h3⟩ := draw_loop h0 n xs.dropLast (by rw [List.length_dropLast]; omega)
        refine ⟨ys, ?_, by rw [List.length_dropLast] at h2; omega, fun x hx => List.dropLast_subset _ (h3 x hx)⟩
        simp only [exSs, ex_pop h0 hl]
        exact h1
      · have hb : ((some y : Option Int) == some 0) = false := by simpa using hy
        rw [if_neg (by rw [hb]; exact Bool.false_ne_true)]
        exact ⟨xs, rfl, Nat.le_refl _, fun _ h => h⟩
theorem last_nn {xs : List Int} {y : Int} (h : ∀ x ∈ xs, 0 ≤ x) (hl : xs.getLast? = some y) : 0 ≤ y := h y (List.mem_of_getLast? hl)
theorem ex_back {y m : Int} (h0 : ρ[0]? = some (some (.ref 5))) (h1 : ρ[1]? = some (some (.int m))) (h2 : ρ[2]? = some (some (.int y))) (hm : 0 < m) (hb : m.natAbs.log2 < 9000) (hz : xs.length ≤ 63) :
    exS P φ sBack ρ (hp o0 o1 o2 o3 xs s t) = .nxt ρ (hp o0 o1 o2 o3 (xs ++ [y / m]) s t) := by
  have e : evE P φ (.mt .append eHeap0 (.cons (.bin .FloorDiv (.var 2) (.var 1)) .nil)) ρ (hp o0 o1 o2 o3 xs s t) = .ok .non (hp o0 o1 o2 o3 (xs ++ [y / m]) s t) := by
    have hz' : (xs.map Val.int).length < sizeLine := by rw [List.length_map, PySem.sizeLine_eq]; omega
    simp only [evE, ev_heap0 h0, ok_bind, tyOf, hp_4, Mt.ty, if_true, evEs, h1, h2, binV, fdivI, hm, hb, and_self, Option.map_some, lift, mtV, hz']
    rw [show (xs.map Val.int ++ [Val.int (y / m)]) = (xs ++ [y / m]).map Val.int by simp, hp_s4]
  simp only [sBack, exS]
  rw [e, hp_gc0 (by rfl), ok_stm]
theorem ex_give {y m : Int} (h1 : ρ[1]? = some (some (.int m))) (h2 : ρ[2]? = some (some (.int y))) (hm : 0 < m) {h : AH} : exS P φ sGive ρ h = .ret (.int (y % m)) h := by
  simp only [sGive, exS, evE, evEs, h1, h2, ok_bind, btV, lift, binV, modI, hm, if_true, Option.map_some, ok_stm]
theorem mul_small {i j : Int} (h : j.natAbs < 2 ^ 64) : IntMulOk i j := IntMulOk.of_right (by
  have b : Builtin.Int.intBits j ≤ j.natAbs.log2 + 1 := by
    unfold Builtin.Int.intBits
    split <;> omega
  by_cases hj : j.natAbs = 0
  · rw [hj] at b
    have : Nat.log2 0 = 0 := by decide
    omega
  · have := (Nat.log2_lt hj).mpr h
    omega)
theorem ex_stir (h0 : ρ[0]? = some (some (.ref 5))) : exS P φ sStir ρ (hp o0 o1 o2 o3 xs s t) = .nxt ρ (hp o0 o1 o2 o3 xs ((s * 48271 + 17) % 2147483647) t) := by
  have hm : IntMulOk s 48271 := mul_small (by decide)
  have i1 : L2.atI [Val.ref 4, Val.int s] 1 = some (.int s) := rfl
  have i2 : L2.ixN [Val.ref 4, Val.int s].length 1 = some 1 := rfl
  simp only [sStir, exS, evE, evEs, h0, ok_bind, ixV, seqOf, hp_5, Option.bind_some, i1, liftO, binV, mulI, hm, if_true, Option.map_some, lift, btV, modI, setV, i2, ok_stm]
  simp only [show (0 : Int) < 2147483647 by decide, if_true, Option.map_some, ok_bind, setV, hp_5, i2, ok_stm]
  rfl
theorem ex_give2 {m : Int} (h0 : ρ[0]? = some (some (.ref 5))) (h1 : ρ[1]? = some (some (.int m))) (hm : 0 < m) : exS P φ sGive2 ρ (hp o0 o1 o2 o3 xs s t) = .ret (.int (s / 32 % m)) (hp o0 o1 o2 o3 xs s t) := by
  have i1 : L2.atI [Val.ref 4, Val.int s] 1 = some (.int s) := rfl
  have hd : (0 : Int) < 32 ∧ (32 : Int).natAbs.log2 < 9000 := by decide +kernel
  simp only [sGive2, exS, evE, evEs, h0, h1, ok_bind, ixV, seqOf, hp_5, Option.bind_some, i1, liftO, binV, fdivI, hd, and_self, if_true, Option.map_some, lift, btV, modI, hm, ok_stm]
/-- a number from 0 to many - 1 -/
theorem draw_ok {i k : Nat} {m : Int} (e : P.fns[i]? = some fdDraw) (hm : 0 < m) (hb : m.natAbs.log2 < 9000) (H : HNum xs s) :
    ∃ v ys s', HNum ys s' ∧ 0 ≤ v ∧ v < m ∧ runF P (k + 1) i [.ref 5, .int m] (hp o0 o1 o2 o3 xs s t) = .ok (.int v) (hp o0 o1 o2 o3 ys s' t) := by
  have run : ∀ r, exSs P (runF P k) fdDraw.body [some (.ref 5), some (.int m), none] (hp o0 o1 o2 o3 xs s t) = r → runF P (k + 1) i [.ref 5, .int m] (hp o0 o1 o2 o3 xs s t) = gcR (hp o0 o1 o2 o3 xs s t) (bodyR r) := fun r hr => by
    simp only [runF, e]
    rw [← hr]
    rfl
  obtain ⟨ys, h1, h2, h3⟩ := draw_loop (P := P) (φ := runF P k) (o0 := o0) (o1 := o1) (o2 := o2) (o3 := o3) (s := s) (t := t) (ρ := [some (.ref 5), some (.int m), none]) rfl fuel xs (by have := H.ln; unfold fuel; omega)
  replace h1 : exS P (runF P k) sTrim [some (.ref 5), some (.int m), none] (hp o0 o1 o2 o3 xs s t) = _ := h1
  have nn : ∀ x ∈ ys, 0 ≤ x := fun x hx => H.nn x (h3 x hx)
  have ln := H.ln
  cases hl : ys.getLast? with
  | none =>
    refine ⟨((s * 48271 + 17) % 2147483647) / 32 % m, ys, (s * 48271 + 17) % 2147483647, ⟨nn, by omega, ?_⟩, ?_, ?_, ?_⟩
    rotate_left 3
    · rw [run _ rfl]
      simp only [fdDraw, exSs]
      rw [h1]
      simp only [exS]
      rw [ev_someT rfl, ok_stm]
      have hy : ys = [] := by simpa using hl
      subst hy
      simp only [List.isEmpty_nil, Bool.not_true, Bool.false_eq_true, if_false, exSs]
      rw [ex_stir rfl]
      simp only
      rw [ex_give2 rfl rfl hm]
      simp only [bodyR]
      exact hp_gc0 rfl
    · exact Int.emod_nonneg _ (by decide)
    · exact Int.emod_nonneg _ (by omega)
    · exact Int.emod_lt_of_pos _ hm
  | some y =>
    have hy0 := last_nn nn hl
    have hne : ys.isEmpty = false := by cases ys <;> first | rfl | simp at hl
    have hlen : ys.length ≠ 0 := by cases ys <;> simp at hl ⊢
    refine ⟨y % m, ys.dropLast ++ [y / m], s, ⟨fun x hx => ?_, by simp; omega, H.s0⟩, Int.emod_nonneg _ (by omega), Int.emod_lt_of_pos _ hm, ?_⟩
    · rcases List.mem_append.mp hx with hx | hx
      · exact nn x (List.dropLast_subset _ hx)
      · rw [List.mem_singleton.mp hx]
        exact Int.ediv_nonneg hy0 (by omega)
    · rw [run _ rfl]
      simp only [fdDraw, exSs]
      rw [h1]
      simp only [exS]
      rw [ev_someT rfl, ok_stm]
      simp only [hne, Bool.not_false, if_true, exSs]
      rw [ex_rest rfl hl]
      simp only
      rw [ex_back (m := m) (y := y) rfl rfl rfl hm hb (by rw [List.length_dropLast]; omega)]
      simp only
      rw [ex_give (m := m) (y := y) rfl rfl hm]
      simp only [bodyR]
      exact hp_gc0 rfl
end
end MP
set_option Elab.async false
set_option linter.all false
set_option maxRecDepth 100000
set_option maxHeartbeats 1000000
namespace MP
open PySem
/-! ## walks over items that stay -/
theorem loop_inv {s : Src} {step : Val → Slots → AH → SR} {vs : List Val} (I : Nat → Slots → AH → Prop) (hl : s.len = vs.length) (hget : ∀ i ρ h v, I i ρ h → vs[i]? = some v → s.get h i = some v) (hfin : ∀ ρ h, I vs.length ρ h → s.fin h = true)
    (hstep : ∀ i v ρ h, vs[i]? = some v → I i ρ h → ∃ ρ' h', (step v ρ h = .nxt ρ' h' ∨ step v ρ h = .cnt ρ' h') ∧ I (i + 1) ρ' h') {ρ : Slots} {h : AH} (h0 : I 0 ρ h) : ∃ ρ' h', loop s step s.len 0 ρ h = .nxt ρ' h' ∧ I vs.length ρ' h' := by
  have key : ∀ (n i : Nat) (ρ : Slots) (h : AH), n + i = vs.length → I i ρ h → ∃ ρ' h', loop s step n i ρ h = .nxt ρ' h' ∧ I vs.length ρ' h' := by
    intro n
    induction n with
    | zero =>
      intro i ρ h e q
      have : i = vs.length := by omega
      subst this
      refine ⟨ρ, h, ?_, q⟩
      simp only [loop]
      rw [if_pos (hfin ρ h q)]
    | succ n ih =>
      intro i ρ h e q
      have hi : i < vs.length := by omega
      obtain ⟨ρ', h', hs, q'⟩ := hstep i vs[i] ρ h (List.getElem?_eq_getElem hi) q
      obtain ⟨ρ2, h2, e2, q2⟩ := ih (i + 1) ρ' h' (by omega) q'
      refine ⟨ρ2, h2, ?_, q2⟩
      simp only [loop, hget i ρ h _ q (List.getElem?_eq_getElem hi)]
      rcases hs with hs | hs <;> rw [hs] <;> exact e2
  rw [hl]
  exact key vs.length 0 ρ h (by omega) h0
/-- .. that may give a result midway -/
theorem loop_or {s : Src} {step : Val → Slots → AH → SR} {vs : List Val} (I : Nat → Slots → AH → Prop) (R : SR → Prop) (hl : s.len = vs.length) (hget : ∀ i ρ h v, I i ρ h → vs[i]? = some v → s.get h i = some v) (hfin : ∀ ρ h, I vs.length ρ h → s.fin h = true)
    (hstep : ∀ i v ρ h, vs[i]? = some v → I i ρ h → (∃ ρ' h', (step v ρ h = .nxt ρ' h' ∨ step v ρ h = .cnt ρ' h') ∧ I (i + 1) ρ' h') ∨ ((∃ w h', step v ρ h = .ret w h') ∧ R (step v ρ h)) ∨ ∃ ρ' h', step v ρ h = .brk ρ' h' ∧ R (.nxt ρ' h')) {ρ : Slots} {h : AH} (h0 : I 0 ρ h) :
    (∃ ρ' h', loop s step s.len 0 ρ h = .nxt ρ' h' ∧ I vs.length ρ' h') ∨ R (loop s step s.len 0 ρ h) := by
  have key : ∀ (n i : Nat) (ρ : Slots) (h : AH), n + i = vs.length → I i ρ h → (∃ ρ' h', loop s step n i ρ h = .nxt ρ' h' ∧ I vs.length ρ' h') ∨ R (loop s step n i ρ h) := by
    intro n
    induction n with
    | zero =>
      intro i ρ h e q
      have : i = vs.length := by omega
      subst this
      refine .inl ⟨ρ, h, ?_, q⟩
      simp only [loop]
      rw [if_pos (hfin ρ h q)]
    | succ n ih =>
      intro i ρ h e q
      have hi : i < vs.length := by omega
      have hg := hget i ρ h _ q (List.getElem?_eq_getElem hi)
      rcases hstep i vs[i] ρ h (List.getElem?_eq_getElem hi) q with ⟨ρ', h', hs, q'⟩ | ⟨⟨w, h', hs⟩, r⟩ | ⟨ρ', h', hs, r⟩
      · have z := ih (i + 1) ρ' h' (by omega) q'
        simp only [loop, hg]
        rcases hs with hs | hs <;> rw [hs] <;> exact z
      · refine .inr ?_
        simp only [loop, hg]
        rw [hs] at r ⊢
        exact r
      · refine .inr ?_
        simp only [loop, hg]
        rw [hs]
        exact r
  rw [hl]
  exact key vs.length 0 ρ h (by omega) h0
/-! ## comprehensions whose elements leave the heap as it is -/
theorem ev_comp {P : Prg} {φ : Nat → List Val → AH → Res Val} {own : List (Str × Nat)} {i : Nat} {it : It} {c e : E} {ρ : Slots} {h0 h : AH} {s : Src} {vs : List Val} (b : Val → Bool) (g : Val → Val)
    (h1 : evI P φ it ρ h0 = .ok s h) (hl : s.len = vs.length) (hz : vs.length ≤ sizeLine) (hget : ∀ acc i v, vs[i]? = some v → s.get (h ++ [.lst acc]) i = some v) (hfin : ∀ acc, s.fin (h ++ [.lst acc]) = true)
    (hc : ∀ v ∈ vs, ∀ acc, evT P φ c ((wipeS ρ (own.map (·.2))).set i (some v)) (h ++ [.lst acc]) = .ok (b v) (h ++ [.lst acc]))
    (he : ∀ v ∈ vs, b v = true → ∀ acc, gcR (h ++ [.lst acc]) (evE P φ e ((wipeS ρ (own.map (·.2))).set i (some v)) (h ++ [.lst acc])) = .ok (g v) (h ++ [.lst acc])) :
    evE P φ (.comp own [i] it c e) ρ h0 = .ok (.ref h.length) (h ++ [.lst ((vs.filter b).map g)]) := by
  have key : ∀ (n j : Nat), n + j = vs.length → cloop s (stepC (own.map (·.2)) [i] (fun ρ h => evE P φ c ρ h) (fun ρ h => evE P φ e ρ h) ρ) h.length n j (h ++ [.lst (((vs.take j).filter b).map g)]) = .ok () (h ++ [.lst ((vs.filter b).map g)]) := by
    intro n
    induction n with
    | zero =>
      intro j e
      have : j = vs.length := by omega
      subst this
      simp only [cloop]
      rw [if_pos (hfin _), List.take_length]
    | succ n ih =>
      intro j ej
      have hj : j < vs.length := by omega
      have gj := List.getElem?_eq_getElem hj
      have mem : vs[j] ∈ vs := List.getElem_mem hj
      simp only [cloop, hget _ j _ gj]
      have hcj := hc vs[j] mem (((vs.take j).filter b).map g)
      unfold evT at hcj
      have st : stepC (own.map (·.2)) [i] (fun ρ h => evE P φ c ρ h) (fun ρ h => evE P φ e ρ h) ρ vs[j] (h ++ [.lst (((vs.take j).filter b).map g)]) = (if b vs[j] = true then (gcR (h ++ [.lst (((vs.take j).filter b).map g)]) (evE P φ e ((wipeS ρ (own.map (·.2))).set i (some vs[j])) (h ++ [.lst (((vs.take j).filter b).map g)]))).bind fun y h2 => .ok (some y) h2 else .ok none (h ++ [.lst (((vs.take j).filter b).map g)])) := by
        simp only [stepC, asg]
        rw [hcj, ok_bind]
      rw [st]
      have tk : vs.take (j + 1) = vs.take j ++ [vs[j]] := by rw [List.take_succ, gj]; rfl
      cases hb : b vs[j] with
      | false =>
        rw [if_neg Bool.false_ne_true]
        have z := ih (j + 1) (by omega)
        rw [tk, List.filter_append, List.filter_cons_of_neg (by rw [hb]; exact Bool.false_ne_true), List.filter_nil, List.append_nil] at z
        exact z
      | true =>
        rw [if_pos rfl, he vs[j] mem hb, ok_bind]
        have z := ih (j + 1) (by omega)
        rw [tk, List.filter_append, List.filter_cons_of_pos hb, List.filter_nil, List.map_append] at z
        have gl : (h ++ [AObj.lst (((vs.take j).filter b).map g)])[h.length]? = some (.lst (((vs.take j).filter b).map g)) := List.getElem?_concat_length
        have hlen : (((vs.take j).filter b).map g).length < sizeLine := by
          rw [List.length_map]
          have h1 := List.length_filter_le b (vs.take j)
          have h2 := List.length_take_le j vs
          omega
        simp only [gl]
        rw [if_pos hlen, List.set_append_right _ _ (Nat.le_refl _), Nat.sub_self]
        exact z
  simp only [evE, h1, ok_bind]
  have k0 := key vs.length 0 (by omega)
  rw [List.take_zero, List.filter_nil, List.map_nil] at k0
  rw [hl, k0]
  rfl
/-- the items of a list that stands -/
theorem live_stays {n : Nat} {xs : List Val} {h : AH} (e : seqOf h (.ref n) = some xs) : (Src.live n xs.length).fin h = true ∧ ∀ (i : Nat) v, xs[i]? = some v → (Src.live n xs.length).get h i = some v := by
  refine ⟨?_, fun i v q => ?_⟩
  · simp [Src.fin, e]
  · simp [Src.get, e, q]
theorem seq_app {n : Nat} {xs : List Val} {h u : AH} (e : seqOf h (.ref n) = some xs) : seqOf (h ++ u) (.ref n) = some xs := by
  simp only [seqOf] at e ⊢
  cases q : h[n]? with
  | none => rw [q] at e; cases e
  | some o =>
    have hn : n < h.length := (List.getElem?_eq_some_iff.mp q).1
    rw [List.getElem?_append_left hn, q]
    rw [q] at e
    exact e
theorem seq_lst {n : Nat} {xs : List Val} {h : AH} (e : h[n]? = some (.lst xs)) : seqOf h (.ref n) = some xs := by simp [seqOf, e]
theorem seq_ro {n : Nat} {xs : List Val} {h : AH} (e : h[n]? = some (.ro xs)) : seqOf h (.ref n) = some xs := by simp [seqOf, e]
end MP
set_option Elab.async false
set_option linter.all false
set_option maxRecDepth 100000
set_option maxHeartbeats 1000000
namespace MP
open PySem
/-! ## the heap of a script -/
def eTwice : E := .bin .Add (.bin .Mult (.cst (.int 2)) (.bt .abs (.cons (.var 1) .nil))) (.bt .int (.cons (.cmp .Lt (.var 1) (.cst (.int 0))) .nil))
def iCut : It := .seq (.sl (.var 0) .nope (.cst (.int 63)))
def eYes : E := .cst (.bl true)
def eCells : E := .comp [("cell", 1)] [1] iCut eYes eTwice
def sStep : S := .set 3 (.bin .Mod (.bt .int (.cons (.bin .Add (.bin .Add (.bin .Mult (.var 3) (.cst (.int 69621))) (.bin .Mod (.bt .int (.cons (.var 1) .nil)) (.cst (.int 2147483563)))) (.cst (.int 31))) .nil)) (.cst (.int 2147483647)))
def ePow (n : Int) : E := .bin .Pow (.cst (.int 10)) (.cst (.int n))
def eGreat : E := .bin .Mult (.bin .Mult (.bin .Mult (ePow 60) (ePow 60)) (ePow 60)) (ePow 60)
def eIsBig : E := .cmp .GtE (.var 1) (ePow 18)
def eRest : E := .bin .Mod (.bt .int (.cons (.var 1) .nil)) eGreat
def eBig : E := .comp [("cell", 1)] [1] (.seq (.var 2)) eIsBig eRest
def sCells : S := .par [2, 3] (.cons eCells (.cons (.cst (.int 84851)) .nil))
def sStirs : S := .for_ [1] (.seq (.var 2)) (.cons sStep .nil)
def sEnd : S := .ret (.lst (.cons (.rev eBig) (.cons (.var 3) .nil)))
def fdHeap : FD := { name := "_law_heap", np := 1, dfl := [], kws := [], N := ["script", "cell", "cells", "stir"], body := (.cons sCells (.cons sStirs (.cons sEnd .nil))) }
def twice (i : Int) : Int := 2 * (if i < 0 then -i else i) + (if i < 0 then 1 else 0)
theorem twice_nn (i : Int) : 0 ≤ twice i := by unfold twice; split <;> omega
/-- an int's image -/
def onInt (f : Int → Int) : Val → Val
  | .int i => .int (f i)
  | v => v
def isInt (p : Int → Bool) : Val → Bool
  | .int i => p i
  | _ => false
theorem map_ints (p : Int → Bool) (f : Int → Int) (ns : List Int) : ((ns.map Val.int).filter (isInt p)).map (onInt f) = ((ns.filter p).map f).map Val.int := by
  induction ns with
  | nil => rfl
  | cons n r ih =>
    cases h : p n with
    | true => simp only [List.map_cons, List.filter_cons_of_pos (show isInt p (.int n) = true from h), List.filter_cons_of_pos h, ih, onInt]
    | false => simp only [List.map_cons, List.filter_cons_of_neg (show ¬ isInt p (.int n) = true by rw [show isInt p (.int n) = p n from rfl, h]; exact Bool.false_ne_true), List.filter_cons_of_neg (show ¬ p n = true by rw [h]; exact Bool.false_ne_true), ih]
section
variable {P : Prg} {φ : Nat → List Val → AH → Res Val} {ρ : Slots} {h : AH}
theorem ev_twice {i : Int} (h1 : ρ[1]? = some (some (.int i))) : evE P φ eTwice ρ h = .ok (.int (twice i)) h := by
  have hm : ∀ j : Int, IntMulOk 2 j := fun j => IntMulOk.of_left (by decide)
  simp only [eTwice, evE, evEs, h1, ok_bind, btV, lift, binV, mulI, hm, if_true, Option.map_some, cmpV, liftO]
  unfold twice
  by_cases hi : i < 0 <;> simp [hi]
theorem ev_great : evE P φ eGreat ρ h = .ok (.int (10 ^ 240)) h := by
  have p : evE P φ (ePow 60) ρ h = .ok (.int (10 ^ 60)) h := by
    have hp : powI 10 60 = some (10 ^ 60) := by decide +kernel
    simp only [ePow, evE, ok_bind, binV, hp, Option.map_some, lift]
  have m1 : mulI (10 ^ 60) (10 ^ 60) = some (10 ^ 120) := by decide +kernel
  have m2 : mulI (10 ^ 120) (10 ^ 60) = some (10 ^ 180) := by decide +kernel
  have m3 : mulI (10 ^ 180) (10 ^ 60) = some (10 ^ 240) := by decide +kernel
  simp only [eGreat, evE, p, ok_bind, binV, m1, m2, m3, Option.map_some, lift]
theorem ev_rest {i : Int} (h1 : ρ[1]? = some (some (.int i))) : evE P φ eRest ρ h = .ok (.int (i % 10 ^ 240)) h := by
  have hp : modI i (10 ^ 240) = some (i % 10 ^ 240) := by
    unfold modI
    rw [if_pos (by decide +kernel)]
  simp only [eRest, evE, evEs, h1, ok_bind, btV, lift, ev_great, binV, hp, Option.map_some]
theorem ev_isBig {i : Int} (h1 : ρ[1]? = some (some (.int i))) : evT P φ eIsBig ρ h = .ok (decide (10 ^ 18 ≤ i)) h := by
  have p : evE P φ (ePow 18) ρ h = .ok (.int (10 ^ 18)) h := by
    have hp : powI 10 18 = some (10 ^ 18) := by decide +kernel
    simp only [ePow, evE, ok_bind, binV, hp, Option.map_some, lift]
  unfold evT
  simp only [eIsBig, evE, h1, ok_bind, p, cmpV, Option.map_some, liftO, truth]
  rw [gcT_same]
theorem ev_yes : evT P φ eYes ρ h = .ok true h := by
  unfold evT
  simp only [eYes, evE, ok_bind, truth, liftO]
  rw [gcT_same]
theorem ex_step {i s : Int} {a c : Option Val} : exS P φ sStep [a, some (.int i), c, some (.int s)] h = .nxt [a, some (.int i), c, some (.int ((s * 69621 + i % 2147483563 + 31) % 2147483647))] h := by
  have hm : IntMulOk s 69621 := mul_small (by decide)
  have e : evE P φ (.bin .Mod (.bt .int (.cons (.bin .Add (.bin .Add (.bin .Mult (.var 3) (.cst (.int 69621))) (.bin .Mod (.bt .int (.cons (.var 1) .nil)) (.cst (.int 2147483563)))) (.cst (.int 31))) .nil)) (.cst (.int 2147483647))) [a, some (.int i), c, some (.int s)] h = .ok (.int ((s * 69621 + i % 2147483563 + 31) % 2147483647)) h := by
    simp only [evE, evEs, List.getElem?_cons_succ, List.getElem?_cons_zero, ok_bind, btV, lift, binV, mulI, hm, if_true, Option.map_some, modI, show (0 : Int) < 2147483563 by decide, show (0 : Int) < 2147483647 by decide]
  simp only [sStep, exS]
  rw [e, gcR_same, ok_stm]
  rfl
/-- the state that a script makes -/
theorem heap_ok {i k : Nat} (e : P.fns[i]? = some fdHeap) (ns : List Int) (hn : ns.length ≤ 63) :
    ∃ o1 o2 o3 xs s, HNum xs s ∧ runF P (k + 1) i [.ref 0] [.ro (ns.map Val.int)] = .ok (.ref 5) (hp (.ro (ns.map Val.int)) o1 o2 o3 xs s []) := by
  let sc := ns.map Val.int
  let cells := ns.map twice
  have hz : ns.length ≤ sizeLine := by rw [PySem.sizeLine_eq]; omega
  have cut : cutL sc none (some 63) = sc := by
    simp only [cutL, HT.sIx, sc]
    have : min (63 : Int).toNat (ns.map Val.int).length = (ns.map Val.int).length := by simp; omega
    rw [if_neg (by decide), this]
    simp only [Nat.sub_zero, List.drop_zero]
    exact List.take_of_length_le (Nat.le_refl _)
  -- the cells
  have i1 : evI P (runF P k) iCut [some (.ref 0), none, none, none] [.ro sc] = .ok (.live 1 sc.length) [.ro sc, .lst sc] := by
    have h1 : newL [.ro sc] sc = some (.ref 1, [.ro sc, .lst sc]) := by
      unfold newL
      rw [if_pos (by simpa [sc] using hz)]
      rfl
    simp only [iCut, evI, evE, List.getElem?_cons_zero, ok_bind, E.isNope, if_true, Bool.false_eq_true, if_false, intO, slV, seqOf, Option.bind_some, cut, h1, lift, srcOf]
    rfl
  have c1 : evE P (runF P k) eCells [some (.ref 0), none, none, none] [.ro sc] = .ok (.ref 2) [.ro sc, .lst sc, .lst (cells.map Val.int)] := by
    have q : seqOf [.ro sc, .lst sc] (.ref 1) = some sc := rfl
    have z := ev_comp (P := P) (φ := runF P k) (own := [("cell", 1)]) (i := 1) (c := eYes) (e := eTwice) (vs := sc) (isInt fun _ => true) (onInt twice) i1 rfl (by simpa [sc] using hz) (fun acc j v => (live_stays (seq_app q)).2 j v) (fun acc => (live_stays (seq_app q)).1)
      (fun v hv acc => by
        obtain ⟨n, _, rfl⟩ := List.mem_map.mp hv
        exact ev_yes) (fun v hv _ acc => by
        obtain ⟨n, _, rfl⟩ := List.mem_map.mp hv
        rw [ev_twice (i := n) rfl, gcR_same]
        rfl)
    rw [map_ints, List.filter_eq_self.mpr (fun _ _ => rfl)] at z
    exact z
  have s1 : exS P (runF P k) sCells [some (.ref 0), none, none, none] [.ro sc] = .nxt [some (.ref 0), none, some (.ref 2), some (.int 84851)] [.ro sc, .lst sc, .lst (cells.map Val.int)] := by
    simp only [sCells, exS, evEs, c1, evE, ok_bind, ok_stm]
    rfl
  -- the stirring
  have q2 : seqOf [.ro sc, .lst sc, .lst (cells.map Val.int)] (.ref 2) = some (cells.map Val.int) := rfl
  obtain ⟨ρ', h', s2, ⟨c, s, rfl, rfl, hs⟩⟩ := loop_inv (s := .live 2 (cells.map Val.int).length) (step := stepF [1] fun ρ h => exSs P (runF P k) (.cons sStep .nil) ρ h) (vs := cells.map Val.int)
    (fun _ ρ h => ∃ c s, ρ = [some (.ref 0), c, some (.ref 2), some (.int s)] ∧ h = [.ro sc, .lst sc, .lst (cells.map Val.int)] ∧ (0 : Int) ≤ s) rfl
    (fun i ρ h v ⟨c, s, _, hh, _⟩ hv => by rw [hh]; exact (live_stays q2).2 i v hv) (fun ρ h ⟨c, s, _, hh, _⟩ => by rw [hh]; exact (live_stays q2).1)
    (fun i v ρ h hv ⟨c, s, hρ, hh, hs⟩ => by
      subst hρ hh
      obtain ⟨n, _, rfl⟩ := List.mem_map.mp (List.mem_of_getElem? hv)
      refine ⟨[some (.ref 0), some (.int n), some (.ref 2), some (.int ((s * 69621 + n % 2147483563 + 31) % 2147483647))], [.ro sc, .lst sc, .lst (cells.map Val.int)], .inl ?_, some (.int n), _, rfl, rfl, ?_⟩
      · simp only [stepF, asg]
        show exSs P (runF P k) (.cons sStep .nil) [some (.ref 0), some (.int n), some (.ref 2), some (.int s)] _ = _
        simp only [exSs, ex_step]
      · exact Int.emod_nonneg _ (by decide)) (ρ := [some (.ref 0), none, some (.ref 2), some (.int 84851)]) ⟨none, 84851, rfl, rfl, by decide⟩
  have s2' : exS P (runF P k) sStirs [some (.ref 0), none, some (.ref 2), some (.int 84851)] [.ro sc, .lst sc, .lst (cells.map Val.int)] = .nxt [some (.ref 0), c, some (.ref 2), some (.int s)] [.ro sc, .lst sc, .lst (cells.map Val.int)] := by
    simp only [sStirs, exS, evI, evE, List.getElem?_cons_succ, List.getElem?_cons_zero, ok_bind, srcOf, q2, Option.map_some, liftO, ok_stm]
    exact s2
  -- the great ones
  let bigs := (cells.filter fun i => decide (10 ^ 18 ≤ i)).map fun i => i % 10 ^ 240
  have c3 : evE P (runF P k) eBig [some (.ref 0), c, some (.ref 2), some (.int s)] [.ro sc, .lst sc, .lst (cells.map Val.int)] = .ok (.ref 3) [.ro sc, .lst sc, .lst (cells.map Val.int), .lst (bigs.map Val.int)] := by
    have i3 : evI P (runF P k) (.seq (.var 2)) [some (.ref 0), c, some (.ref 2), some (.int s)] [.ro sc, .lst sc, .lst (cells.map Val.int)] = .ok (.live 2 (cells.map Val.int).length) [.ro sc, .lst sc, .lst (cells.map Val.int)] := by
      simp only [evI, evE, List.getElem?_cons_succ, List.getElem?_cons_zero, ok_bind, srcOf, q2, Option.map_some, liftO]
    have z := ev_comp (P := P) (φ := runF P k) (own := [("cell", 1)]) (i := 1) (c := eIsBig) (e := eRest) (vs := cells.map Val.int) (isInt fun i => decide (10 ^ 18 ≤ i)) (onInt fun i => i % 10 ^ 240) i3 rfl (by simpa [cells] using hz) (fun acc j v => (live_stays (seq_app q2)).2 j v) (fun acc => (live_stays (seq_app q2)).1)
      (fun v hv acc => by
        obtain ⟨n, _, rfl⟩ := List.mem_map.mp hv
        exact ev_isBig (i := n) rfl) (fun v hv _ acc => by
        obtain ⟨n, _, rfl⟩ := List.mem_map.mp hv
        rw [ev_rest (i := n) rfl, gcR_same]
        rfl)
    rw [map_ints] at z
    exact z
  have bl : bigs.length ≤ 63 := by
    have := List.length_filter_le (fun i : Int => decide (10 ^ 18 ≤ i)) cells
    simp only [bigs, List.length_map]
    have h2 : cells.length = ns.length := List.length_map _
    omega
  refine ⟨.lst sc, .lst (cells.map Val.int), .lst (bigs.map Val.int), bigs.reverse, s, ⟨fun x hx => ?_, by rw [List.length_reverse]; exact bl, hs⟩, ?_⟩
  · obtain ⟨n, _, rfl⟩ := List.mem_map.mp (List.mem_reverse.mp hx)
    exact Int.emod_nonneg _ (by decide +kernel)
  · have z3 : newL [.ro sc, .lst sc, .lst (cells.map Val.int), .lst (bigs.map Val.int)] (bigs.map Val.int).reverse = some (.ref 4, [.ro sc, .lst sc, .lst (cells.map Val.int), .lst (bigs.map Val.int), .lst (bigs.reverse.map Val.int)]) := by
      unfold newL
      rw [if_pos (by rw [List.length_reverse, List.length_map, PySem.sizeLine_eq]; omega), ← List.map_reverse]
      rfl
    have s3 : exS P (runF P k) sEnd [some (.ref 0), c, some (.ref 2), some (.int s)] [.ro sc, .lst sc, .lst (cells.map Val.int)] = .ret (.ref 5) (hp (.ro sc) (.lst sc) (.lst (cells.map Val.int)) (.lst (bigs.map Val.int)) bigs.reverse s []) := by
      have q3 : seqOf [.ro sc, .lst sc, .lst (cells.map Val.int), .lst (bigs.map Val.int)] (.ref 3) = some (bigs.map Val.int) := rfl
      simp only [sEnd, exS, evE, evEs, c3, ok_bind, q3, Option.bind_some, z3, lift, List.getElem?_cons_succ, List.getElem?_cons_zero]
      rfl
    have z4 : runF P (k + 1) i [.ref 0] [.ro sc] = gcR [.ro sc] (bodyR (exSs P (runF P k) fdHeap.body [some (.ref 0), none, none, none] [.ro sc])) := by
      simp only [runF, e]
      rfl
    show runF P (k + 1) i [.ref 0] [.ro sc] = _
    rw [z4]
    simp only [fdHeap, exSs, s1, s2', s3, bodyR]
    exact gcR_keep (by show 1 ≤ 5; decide) hp_5 rfl
end
end MP
set_option Elab.async false
set_option linter.all false
set_option maxRecDepth 100000
set_option maxHeartbeats 1000000
namespace MP
open PySem
/-! ## picking -/
def fdPick (j : Nat) : FD := { name := "_law_pick", np := 2, dfl := [], kws := [], N := ["heap", "some"], body :=
  (.cons (.ret (.ix (.var 1) (.call j (.cons (.var 0) (.cons (.bt .len (.cons (.var 1) .nil)) .nil))))) .nil) }
section
variable {P : Prg} {φ : Nat → List Val → AH → Res Val} {o0 o1 o2 o3 : AObj} {xs ys : List Int} {s s' : Int} {t u : AH} {ρ : Slots} {h : AH}
theorem atI_nat {α : Type} {l : List α} {v : Int} (h0 : 0 ≤ v) (h1 : v < l.length) : ∃ x, L2.atI l v = some x ∧ x ∈ l := by
  have hv : v.toNat < l.length := by omega
  refine ⟨l[v.toNat], ?_, List.getElem_mem hv⟩
  simp only [L2.atI, L2.ixN, if_pos h0, if_pos h1, Option.bind_some]
  exact List.getElem?_eq_getElem hv
theorem small_log {n : Nat} (h : n < 2 ^ 64) : n.log2 < 9000 := by
  by_cases h0 : n = 0
  · subst h0
    decide
  · have := (Nat.log2_lt h0).mpr h
    omega
theorem pick_ok {i j k m : Nat} {vs : List Val} (ei : P.fns[i]? = some (fdPick j)) (ej : P.fns[j]? = some fdDraw) (H : HNum xs s) (hm : t[m]? = some (.lst vs)) (hne : vs ≠ []) (hb : vs.length < 2 ^ 64) (hf : ∀ v ∈ vs, v.fit (t.length + 6) = true) :
    ∃ v ys s', HNum ys s' ∧ v ∈ vs ∧ runF P (k + 2) i [.ref 5, .ref (m + 6)] (hp o0 o1 o2 o3 xs s t) = .ok v (hp o0 o1 o2 o3 ys s' t) := by
  have l0 : (0 : Int) < vs.length := by
    have := List.length_pos_iff.mpr hne
    omega
  obtain ⟨d, ys, s', H', d0, d1, e⟩ := draw_ok (P := P) (i := j) (k := k) (m := (vs.length : Int)) (o0 := o0) (o1 := o1) (o2 := o2) (o3 := o3) (t := t) ej l0 (by rw [Int.natAbs_natCast]; exact small_log hb) H
  obtain ⟨v, av, mv⟩ := atI_nat (l := vs) d0 d1
  refine ⟨v, ys, s', H', mv, ?_⟩
  have q : ∀ ys s', seqOf (hp o0 o1 o2 o3 ys s' t) (.ref (m + 6)) = some vs := fun ys s' => seq_lst (by rw [hp_n]; exact hm)
  have z : runF P (k + 2) i [.ref 5, .ref (m + 6)] (hp o0 o1 o2 o3 xs s t) = gcR (hp o0 o1 o2 o3 xs s t) (bodyR (exSs P (runF P (k + 1)) (fdPick j).body [some (.ref 5), some (.ref (m + 6))] (hp o0 o1 o2 o3 xs s t))) := by
    simp only [runF, ei]
    rfl
  have a : ([Val.ref 5, Val.int vs.length] ++ fdDraw.dfl.drop ([Val.ref 5, Val.int vs.length].length + fdDraw.dfl.length - fdDraw.np)) = [Val.ref 5, Val.int vs.length] := rfl
  rw [z]
  simp only [fdPick, exSs, exS, evE, evEs, List.getElem?_cons_zero, List.getElem?_cons_succ, ok_bind, btV, hp_n, hm, lift, ej]
  rw [a]
  rw [if_pos (show [Val.ref 5, Val.int vs.length].length = fdDraw.np from rfl), e, ok_bind]
  simp only [ixV, q, Option.bind_some, av, liftO, ok_stm, bodyR]
  exact hp_gc0 (hf v mv)
end
/-! ## kind by kind -/
def eSameT (j : Nat) : E := .comp [("at", 2)] [2] (.rng1 (.bt .len (.cons (.var 1) .nil))) eYes (.call j (.cons (.ix (.var 0) (.var 2)) (.cons (.ix (.var 1) (.var 2)) .nil)))
def fdSame (j : Nat) : FD := { name := "_law_same", np := 2, dfl := [], kws := [], N := ["value", "due", "at"], body :=
  (.cons (.cond (.isin (.var 1) [.tuple]) (.cons (.ret (.and (.isin (.var 0) [.tuple]) (.and (.cmp .Eq (.bt .len (.cons (.var 0) .nil)) (.bt .len (.cons (.var 1) .nil))) (.bt .all (.cons (eSameT j) .nil))))) .nil) .nil)
  (.cons (.cond (.or (.cmp .Is (.var 1) (.cst .non)) (.isin (.var 1) [.str])) (.cons (.ret (.and (.cmp .Eq (.cmp .Is (.var 0) (.cst .non)) (.cmp .Is (.var 1) (.cst .non))) (.and (.cmp .Eq (.isin (.var 0) [.str]) (.isin (.var 1) [.str])) (.cmp .Eq (.var 0) (.var 1))))) .nil) .nil)
  (.cons (.ret (.and (.isin (.var 0) [.int]) (.and (.cmp .Eq (.isin (.var 0) [.bool]) (.isin (.var 1) [.bool])) (.cmp .Eq (.var 0) (.var 1))))) .nil))) }
section
variable {P : Prg} {φ : Nat → List Val → AH → Res Val} {ρ : Slots} {h : AH}
theorem eqV_bl {a b : Bool} : eqV h (.bl a) (.bl b) = some (a == b) := eqV_of (toP_bl (d := 59)) (toP_bl (d := 59)) rfl rfl
theorem eqV_str {x y : Str} (hx : PyData.strOk x = true) (hy : PyData.strOk y = true) : eqV h (.str x) (.str y) = some (x == y) := eqV_of (toP_str (d := 59)) (toP_str (d := 59)) hx hy
theorem gcT_ok {b : Bool} {h : AH} : gcT h (.ok b h) = .ok b h := gcT_same
theorem same_int {i k : Nat} {n : Int} (e : P.fns[i]? = some (fdSame i)) : runF P (k + 1) i [.int n, .int n] h = .ok (.bl true) h := by
  have z : runF P (k + 1) i [.int n, .int n] h = gcR h (bodyR (exSs P (runF P k) (fdSame i).body [some (.int n), some (.int n), none] h)) := by
    simp only [runF, e]
    rfl
  rw [z]
  simp [fdSame, exSs, exS, evT, evE, Res.bind, Res.stm, tyOf, isTy, Ty.name, truth, liftO, cmpV, eqV_bl, eqV_int, gcT_same, bodyR]
  exact gcR_same
theorem same_str {i k : Nat} {x : Str} (e : P.fns[i]? = some (fdSame i)) (hx : PyData.strOk x = true) : runF P (k + 1) i [.str x, .str x] h = .ok (.bl true) h := by
  have z : runF P (k + 1) i [.str x, .str x] h = gcR h (bodyR (exSs P (runF P k) (fdSame i).body [some (.str x), some (.str x), none] h)) := by
    simp only [runF, e]
    rfl
  rw [z]
  simp [fdSame, exSs, exS, evT, evE, Res.bind, Res.stm, tyOf, isTy, Ty.name, truth, liftO, cmpV, eqV_bl, eqV_str hx hx, gcT_same, bodyR]
  exact gcR_same
theorem okI_small {n : Nat} (h : n < 100000) : okI (n : Int) := ⟨Int.le_trans (by decide) (Int.natCast_nonneg n), Int.lt_trans (Int.ofNat_lt.mpr h) (by decide)⟩
theorem bls_true : ∀ xs : List Val, blsOf (xs.map fun _ => Val.bl true) = some (xs.map fun _ => true)
  | [] => rfl
  | x :: xs => by simp only [List.map_cons, blsOf, bls_true xs, Option.map_some]
theorem evI_rng1 {a : E} {h1 : AH} {j : Int} (e : evE P φ a ρ h = .ok (.int j) h1) (ok : okI j) : evI P φ (.rng1 a) ρ h = .ok (.its (rngOf 0 1 j.toNat)) h1 := by
  simp only [evI, e, ok_bind]
  exact if_pos ok
theorem ev_len1 {vs : List Val} (e : ρ[1]? = some (some (.tup vs))) : evE P φ (.bt .len (.cons (.var 1) .nil)) ρ h = .ok (.int vs.length) h := by
  simp only [evE, evEs, e, ok_bind, btV, lift]
theorem same_it {vs : List Val} (hl : vs.length < 100000) : evI P φ (.rng1 (.bt .len (.cons (.var 1) .nil))) [some (.tup vs), some (.tup vs), none] h = .ok (.its (rngOf 0 1 vs.length)) h := by
  have z := evI_rng1 (P := P) (φ := φ) (ev_len1 (P := P) (φ := φ) (ρ := [some (.tup vs), some (.tup vs), none]) (h := h) (vs := vs) rfl) (okI_small hl)
  rw [Int.toNat_natCast] at z
  exact z
theorem same_at {vs : List Val} {j : Nat} (hj : j < vs.length) : L2.atI vs (0 + (j : Int) * 1) = some vs[j] := by
  have e1 : (0 : Int) + (j : Int) * 1 = (j : Int) := by omega
  rw [e1]
  simp only [L2.atI, L2.ixN]
  rw [if_pos (Int.natCast_nonneg j), if_pos (Int.ofNat_lt.mpr hj), Int.toNat_natCast]
  exact List.getElem?_eq_getElem hj
theorem same_el {i k : Nat} {vs : List Val} (e : P.fns[i]? = some (fdSame i)) (hv : ∀ v ∈ vs, ∀ h, runF P k i [v, v] h = .ok (.bl true) h) {j : Nat} (hj : j < vs.length) {h : AH} :
    evE P (runF P k) (.call i (.cons (.ix (.var 0) (.var 2)) (.cons (.ix (.var 1) (.var 2)) .nil))) [some (.tup vs), some (.tup vs), some (.int (0 + (j : Int) * 1))] h = .ok (.bl true) h := by
  have a : ([vs[j], vs[j]] ++ (fdSame i).dfl.drop ([vs[j], vs[j]].length + (fdSame i).dfl.length - (fdSame i).np)) = [vs[j], vs[j]] := rfl
  simp only [evE, evEs, List.getElem?_cons_zero, List.getElem?_cons_succ, ok_bind, ixV, same_at hj, liftO, e]
  rw [a, if_pos (show [vs[j], vs[j]].length = (fdSame i).np from rfl), hv _ (List.getElem_mem hj)]
theorem same_c {i k : Nat} {vs : List Val} (e : P.fns[i]? = some (fdSame i)) (hl : vs.length < 100000) (hv : ∀ v ∈ vs, ∀ h, runF P k i [v, v] h = .ok (.bl true) h) :
    evE P (runF P k) (eSameT i) [some (.tup vs), some (.tup vs), none] h = .ok (.ref h.length) (h ++ [.lst ((rngOf 0 1 vs.length).map fun _ => .bl true)]) := by
  have rl : (rngOf 0 1 vs.length).length = vs.length := by simp [rngOf]
  have c := ev_comp (P := P) (φ := runF P k) (own := [("at", 2)]) (i := 2) (c := eYes) (e := .call i (.cons (.ix (.var 0) (.var 2)) (.cons (.ix (.var 1) (.var 2)) .nil))) (vs := rngOf 0 1 vs.length) (fun _ => true) (fun _ => .bl true) (same_it (P := P) (φ := runF P k) (h := h) hl) rfl (by rw [rl, PySem.sizeLine_eq]; omega)
    (fun acc j v q => q) (fun _ => rfl) (fun v _ acc => ev_yes) (fun v hv' _ acc => by
      obtain ⟨j, hj, rfl⟩ := List.mem_map.mp hv'
      show gcR _ (evE P (runF P k) _ [some (.tup vs), some (.tup vs), some (.int (0 + (j : Int) * 1))] _) = _
      rw [same_el e hv (List.mem_range.mp hj), gcR_same])
  rw [List.filter_eq_self.mpr (fun _ _ => rfl)] at c
  exact c
theorem same_all {vs : List Val} {n : Nat} (hn : h.length = n) : btV .all (h ++ [.lst ((rngOf 0 1 vs.length).map fun _ => .bl true)]) [.ref n] = some (.bl true, h ++ [.lst ((rngOf 0 1 vs.length).map fun _ => .bl true)]) := by
  subst hn
  have g : (h ++ [AObj.lst ((rngOf 0 1 vs.length).map fun _ => .bl true)])[h.length]? = some (.lst ((rngOf 0 1 vs.length).map fun _ => .bl true)) := List.getElem?_concat_length
  have al : ((rngOf 0 1 vs.length).map fun _ => true).all id = true := by simp
  simp only [btV, g, bls_true, Option.map_some, al]
theorem same_tup {i k : Nat} {vs : List Val} (e : P.fns[i]? = some (fdSame i)) (hl : vs.length < 100000) (hv : ∀ v ∈ vs, ∀ h, runF P k i [v, v] h = .ok (.bl true) h) : runF P (k + 1) i [.tup vs, .tup vs] h = .ok (.bl true) h := by
  have z : runF P (k + 1) i [.tup vs, .tup vs] h = gcR h (bodyR (exSs P (runF P k) (fdSame i).body [some (.tup vs), some (.tup vs), none] h)) := by
    simp only [runF, e]
    rfl
  have t1 : ∀ (x : Nat), x < 2 → evE P (runF P k) (.isin (.var x) [.tuple]) [some (.tup vs), some (.tup vs), none] h = .ok (.bl true) h := fun x hx => by
    match x, hx with
    | 0, _ => rfl
    | 1, _ => rfl
  have t2 : evE P (runF P k) (.cmp .Eq (.bt .len (.cons (.var 0) .nil)) (.bt .len (.cons (.var 1) .nil))) [some (.tup vs), some (.tup vs), none] h = .ok (.bl true) h := by
    simp only [evE, evEs, List.getElem?_cons_zero, List.getElem?_cons_succ, ok_bind, btV, lift, cmpV, eqV_int, beq_self_eq_true, Option.map_some, liftO]
  have t3 : evE P (runF P k) (.bt .all (.cons (eSameT i) .nil)) [some (.tup vs), some (.tup vs), none] h = .ok (.bl true) (h ++ [.lst ((rngOf 0 1 vs.length).map fun _ => .bl true)]) := by
    simp only [evE, evEs, same_c e hl hv, ok_bind, same_all rfl, lift]
  have t4 : evT P (runF P k) (.isin (.var 1) [.tuple]) [some (.tup vs), some (.tup vs), none] h = .ok true h := by
    unfold evT
    rw [t1 1 (by decide), ok_bind]
    simp only [truth, liftO]
    rw [gcT_same]
  have t5 : exS P (runF P k) (.ret (.and (.isin (.var 0) [.tuple]) (.and (.cmp .Eq (.bt .len (.cons (.var 0) .nil)) (.bt .len (.cons (.var 1) .nil))) (.bt .all (.cons (eSameT i) .nil))))) [some (.tup vs), some (.tup vs), none] h = .ret (.bl true) (h ++ [.lst ((rngOf 0 1 vs.length).map fun _ => .bl true)]) := by
    have a2 : evE P (runF P k) (.and (.cmp .Eq (.bt .len (.cons (.var 0) .nil)) (.bt .len (.cons (.var 1) .nil))) (.bt .all (.cons (eSameT i) .nil))) [some (.tup vs), some (.tup vs), none] h = .ok (.bl true) (h ++ [.lst ((rngOf 0 1 vs.length).map fun _ => .bl true)]) := by
      rw [evE, t2, ok_bind]
      simp only [truth]
      exact t3
    have a1 : evE P (runF P k) (.and (.isin (.var 0) [.tuple]) (.and (.cmp .Eq (.bt .len (.cons (.var 0) .nil)) (.bt .len (.cons (.var 1) .nil))) (.bt .all (.cons (eSameT i) .nil)))) [some (.tup vs), some (.tup vs), none] h = .ok (.bl true) (h ++ [.lst ((rngOf 0 1 vs.length).map fun _ => .bl true)]) := by
      rw [evE, t1 0 (by decide), ok_bind]
      simp only [truth]
      exact a2
    rw [exS, a1, ok_stm]
  rw [z]
  have t6 : exSs P (runF P k) (fdSame i).body [some (.tup vs), some (.tup vs), none] h = .ret (.bl true) (h ++ [.lst ((rngOf 0 1 vs.length).map fun _ => .bl true)]) := by
    simp only [fdSame]
    rw [exSs, exS, t4, ok_stm, if_pos rfl, exSs, t5]
  rw [t6]
  exact gcR_add rfl
end
end MP
set_option Elab.async false
set_option linter.all false
set_option maxRecDepth 100000
set_option maxHeartbeats 1000000
namespace K01M
open PySem MP
open L2 (cutS)
/-! # the marks of a text -/
def mark (i : Nat) (x : Str) : Val := .tup [.int i, .str x]
def mstep (z : Str) (st : List Val × Option Nat) (i c : Nat) : List Val × Option Nat :=
  if c = 32 ∨ c = 10 then
    ((match st.2 with
      | some b => st.1 ++ [mark b (cutS z (some b) (some i))]
      | none => st.1) ++ (if c = 10 then [mark i ⟨#[10]⟩] else []), none)
  else (st.1, some (st.2.getD i))
def mst (z : Str) (cs : List Nat) : Nat → List Val × Option Nat
  | 0 => ([], none)
  | i + 1 => match cs[i]? with
    | some c => mstep z (mst z cs i) i c
    | none => mst z cs i
/-- a mark, as a value -/
def MkOk (v : Val) : Prop := ∃ (i : Nat) (x : Str), v = mark i x ∧ PyData.strOk x = true
theorem strOk_cut {z : Str} {lo hi : Option Int} (h : PyData.strOk z = true) : PyData.strOk (cutS z lo hi) = true := by
  unfold PyData.strOk at h ⊢
  rw [Array.all_eq_true_iff_forall_mem] at h ⊢
  intro c hc
  refine h c ?_
  unfold cutS at hc
  simp only [List.mem_toArray] at hc
  have := List.mem_of_mem_drop (List.mem_of_mem_take hc)
  simpa using this
theorem mst_ok {z : Str} {cs : List Nat} (hz : PyData.strOk z = true) : ∀ i, (∀ v ∈ (mst z cs i).1, MkOk v) ∧ (mst z cs i).1.length ≤ 2 * i
  | 0 => ⟨nofun, Nat.le_refl _⟩
  | i + 1 => by
    obtain ⟨h1, h2⟩ := mst_ok (cs := cs) hz i
    unfold mst
    cases e : cs[i]? with
    | none => exact ⟨h1, by simp only; omega⟩
    | some c =>
      simp only [mstep]
      split
      · refine ⟨fun v hv => ?_, ?_⟩
        · rcases List.mem_append.mp hv with hv | hv
          · split at hv
            · rcases List.mem_append.mp hv with hv | hv
              · exact h1 v hv
              · rw [List.mem_singleton.mp hv]
                exact ⟨_, _, rfl, strOk_cut hz⟩
            · exact h1 v hv
          · split at hv
            · rw [List.mem_singleton.mp hv]
              exact ⟨_, _, rfl, by decide +kernel⟩
            · cases hv
        · simp only [List.length_append]
          have a1 : (match (mst z cs i).2 with
            | some b => (mst z cs i).1 ++ [mark b (cutS z (some b) (some i))]
            | none => (mst z cs i).1).length ≤ (mst z cs i).1.length + 1 := by split <;> simp
          have a2 : (if c = 10 then [mark i ⟨#[10]⟩] else []).length ≤ 1 := by split <;> simp
          omega
      · exact ⟨h1, by simp only; omega⟩
theorem fits_of {n : Nat} : ∀ {xs : List Val}, (∀ v ∈ xs, v.fit n = true) → Val.fits n xs = true
  | [], _ => rfl
  | x :: xs, h => by
    simp only [Val.fits, h x (.head _), fits_of fun v hv => h v (.tail _ hv), Bool.and_self]
theorem MkOk.fit {v : Val} {n : Nat} (h : MkOk v) : v.fit n = true := by
  obtain ⟨i, x, rfl, _⟩ := h
  rfl
section
variable {P : Prg} {φ : Nat → List Val → AH → Res Val} {ρ : Slots} {h : AH} {xs : List Val}
theorem gcR_last {v : Val} {o o' : AObj} (f : v.fit (h.length + 1) = true) (f' : o'.fit (h.length + 1) = true) : gcR (h ++ [o]) (.ok v (h ++ [o'])) = .ok v (h ++ [o']) := by
  have k : ∀ (n : Nat) (a : AH), o'.fit n = true → keptB n (a ++ [o]) (a ++ [o']) = true := fun n a hf => by
    induction a with
    | nil => simp [keptB, hf]
    | cons x r ih => simp only [List.cons_append, keptB, decide_true, Bool.true_or, Bool.true_and, ih]
  have l : (h ++ [o]).length = h.length + 1 := by simp
  show Res.ok (gc (h ++ [o]) v (h ++ [o'])).1 (gc (h ++ [o]) v (h ++ [o'])).2 = _
  rw [gc_fit (by rw [l]; exact k _ h f') (by rw [l]; exact f), l]
  rw [List.take_of_length_le (by simp)]
theorem ex_app {a : Nat} {e : E} {v : Val} (ha : ρ[a]? = some (some (.ref h.length))) (he : evE P φ e ρ (h ++ [.lst xs]) = .ok v (h ++ [.lst xs])) (hl : xs.length < sizeLine) (hf : Val.fits (h.length + 1) (xs ++ [v]) = true) :
    exS P φ (.expr (.mt .append (.var a) (.cons e .nil))) ρ (h ++ [.lst xs]) = .nxt ρ (h ++ [.lst (xs ++ [v])]) := by
  have g : (h ++ [AObj.lst xs])[h.length]? = some (.lst xs) := List.getElem?_concat_length
  have ev : evE P φ (.mt .append (.var a) (.cons e .nil)) ρ (h ++ [.lst xs]) = .ok .non (h ++ [.lst (xs ++ [v])]) := by
    rw [evE]
    simp only [evE, ha, ok_bind, tyOf, g, Mt.ty, if_true, evEs, he, mtV, hl, lift]
    rw [List.set_append_right _ _ (Nat.le_refl _), Nat.sub_self]
    rfl
  rw [exS, ev, gcR_last (o := .lst xs) (o' := .lst (xs ++ [v])) rfl hf, ok_stm]
/-! ## the program's way -/
def sA1 : S := .cond (.cmp .IsNot (.var 2) (.cst .non)) (.cons (.expr (.mt .append (.var 1) (.cons (.tup (.cons (.var 2) (.cons (.sl (.var 0) (.var 2) (.var 3)) .nil))) .nil))) .nil) .nil
def sA2 : S := .set 2 (.cst .non)
def sA3 : S := .cond (.cmp .Eq (.var 4) (.cst (.str "\n"))) (.cons (.expr (.mt .append (.var 1) (.cons (.tup (.cons (.var 3) (.cons (.var 4) .nil))) .nil))) .nil) .nil
def sB : S := .cond (.cmp .Is (.var 2) (.cst .non)) (.cons (.set 2 (.var 3)) .nil) .nil
def sM : S := .cond (.cmp .In (.var 4) (.cst (.str " \n"))) (.cons sA1 (.cons sA2 (.cons sA3 .nil))) (.cons sB .nil)
def fdMarks : FD := { name := "marks_in", np := 1, dfl := [], kws := [(0, ["text"], [0])], N := ["text", "found", "begin", "at", "sign"], body :=
  (.cons (.par [1, 2] (.cons (.lst .nil) (.cons (.cst .non) .nil))) (.cons (.for_ [3, 4] (.enm (.bin .Add (.var 0) (.cst (.str " ")))) (.cons sM .nil)) (.cons (.ret (.bt .tuple (.cons (.var 1) .nil))) .nil))) }
def bv : Option Nat → Val
  | none => .non
  | some b => .int b
theorem evT_ok {e : E} {v : Val} {b : Bool} (he : evE P φ e ρ h = .ok v h) (ht : truth h v = some b) : evT P φ e ρ h = .ok b h := by
  unfold evT
  rw [he, ok_bind, ht]
  exact gcT_same
theorem nl_is : (("\n" : Str) : Str) = ⟨#[10]⟩ := by decide +kernel
theorem bl_is : (" \n" : Str).cps.toList = [32, 10] := by decide +kernel
theorem in_blank {e : E} {c : Nat} (he : evE P φ e ρ h = .ok (.str ⟨#[c]⟩) h) : evT P φ (.cmp .In e (.cst (.str " \n"))) ρ h = .ok (decide (c = 32 ∨ c = 10)) h := by
  refine evT_ok (v := .bl (decide (c = 32 ∨ c = 10))) ?_ rfl
  rw [evE, he, ok_bind, evE, ok_bind]
  simp only [cmpV]
  rw [bl_is]
  simp [liftO]
theorem is_nl {e : E} {c : Nat} (he : evE P φ e ρ h = .ok (.str ⟨#[c]⟩) h) (hc : c < 0x110000) : evT P φ (.cmp .Eq e (.cst (.str "\n"))) ρ h = .ok (decide (c = 10)) h := by
  refine evT_ok (v := .bl (decide (c = 10))) ?_ rfl
  rw [evE, he, ok_bind, evE, ok_bind]
  simp only [cmpV]
  rw [nl_is, eqV_str (by simp [PyData.strOk, hc]) (by decide +kernel)]
  have : ((⟨#[c]⟩ : Str) == ⟨#[10]⟩) = decide (c = 10) := by
    by_cases h : c = 10
    · subst h
      simp
    · rw [decide_eq_false h]
      simp [h]
  rw [this]
  rfl
theorem ex_M {z : Str} {st : Option Nat} {i c : Nat} (hz : z.length ≤ sizeLine) (hzo : PyData.strOk z = true) (hc : c < 0x110000) (hl : xs.length + 2 < sizeLine) (hx : ∀ v ∈ xs, MkOk v) :
    exS P φ sM [some (.str z), some (.ref h.length), some (bv st), some (.int i), some (.str ⟨#[c]⟩)] (h ++ [.lst xs]) =
      .nxt [some (.str z), some (.ref h.length), some (bv (mstep z (xs, st) i c).2), some (.int i), some (.str ⟨#[c]⟩)] (h ++ [.lst (mstep z (xs, st) i c).1]) := by
  have fa : ∀ {ys : List Val} {v : Val}, (∀ v ∈ ys, MkOk v) → MkOk v → Val.fits (h.length + 1) (ys ++ [v]) = true := fun hy hv => fits_of fun w hw => by
    rcases List.mem_append.mp hw with hw | hw
    · exact (hy w hw).fit
    · rw [List.mem_singleton.mp hw]
      exact hv.fit
  have ev4 : ∀ (b : Val) (H : AH), evE P φ (.var 4) [some (.str z), some (.ref h.length), some b, some (.int i), some (.str ⟨#[c]⟩)] H = .ok (.str ⟨#[c]⟩) H := fun b H => rfl
  unfold sM
  rw [exS, in_blank (ev4 _ _), ok_stm]
  by_cases hb : c = 32 ∨ c = 10
  · rw [if_pos (decide_eq_true hb)]
    -- the word ends
    have s1 : exS P φ sA1 [some (.str z), some (.ref h.length), some (bv st), some (.int i), some (.str ⟨#[c]⟩)] (h ++ [.lst xs]) = .nxt [some (.str z), some (.ref h.length), some (bv st), some (.int i), some (.str ⟨#[c]⟩)] (h ++ [.lst (match st with
        | some b => xs ++ [mark b (cutS z (some b) (some i))]
        | none => xs)]) := by
      unfold sA1
      cases st with
      | none =>
        have t : evT P φ (.cmp .IsNot (.var 2) (.cst .non)) [some (.str z), some (.ref h.length), some (bv none), some (.int i), some (.str ⟨#[c]⟩)] (h ++ [.lst xs]) = .ok false (h ++ [.lst xs]) := evT_ok (v := .bl false) rfl rfl
        rw [exS, t, ok_stm]
        rfl
      | some b =>
        have t : evT P φ (.cmp .IsNot (.var 2) (.cst .non)) [some (.str z), some (.ref h.length), some (bv (some b)), some (.int i), some (.str ⟨#[c]⟩)] (h ++ [.lst xs]) = .ok true (h ++ [.lst xs]) := evT_ok (v := .bl true) rfl rfl
        have v : evE P φ (.tup (.cons (.var 2) (.cons (.sl (.var 0) (.var 2) (.var 3)) .nil))) [some (.str z), some (.ref h.length), some (bv (some b)), some (.int i), some (.str ⟨#[c]⟩)] (h ++ [.lst xs]) = .ok (mark b (cutS z (some b) (some i))) (h ++ [.lst xs]) := by
          simp only [evE, evEs, List.getElem?_cons_zero, List.getElem?_cons_succ, bv, ok_bind, E.isNope, Bool.false_eq_true, if_false, intO, slV, hz, if_true, lift]
          rfl
        rw [exS, t, ok_stm, if_pos rfl, exSs, ex_app rfl v (by omega) (fa hx ⟨_, _, rfl, strOk_cut hzo⟩)]
        rfl
    generalize hys : (match st with
        | some b => xs ++ [mark b (cutS z (some b) (some i))]
        | none => xs) = ys at s1
    have hy : ∀ v ∈ ys, MkOk v := fun v hv => by
      rw [← hys] at hv
      split at hv
      · rcases List.mem_append.mp hv with hv | hv
        · exact hx v hv
        · rw [List.mem_singleton.mp hv]
          exact ⟨_, _, rfl, strOk_cut hzo⟩
      · exact hx v hv
    have ly : ys.length ≤ xs.length + 1 := by
      rw [← hys]
      split <;> simp
    have s2 : exS P φ sA2 [some (.str z), some (.ref h.length), some (bv st), some (.int i), some (.str ⟨#[c]⟩)] (h ++ [.lst ys]) = .nxt [some (.str z), some (.ref h.length), some .non, some (.int i), some (.str ⟨#[c]⟩)] (h ++ [.lst ys]) := by
      unfold sA2
      rw [exS, evE, gcR_same, ok_stm]
      rfl
    have s3 : exS P φ sA3 [some (.str z), some (.ref h.length), some .non, some (.int i), some (.str ⟨#[c]⟩)] (h ++ [.lst ys]) = .nxt [some (.str z), some (.ref h.length), some .non, some (.int i), some (.str ⟨#[c]⟩)] (h ++ [.lst (ys ++ (if c = 10 then [mark i ⟨#[10]⟩] else []))]) := by
      unfold sA3
      rw [exS, is_nl (ev4 _ _) hc, ok_stm]
      by_cases h10 : c = 10
      · subst h10
        have v : evE P φ (.tup (.cons (.var 3) (.cons (.var 4) .nil))) [some (.str z), some (.ref h.length), some .non, some (.int i), some (.str ⟨#[10]⟩)] (h ++ [.lst ys]) = .ok (mark i ⟨#[10]⟩) (h ++ [.lst ys]) := by
          simp only [evE, evEs, List.getElem?_cons_zero, List.getElem?_cons_succ, ok_bind]
          rfl
        rw [if_pos (decide_eq_true rfl), exSs, ex_app rfl v (by omega) (fa hy ⟨_, _, rfl, by decide +kernel⟩)]
        rfl
      · rw [if_neg (by simp [h10]), if_neg h10, List.append_nil]
        rfl
    simp only [exSs, s1, s2, s3]
    simp only [mstep, if_pos hb]
    rw [← hys] <;> rfl
  · rw [if_neg (by simp [hb])]
    simp only [mstep, if_neg hb]
    have s : exS P φ sB [some (.str z), some (.ref h.length), some (bv st), some (.int i), some (.str ⟨#[c]⟩)] (h ++ [.lst xs]) = .nxt [some (.str z), some (.ref h.length), some (bv (some (st.getD i))), some (.int i), some (.str ⟨#[c]⟩)] (h ++ [.lst xs]) := by
      unfold sB
      cases st with
      | none =>
        have t : evT P φ (.cmp .Is (.var 2) (.cst .non)) [some (.str z), some (.ref h.length), some (bv none), some (.int i), some (.str ⟨#[c]⟩)] (h ++ [.lst xs]) = .ok true (h ++ [.lst xs]) := evT_ok (v := .bl true) rfl rfl
        rw [exS, t, ok_stm, if_pos rfl, exSs, exS]
        rw [show evE P φ (.var 3) [some (.str z), some (.ref h.length), some (bv none), some (.int i), some (.str ⟨#[c]⟩)] (h ++ [.lst xs]) = .ok (.int i) (h ++ [.lst xs]) from rfl, gcR_same, ok_stm]
        rfl
      | some b =>
        have t : evT P φ (.cmp .Is (.var 2) (.cst .non)) [some (.str z), some (.ref h.length), some (bv (some b)), some (.int i), some (.str ⟨#[c]⟩)] (h ++ [.lst xs]) = .ok false (h ++ [.lst xs]) := evT_ok (v := .bl false) rfl rfl
        rw [exS, t, ok_stm]
        rfl
    simp only [exSs, s]
end
end K01M
set_option Elab.async false
set_option linter.all false
set_option maxRecDepth 100000
set_option maxHeartbeats 1000000
namespace K01M
open PySem MP
open L2 (cutS)
def marks (z : Str) : List Val := (mst z (z.cps.toList ++ [32]) (z.cps.toList.length + 1)).1
section
variable {P : Prg} {φ : Nat → List Val → AH → Res Val} {ρ : Slots} {h : AH} {xs : List Val} {z : Str}
theorem stepF_eq {tg : List Nat} {f : Slots → AH → SR} {x : Val} {ρ ρ' : Slots} {h : AH} (e : asg h x tg ρ = some ρ') : stepF tg f x ρ h = f ρ' h := by unfold stepF; rw [e]
theorem app_sp : (z ++ (" " : Str)).cps.toList = z.cps.toList ++ [32] := by
  show (z.cps ++ (" " : Str).cps).toList = _
  rw [Array.toList_append]
  have : (" " : Str).cps.toList = [32] := by decide +kernel
  rw [this]
theorem mst_succ {cs : List Nat} {i c : Nat} (e : cs[i]? = some c) : mst z cs (i + 1) = mstep z (mst z cs i) i c := by
  simp only [mst, e]
theorem ok_sign (hzo : PyData.strOk z = true) {c : Nat} (hc : c ∈ z.cps.toList) : c < 0x110000 := by
  unfold PyData.strOk at hzo
  rw [Array.all_eq_true_iff_forall_mem] at hzo
  have := hzo c (by simpa using hc)
  simpa using this
theorem marks_ok {i k : Nat} (e : P.fns[i]? = some fdMarks) (hz : z.length ≤ 4000) (hzo : PyData.strOk z = true) : runF P (k + 1) i [.str z] h = .ok (.tup (marks z)) h := by
  have hz' : z.length ≤ sizeLine := by rw [PySem.sizeLine_eq]; omega
  have lz : z.cps.toList.length = z.length := Array.length_toList
  let cs := z.cps.toList ++ [32]
  have csl : cs.length = z.cps.toList.length + 1 := by simp [cs]
  have cok : ∀ c ∈ cs, c < 0x110000 := fun c hc => by
    rcases List.mem_append.mp hc with hc | hc
    · exact ok_sign hzo hc
    · rw [List.mem_singleton.mp hc]
      decide
  let vs : List Val := cs.zipIdx.map fun p => .tup [.int p.2, .str ⟨#[p.1]⟩]
  have vat : ∀ (j : Nat) v, vs[j]? = some v → ∃ c, cs[j]? = some c ∧ v = .tup [.int j, .str ⟨#[c]⟩] := fun j v q => by
    simp only [vs, List.getElem?_map, List.getElem?_zipIdx, Option.map_map, Option.map_eq_some_iff] at q
    obtain ⟨c, hc, rfl⟩ := q
    exact ⟨c, hc, by simp⟩
  have vl : vs.length = cs.length := by simp [vs]
  -- the walk
  have w := loop_inv (s := .enm (.its ((z ++ (" " : Str)).cps.toList.map fun c => .str ⟨#[c]⟩))) (step := stepF [3, 4] fun ρ h => exSs P (runF P k) (.cons sM .nil) ρ h) (vs := vs)
    (fun j ρ H => ∃ a b, ρ = [some (.str z), some (.ref h.length), some (bv (mst z cs j).2), a, b] ∧ H = h ++ [.lst (mst z cs j).1])
    (by show (List.map _ _).length = _; rw [List.length_map, app_sp, vl])
    (fun j ρ H v _ q => by
      obtain ⟨c, hc, rfl⟩ := vat j v q
      have hc' : (z.cps.toList ++ [32])[j]? = some c := hc
      simp only [Src.get, List.getElem?_map, app_sp, hc', Option.map_some])
    (fun _ _ _ => rfl)
    (fun j v ρ H q ⟨a, b, hρ, hH⟩ => by
      obtain ⟨c, hc, rfl⟩ := vat j v q
      subst hρ hH
      obtain ⟨m1, m2⟩ := mst_ok (cs := cs) hzo j
      have jl : j < cs.length := (List.getElem?_eq_some_iff.mp hc).1
      refine ⟨[some (.str z), some (.ref h.length), some (bv (mst z cs (j + 1)).2), some (.int j), some (.str ⟨#[c]⟩)], h ++ [.lst (mst z cs (j + 1)).1], .inl ?_, _, _, rfl, rfl⟩
      have as : asg (h ++ [.lst (mst z cs j).1]) (.tup [.int j, .str ⟨#[c]⟩]) [3, 4] [some (.str z), some (.ref h.length), some (bv (mst z cs j).2), a, b] = some [some (.str z), some (.ref h.length), some (bv (mst z cs j).2), some (.int j), some (.str ⟨#[c]⟩)] := rfl
      have st : exSs P (runF P k) (.cons sM .nil) [some (.str z), some (.ref h.length), some (bv (mst z cs j).2), some (.int j), some (.str ⟨#[c]⟩)] (h ++ [.lst (mst z cs j).1]) = .nxt [some (.str z), some (.ref h.length), some (bv (mst z cs (j + 1)).2), some (.int j), some (.str ⟨#[c]⟩)] (h ++ [.lst (mst z cs (j + 1)).1]) := by
        rw [exSs, ex_M hz' hzo (cok c (List.mem_of_getElem? hc)) (by rw [PySem.sizeLine_eq]; omega) m1, mst_succ hc]
        rfl
      exact (stepF_eq as).trans st) (ρ := [some (.str z), some (.ref h.length), some .non, none, none]) (h := h ++ [.lst []]) ⟨none, none, rfl, rfl⟩
  obtain ⟨ρ', h', s2, a, b, rfl, rfl⟩ := w
  have z0 : runF P (k + 1) i [.str z] h = gcR h (bodyR (exSs P (runF P k) fdMarks.body [some (.str z), none, none, none, none] h)) := by
    simp only [runF, e]
    rfl
  have s1 : exS P (runF P k) (.par [1, 2] (.cons (.lst .nil) (.cons (.cst .non) .nil))) [some (.str z), none, none, none, none] h = .nxt [some (.str z), some (.ref h.length), some .non, none, none] (h ++ [.lst []]) := by
    simp only [exS, evEs, evE, ok_bind, newL, List.length_nil, Nat.zero_le, if_true, lift, ok_stm]
    rfl
  have i2 : evI P (runF P k) (.enm (.bin .Add (.var 0) (.cst (.str " ")))) [some (.str z), some (.ref h.length), some .non, none, none] (h ++ [.lst []]) = .ok (.enm (.its ((z ++ (" " : Str)).cps.toList.map fun c => .str ⟨#[c]⟩))) (h ++ [.lst []]) := by
    have hl : z.length + (" " : Str).length ≤ sizeLine := by
      have : (" " : Str).length = 1 := by decide +kernel
      rw [this, PySem.sizeLine_eq]
      omega
    simp only [evI, evE, List.getElem?_cons_zero, ok_bind, binV, hl, if_true, lift, srcOf, Option.map_some, liftO]
  have s2' : exS P (runF P k) (.for_ [3, 4] (.enm (.bin .Add (.var 0) (.cst (.str " ")))) (.cons sM .nil)) [some (.str z), some (.ref h.length), some .non, none, none] (h ++ [.lst []]) = .nxt [some (.str z), some (.ref h.length), some (bv (mst z cs vs.length).2), a, b] (h ++ [.lst (mst z cs vs.length).1]) := by
    rw [exS, i2, ok_stm]
    exact s2
  have g : (h ++ [AObj.lst (mst z cs vs.length).1])[h.length]? = some (.lst (mst z cs vs.length).1) := List.getElem?_concat_length
  have s3 : exS P (runF P k) (.ret (.bt .tuple (.cons (.var 1) .nil))) [some (.str z), some (.ref h.length), some (bv (mst z cs vs.length).2), a, b] (h ++ [.lst (mst z cs vs.length).1]) = .ret (.tup (mst z cs vs.length).1) (h ++ [.lst (mst z cs vs.length).1]) := by
    simp only [exS, evE, evEs, List.getElem?_cons_zero, List.getElem?_cons_succ, ok_bind, btV, seqOf, g, Option.map_some, lift, ok_stm]
  rw [z0]
  simp only [fdMarks, exSs, s1, s2', s3, bodyR]
  have em : (mst z cs vs.length).1 = marks z := by rw [vl, csl]; rfl
  rw [em]
  refine gcR_add ?_
  show Val.fits h.length (marks z) = true
  exact fits_of fun v hv => ((mst_ok (cs := cs) hzo _).1 v hv).fit
end
end K01M
set_option Elab.async false
set_option linter.all false
set_option maxRecDepth 100000
set_option maxHeartbeats 1000000
namespace K01M
open PySem MP
open L2 (cutS)
/-! ## the law's way -/
def eSign : E := .ix (.var 0) (.var 1)
def eM1 : E := .bin .Sub (.cst (.int 0)) (.cst (.int 1))
def lA1 : S := .cond (.cmp .GtE (.var 3) (.cst (.int 0))) (.cons (.expr (.mt .append (.var 2) (.cons (.tup (.cons (.var 3) (.cons (.sl (.var 0) (.var 3) (.var 1)) .nil))) .nil))) .nil) .nil
def lA2 : S := .set 3 eM1
def lA3 : S := .cond (.cmp .Eq eSign (.cst (.str "\n"))) (.cons (.expr (.mt .append (.var 2) (.cons (.tup (.cons (.var 1) (.cons (.cst (.str "\n")) .nil))) .nil))) .nil) .nil
def lB : S := .cond (.cmp .Lt (.var 3) (.cst (.int 0))) (.cons (.set 3 (.var 1)) .nil) .nil
def lM : S := .cond (.cmp .In eSign (.cst (.str " \n"))) (.cons lA1 (.cons lA2 (.cons lA3 .nil))) (.cons lB .nil)
def lF : S := .cond (.cmp .GtE (.var 3) (.cst (.int 0))) (.cons (.expr (.mt .append (.var 2) (.cons (.tup (.cons (.var 3) (.cons (.sl (.var 0) (.var 3) .nope) .nil))) .nil))) .nil) .nil
def fdLMarks : FD := { name := "_law_marks", np := 1, dfl := [], kws := [], N := ["text", "at", "found", "begin"], body :=
  (.cons (.par [2, 3] (.cons (.lst .nil) (.cons eM1 .nil))) (.cons (.for_ [1] (.rng1 (.bt .len (.cons (.var 0) .nil))) (.cons lM .nil)) (.cons lF (.cons (.ret (.var 2)) .nil)))) }
def bi : Option Nat → Val
  | none => .int (-1)
  | some b => .int b
section
variable {P : Prg} {φ : Nat → List Val → AH → Res Val} {ρ : Slots} {h : AH} {xs : List Val} {z : Str}
theorem ev_m1 {H : AH} : evE P φ eM1 ρ H = .ok (.int (-1)) H := by
  simp only [eM1, evE, ok_bind, binV, lift]
  rfl
theorem ge_ok {st : Option Nat} {H : AH} (h3 : ρ[3]? = some (some (bi st))) : evT P φ (.cmp .GtE (.var 3) (.cst (.int 0))) ρ H = .ok st.isSome H := by
  refine evT_ok (v := .bl st.isSome) ?_ rfl
  cases st with
  | none => simp only [evE, h3, ok_bind, bi, cmpV]; rfl
  | some b =>
    simp only [evE, h3, ok_bind, bi, cmpV, Option.map_some, liftO]
    rw [decide_eq_true (Int.natCast_nonneg b)]
    rfl
theorem lt_ok {st : Option Nat} {H : AH} (h3 : ρ[3]? = some (some (bi st))) : evT P φ (.cmp .Lt (.var 3) (.cst (.int 0))) ρ H = .ok st.isNone H := by
  refine evT_ok (v := .bl st.isNone) ?_ rfl
  cases st with
  | none => simp only [evE, h3, ok_bind, bi, cmpV]; rfl
  | some b =>
    simp only [evE, h3, ok_bind, bi, cmpV, Option.map_some, liftO]
    rw [decide_eq_false (by omega)]
    rfl
theorem sign_ok {i c : Nat} {H : AH} (h0 : ρ[0]? = some (some (.str z))) (h1 : ρ[1]? = some (some (.int i))) (hz : z.length ≤ sizeLine) (hc : z.cps.toList[i]? = some c) : evE P φ eSign ρ H = .ok (.str ⟨#[c]⟩) H := by
  have hi : i < z.cps.toList.length := (List.getElem?_eq_some_iff.mp hc).1
  have a : L2.atI z.cps.toList (i : Int) = some c := by
    simp only [L2.atI, L2.ixN]
    rw [if_pos (Int.natCast_nonneg i), if_pos (Int.ofNat_lt.mpr hi), Int.toNat_natCast]
    exact hc
  simp only [eSign, evE, h0, h1, ok_bind, ixV, hz, if_true, a, Option.map_some, liftO]
theorem fa {n : Nat} {ys : List Val} {v : Val} (hy : ∀ v ∈ ys, MkOk v) (hv : MkOk v) : Val.fits n (ys ++ [v]) = true := fits_of fun w hw => by
  rcases List.mem_append.mp hw with hw | hw
  · exact (hy w hw).fit
  · rw [List.mem_singleton.mp hw]
    exact hv.fit
theorem ex_lM {st : Option Nat} {i c : Nat} (hz : z.length ≤ sizeLine) (hzo : PyData.strOk z = true) (hc : z.cps.toList[i]? = some c) (hl : xs.length + 2 < sizeLine) (hx : ∀ v ∈ xs, MkOk v) :
    exS P φ lM [some (.str z), some (.int i), some (.ref h.length), some (bi st)] (h ++ [.lst xs]) = .nxt [some (.str z), some (.int i), some (.ref h.length), some (bi (mstep z (xs, st) i c).2)] (h ++ [.lst (mstep z (xs, st) i c).1]) := by
  have cl : c < 0x110000 := ok_sign hzo (List.mem_of_getElem? hc)
  have ev4 : ∀ (b : Val) (H : AH), evE P φ eSign [some (.str z), some (.int i), some (.ref h.length), some b] H = .ok (.str ⟨#[c]⟩) H := fun b H => sign_ok rfl rfl hz hc
  unfold lM
  rw [exS, in_blank (ev4 _ _), ok_stm]
  by_cases hb : c = 32 ∨ c = 10
  · rw [if_pos (decide_eq_true hb)]
    have s1 : exS P φ lA1 [some (.str z), some (.int i), some (.ref h.length), some (bi st)] (h ++ [.lst xs]) = .nxt [some (.str z), some (.int i), some (.ref h.length), some (bi st)] (h ++ [.lst (match st with
        | some b => xs ++ [mark b (cutS z (some b) (some i))]
        | none => xs)]) := by
      unfold lA1
      rw [exS, ge_ok (st := st) rfl, ok_stm]
      cases st with
      | none => rfl
      | some b =>
        have v : evE P φ (.tup (.cons (.var 3) (.cons (.sl (.var 0) (.var 3) (.var 1)) .nil))) [some (.str z), some (.int i), some (.ref h.length), some (bi (some b))] (h ++ [.lst xs]) = .ok (mark b (cutS z (some b) (some i))) (h ++ [.lst xs]) := by
          simp only [evE, evEs, List.getElem?_cons_zero, List.getElem?_cons_succ, bi, ok_bind, E.isNope, Bool.false_eq_true, if_false, intO, slV, hz, if_true, lift]
          rfl
        rw [if_pos (show (some b).isSome = true from rfl), exSs, ex_app rfl v (by omega) (fa hx ⟨_, _, rfl, strOk_cut hzo⟩)]
        rfl
    generalize hys : (match st with
        | some b => xs ++ [mark b (cutS z (some b) (some i))]
        | none => xs) = ys at s1
    have hy : ∀ v ∈ ys, MkOk v := fun v hv => by
      rw [← hys] at hv
      split at hv
      · rcases List.mem_append.mp hv with hv | hv
        · exact hx v hv
        · rw [List.mem_singleton.mp hv]
          exact ⟨_, _, rfl, strOk_cut hzo⟩
      · exact hx v hv
    have ly : ys.length ≤ xs.length + 1 := by
      rw [← hys]
      split <;> simp
    have s2 : exS P φ lA2 [some (.str z), some (.int i), some (.ref h.length), some (bi st)] (h ++ [.lst ys]) = .nxt [some (.str z), some (.int i), some (.ref h.length), some (bi none)] (h ++ [.lst ys]) := by
      unfold lA2
      rw [exS, ev_m1, gcR_same, ok_stm]
      rfl
    have s3 : exS P φ lA3 [some (.str z), some (.int i), some (.ref h.length), some (bi none)] (h ++ [.lst ys]) = .nxt [some (.str z), some (.int i), some (.ref h.length), some (bi none)] (h ++ [.lst (ys ++ (if c = 10 then [mark i ⟨#[10]⟩] else []))]) := by
      unfold lA3
      rw [exS, is_nl (ev4 _ _) cl, ok_stm]
      by_cases h10 : c = 10
      · subst h10
        have v : evE P φ (.tup (.cons (.var 1) (.cons (.cst (.str "\n")) .nil))) [some (.str z), some (.int i), some (.ref h.length), some (bi none)] (h ++ [.lst ys]) = .ok (mark i ⟨#[10]⟩) (h ++ [.lst ys]) := by
          simp only [evE, evEs, List.getElem?_cons_zero, List.getElem?_cons_succ, ok_bind]
          rw [nl_is]
          rfl
        rw [if_pos (decide_eq_true rfl), exSs, ex_app rfl v (by omega) (fa hy ⟨_, _, rfl, by decide +kernel⟩)]
        rfl
      · rw [if_neg (by simp [h10]), if_neg h10, List.append_nil]
        rfl
    simp only [exSs, s1, s2, s3]
    simp only [mstep, if_pos hb]
    rw [← hys] <;> rfl
  · rw [if_neg (by simp [hb])]
    simp only [mstep, if_neg hb]
    have s : exS P φ lB [some (.str z), some (.int i), some (.ref h.length), some (bi st)] (h ++ [.lst xs]) = .nxt [some (.str z), some (.int i), some (.ref h.length), some (bi (some (st.getD i)))] (h ++ [.lst xs]) := by
      unfold lB
      rw [exS, lt_ok (st := st) rfl, ok_stm]
      cases st with
      | none =>
        rw [if_pos (show (none : Option Nat).isNone = true from rfl), exSs, exS]
        rw [show evE P φ (.var 1) [some (.str z), some (.int i), some (.ref h.length), some (bi none)] (h ++ [.lst xs]) = .ok (.int i) (h ++ [.lst xs]) from rfl, gcR_same, ok_stm]
        rfl
      | some b => rfl
    simp only [exSs, s]
theorem mst_pre {cs : List Nat} : ∀ i, i ≤ cs.length → mst z (cs ++ [32]) i = mst z cs i
  | 0, _ => rfl
  | i + 1, h => by
    have hi : i < cs.length := h
    simp only [mst, mst_pre i (Nat.le_of_lt hi), List.getElem?_append_left hi]
theorem lmarks_ok {i k : Nat} (e : P.fns[i]? = some fdLMarks) (hz : z.length ≤ 4000) (hzo : PyData.strOk z = true) : runF P (k + 1) i [.str z] h = .ok (.ref h.length) (h ++ [.lst (marks z)]) := by
  have hz' : z.length ≤ sizeLine := by rw [PySem.sizeLine_eq]; omega
  have lz : z.cps.toList.length = z.length := Array.length_toList
  generalize hcs : z.cps.toList = cs at lz
  have vl : (rngOf 0 1 cs.length).length = cs.length := by simp [rngOf]
  have vat : ∀ (j : Nat) v, (rngOf 0 1 cs.length)[j]? = some v → j < cs.length ∧ v = .int (j : Nat) := fun j v q => by
    obtain ⟨h1, h2⟩ := rng_get q
    exact ⟨h1, by rw [h2]; simp⟩
  have w := loop_inv (s := .its (rngOf 0 1 cs.length)) (step := stepF [1] fun ρ h => exSs P (runF P k) (.cons lM .nil) ρ h) (vs := rngOf 0 1 cs.length)
    (fun j ρ H => ∃ a, ρ = [some (.str z), a, some (.ref h.length), some (bi (mst z cs j).2)] ∧ H = h ++ [.lst (mst z cs j).1])
    rfl (fun j ρ H v _ q => q) (fun _ _ _ => rfl)
    (fun j v ρ H q ⟨a, hρ, hH⟩ => by
      obtain ⟨jl, rfl⟩ := vat j v q
      subst hρ hH
      obtain ⟨m1, m2⟩ := mst_ok (cs := cs) hzo j
      have hc := List.getElem?_eq_getElem jl
      refine ⟨[some (.str z), some (.int j), some (.ref h.length), some (bi (mst z cs (j + 1)).2)], h ++ [.lst (mst z cs (j + 1)).1], .inl ?_, _, rfl, rfl⟩
      have as : asg (h ++ [.lst (mst z cs j).1]) (.int j) [1] [some (.str z), a, some (.ref h.length), some (bi (mst z cs j).2)] = some [some (.str z), some (.int j), some (.ref h.length), some (bi (mst z cs j).2)] := rfl
      have st : exSs P (runF P k) (.cons lM .nil) [some (.str z), some (.int j), some (.ref h.length), some (bi (mst z cs j).2)] (h ++ [.lst (mst z cs j).1]) = .nxt [some (.str z), some (.int j), some (.ref h.length), some (bi (mst z cs (j + 1)).2)] (h ++ [.lst (mst z cs (j + 1)).1]) := by
        rw [exSs, ex_lM hz' hzo (by rw [hcs]; exact hc) (by rw [PySem.sizeLine_eq]; omega) m1, mst_succ hc]
        rfl
      exact (stepF_eq as).trans st) (ρ := [some (.str z), none, some (.ref h.length), some (.int (-1))]) (h := h ++ [.lst []]) ⟨none, rfl, rfl⟩
  obtain ⟨ρ', h', s2, a, rfl, rfl⟩ := w
  rw [vl] at s2
  have z0 : runF P (k + 1) i [.str z] h = gcR h (bodyR (exSs P (runF P k) fdLMarks.body [some (.str z), none, none, none] h)) := by
    simp only [runF, e]
    rfl
  have s1 : exS P (runF P k) (.par [2, 3] (.cons (.lst .nil) (.cons eM1 .nil))) [some (.str z), none, none, none] h = .nxt [some (.str z), none, some (.ref h.length), some (.int (-1))] (h ++ [.lst []]) := by
    simp only [exS, evEs, evE, ok_bind, newL, List.length_nil, Nat.zero_le, if_true, lift, ev_m1, ok_stm]
    rfl
  have i2 : evI P (runF P k) (.rng1 (.bt .len (.cons (.var 0) .nil))) [some (.str z), none, some (.ref h.length), some (.int (-1))] (h ++ [.lst []]) = .ok (.its (rngOf 0 1 cs.length)) (h ++ [.lst []]) := by
    have el : evE P (runF P k) (.bt .len (.cons (.var 0) .nil)) [some (.str z), none, some (.ref h.length), some (.int (-1))] (h ++ [.lst []]) = .ok (.int (z.length : Nat)) (h ++ [.lst []]) := by
      simp only [evE, evEs, List.getElem?_cons_zero, ok_bind, btV, hz', if_true, lift]
    have q := evI_rng1 el (okI_small (by omega))
    rw [Int.toNat_natCast, ← lz] at q
    exact q
  have s2' : exS P (runF P k) (.for_ [1] (.rng1 (.bt .len (.cons (.var 0) .nil))) (.cons lM .nil)) [some (.str z), none, some (.ref h.length), some (.int (-1))] (h ++ [.lst []]) = .nxt [some (.str z), a, some (.ref h.length), some (bi (mst z cs cs.length).2)] (h ++ [.lst (mst z cs cs.length).1]) := by
    rw [exS, i2, ok_stm, show (Src.its (rngOf 0 1 cs.length)).len = (rngOf 0 1 cs.length).length from rfl, vl]
    have s2 := s2
    rw [show (Src.its (rngOf 0 1 cs.length)).len = (rngOf 0 1 cs.length).length from rfl, vl] at s2
    exact s2
  obtain ⟨m1, m2⟩ := mst_ok (cs := cs) hzo cs.length
  have em : marks z = (mstep z (mst z cs cs.length) cs.length 32).1 := by
    unfold marks
    rw [hcs, mst_succ (c := 32) (by rw [List.getElem?_append_right (Nat.le_refl _), Nat.sub_self]; rfl), mst_pre _ (Nat.le_refl _)]
  have mok : ∀ v ∈ marks z, MkOk v := (mst_ok (cs := z.cps.toList ++ [32]) hzo _).1
  have s3 : exS P (runF P k) lF [some (.str z), a, some (.ref h.length), some (bi (mst z cs cs.length).2)] (h ++ [.lst (mst z cs cs.length).1]) = .nxt [some (.str z), a, some (.ref h.length), some (bi (mst z cs cs.length).2)] (h ++ [.lst (marks z)]) := by
    rw [em]
    simp only [mstep, true_or, if_true]
    rw [if_neg (by decide), List.append_nil]
    unfold lF
    rw [exS, ge_ok (st := (mst z cs cs.length).2) rfl, ok_stm]
    cases hst : (mst z cs cs.length).2 with
    | none => rfl
    | some b =>
      have hcut : cutS z (some b) none = cutS z (some b) (some (cs.length : Nat)) := by
        unfold cutS
        rw [HT.sIx_nat, HT.sIx_none, lz, HT.sIx_nat z.length z.length z.length, Nat.min_self]
      have v : evE P (runF P k) (.tup (.cons (.var 3) (.cons (.sl (.var 0) (.var 3) .nope) .nil))) [some (.str z), a, some (.ref h.length), some (bi (some b))] (h ++ [.lst (mst z cs cs.length).1]) = .ok (mark b (cutS z (some b) (some (cs.length : Nat)))) (h ++ [.lst (mst z cs cs.length).1]) := by
        rw [← hcut]
        simp only [evE, evEs, List.getElem?_cons_zero, List.getElem?_cons_succ, bi, ok_bind, E.isNope, Bool.false_eq_true, if_false, intO, slV, hz', if_true, lift]
        rfl
      rw [if_pos (show (some b).isSome = true from rfl), exSs, ex_app rfl v (by rw [PySem.sizeLine_eq]; omega) (fa m1 ⟨_, _, rfl, strOk_cut hzo⟩)]
      rfl
  rw [z0]
  simp only [fdLMarks, exSs, s1, s2', s3]
  rw [exS, evE]
  simp only [List.getElem?_cons_zero, List.getElem?_cons_succ, ok_stm, bodyR]
  refine gcR_obj (Nat.le_refl _) List.getElem?_concat_length ?_
  exact fits_of fun v hv => (mok v hv).fit
end
end K01M
set_option Elab.async false
set_option linter.all false
set_option maxRecDepth 100000
set_option maxHeartbeats 1000000
namespace K01M
open PySem MP
/-! ## drawn texts -/
def eDraw100 : E := .call 2 (.cons (.var 0) (.cons (.cst (.int 100)) .nil))
def ePickC : E := .call 3 (.cons (.var 0) (.cons (.bt .list (.cons (.var 1) .nil)) .nil))
def ePickW : E := .call 3 (.cons (.var 0) (.cons (.lst (.cons (.cst (.str "deal")) (.cons (.cst (.str "0.1")) (.cons (.cst (.str "  ")) (.cons (.cst (.str "\n\n")) (.cons (.cst (.str ".")) .nil)))))) .nil))
def ePick5 : E := .call 3 (.cons (.var 0) (.cons (.lst (.cons (.cst (.str " ")) (.cons (.cst (.str "\n")) (.cons ePickC (.cons ePickC (.cons ePickW .nil)))))) .nil))
def sAdd : S := .set 2 (.bin .Add (.var 2) ePick5)
def signs : Str := " !#$&'()*+,-./0123456789:;<=>?@ABCDEFGHIJKLMNOPQRSTUVWXYZ[]^_`abcdefghijklmnopqrstuvwxyz{|}~"
def fdText : FD := { name := "_law_text", np := 1, dfl := [], kws := [], N := ["heap", "signs", "found", "turn"], body :=
  (.cons (.set 1 (.cst (.str signs))) (.cons (.set 2 (.cst (.str ""))) (.cons (.for_ [3] (.rng1 eDraw100) (.cons sAdd .nil)) (.cons (.ret (.var 2)) .nil)))) }
def Wd (v : Val) : Prop := ∃ x : Str, v = .str x ∧ x.length ≤ 4 ∧ PyData.strOk x = true
theorem Wd.fit {v : Val} {n : Nat} (h : Wd v) : v.fit n = true := by
  obtain ⟨x, rfl, _⟩ := h
  rfl
theorem strOk_app {x y : Str} (hx : PyData.strOk x = true) (hy : PyData.strOk y = true) : PyData.strOk (x ++ y) = true := by
  unfold PyData.strOk at hx hy ⊢
  show (x.cps ++ y.cps).all _ = true
  rw [Array.all_append, hx, hy]
  rfl
theorem len_app {x y : Str} : (x ++ y).length = x.length + y.length := by
  show (x.cps ++ y.cps).size = x.cps.size + y.cps.size
  exact Array.size_append
section
variable {P : Prg} {φ : Nat → List Val → AH → Res Val} {o0 o1 o2 o3 : AObj} {xs ys : List Int} {s s' : Int} {t u : AH} {ρ : Slots} {h : AH}
theorem ev_call {f : Nat} {as : Es} {fd : FD} {vs : List Val} {h1 : AH} {r : Res Val} (e : P.fns[f]? = some fd) (hd : fd.dfl = []) (ha : evEs P φ as ρ h = .ok vs h1) (hn : vs.length = fd.np) (hr : φ f vs h1 = r) : evE P φ (.call f as) ρ h = r := by
  rw [evE, ha, ok_bind, e]
  simp only [hd, List.drop_nil, List.append_nil]
  rw [if_pos hn, hr]
theorem newL_hp {ws : List Val} (hw : ws.length ≤ sizeLine) : newL (hp o0 o1 o2 o3 xs s t) ws = some (.ref (t.length + 6), hp o0 o1 o2 o3 xs s (t ++ [.lst ws])) := by
  unfold newL
  rw [if_pos hw]
  rfl
/-- a pick out of a list just made -/
theorem ev_pick {k : Nat} {e : E} {ws : List Val} (e2 : P.fns[2]? = some fdDraw) (e3 : P.fns[3]? = some (fdPick 2)) (h0 : ρ[0]? = some (some (.ref 5))) (hne : ws ≠ []) (hb : ws.length < 100000) (hw : ∀ v ∈ ws, Wd v) (H : HNum ys s')
    (he : evE P (runF P (k + 2)) e ρ (hp o0 o1 o2 o3 xs s t) = .ok (.ref (u.length + 6)) (hp o0 o1 o2 o3 ys s' (u ++ [.lst ws]))) :
    ∃ v zs s'', HNum zs s'' ∧ Wd v ∧ evE P (runF P (k + 2)) (.call 3 (.cons (.var 0) (.cons e .nil))) ρ (hp o0 o1 o2 o3 xs s t) = .ok v (hp o0 o1 o2 o3 zs s'' (u ++ [.lst ws])) := by
  obtain ⟨v, zs, s'', H', mv, q⟩ := pick_ok (P := P) (i := 3) (j := 2) (k := k) (m := u.length) (t := u ++ [.lst ws]) (vs := ws) (o0 := o0) (o1 := o1) (o2 := o2) (o3 := o3) e3 e2 H List.getElem?_concat_length hne (Nat.lt_trans hb (by decide)) fun v hv => (hw v hv).fit
  refine ⟨v, zs, s'', H', hw v mv, ev_call e3 rfl (vs := [.ref 5, .ref (u.length + 6)]) (h1 := hp o0 o1 o2 o3 ys s' (u ++ [.lst ws])) ?_ rfl q⟩
  simp only [evEs, evE, h0, ok_bind]
  rw [he]
  rfl
theorem ev_pickC {k : Nat} (e2 : P.fns[2]? = some fdDraw) (e3 : P.fns[3]? = some (fdPick 2)) (h0 : ρ[0]? = some (some (.ref 5))) (h1 : ρ[1]? = some (some (.str signs))) (H : HNum xs s) :
    ∃ v zs s'' o, HNum zs s'' ∧ Wd v ∧ evE P (runF P (k + 2)) ePickC ρ (hp o0 o1 o2 o3 xs s t) = .ok v (hp o0 o1 o2 o3 zs s'' (t ++ [o])) := by
  have sl : signs.cps.toList.length = 92 := by decide +kernel
  have sk : signs.cps.toList.all (fun c => decide (c < 0x110000)) = true := by decide +kernel
  have hl : (signs.cps.toList.map fun c => Val.str ⟨#[c]⟩).length = 92 := by rw [List.length_map, sl]
  obtain ⟨v, zs, s'', H', wv, q⟩ := ev_pick (P := P) (k := k) (ρ := ρ) (e := .bt .list (.cons (.var 1) .nil)) (ws := signs.cps.toList.map fun c => Val.str ⟨#[c]⟩) (xs := xs) (s := s) (ys := xs) (s' := s) (t := t) (u := t) (o0 := o0) (o1 := o1) (o2 := o2) (o3 := o3) e2 e3 h0
    (fun z => by rw [z] at hl; cases hl) (by rw [hl]; decide) (fun v hv => by
      obtain ⟨c, hc, rfl⟩ := List.mem_map.mp hv
      have := of_decide_eq_true (List.all_eq_true.mp sk c hc)
      exact ⟨_, rfl, by show 1 ≤ 4; decide, by simp [PyData.strOk, this]⟩) H (by
      simp only [evE, evEs, h1, ok_bind, btV]
      rw [newL_hp (by rw [hl, PySem.sizeLine_eq]; decide)]
      rfl)
  exact ⟨v, zs, s'', _, H', wv, q⟩
theorem ev_pickW {k : Nat} (e2 : P.fns[2]? = some fdDraw) (e3 : P.fns[3]? = some (fdPick 2)) (h0 : ρ[0]? = some (some (.ref 5))) (H : HNum xs s) :
    ∃ v zs s'' o, HNum zs s'' ∧ Wd v ∧ evE P (runF P (k + 2)) ePickW ρ (hp o0 o1 o2 o3 xs s t) = .ok v (hp o0 o1 o2 o3 zs s'' (t ++ [o])) := by
  obtain ⟨v, zs, s'', H', wv, q⟩ := ev_pick (P := P) (k := k) (ρ := ρ) (e := .lst (.cons (.cst (.str "deal")) (.cons (.cst (.str "0.1")) (.cons (.cst (.str "  ")) (.cons (.cst (.str "\n\n")) (.cons (.cst (.str ".")) .nil)))))) (ws := [.str "deal", .str "0.1", .str "  ", .str "\n\n", .str "."]) (xs := xs) (s := s) (ys := xs) (s' := s) (t := t) (u := t) (o0 := o0) (o1 := o1) (o2 := o2) (o3 := o3) e2 e3 h0
    nofun (by decide) (fun v hv => by
      simp only [List.mem_cons, List.not_mem_nil, or_false] at hv
      rcases hv with rfl | rfl | rfl | rfl | rfl <;> exact ⟨_, rfl, by decide +kernel, by decide +kernel⟩) H (by
      simp only [evE, evEs, ok_bind]
      rw [newL_hp (by rw [PySem.sizeLine_eq]; decide)]
      rfl)
  exact ⟨v, zs, s'', _, H', wv, q⟩
theorem ev_pick5 {k : Nat} (e2 : P.fns[2]? = some fdDraw) (e3 : P.fns[3]? = some (fdPick 2)) (h0 : ρ[0]? = some (some (.ref 5))) (h1 : ρ[1]? = some (some (.str signs))) (H : HNum xs s) :
    ∃ v zs s'' u, HNum zs s'' ∧ Wd v ∧ evE P (runF P (k + 2)) ePick5 ρ (hp o0 o1 o2 o3 xs s t) = .ok v (hp o0 o1 o2 o3 zs s'' (t ++ u)) := by
  obtain ⟨v1, x1, s1, p1, H1, w1, q1⟩ := ev_pickC (P := P) (k := k) (o0 := o0) (o1 := o1) (o2 := o2) (o3 := o3) (t := t) e2 e3 h0 h1 H
  obtain ⟨v2, x2, s2, p2, H2, w2, q2⟩ := ev_pickC (P := P) (k := k) (o0 := o0) (o1 := o1) (o2 := o2) (o3 := o3) (t := t ++ [p1]) e2 e3 h0 h1 H1
  obtain ⟨v3, x3, s3, p3, H3, w3, q3⟩ := ev_pickW (P := P) (k := k) (ρ := ρ) (o0 := o0) (o1 := o1) (o2 := o2) (o3 := o3) (t := t ++ [p1] ++ [p2]) e2 e3 h0 H2
  obtain ⟨v, zs, s'', H', wv, q⟩ := ev_pick (P := P) (k := k) (ρ := ρ) (e := .lst (.cons (.cst (.str " ")) (.cons (.cst (.str "\n")) (.cons ePickC (.cons ePickC (.cons ePickW .nil)))))) (ws := [.str " ", .str "\n", v1, v2, v3]) (xs := xs) (s := s) (ys := x3) (s' := s3) (t := t) (u := t ++ [p1] ++ [p2] ++ [p3]) (o0 := o0) (o1 := o1) (o2 := o2) (o3 := o3) e2 e3 h0
    nofun (by show 5 < 100000; decide) (fun v hv => by
      simp only [List.mem_cons, List.not_mem_nil, or_false] at hv
      rcases hv with rfl | rfl | rfl | rfl | rfl
      · exact ⟨_, rfl, by decide +kernel, by decide +kernel⟩
      · exact ⟨_, rfl, by decide +kernel, by decide +kernel⟩
      · exact w1
      · exact w2
      · exact w3) H3 (by
      rw [evE]
      simp only [evEs, evE, ok_bind, q1, q2, q3]
      rw [newL_hp (by rw [PySem.sizeLine_eq]; show 5 ≤ 16777216; decide)]
      rfl)
  exact ⟨v, zs, s'', [p1, p2, p3, .lst [.str " ", .str "\n", v1, v2, v3]], H', wv, by rw [show t ++ [p1, p2, p3, .lst [.str " ", .str "\n", v1, v2, v3]] = t ++ [p1] ++ [p2] ++ [p3] ++ [.lst [.str " ", .str "\n", v1, v2, v3]] by simp]; exact q⟩
theorem text_ok {i k : Nat} (e : P.fns[i]? = some fdText) (e2 : P.fns[2]? = some fdDraw) (e3 : P.fns[3]? = some (fdPick 2)) (H : HNum xs s) :
    ∃ z zs s'', HNum zs s'' ∧ z.length ≤ 400 ∧ PyData.strOk z = true ∧ runF P (k + 3) i [.ref 5] (hp o0 o1 o2 o3 xs s t) = .ok (.str z) (hp o0 o1 o2 o3 zs s'' t) := by
  obtain ⟨d, x1, s1, H1, d0, d1, q1⟩ := draw_ok (P := P) (i := 2) (k := k + 1) (m := 100) (o0 := o0) (o1 := o1) (o2 := o2) (o3 := o3) (t := t) e2 (by decide) (by decide +kernel) H
  have vl : (rngOf 0 1 d.toNat).length = d.toNat := by simp [rngOf]
  have w := loop_inv (s := .its (rngOf 0 1 d.toNat)) (step := stepF [3] fun ρ h => exSs P (runF P (k + 2)) (.cons sAdd .nil) ρ h) (vs := rngOf 0 1 d.toNat)
    (fun j ρ H => ∃ a z ys s', ρ = [some (.ref 5), some (.str signs), some (.str z), a] ∧ H = hp o0 o1 o2 o3 ys s' t ∧ HNum ys s' ∧ z.length ≤ 4 * j ∧ j ≤ d.toNat ∧ PyData.strOk z = true)
    rfl (fun j ρ H v _ q => q) (fun _ _ _ => rfl)
    (fun j v ρ H q ⟨a, z, ys, s', hρ, hH, HN, lz, lj, oz⟩ => by
      obtain ⟨jl, rfl⟩ := rng_get q
      subst hρ hH
      obtain ⟨w, zs, s'', u, H', ⟨x, rfl, lx, ox⟩, qw⟩ := ev_pick5 (P := P) (k := k) (ρ := [some (.ref 5), some (.str signs), some (.str z), some (.int (0 + (j : Nat) * 1))]) (o0 := o0) (o1 := o1) (o2 := o2) (o3 := o3) (t := t) e2 e3 rfl rfl HN
      refine ⟨[some (.ref 5), some (.str signs), some (.str (z ++ x)), some (.int (0 + (j : Nat) * 1))], hp o0 o1 o2 o3 zs s'' t, .inl ?_, some (.int (0 + (j : Nat) * 1)), z ++ x, zs, s'', rfl, rfl, H', by rw [len_app]; omega, by omega, strOk_app oz ox⟩
      have as : asg (hp o0 o1 o2 o3 ys s' t) (.int (0 + (j : Nat) * 1)) [3] [some (.ref 5), some (.str signs), some (.str z), a] = some [some (.ref 5), some (.str signs), some (.str z), some (.int (0 + (j : Nat) * 1))] := rfl
      have ad : evE P (runF P (k + 2)) (.bin .Add (.var 2) ePick5) [some (.ref 5), some (.str signs), some (.str z), some (.int (0 + (j : Nat) * 1))] (hp o0 o1 o2 o3 ys s' t) = .ok (.str (z ++ x)) (hp o0 o1 o2 o3 zs s'' (t ++ u)) := by
        rw [evE, show evE P (runF P (k + 2)) (.var 2) [some (.ref 5), some (.str signs), some (.str z), some (.int (0 + (j : Nat) * 1))] (hp o0 o1 o2 o3 ys s' t) = .ok (.str z) (hp o0 o1 o2 o3 ys s' t) from rfl, ok_bind, qw, ok_bind]
        simp only [binV]
        rw [if_pos (by rw [PySem.sizeLine_eq]; omega)]
        rfl
      have st : exSs P (runF P (k + 2)) (.cons sAdd .nil) [some (.ref 5), some (.str signs), some (.str z), some (.int (0 + (j : Nat) * 1))] (hp o0 o1 o2 o3 ys s' t) = .nxt [some (.ref 5), some (.str signs), some (.str (z ++ x)), some (.int (0 + (j : Nat) * 1))] (hp o0 o1 o2 o3 zs s'' t) := by
        rw [exSs, sAdd, exS, ad, hp_gc rfl, ok_stm]
        rfl
      exact (stepF_eq as).trans st) (ρ := [some (.ref 5), some (.str signs), some (.str ""), none]) (h := hp o0 o1 o2 o3 x1 s1 t) ⟨none, "", x1, s1, rfl, rfl, H1, by decide +kernel, Nat.zero_le _, by decide +kernel⟩
  obtain ⟨ρ', h', s2, a, z, zs, s'', rfl, rfl, H', lz, _, oz⟩ := w
  rw [vl] at lz
  refine ⟨z, zs, s'', H', by omega, oz, ?_⟩
  have z0 : runF P (k + 3) i [.ref 5] (hp o0 o1 o2 o3 xs s t) = gcR (hp o0 o1 o2 o3 xs s t) (bodyR (exSs P (runF P (k + 2)) fdText.body [some (.ref 5), none, none, none] (hp o0 o1 o2 o3 xs s t))) := by
    simp only [runF, e]
    rfl
  have a1 : exS P (runF P (k + 2)) (.set 1 (.cst (.str signs))) [some (.ref 5), none, none, none] (hp o0 o1 o2 o3 xs s t) = .nxt [some (.ref 5), some (.str signs), none, none] (hp o0 o1 o2 o3 xs s t) := by
    rw [exS, evE, gcR_same, ok_stm]
    rfl
  have a2 : exS P (runF P (k + 2)) (.set 2 (.cst (.str ""))) [some (.ref 5), some (.str signs), none, none] (hp o0 o1 o2 o3 xs s t) = .nxt [some (.ref 5), some (.str signs), some (.str ""), none] (hp o0 o1 o2 o3 xs s t) := by
    rw [exS, evE, gcR_same, ok_stm]
    rfl
  have dr : evE P (runF P (k + 2)) eDraw100 [some (.ref 5), some (.str signs), some (.str ""), none] (hp o0 o1 o2 o3 xs s t) = .ok (.int d) (hp o0 o1 o2 o3 x1 s1 t) := ev_call e2 rfl (vs := [.ref 5, .int 100]) (h1 := hp o0 o1 o2 o3 xs s t) rfl rfl q1
  have okd : okI d := by
    have := okI_small (n := d.toNat) (by omega)
    rwa [Int.toNat_of_nonneg d0] at this
  have a3 : exS P (runF P (k + 2)) (.for_ [3] (.rng1 eDraw100) (.cons sAdd .nil)) [some (.ref 5), some (.str signs), some (.str ""), none] (hp o0 o1 o2 o3 xs s t) = .nxt [some (.ref 5), some (.str signs), some (.str z), a] (hp o0 o1 o2 o3 zs s'' t) := by
    rw [exS, evI_rng1 dr okd, ok_stm]
    exact s2
  rw [z0]
  simp only [fdText, exSs, a1, a2, a3]
  rw [exS, evE]
  simp only [List.getElem?_cons_zero, List.getElem?_cons_succ, ok_stm, bodyR]
  exact hp_gc0 rfl
end
end K01M
set_option Elab.async false
set_option linter.all false
set_option maxRecDepth 100000
set_option maxHeartbeats 1000000
namespace K01M
open PySem MP
/-! ## the law -/
theorem same_marks {P : Prg} {k : Nat} {z : Str} {h : AH} (e4 : P.fns[4]? = some (fdSame 4)) (hz : z.length ≤ 4000) (hzo : PyData.strOk z = true) : runF P (k + 3) 4 [.tup (marks z), .tup (marks z)] h = .ok (.bl true) h := by
  obtain ⟨m1, m2⟩ := mst_ok (z := z) (cs := z.cps.toList ++ [32]) hzo (z.cps.toList.length + 1)
  have lz : z.cps.toList.length = z.length := Array.length_toList
  refine same_tup e4 (by show (mst z _ _).1.length < 100000; omega) fun v hv h => ?_
  obtain ⟨i, x, rfl, ox⟩ := m1 v hv
  refine same_tup e4 (by show 2 < 100000; decide) fun w hw h => ?_
  simp only [List.mem_cons, List.not_mem_nil, or_false] at hw
  rcases hw with rfl | rfl
  · exact same_int e4
  · exact same_str e4 ox
def eSame (a b : E) : E := .call 4 (.cons a (.cons b .nil))
def eLaw (j : Nat) : E := .bt .tuple (.cons (.call 5 (.cons (.var j) .nil)) .nil)
def eProg (j : Nat) : E := .call 0 (.cons (.var j) .nil)
def eProgK (j : Nat) : E := .callk 0 .nil (.cons (.var j) .nil) [0]
structure Fns (P : Prg) : Prop where
  f0 : P.fns[0]? = some fdMarks
  f1 : P.fns[1]? = some fdHeap
  f2 : P.fns[2]? = some fdDraw
  f3 : P.fns[3]? = some (fdPick 2)
  f4 : P.fns[4]? = some (fdSame 4)
  f5 : P.fns[5]? = some fdLMarks
  f6 : P.fns[6]? = some fdText
section
variable {P : Prg} {ρ : Slots} {H : AH} {k j : Nat} {z : Str}
theorem ev_prog (F : Fns P) (hj : ρ[j]? = some (some (.str z))) (hz : z.length ≤ 4000) (hzo : PyData.strOk z = true) : evE P (runF P (k + 3)) (eProg j) ρ H = .ok (.tup (marks z)) H :=
  ev_call F.f0 rfl (vs := [.str z]) (h1 := H) (by simp only [evEs, evE, hj, ok_bind]) rfl (marks_ok F.f0 hz hzo)
theorem ev_progK (F : Fns P) (hj : ρ[j]? = some (some (.str z))) (hz : z.length ≤ 4000) (hzo : PyData.strOk z = true) : evE P (runF P (k + 3)) (eProgK j) ρ H = .ok (.tup (marks z)) H := by
  have p : permL [0] (([] : List Val) ++ [.str z]) = some [.str z] := rfl
  simp only [eProgK, evE, evEs, hj, ok_bind]
  rw [p]
  simp only [F.f0]
  rw [if_pos (show [Val.str z].length = fdMarks.np from rfl), marks_ok F.f0 hz hzo]
theorem ev_law (F : Fns P) (hj : ρ[j]? = some (some (.str z))) (hz : z.length ≤ 4000) (hzo : PyData.strOk z = true) : evE P (runF P (k + 3)) (eLaw j) ρ H = .ok (.tup (marks z)) (H ++ [.lst (marks z)]) := by
  have c : evE P (runF P (k + 3)) (.call 5 (.cons (.var j) .nil)) ρ H = .ok (.ref H.length) (H ++ [.lst (marks z)]) :=
    ev_call F.f5 rfl (vs := [.str z]) (h1 := H) (by simp only [evEs, evE, hj, ok_bind]) rfl (lmarks_ok F.f5 hz hzo)
  have g : seqOf (H ++ [.lst (marks z)]) (.ref H.length) = some (marks z) := seq_lst List.getElem?_concat_length
  rw [eLaw, evE, evEs, c, ok_bind, evEs, ok_bind, ok_bind]
  simp only [btV, g, Option.map_some, lift]
theorem ev_same (F : Fns P) {e : E} (hj : ρ[j]? = some (some (.str z))) (hz : z.length ≤ 4000) (hzo : PyData.strOk z = true) (he : evE P (runF P (k + 3)) e ρ H = .ok (.tup (marks z)) H) :
    evE P (runF P (k + 3)) (eSame e (eLaw j)) ρ H = .ok (.bl true) (H ++ [.lst (marks z)]) :=
  ev_call F.f4 rfl (vs := [.tup (marks z), .tup (marks z)]) (h1 := H ++ [.lst (marks z)]) (by rw [evEs, he, ok_bind, evEs, ev_law F hj hz hzo, ok_bind, evEs, ok_bind, ok_bind]) rfl (same_marks F.f4 hz hzo)
end
end K01M
set_option Elab.async false
set_option linter.all false
set_option maxRecDepth 100000
set_option maxHeartbeats 1000000
namespace K01M
open PySem MP
def eBad : E := .or (.not (eSame (eProg 4) (eLaw 4))) (.not (eSame (eProgK 4) (eLaw 4)))
def sText : S := .set 4 (.call 6 (.cons (.var 1) .nil))
def sTurn : S := .cond eBad (.cons (.ret (.cst (.bl false))) .nil) .nil
def eLong : E := .bin .Add (.bin .Mult (.cst (.str "ab ")) (.call 2 (.cons (.var 1) (.cons (.cst (.int 900)) .nil)))) (.cst (.str "\n"))
def eNone (x : Str) : E := .cmp .Eq (.call 0 (.cons (.cst (.str x)) .nil)) (.tup .nil)
def eThree : E := .tup (.cons (.tup (.cons (.cst (.int 0)) (.cons (.cst (.str "a")) .nil))) (.cons (.tup (.cons (.cst (.int 1)) (.cons (.cst (.str "\n")) .nil))) (.cons (.tup (.cons (.cst (.int 2)) (.cons (.cst (.str "b")) .nil))) .nil)))
def eABC : E := .call 4 (.cons (.call 0 (.cons (.cst (.str "a\nb")) .nil)) (.cons eThree .nil))
def fdLaw : FD := { name := "law", np := 1, dfl := [], kws := [], N := ["script", "heap", "turn", "long", "text"], body :=
  (.cons (.set 1 (.call 1 (.cons (.var 0) .nil))) (.cons (.for_ [2] (.rng1 (.cst (.int 12))) (.cons sText (.cons sTurn .nil))) (.cons (.set 3 eLong)
  (.cons (.ret (.and (eSame (eProg 3) (eLaw 3)) (.and (eNone "") (.and (eNone "  ") eABC)))) .nil)))) }
theorem gc_bl {h h1 : AH} {b : Bool} : (gc h (.bl b) h1).1 = .bl b := by
  unfold gc
  split <;> rfl
theorem rep_size (a : Array Nat) : ∀ (m : Nat) (acc : Array Nat), ((List.replicate m a).foldl (· ++ ·) acc).size = acc.size + m * a.size
  | 0, acc => by simp
  | m + 1, acc => by
    rw [List.replicate_succ, List.foldl_cons, rep_size a m, Array.size_append, Nat.succ_mul]
    omega
theorem rep_all (p : Nat → Bool) (a : Array Nat) (ha : a.all p = true) : ∀ (m : Nat) (acc : Array Nat), acc.all p = true → ((List.replicate m a).foldl (· ++ ·) acc).all p = true
  | 0, acc, h => h
  | m + 1, acc, h => by
    rw [List.replicate_succ, List.foldl_cons]
    exact rep_all p a ha m _ (by rw [Array.all_append, h, ha]; rfl)
theorem mul_ok : ∀ n : Nat, n < 900 → MulOk ("ab " : Str) (n : Int) := by decide +kernel
theorem long_ok {n : Nat} (hn : n < 900) : (Txt.mul ("ab " : Str) (n : Int)).length ≤ 2700 ∧ PyData.strOk (Txt.mul ("ab " : Str) (n : Int)) = true := by
  have l3 : ("ab " : Str).cps.size = 3 := by decide +kernel
  have o3 : ("ab " : Str).cps.all (fun c => decide (c < 0x110000)) = true := by decide +kernel
  unfold Txt.mul
  split
  · exact ⟨by decide +kernel, by decide +kernel⟩
  · split
    · exact ⟨by decide +kernel, by decide +kernel⟩
    · refine ⟨?_, rep_all _ _ o3 _ #[] (by simp)⟩
      show ((List.replicate (n : Int).toNat ("ab " : Str).cps).foldl (· ++ ·) #[]).size ≤ 2700
      rw [rep_size, l3, Int.toNat_natCast]
      simp
      omega
section
variable {P : Prg} {o0 o1 o2 o3 : AObj} {xs ys : List Int} {s s' : Int} {t u : AH} {ρ : Slots} {k : Nat} {z : Str}
theorem not_true {φ : Nat → List Val → AH → Res Val} {e : E} {h h1 : AH} (he : evE P φ e ρ h = .ok (.bl true) h1) : evE P φ (.not e) ρ h = .ok (.bl false) h1 := by
  rw [evE, he, ok_bind]
  rfl
theorem ev_bad (F : Fns P) (hj : ρ[4]? = some (some (.str z))) (hz : z.length ≤ 4000) (hzo : PyData.strOk z = true) {H : AH} : evT P (runF P (k + 3)) eBad ρ H = .ok false H := by
  have a1 := not_true (ev_same (k := k) (H := H) F hj hz hzo (ev_prog F hj hz hzo))
  have a2 := not_true (ev_same (k := k) (H := H ++ [.lst (marks z)]) F hj hz hzo (ev_progK F hj hz hzo))
  have a : evE P (runF P (k + 3)) eBad ρ H = .ok (.bl false) (H ++ ([.lst (marks z)] ++ [.lst (marks z)])) := by
    rw [eBad, evE, a1, ok_bind, ← List.append_assoc]
    simp only [truth]
    exact a2
  unfold evT
  rw [a, ok_bind]
  simp only [truth, liftO]
  exact gcT_add
theorem ev_none (F : Fns P) {x : Str} (hm : marks x = []) (hx : x.length ≤ 4000) (ho : PyData.strOk x = true) {H : AH} : evE P (runF P (k + 3)) (eNone x) ρ H = .ok (.bl true) H := by
  have c : evE P (runF P (k + 3)) (.call 0 (.cons (.cst (.str x)) .nil)) ρ H = .ok (.tup (marks x)) H := ev_call F.f0 rfl (vs := [.str x]) (h1 := H) (by simp only [evEs, evE, ok_bind]) rfl (marks_ok F.f0 hx ho)
  have p : toP H 60 (.tup []) = some (.tuple []) := toP_tup (d := 59)
  have q : eqV H (.tup []) (.tup []) = some true := (eqV_of p p rfl rfl).trans rfl
  have tn : evE P (runF P (k + 3)) (.tup .nil) ρ H = .ok (.tup []) H := by
    rw [evE, evEs, ok_bind]
    exact if_pos (Nat.zero_le _)
  rw [eNone, evE, c, ok_bind, tn, ok_bind, hm]
  simp only [cmpV, q, Option.map_some, liftO]
theorem abc_is : Val.tup [.tup [.int 0, .str "a"], .tup [.int 1, .str "\n"], .tup [.int 2, .str "b"]] = .tup (marks "a\nb") := by decide +kernel
theorem ev_abc (F : Fns P) {H : AH} : evE P (runF P (k + 3)) eABC ρ H = .ok (.bl true) H := by
  have hx : ("a\nb" : Str).length ≤ 4000 := by decide +kernel
  have ho : PyData.strOk ("a\nb" : Str) = true := by decide +kernel
  have c : evE P (runF P (k + 3)) (.call 0 (.cons (.cst (.str "a\nb")) .nil)) ρ H = .ok (.tup (marks "a\nb")) H := ev_call F.f0 rfl (vs := [.str "a\nb"]) (h1 := H) (by simp only [evEs, evE, ok_bind]) rfl (marks_ok F.f0 hx ho)
  have tl : ∀ n, n ≤ 3 → n ≤ sizeLine := fun n h => by rw [PySem.sizeLine_eq]; omega
  have tn : evE P (runF P (k + 3)) eThree ρ H = .ok (.tup (marks "a\nb")) H := by
    rw [← abc_is]
    simp only [eThree, evE, evEs, ok_bind, List.length_cons, List.length_nil, tl _ (show 0 + 1 + 1 ≤ 3 by decide), tl _ (show 0 + 1 + 1 + 1 ≤ 3 by decide), if_true]
  exact ev_call F.f4 rfl (vs := [.tup (marks "a\nb"), .tup (marks "a\nb")]) (h1 := H) (by rw [evEs, c, ok_bind, evEs, tn, ok_bind, evEs, ok_bind, ok_bind]) rfl (same_marks F.f4 hx ho)
/-- the law holds by the evaluator -/
theorem law_true (F : Fns P) {i : Nat} (e : P.fns[i]? = some fdLaw) (ns : List Int) (hn : ns.length ≤ 63) : ∃ h', runF P (k + 4) i [.ref 0] [.ro (ns.map Val.int)] = .ok (.bl true) h' := by
  obtain ⟨o1, o2, o3, xs, s, HN, q1⟩ := heap_ok (P := P) (i := 1) (k := k + 2) F.f1 ns hn
  generalize hsc : AObj.ro (ns.map Val.int) = o0 at q1 ⊢
  have z0 : runF P (k + 4) i [.ref 0] [o0] = gcR [o0] (bodyR (exSs P (runF P (k + 3)) fdLaw.body [some (.ref 0), none, none, none, none] [o0])) := by
    simp only [runF, e]
    rfl
  have c1 : evE P (runF P (k + 3)) (.call 1 (.cons (.var 0) .nil)) [some (.ref 0), none, none, none, none] [o0] = .ok (.ref 5) (hp o0 o1 o2 o3 xs s []) := ev_call F.f1 rfl (vs := [.ref 0]) (h1 := [o0]) rfl rfl q1
  have s1 : exS P (runF P (k + 3)) (.set 1 (.call 1 (.cons (.var 0) .nil))) [some (.ref 0), none, none, none, none] [o0] = .nxt [some (.ref 0), some (.ref 5), none, none, none] (hp o0 o1 o2 o3 xs s []) := by
    rw [exS, c1, gcR_keep (by show 1 ≤ 5; decide) hp_5 rfl, ok_stm]
    rfl
  have w := loop_inv (s := .its (rngOf 0 1 12)) (step := stepF [2] fun ρ h => exSs P (runF P (k + 3)) (.cons sText (.cons sTurn .nil)) ρ h) (vs := rngOf 0 1 12)
    (fun j ρ H => ∃ a b xs s, ρ = [some (.ref 0), some (.ref 5), a, none, b] ∧ H = hp o0 o1 o2 o3 xs s [] ∧ HNum xs s)
    rfl (fun j ρ H v _ q => q) (fun _ _ _ => rfl)
    (fun j v ρ H q ⟨a, b, xs, s, hρ, hH, HN⟩ => by
      subst hρ hH
      obtain ⟨z, zs, s'', HZ, lz, oz, qz⟩ := text_ok (P := P) (i := 6) (k := k) (o0 := o0) (o1 := o1) (o2 := o2) (o3 := o3) (t := []) F.f6 F.f2 F.f3 HN
      refine ⟨[some (.ref 0), some (.ref 5), some v, none, some (.str z)], hp o0 o1 o2 o3 zs s'' [], .inl ?_, some v, some (.str z), zs, s'', rfl, rfl, HZ⟩
      have as : asg (hp o0 o1 o2 o3 xs s []) v [2] [some (.ref 0), some (.ref 5), a, none, b] = some [some (.ref 0), some (.ref 5), some v, none, b] := rfl
      have c : evE P (runF P (k + 3)) (.call 6 (.cons (.var 1) .nil)) [some (.ref 0), some (.ref 5), some v, none, b] (hp o0 o1 o2 o3 xs s []) = .ok (.str z) (hp o0 o1 o2 o3 zs s'' []) := ev_call F.f6 rfl (vs := [.ref 5]) (h1 := hp o0 o1 o2 o3 xs s []) rfl rfl qz
      have st : exSs P (runF P (k + 3)) (.cons sText (.cons sTurn .nil)) [some (.ref 0), some (.ref 5), some v, none, b] (hp o0 o1 o2 o3 xs s []) = .nxt [some (.ref 0), some (.ref 5), some v, none, some (.str z)] (hp o0 o1 o2 o3 zs s'' []) := by
        have a1 : exS P (runF P (k + 3)) sText [some (.ref 0), some (.ref 5), some v, none, b] (hp o0 o1 o2 o3 xs s []) = .nxt [some (.ref 0), some (.ref 5), some v, none, some (.str z)] (hp o0 o1 o2 o3 zs s'' []) := by
          rw [sText, exS, c, hp_gc0 rfl, ok_stm]
          rfl
        have a2 : exS P (runF P (k + 3)) sTurn [some (.ref 0), some (.ref 5), some v, none, some (.str z)] (hp o0 o1 o2 o3 zs s'' []) = .nxt [some (.ref 0), some (.ref 5), some v, none, some (.str z)] (hp o0 o1 o2 o3 zs s'' []) := by
          rw [sTurn, exS, ev_bad (z := z) F rfl (by omega) oz, ok_stm]
          rfl
        simp only [exSs, a1, a2]
      exact (stepF_eq as).trans st) (ρ := [some (.ref 0), some (.ref 5), none, none, none]) (h := hp o0 o1 o2 o3 xs s []) ⟨none, none, xs, s, rfl, rfl, HN⟩
  obtain ⟨ρ', h', s2, a, b, xs2, s3, rfl, rfl, H2⟩ := w
  have s2' : exS P (runF P (k + 3)) (.for_ [2] (.rng1 (.cst (.int 12))) (.cons sText (.cons sTurn .nil))) [some (.ref 0), some (.ref 5), none, none, none] (hp o0 o1 o2 o3 xs s []) = .nxt [some (.ref 0), some (.ref 5), a, none, b] (hp o0 o1 o2 o3 xs2 s3 []) := by
    have i2 : evI P (runF P (k + 3)) (.rng1 (.cst (.int 12))) [some (.ref 0), some (.ref 5), none, none, none] (hp o0 o1 o2 o3 xs s []) = .ok (.its (rngOf 0 1 12)) (hp o0 o1 o2 o3 xs s []) := evI_rng1 (j := 12) (by rw [evE]) (okI_small (n := 12) (by decide))
    rw [exS, i2, ok_stm]
    exact s2
  obtain ⟨d, xs3, s4, H3, d0, d1, q3⟩ := draw_ok (P := P) (i := 2) (k := k + 2) (m := 900) (o0 := o0) (o1 := o1) (o2 := o2) (o3 := o3) (t := []) F.f2 (by decide) (by decide +kernel) H2
  obtain ⟨n, rfl⟩ : ∃ n : Nat, d = n := ⟨d.toNat, (Int.toNat_of_nonneg d0).symm⟩
  have hn9 : n < 900 := by omega
  obtain ⟨l1, l2⟩ := long_ok hn9
  have ll : (Txt.mul ("ab " : Str) (n : Int) ++ ("\n" : Str)).length ≤ 4000 := by
    rw [len_app]
    have : ("\n" : Str).length = 1 := by decide +kernel
    omega
  have lo : PyData.strOk (Txt.mul ("ab " : Str) (n : Int) ++ ("\n" : Str)) = true := strOk_app l2 (by decide +kernel)
  have cl : evE P (runF P (k + 3)) eLong [some (.ref 0), some (.ref 5), a, none, b] (hp o0 o1 o2 o3 xs2 s3 []) = .ok (.str (Txt.mul ("ab " : Str) (n : Int) ++ ("\n" : Str))) (hp o0 o1 o2 o3 xs3 s4 []) := by
    have cd : evE P (runF P (k + 3)) (.call 2 (.cons (.var 1) (.cons (.cst (.int 900)) .nil))) [some (.ref 0), some (.ref 5), a, none, b] (hp o0 o1 o2 o3 xs2 s3 []) = .ok (.int n) (hp o0 o1 o2 o3 xs3 s4 []) := ev_call F.f2 rfl (vs := [.ref 5, .int 900]) (h1 := hp o0 o1 o2 o3 xs2 s3 []) rfl rfl q3
    have cm : evE P (runF P (k + 3)) (.bin .Mult (.cst (.str "ab ")) (.call 2 (.cons (.var 1) (.cons (.cst (.int 900)) .nil)))) [some (.ref 0), some (.ref 5), a, none, b] (hp o0 o1 o2 o3 xs2 s3 []) = .ok (.str (Txt.mul ("ab " : Str) (n : Int))) (hp o0 o1 o2 o3 xs3 s4 []) := by
      rw [evE, evE, ok_bind, cd, ok_bind]
      simp only [binV]
      rw [if_pos (mul_ok n hn9)]
      rfl
    rw [eLong, evE, cm, ok_bind, evE, ok_bind]
    simp only [binV]
    rw [if_pos (by rw [PySem.sizeLine_eq, ← len_app]; omega)]
    rfl
  have s5 : exS P (runF P (k + 3)) (.set 3 eLong) [some (.ref 0), some (.ref 5), a, none, b] (hp o0 o1 o2 o3 xs2 s3 []) = .nxt [some (.ref 0), some (.ref 5), a, some (.str (Txt.mul ("ab " : Str) (n : Int) ++ ("\n" : Str))), b] (hp o0 o1 o2 o3 xs3 s4 []) := by
    rw [exS, cl, hp_gc0 rfl, ok_stm]
    rfl
  generalize hlong : Txt.mul ("ab " : Str) (n : Int) ++ ("\n" : Str) = long at ll lo s5
  have r1 : ∀ H, evE P (runF P (k + 3)) (.and (eSame (eProg 3) (eLaw 3)) (.and (eNone "") (.and (eNone "  ") eABC))) [some (.ref 0), some (.ref 5), a, some (.str long), b] H = .ok (.bl true) (H ++ [.lst (marks long)]) := fun H => by
    have b1 := ev_same (k := k) (ρ := [some (.ref 0), some (.ref 5), a, some (.str long), b]) (j := 3) (H := H) F rfl ll lo (ev_prog (j := 3) (z := long) F rfl ll lo)
    have b2 := ev_none (k := k) (ρ := [some (.ref 0), some (.ref 5), a, some (.str long), b]) (H := H ++ [.lst (marks long)]) (x := "") F (by decide +kernel) (by decide +kernel) (by decide +kernel)
    have b3 := ev_none (k := k) (ρ := [some (.ref 0), some (.ref 5), a, some (.str long), b]) (H := H ++ [.lst (marks long)]) (x := "  ") F (by decide +kernel) (by decide +kernel) (by decide +kernel)
    have b4 := ev_abc (k := k) (ρ := [some (.ref 0), some (.ref 5), a, some (.str long), b]) (H := H ++ [.lst (marks long)]) F
    have d3 : evE P (runF P (k + 3)) (.and (eNone "  ") eABC) [some (.ref 0), some (.ref 5), a, some (.str long), b] (H ++ [.lst (marks long)]) = .ok (.bl true) (H ++ [.lst (marks long)]) := by
      rw [evE, b3, ok_bind]
      simp only [truth]
      exact b4
    have d2 : evE P (runF P (k + 3)) (.and (eNone "") (.and (eNone "  ") eABC)) [some (.ref 0), some (.ref 5), a, some (.str long), b] (H ++ [.lst (marks long)]) = .ok (.bl true) (H ++ [.lst (marks long)]) := by
      rw [evE, b2, ok_bind]
      simp only [truth]
      exact d3
    rw [evE, b1, ok_bind]
    simp only [truth]
    exact d2
  have fin : exSs P (runF P (k + 3)) fdLaw.body [some (.ref 0), none, none, none, none] [o0] = .ret (.bl true) (hp o0 o1 o2 o3 xs3 s4 [] ++ [.lst (marks long)]) := by
    simp only [fdLaw, exSs, s1, s2', s5]
    rw [exS, r1, ok_stm]
  refine ⟨(gc [o0] (.bl true) (hp o0 o1 o2 o3 xs3 s4 [] ++ [.lst (marks long)])).2, ?_⟩
  rw [z0, fin]
  show Res.ok (gc _ _ _).1 (gc _ _ _).2 = _
  rw [gc_bl]
end
end K01M
set_option Elab.async false
set_option linter.all false
set_option maxRecDepth 100000
set_option maxHeartbeats 0
namespace K01
open PySem PySem.Spec PyProof.Rows L2 MP
def f_marks_in : FD := { name := "marks_in", np := 1, dfl := [], kws := [(0, ["text"], [0])], N := ["text", "found", "begin", "at", "sign"], body :=
  (.cons (.par [1, 2] (.cons (.lst .nil) (.cons (.cst (.non)) .nil)))
  (.cons (.for_ [3, 4] (.enm (.bin .Add (.var 0) (.cst (.str " ")))) (.cons (.cond (.cmp .In (.var 4) (.cst (.str " \n"))) (.cons (.cond (.cmp .IsNot (.var 2) (.cst (.non))) (.cons (.expr (.mt .append (.var 1) (.cons (.tup (.cons (.var 2) (.cons (.sl (.var 0) (.var 2) (.var 3)) .nil))) .nil)))
  .nil) .nil)
  (.cons (.set 2 (.cst (.non)))
  (.cons (.cond (.cmp .Eq (.var 4) (.cst (.str "\n"))) (.cons (.expr (.mt .append (.var 1) (.cons (.tup (.cons (.var 3) (.cons (.var 4) .nil))) .nil)))
  .nil) .nil)
  .nil))) (.cons (.cond (.cmp .Is (.var 2) (.cst (.non))) (.cons (.set 2 (.var 3))
  .nil) .nil)
  .nil))
  .nil))
  (.cons (.ret (.bt .tuple (.cons (.var 1) .nil)))
  .nil))) }
def f_law_heap : FD := { name := "_law_heap", np := 1, dfl := [], kws := [], N := ["script", "cell", "cells", "stir"], body :=
  (.cons (.par [2, 3] (.cons (.comp [("cell", 1)] [1] (.seq (.sl (.var 0) .nope (.cst (.int 63)))) (.cst (.bl true)) (.bin .Add (.bin .Mult (.cst (.int 2)) (.bt .abs (.cons (.var 1) .nil))) (.bt .int (.cons (.cmp .Lt (.var 1) (.cst (.int 0))) .nil)))) (.cons (.cst (.int 84851)) .nil)))
  (.cons (.for_ [1] (.seq (.var 2)) (.cons (.set 3 (.bin .Mod (.bt .int (.cons (.bin .Add (.bin .Add (.bin .Mult (.var 3) (.cst (.int 69621))) (.bin .Mod (.bt .int (.cons (.var 1) .nil)) (.cst (.int 2147483563)))) (.cst (.int 31))) .nil)) (.cst (.int 2147483647))))
  .nil))
  (.cons (.ret (.lst (.cons (.rev (.comp [("cell", 1)] [1] (.seq (.var 2)) (.cmp .GtE (.var 1) (.bin .Pow (.cst (.int 10)) (.cst (.int 18)))) (.bin .Mod (.bt .int (.cons (.var 1) .nil)) (.bin .Mult (.bin .Mult (.bin .Mult (.bin .Pow (.cst (.int 10)) (.cst (.int 60))) (.bin .Pow (.cst (.int 10)) (.cst (.int 60)))) (.bin .Pow (.cst (.int 10)) (.cst (.int 60)))) (.bin .Pow (.cst (.int 10)) (.cst (.int 60))))))) (.cons (.var 3) .nil))))
  .nil))) }
def f_law_draw : FD := { name := "_law_draw", np := 2, dfl := [], kws := [], N := ["heap", "many", "rest"], body :=
  (.cons (.while_ (.and (.cmp .NotEq (.ix (.var 0) (.cst (.int 0))) (.lst .nil)) (.cmp .Eq (.ix (.ix (.var 0) (.cst (.int 0))) (.neg (.cst (.int 1)))) (.cst (.int 0)))) (.cons (.expr (.mt .pop (.ix (.var 0) (.cst (.int 0))) .nil))
  .nil))
  (.cons (.cond (.cmp .NotEq (.ix (.var 0) (.cst (.int 0))) (.lst .nil)) (.cons (.set 2 (.mt .pop (.ix (.var 0) (.cst (.int 0))) .nil))
  (.cons (.expr (.mt .append (.ix (.var 0) (.cst (.int 0))) (.cons (.bin .FloorDiv (.var 2) (.var 1)) .nil)))
  (.cons (.ret (.bin .Mod (.bt .int (.cons (.var 2) .nil)) (.var 1)))
  .nil))) .nil)
  (.cons (.setIx (.var 0) (.cst (.int 1)) (.bin .Mod (.bt .int (.cons (.bin .Add (.bin .Mult (.ix (.var 0) (.cst (.int 1))) (.cst (.int 48271))) (.cst (.int 17))) .nil)) (.cst (.int 2147483647))))
  (.cons (.ret (.bin .Mod (.bt .int (.cons (.bin .FloorDiv (.ix (.var 0) (.cst (.int 1))) (.cst (.int 32))) .nil)) (.var 1)))
  .nil)))) }
def f_law_pick : FD := { name := "_law_pick", np := 2, dfl := [], kws := [], N := ["heap", "some"], body :=
  (.cons (.ret (.ix (.var 1) (.call 2 (.cons (.var 0) (.cons (.bt .len (.cons (.var 1) .nil)) .nil)))))
  .nil) }
def f_law_same : FD := { name := "_law_same", np := 2, dfl := [], kws := [], N := ["value", "due", "at"], body :=
  (.cons (.cond (.isin (.var 1) [.tuple]) (.cons (.ret (.and (.isin (.var 0) [.tuple]) (.and (.cmp .Eq (.bt .len (.cons (.var 0) .nil)) (.bt .len (.cons (.var 1) .nil))) (.bt .all (.cons (.comp [("at", 2)] [2] (.rng1 (.bt .len (.cons (.var 1) .nil))) (.cst (.bl true)) (.call 4 (.cons (.ix (.var 0) (.var 2)) (.cons (.ix (.var 1) (.var 2)) .nil)))) .nil)))))
  .nil) .nil)
  (.cons (.cond (.or (.cmp .Is (.var 1) (.cst (.non))) (.isin (.var 1) [.str])) (.cons (.ret (.and (.cmp .Eq (.cmp .Is (.var 0) (.cst (.non))) (.cmp .Is (.var 1) (.cst (.non)))) (.and (.cmp .Eq (.isin (.var 0) [.str]) (.isin (.var 1) [.str])) (.cmp .Eq (.var 0) (.var 1)))))
  .nil) .nil)
  (.cons (.ret (.and (.isin (.var 0) [.int]) (.and (.cmp .Eq (.isin (.var 0) [.bool]) (.isin (.var 1) [.bool])) (.cmp .Eq (.var 0) (.var 1)))))
  .nil))) }
def f_law_marks : FD := { name := "_law_marks", np := 1, dfl := [], kws := [], N := ["text", "at", "found", "begin"], body :=
  (.cons (.par [2, 3] (.cons (.lst .nil) (.cons (.bin .Sub (.cst (.int 0)) (.cst (.int 1))) .nil)))
  (.cons (.for_ [1] (.rng1 (.bt .len (.cons (.var 0) .nil))) (.cons (.cond (.cmp .In (.ix (.var 0) (.var 1)) (.cst (.str " \n"))) (.cons (.cond (.cmp .GtE (.var 3) (.cst (.int 0))) (.cons (.expr (.mt .append (.var 2) (.cons (.tup (.cons (.var 3) (.cons (.sl (.var 0) (.var 3) (.var 1)) .nil))) .nil)))
  .nil) .nil)
  (.cons (.set 3 (.bin .Sub (.cst (.int 0)) (.cst (.int 1))))
  (.cons (.cond (.cmp .Eq (.ix (.var 0) (.var 1)) (.cst (.str "\n"))) (.cons (.expr (.mt .append (.var 2) (.cons (.tup (.cons (.var 1) (.cons (.cst (.str "\n")) .nil))) .nil)))
  .nil) .nil)
  .nil))) (.cons (.cond (.cmp .Lt (.var 3) (.cst (.int 0))) (.cons (.set 3 (.var 1))
  .nil) .nil)
  .nil))
  .nil))
  (.cons (.cond (.cmp .GtE (.var 3) (.cst (.int 0))) (.cons (.expr (.mt .append (.var 2) (.cons (.tup (.cons (.var 3) (.cons (.sl (.var 0) (.var 3) .nope) .nil))) .nil)))
  .nil) .nil)
  (.cons (.ret (.var 2))
  .nil)))) }
def f_law_text : FD := { name := "_law_text", np := 1, dfl := [], kws := [], N := ["heap", "signs", "found", "turn"], body :=
  (.cons (.set 1 (.cst (.str " !#$&'()*+,-./0123456789:;<=>?@ABCDEFGHIJKLMNOPQRSTUVWXYZ[]^_`abcdefghijklmnopqrstuvwxyz{|}~")))
  (.cons (.set 2 (.cst (.str "")))
  (.cons (.for_ [3] (.rng1 (.call 2 (.cons (.var 0) (.cons (.cst (.int 100)) .nil)))) (.cons (.set 2 (.bin .Add (.var 2) (.call 3 (.cons (.var 0) (.cons (.lst (.cons (.cst (.str " ")) (.cons (.cst (.str "\n")) (.cons (.call 3 (.cons (.var 0) (.cons (.bt .list (.cons (.var 1) .nil)) .nil))) (.cons (.call 3 (.cons (.var 0) (.cons (.bt .list (.cons (.var 1) .nil)) .nil))) (.cons (.call 3 (.cons (.var 0) (.cons (.lst (.cons (.cst (.str "deal")) (.cons (.cst (.str "0.1")) (.cons (.cst (.str "  ")) (.cons (.cst (.str "\n\n")) (.cons (.cst (.str ".")) .nil)))))) .nil))) .nil)))))) .nil)))))
  .nil))
  (.cons (.ret (.var 2))
  .nil)))) }
def f_law : FD := { name := "law", np := 1, dfl := [], kws := [], N := ["script", "heap", "turn", "long", "text"], body :=
  (.cons (.set 1 (.call 1 (.cons (.var 0) .nil)))
  (.cons (.for_ [2] (.rng1 (.cst (.int 12))) (.cons (.set 4 (.call 6 (.cons (.var 1) .nil)))
  (.cons (.cond (.or (.not (.call 4 (.cons (.call 0 (.cons (.var 4) .nil)) (.cons (.bt .tuple (.cons (.call 5 (.cons (.var 4) .nil)) .nil)) .nil)))) (.not (.call 4 (.cons (.callk 0 .nil (.cons (.var 4) .nil) [0]) (.cons (.bt .tuple (.cons (.call 5 (.cons (.var 4) .nil)) .nil)) .nil))))) (.cons (.ret (.cst (.bl false)))
  .nil) .nil)
  .nil)))
  (.cons (.set 3 (.bin .Add (.bin .Mult (.cst (.str "ab ")) (.call 2 (.cons (.var 1) (.cons (.cst (.int 900)) .nil)))) (.cst (.str "\n"))))
  (.cons (.ret (.and (.call 4 (.cons (.call 0 (.cons (.var 3) .nil)) (.cons (.bt .tuple (.cons (.call 5 (.cons (.var 3) .nil)) .nil)) .nil))) (.and (.cmp .Eq (.call 0 (.cons (.cst (.str "")) .nil)) (.tup .nil)) (.and (.cmp .Eq (.call 0 (.cons (.cst (.str "  ")) .nil)) (.tup .nil)) (.call 4 (.cons (.call 0 (.cons (.cst (.str "a\nb")) .nil)) (.cons (.tup (.cons (.tup (.cons (.cst (.int 0)) (.cons (.cst (.str "a")) .nil))) (.cons (.tup (.cons (.cst (.int 1)) (.cons (.cst (.str "\n")) .nil))) (.cons (.tup (.cons (.cst (.int 2)) (.cons (.cst (.str "b")) .nil))) .nil)))) .nil)))))))
  .nil)))) }
def prg : Prg := { fns := [f_marks_in, f_law_heap, f_law_draw, f_law_pick, f_law_same, f_law_marks, f_law_text, f_law], cs := [] }
/-! ### the text -/
def top (i : Nat) : Stmt := PySem.Challenge.pw_onelearns_k01_marks_of_texts.main.body.getD i (.Pass ⟨0, 0, 0, 0⟩)
abbrev R : PySem.W.OpenRow := PySem.W.OpenLaw.row PySem.Challenge.rw_onelearns_k01_marks_of_texts
def d_f_marks_in : He.DefD := ⟨("marks_in", none), "marks_in", "marks_in", defArgs (top 1), defBody (top 1), defScope (top 1), [], []⟩
def d_f_law_heap : He.DefD := ⟨("_law_heap", none), "_law_heap", "_law_heap", defArgs (top 3), defBody (top 3), defScope (top 3), [], []⟩
def d_f_law_draw : He.DefD := ⟨("_law_draw", none), "_law_draw", "_law_draw", defArgs (top 4), defBody (top 4), defScope (top 4), [], []⟩
def d_f_law_pick : He.DefD := ⟨("_law_pick", none), "_law_pick", "_law_pick", defArgs (top 5), defBody (top 5), defScope (top 5), [], []⟩
def d_f_law_same : He.DefD := ⟨("_law_same", none), "_law_same", "_law_same", defArgs (top 6), defBody (top 6), defScope (top 6), [], []⟩
def d_f_law_marks : He.DefD := ⟨("_law_marks", none), "_law_marks", "_law_marks", defArgs (top 7), defBody (top 7), defScope (top 7), [], []⟩
def d_f_law_text : He.DefD := ⟨("_law_text", none), "_law_text", "_law_text", defArgs (top 8), defBody (top 8), defScope (top 8), [], []⟩
def d_f_law : He.DefD := ⟨("law", none), "law", "law", defArgs (top 9), defBody (top 9), defScope (top 9), [], []⟩
def fn : List He.DefD := [d_f_marks_in, d_f_law_heap, d_f_law_draw, d_f_law_pick, d_f_law_same, d_f_law_marks, d_f_law_text, d_f_law]
def fa : List He.Fa := [.glo "marks_in", .glo "_law_heap", .glo "_law_draw", .glo "_law_pick", .glo "_law_same", .glo "_law_marks", .glo "_law_text", .glo "law", .free "len", .free "int", .free "bool", .free "abs", .free "all", .free "any", .free "sum", .free "min", .free "max", .free "list", .free "tuple", .free "str", .free "dict", .free "set", .free "sorted", .free "isinstance", .free "range", .free "enumerate", .free "zip"]
theorem bl_is : bltns = (["len", "int", "bool", "abs", "all", "any", "sum", "min", "max", "list", "tuple", "str", "dict", "set", "sorted", "isinstance", "range", "enumerate", "zip"] : List Str) := rfl
theorem c_f_marks_in : chkSs prg (defScope (top 1)) f_marks_in.N f_marks_in.body (defBody (top 1)) = true := by decide +kernel
theorem s_f_marks_in : C8.scC f_marks_in.N ["text"] (defScope (top 1)) = true := by decide +kernel
theorem c_f_law_heap : chkSs prg (defScope (top 3)) f_law_heap.N f_law_heap.body (defBody (top 3)) = true := by decide +kernel
theorem s_f_law_heap : C8.scC f_law_heap.N ["script"] (defScope (top 3)) = true := by decide +kernel
theorem c_f_law_draw : chkSs prg (defScope (top 4)) f_law_draw.N f_law_draw.body (defBody (top 4)) = true := by decide +kernel
theorem s_f_law_draw : C8.scC f_law_draw.N ["heap", "many"] (defScope (top 4)) = true := by decide +kernel
theorem c_f_law_pick : chkSs prg (defScope (top 5)) f_law_pick.N f_law_pick.body (defBody (top 5)) = true := by decide +kernel
theorem s_f_law_pick : C8.scC f_law_pick.N ["heap", "some"] (defScope (top 5)) = true := by decide +kernel
theorem c_f_law_same : chkSs prg (defScope (top 6)) f_law_same.N f_law_same.body (defBody (top 6)) = true := by decide +kernel
theorem s_f_law_same : C8.scC f_law_same.N ["value", "due"] (defScope (top 6)) = true := by decide +kernel
theorem c_f_law_marks : chkSs prg (defScope (top 7)) f_law_marks.N f_law_marks.body (defBody (top 7)) = true := by decide +kernel
theorem s_f_law_marks : C8.scC f_law_marks.N ["text"] (defScope (top 7)) = true := by decide +kernel
theorem c_f_law_text : chkSs prg (defScope (top 8)) f_law_text.N f_law_text.body (defBody (top 8)) = true := by decide +kernel
theorem s_f_law_text : C8.scC f_law_text.N ["heap"] (defScope (top 8)) = true := by decide +kernel
theorem c_f_law : chkSs prg (defScope (top 9)) f_law.N f_law.body (defBody (top 9)) = true := by decide +kernel
theorem s_f_law : C8.scC f_law.N ["script"] (defScope (top 9)) = true := by decide +kernel
section
variable {K : PySem.W.Frag} {h : Heap} {mg : Str → Option Value} {C : Cc}
theorem m_f_marks_in (X : K.In h) (G : h.Ns mainGlobals mg) (c : He.SaysD fa fn K) : DefS prg K mg C f_marks_in := by
  obtain ⟨fu, F⟩ := c.def_ 0 (d := d_f_marks_in) rfl
  refine ⟨_, fu, ["text"], ⟨_, _, _, _, _, F, s_f_marks_in, c_f_marks_in⟩, He.glo_ok X G (c.fact 0 (f := .glo "marks_in") rfl), rfl, defs_none (FunD.bindsN (ps := ["text"]) F fun _ _ _ _ _ _ us hl => match us, hl with | [_], _ => rfl), ?_, rfl, fun _ s us hl => FunD.bindsA (ps := ["text"]) F (fun _ _ _ _ _ _ us hl => match us, hl with | [_], _ => rfl) s us hl⟩
  intro n ks perm hm
  simp only [f_marks_in, List.mem_cons, List.not_mem_nil, or_false, Prod.mk.injEq] at hm
  obtain ⟨rfl, rfl, rfl⟩ := hm
  exact kw_of F fun _ _ _ _ _ _ us ws h1 h2 => match us, ws, h1, h2 with | [], [_], _, _ => ⟨_, rfl, rfl⟩
theorem m_f_law_heap (X : K.In h) (G : h.Ns mainGlobals mg) (c : He.SaysD fa fn K) : DefS prg K mg C f_law_heap := by
  obtain ⟨fu, F⟩ := c.def_ 1 (d := d_f_law_heap) rfl
  refine ⟨_, fu, ["script"], ⟨_, _, _, _, _, F, s_f_law_heap, c_f_law_heap⟩, He.glo_ok X G (c.fact 1 (f := .glo "_law_heap") rfl), rfl, defs_none (FunD.bindsN (ps := ["script"]) F fun _ _ _ _ _ _ us hl => match us, hl with | [_], _ => rfl), ?_, rfl, fun _ s us hl => FunD.bindsA (ps := ["script"]) F (fun _ _ _ _ _ _ us hl => match us, hl with | [_], _ => rfl) s us hl⟩
  intro n ks perm hm
  cases hm
theorem m_f_law_draw (X : K.In h) (G : h.Ns mainGlobals mg) (c : He.SaysD fa fn K) : DefS prg K mg C f_law_draw := by
  obtain ⟨fu, F⟩ := c.def_ 2 (d := d_f_law_draw) rfl
  refine ⟨_, fu, ["heap", "many"], ⟨_, _, _, _, _, F, s_f_law_draw, c_f_law_draw⟩, He.glo_ok X G (c.fact 2 (f := .glo "_law_draw") rfl), rfl, defs_none (FunD.bindsN (ps := ["heap", "many"]) F fun _ _ _ _ _ _ us hl => match us, hl with | [_, _], _ => rfl), ?_, rfl, fun _ s us hl => FunD.bindsA (ps := ["heap", "many"]) F (fun _ _ _ _ _ _ us hl => match us, hl with | [_, _], _ => rfl) s us hl⟩
  intro n ks perm hm
  cases hm
theorem m_f_law_pick (X : K.In h) (G : h.Ns mainGlobals mg) (c : He.SaysD fa fn K) : DefS prg K mg C f_law_pick := by
  obtain ⟨fu, F⟩ := c.def_ 3 (d := d_f_law_pick) rfl
  refine ⟨_, fu, ["heap", "some"], ⟨_, _, _, _, _, F, s_f_law_pick, c_f_law_pick⟩, He.glo_ok X G (c.fact 3 (f := .glo "_law_pick") rfl), rfl, defs_none (FunD.bindsN (ps := ["heap", "some"]) F fun _ _ _ _ _ _ us hl => match us, hl with | [_, _], _ => rfl), ?_, rfl, fun _ s us hl => FunD.bindsA (ps := ["heap", "some"]) F (fun _ _ _ _ _ _ us hl => match us, hl with | [_, _], _ => rfl) s us hl⟩
  intro n ks perm hm
  cases hm
theorem m_f_law_same (X : K.In h) (G : h.Ns mainGlobals mg) (c : He.SaysD fa fn K) : DefS prg K mg C f_law_same := by
  obtain ⟨fu, F⟩ := c.def_ 4 (d := d_f_law_same) rfl
  refine ⟨_, fu, ["value", "due"], ⟨_, _, _, _, _, F, s_f_law_same, c_f_law_same⟩, He.glo_ok X G (c.fact 4 (f := .glo "_law_same") rfl), rfl, defs_none (FunD.bindsN (ps := ["value", "due"]) F fun _ _ _ _ _ _ us hl => match us, hl with | [_, _], _ => rfl), ?_, rfl, fun _ s us hl => FunD.bindsA (ps := ["value", "due"]) F (fun _ _ _ _ _ _ us hl => match us, hl with | [_, _], _ => rfl) s us hl⟩
  intro n ks perm hm
  cases hm
theorem m_f_law_marks (X : K.In h) (G : h.Ns mainGlobals mg) (c : He.SaysD fa fn K) : DefS prg K mg C f_law_marks := by
  obtain ⟨fu, F⟩ := c.def_ 5 (d := d_f_law_marks) rfl
  refine ⟨_, fu, ["text"], ⟨_, _, _, _, _, F, s_f_law_marks, c_f_law_marks⟩, He.glo_ok X G (c.fact 5 (f := .glo "_law_marks") rfl), rfl, defs_none (FunD.bindsN (ps := ["text"]) F fun _ _ _ _ _ _ us hl => match us, hl with | [_], _ => rfl), ?_, rfl, fun _ s us hl => FunD.bindsA (ps := ["text"]) F (fun _ _ _ _ _ _ us hl => match us, hl with | [_], _ => rfl) s us hl⟩
  intro n ks perm hm
  cases hm
theorem m_f_law_text (X : K.In h) (G : h.Ns mainGlobals mg) (c : He.SaysD fa fn K) : DefS prg K mg C f_law_text := by
  obtain ⟨fu, F⟩ := c.def_ 6 (d := d_f_law_text) rfl
  refine ⟨_, fu, ["heap"], ⟨_, _, _, _, _, F, s_f_law_text, c_f_law_text⟩, He.glo_ok X G (c.fact 6 (f := .glo "_law_text") rfl), rfl, defs_none (FunD.bindsN (ps := ["heap"]) F fun _ _ _ _ _ _ us hl => match us, hl with | [_], _ => rfl), ?_, rfl, fun _ s us hl => FunD.bindsA (ps := ["heap"]) F (fun _ _ _ _ _ _ us hl => match us, hl with | [_], _ => rfl) s us hl⟩
  intro n ks perm hm
  cases hm
theorem m_f_law (X : K.In h) (G : h.Ns mainGlobals mg) (c : He.SaysD fa fn K) : DefS prg K mg C f_law := by
  obtain ⟨fu, F⟩ := c.def_ 7 (d := d_f_law) rfl
  refine ⟨_, fu, ["script"], ⟨_, _, _, _, _, F, s_f_law, c_f_law⟩, He.glo_ok X G (c.fact 7 (f := .glo "law") rfl), rfl, defs_none (FunD.bindsN (ps := ["script"]) F fun _ _ _ _ _ _ us hl => match us, hl with | [_], _ => rfl), ?_, rfl, fun _ s us hl => FunD.bindsA (ps := ["script"]) F (fun _ _ _ _ _ _ us hl => match us, hl with | [_], _ => rfl) s us hl⟩
  intro n ks perm hm
  cases hm
theorem all_defs (X : K.In h) (G : h.Ns mainGlobals mg) (c : He.SaysD fa fn K) : ∀ (f : Nat) fd, prg.fns[f]? = some fd → DefS prg K mg C fd := fun f fd e => by
  match f, e with
  | 0, e => cases e; exact m_f_marks_in X G c
  | 1, e => cases e; exact m_f_law_heap X G c
  | 2, e => cases e; exact m_f_law_draw X G c
  | 3, e => cases e; exact m_f_law_pick X G c
  | 4, e => cases e; exact m_f_law_same X G c
  | 5, e => cases e; exact m_f_law_marks X G c
  | 6, e => cases e; exact m_f_law_text X G c
  | 7, e => cases e; exact m_f_law X G c
  | f + 8, e => exact nomatch (show none = some fd from e)
theorem all_free (X : K.In h) (G : h.Ns mainGlobals mg) (c : He.SaysD fa fn K) : ∀ x ∈ bltns, mg x = none := fun x hx => by
  rw [bl_is] at hx
  simp only [List.mem_cons, List.not_mem_nil, or_false] at hx
  rcases hx with rfl | rfl | rfl | rfl | rfl | rfl | rfl | rfl | rfl | rfl | rfl | rfl | rfl | rfl | rfl | rfl | rfl | rfl | rfl
  · exact He.free_ok X G (c.fact 8 (f := .free "len") rfl)
  · exact He.free_ok X G (c.fact 9 (f := .free "int") rfl)
  · exact He.free_ok X G (c.fact 10 (f := .free "bool") rfl)
  · exact He.free_ok X G (c.fact 11 (f := .free "abs") rfl)
  · exact He.free_ok X G (c.fact 12 (f := .free "all") rfl)
  · exact He.free_ok X G (c.fact 13 (f := .free "any") rfl)
  · exact He.free_ok X G (c.fact 14 (f := .free "sum") rfl)
  · exact He.free_ok X G (c.fact 15 (f := .free "min") rfl)
  · exact He.free_ok X G (c.fact 16 (f := .free "max") rfl)
  · exact He.free_ok X G (c.fact 17 (f := .free "list") rfl)
  · exact He.free_ok X G (c.fact 18 (f := .free "tuple") rfl)
  · exact He.free_ok X G (c.fact 19 (f := .free "str") rfl)
  · exact He.free_ok X G (c.fact 20 (f := .free "dict") rfl)
  · exact He.free_ok X G (c.fact 21 (f := .free "set") rfl)
  · exact He.free_ok X G (c.fact 22 (f := .free "sorted") rfl)
  · exact He.free_ok X G (c.fact 23 (f := .free "isinstance") rfl)
  · exact He.free_ok X G (c.fact 24 (f := .free "range") rfl)
  · exact He.free_ok X G (c.fact 25 (f := .free "enumerate") rfl)
  · exact He.free_ok X G (c.fact 26 (f := .free "zip") rfl)
theorem all_cs : ∀ (i : Nat) (c : Str × Val), prg.cs[i]? = some c → ∃ y u, mg c.1 = some u ∧ RelV y u ∧ ∀ M n H, Rep C.K M n H c.2 y := fun i c e => nomatch (show none = some c from e)
end
/-! ### the head -/
abbrev hk : PySem.W.Hook := He.hookD 4 fa fn
def ob (s : PySem.W.SharedT) : He.AlD := He.obsDG 4 fa fn (HandSHeadRun.getT s)
theorem ob_eq (s : PySem.W.SharedT) : ob s = hk.obs s.abs := He.obsDG_eq (HandSHeadRun.getT_eq s)
theorem run (w : World) : HandSHeadRun.RunEq R (PySem.W.view R.prog [9]) hk ob 400 ["marks_in", "_law_heap", "_law_draw", "_law_pick", "_law_same", "_law_marks", "_law_text"] w := by
  intro os
  kernel_rfl
end K01
open PySem PySem.W PySem.Calls PyProof.Rows
theorem K01.holds_of (plain : ∀ ns : List Int, ns.length ≤ 63 → ∃ h', MP.runF K01.prg 40 7 [.ref 0] [.ro (ns.map MP.Val.int)] = .ok (.bl true) h') : PySem.Challenge.rw_onelearns_k01_marks_of_texts.Holds := by
  w_on; o_law
  refine HandSHeadRun.head_any (r := OpenLaw.row PySem.Challenge.rw_onelearns_k01_marks_of_texts) (q := view (OpenLaw.row PySem.Challenge.rw_onelearns_k01_marks_of_texts).prog [9]) (H := K01.hk) (ob := K01.ob) (M := 400) (loose := ["marks_in", "_law_heap", "_law_draw", "_law_pick", "_law_same", "_law_marks", "_law_text"]) (d := HandSHeadRun.topDef (OpenLaw.row PySem.Challenge.rw_onelearns_k01_marks_of_texts).prog 9) (kwd := []) K01.ob_eq
    (by kernel_rfl) (fun s => by kernel_rfl) K01.run (by kernel_rfl) (by kernel_rfl) (by kernel_rfl) (by rfl) (by first | assumption | decide +kernel) (by decide +kernel) ⟨rfl, rfl, rfl, rfl, rfl, by decide +kernel⟩ ?hw ?hc
  case hw => w_witness2
  case hc =>
    refine L2.walk_ofE (l := PySem.Challenge.rw_onelearns_k01_marks_of_texts) (n := 63) (k := 40) (x := "script") (CX := L2.CX0) rfl (by decide) (by kernel_rfl) ⟨rfl, by decide, by decide⟩ ?F (fun _ _ _ _ z => z)
    intro w mg fa h Y G hmg0
    obtain ⟨K, KX, c⟩ := Y
    have hmg : mg ("law" : PySem.Str) = some (.ref fa) := by
      have e : (HandSHeadRun.topDef (OpenLaw.row PySem.Challenge.rw_onelearns_k01_marks_of_texts).prog 9).name = ("law" : PySem.Str) := by kernel_rfl
      rw [← e]
      exact hmg0
    exact MP.law_all (C := ⟨K, [], fun _ => 0⟩) (P := K01.prg) (f := 7) (fd := K01.f_law) (k := 39) rfl rfl rfl rfl rfl rfl rfl KX hmg (K01.all_free KX G c) K01.all_cs (K01.all_defs KX G c) plain
theorem K01.fns : K01M.Fns K01.prg := ⟨rfl, rfl, rfl, rfl, rfl, rfl, rfl⟩
theorem PySem.Challenge.cw_onelearns_k01_marks_of_texts_holds : PySem.Challenge.rw_onelearns_k01_marks_of_texts.Holds :=
  K01.holds_of fun ns hn => K01M.law_true (k := 36) K01.fns (i := 7) rfl ns hn
