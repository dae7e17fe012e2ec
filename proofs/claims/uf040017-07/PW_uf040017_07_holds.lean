import PyProof.Rows.All
import Wide.All
import Open.Line
import OpenK.KWalk
import OpenK.KMore
import OpenK.KDescr
import KE.LcTurns
import KE.IntBitsLaws
import Wide.FinOn
import PySem.Challenge.RW_uf040017_07
set_option autoImplicit false
set_option linter.unusedVariables false
set_option linter.unusedSimpArgs false
set_option Elab.async false
set_option genSizeOf false
set_option genInjectivity false
namespace TC
open PySem PySem.W PyProof.Rows

/-! A small language beside the model's: its values, its texts, what holds behind a run of them. -/

mutual
/-- no list and no dict within -/
noncomputable def flat : PyData → Bool
  | .list _ => false
  | .dict _ => false
  | .tuple xs => flats xs
  | _ => true
noncomputable def flats : List PyData → Bool
  | [] => true
  | x :: xs => flat x && flats xs
end

/-- what a name may hold: plain data; a list or dict of the frame's own; data that may be read, not kept; lists of ints within a list, all of them new (o: all of them the frame's own); a caught exception; a range from 0 -/
inductive V where
  | d (x : PyData)
  | own (x : PyData)
  | brw (x : PyData)
  | ot (x y : PyData)
  | exc (c : Nat)
  | rg (n : Int)

noncomputable def got {α : Type} (o : Option α) (K : α → Prop) : Prop :=
  match o with
  | some a => K a
  | none => False
theorem got_elim {α : Type} {o : Option α} {K : α → Prop} {P : Prop} (w : got o K) (h : ∀ a, o = some a → K a → P) : P := by
  cases o with
  | none => exact w.elim
  | some a => exact h a rfl w
noncomputable def guardO {α : Type} (p : Prop) [Decidable p] (a : α) : Option α := if p then some a else none
theorem guardO_of {α : Type} {p : Prop} [Decidable p] {a : α} (h : p) : guardO p a = some a := if_pos h

noncomputable def rd : V → Option PyData
  | .d x => some x
  | .own x => some x
  | .brw x => some x
  | _ => none
/-- may be kept as plain data -/
noncomputable def kp : V → Option PyData
  | .d x => some x
  | .own x => some x
  | .brw x => guardO (flat x = true) x
  | _ => none
noncomputable def low (y : PyData) : V := cond (flat y) (.d y) (.brw y)
/-- lists of ints within a list -/
noncomputable def lists (xss : List (List Int)) : PyData := .list (xss.map fun t => .list (t.map .int))
/-- a name read -/
noncomputable def nmV : V → V
  | .own x => .brw x
  | .ot _ _ => .brw .none
  | .brw x => low x
  | v => v
/-- handed to a def -/
noncomputable def argV : V → Option V
  | .own x => some (.d x)
  | .ot _ _ => none
  | .rg _ => none
  | v => some v
noncomputable def retV : V → Option V
  | .own x => some (.own x)
  | v => (kp v).map .d
noncomputable def retO : V → Option V
  | .ot x y => some (.ot x y)
  | v => retV v
noncomputable def keepV (o : Bool) (v : V) : Option V := cond o (retV v) ((kp v).map .d)

theorem lim_some : ∃ n : Nat, n = 1000000 := ⟨1000000, rfl⟩
/-- a million -/
noncomputable def lim : Nat := Classical.choose lim_some
theorem lim_eq : lim = 1000000 := Classical.choose_spec lim_some

noncomputable def idxD (xs : List PyData) (i : Int) : Option PyData :=
  if 0 ≤ i ∧ i < lim then xs[i.toNat]? else if i < 0 ∧ -(xs.length : Int) ≤ i ∧ xs.length < lim then xs[(xs.length + i).toNat]? else none
noncomputable def seqOf : PyData → Option (List PyData)
  | .list xs => some xs
  | .tuple xs => some xs
  | _ => none
noncomputable def tupleOf : PyData → Option (List PyData)
  | .tuple xs => some xs
  | _ => none
noncomputable def listOf : PyData → Option (List PyData)
  | .list xs => some xs
  | _ => none
noncomputable def idxV (v : V) (i : Int) : Option V :=
  match v with
  | .ot x _ => guardO (i = 0) (.own x)
  | .brw x => ((seqOf x).bind (idxD · i)).map low
  | .d x => ((seqOf x).bind (idxD · i)).map .d
  | .own x => ((seqOf x).bind (idxD · i)).map .d
  | _ => none
/-- the parts of a list, such that a new list may hold them -/
noncomputable def lsV : V → Option (List PyData)
  | .d x => listOf x
  | .own x => listOf x
  | .brw x => (listOf x).bind fun xs => guardO (flats xs = true) xs
  | _ => none
noncomputable def rangeL (n : Int) : List Int := (List.range n.toNat).map fun (i : Nat) => (i : Int)
/-- what a loop takes -/
noncomputable def itemsV (hm : Bool) (v : V) : Option (List V) :=
  match v with
  | .brw x => (seqOf x).map (·.map low)
  | .d x => (seqOf x).map (·.map .d)
  | .own x => (seqOf x).map (·.map .d)
  | .rg n => cond hm none (some ((rangeL n).map fun i => .d (.int i)))
  | _ => none
noncomputable def partsV (v : V) (n : Nat) : Option (List V) :=
  match v with
  | .d (.tuple xs) => guardO (xs.length = n) (xs.map .d)
  | .brw (.tuple xs) => guardO (xs.length = n) (xs.map low)
  | _ => none

noncomputable def intOf : PyData → Option Int
  | .int i => some i
  | _ => none
noncomputable def boolOf : PyData → Option Bool
  | .bool b => some b
  | _ => none
noncomputable def allOf {α : Type} (f : PyData → Option α) : List PyData → Option (List α)
  | [] => some []
  | x :: r => (f x).bind fun a => (allOf f r).map (a :: ·)
noncomputable def ofInts (xs : List Int) : List PyData := xs.map .int
noncomputable def ofTups (xs : List (List Int)) : List PyData := xs.map fun t => .tuple (ofInts t)
noncomputable def tupOf : PyData → Option (List Int)
  | .tuple xs => allOf intOf xs
  | _ => none
noncomputable def intV : V → Option Int
  | .d x => intOf x
  | _ => none
noncomputable def boolV : V → Option Bool
  | .d x => boolOf x
  | _ => none

inductive Op where
  | add | sub | mul | fdiv | mod | eq | ne | lt | le | gt | ge | isin | notin

/-- an operation on two ints, what it asks said ahead -/
noncomputable def numW (o : Op) (a b : Int) (K : V → Prop) : Prop :=
  match o with
  | .add => K (.d (.int (a + b)))
  | .sub => K (.d (.int (a - b)))
  | .mul => IntMulOk a b ∧ K (.d (.int (a * b)))
  | .fdiv => (b ≠ 0 ∧ b.natAbs < 1073741824) ∧ K (.d (.int (a.fdiv b)))
  | .mod => b ≠ 0 ∧ K (.d (.int (a.fmod b)))
  | .lt => K (.d (.bool (decide (a < b))))
  | .le => K (.d (.bool (decide (a ≤ b))))
  | .gt => K (.d (.bool (decide (b < a))))
  | .ge => K (.d (.bool (decide (b ≤ a))))
  | .eq => K (.d (.bool (decide (a = b))))
  | .ne => K (.d (.bool (!decide (a = b))))
  | _ => False
noncomputable def shp (x : PyData) : Prop := SeqAt.shaped x = true
/-- the keys of a table: ints, or tuples of ints -/
noncomputable def tabI (kvs : List (PyData × PyData)) : Option (List Int) := allOf intOf (kvs.map (·.1))
/-- what list(..) makes of a value -/
noncomputable def keysV : V → Option (List PyData)
  | .brw (.dict kvs) => (tabI kvs).map ofInts
  | .rg n => some (ofInts (rangeL n))
  | v => lsV v
noncomputable def tabT (kvs : List (PyData × PyData)) : Option (List (List Int)) := allOf tupOf (kvs.map (·.1))
noncomputable def hasKey (x : PyData) (kvs : List (PyData × PyData)) : Option Bool :=
  match x with
  | .int k => (tabI kvs).map fun ks => ks.contains k
  | .tuple t => (allOf intOf t).bind fun k => (tabT kvs).map fun ks => ks.contains k
  | _ => none
noncomputable def inW (x y : PyData) (K : Bool → Prop) : Prop :=
  match y with
  | .dict kvs => got (hasKey x kvs) K
  | y => got (seqOf y) fun ys => shp x ∧ shp y ∧ K (ys.any fun z => PyData.eqv z x)
/-- any other operation -/
noncomputable def objW (o : Op) (v w : V) (K : V → Prop) : Prop :=
  match o with
  | .eq => got (rd v) fun x => got (rd w) fun y => shp x ∧ shp y ∧ K (.d (.bool (PyData.eqv x y)))
  | .ne => got (rd v) fun x => got (rd w) fun y => shp x ∧ shp y ∧ K (.d (.bool (!PyData.eqv x y)))
  | .isin => got (rd v) fun x => got (rd w) fun y => inW x y fun b => K (.d (.bool b))
  | .notin => got (rd v) fun x => got (rd w) fun y => inW x y fun b => K (.d (.bool (!b)))
  | .add => got (lsV v) fun xs => got (lsV w) fun ys => xs.length + ys.length < lim ∧ K (.own (.list (xs ++ ys)))
  | .mul => got (lsV v) fun xs => got (intV w) fun k => (0 ≤ k ∧ k < lim ∧ xs.length * k.toNat < lim) ∧ K (.own (.list (List.replicate k.toNat xs).flatten))
  | _ => False
noncomputable def opW (o : Op) (v w : V) (K : V → Prop) : Prop := (intV v).elim (objW o v w K) fun a => (intV w).elim (objW o v w K) fun b => numW o a b K

inductive Ty where
  | int | bool | list | tuple | exc (c : Nat) | valueError
/-- the own classes by number: 0 is the base of the others -/
noncomputable def Ty.has : Ty → PyData → Bool
  | .int, .int _ => true
  | .int, .bool _ => true
  | .bool, .bool _ => true
  | .list, .list _ => true
  | .tuple, .tuple _ => true
  | _, _ => false
inductive F1 where
  | len | sum | max | min | list | tuple | sorted | sortedR | int | all | not | isNone | notNone | range | isi (t : Ty)
  | dist
inductive F2 where
  | max | min | index
/-- asks no iterator to its end -/
noncomputable def F1.quiet : F1 → Bool
  | .sum => false
  | .max => false
  | .min => false
  | .list => false
  | .tuple => false
  | .sorted => false
  | .sortedR => false
  | .all => false
  | .range => false
  | .dist => false
  | _ => true

noncomputable def sortI (xs : List Int) : List Int := xs.mergeSort (fun a b => decide (a ≤ b))
noncomputable def sortT (xs : List (List Int)) : List (List Int) := xs.mergeSort (fun a b => decide (a ≤ b))
noncomputable def maxL : List Int → Option Int
  | [] => none
  | a :: r => some (r.foldl max a)
noncomputable def minL : List Int → Option Int
  | [] => none
  | a :: r => some (r.foldl min a)
noncomputable def isNon : PyData → Bool
  | .none => true
  | _ => false
noncomputable def excIs (t : Ty) (c : Nat) : Option Bool :=
  match t with
  | .valueError => some true
  | .exc k => some (k == 0 || c == k)
  | _ => none
noncomputable def isiV (t : Ty) (v : V) : Option Bool :=
  match v with
  | .exc c => excIs t c
  | v => match t with
    | .exc _ => none
    | .valueError => none
    | t => (rd v).map fun x => t.has x
noncomputable def seqV (v : V) (K : List PyData → Prop) : Prop := got (rd v) fun x => got (seqOf x) K
noncomputable def F1.W (f : F1) (v : V) (K : V → Prop) : Prop :=
  match f with
  | .len => seqV v fun xs => xs.length < lim ∧ K (.d (.int xs.length))
  | .sum => seqV v fun xs => got (allOf intOf xs) fun is => K (.d (.int is.sum))
  | .max => seqV v fun xs => got (allOf intOf xs) fun is => got (maxL is) fun m => K (.d (.int m))
  | .min => seqV v fun xs => got (allOf intOf xs) fun is => got (minL is) fun m => K (.d (.int m))
  | .list => got (keysV v) fun xs => xs.length < lim ∧ K (.own (.list xs))
  | .tuple => got (lsV v) fun xs => xs.length < lim ∧ K (.d (.tuple xs))
  | .sorted => got (rd v) fun x => got (listOf x) fun xs => (allOf intOf xs).elim (got (allOf tupOf xs) fun ts => (ts.length < 64 ∧ ts.Nodup ∧ [] ∉ ts) ∧ K (.own (.list (ofTups (sortT ts))))) fun is => is.length < 64 ∧ K (.own (.list (ofInts (sortI is))))
  | .dist => got (rd v) fun x => got (tupleOf x) fun xs => got (allOf intOf xs) fun is => is.length < 64 ∧ K (.d (.int (is.foldl PyProof.Rows.step_dedup []).length))
  | .sortedR => got (rd v) fun x => got (listOf x) fun xs => got (allOf intOf xs) fun is => is.length < 64 ∧ K (.own (.list (ofInts (sortI is).reverse)))
  | .int => got (boolV v) fun b => K (.d (.int (cond b 1 0)))
  | .all => got (rd v) fun x => got (listOf x) fun xs => got (allOf boolOf xs) fun bs => K (.d (.bool (bs.all id)))
  | .not => got (boolV v) fun b => K (.d (.bool (!b)))
  | .isNone => got (rd v) fun x => K (.d (.bool (isNon x)))
  | .notNone => got (rd v) fun x => K (.d (.bool (!isNon x)))
  | .range => got (intV v) fun n => (-(lim : Int) < n ∧ n < lim) ∧ K (.rg n)
  | .isi t => got (isiV t v) fun b => K (.d (.bool b))
noncomputable def F2.W (f : F2) (v w : V) (K : V → Prop) : Prop :=
  match f with
  | .max => got (intV v) fun a => got (intV w) fun b => K (.d (.int (Max.max a b)))
  | .min => got (intV v) fun a => got (intV w) fun b => K (.d (.int (Min.min a b)))
  | .index => False
/-- asks no iterator to its end, or no exception is handled -/
noncomputable def qW (q hm : Bool) (P : Prop) : Prop := cond (!q && hm) False P
theorem qW_inv {q hm : Bool} {P : Prop} (h : qW q hm P) : (q = false → hm = false) ∧ P := by
  cases q <;> cases hm <;> first | exact h.elim | exact ⟨(fun _ => rfl), h⟩ | exact ⟨(fun e => nomatch e), h⟩

mutual
inductive E where
  | nm (i : Nat) | k (x : PyData)
  | tup (es : Es) | lst (es : Es) | dic0 | dic1 (k : E)
  | op (o : Op) (a b : E)
  | cmp (a : E) (os : List Op) (es : Es)
  | f1 (f : F1) (a : E) | f2 (f : F2) (a b : E)
  | and (es : Es) | or (es : Es)
  | idx (a i : E) | sfrom (a i : E) | sto (a i : E)
  | call (f : Nat) (es : Es)
  | comp (t : Option Nat) (src : E) (cs : Es) (elt : E)
  | index (a b : E)
inductive Es where
  | nil | cons (e : E) (es : Es)
end

noncomputable abbrev Rho := List (Option V)
noncomputable abbrev Call := Bool → Nat → List V → (V → Prop) → (Nat → Prop) → Prop
/-- a transformer: what must hold so that the value meets K -/
noncomputable abbrev T := (V → Prop) → Prop

/-- the names of a comprehension stand behind the frame's -/
noncomputable def bindT (t : Option Nat) (v : V) (ρ : Rho) (k : Rho → Prop) : Prop :=
  match t with
  | none => k (ρ ++ [some v])
  | some n => got (partsV v n) fun vs => k (ρ ++ vs.map some)
noncomputable def compW (step : Rho → (Option PyData → Prop) → Prop) (t : Option Nat) (ρ : Rho) (K : V → Prop) : List V → List PyData → Prop
  | [], acc => acc.length < lim ∧ K (.own (.list acc))
  | x :: xs, acc => bindT t x ρ fun ρ' => step ρ' fun r => compW step t ρ K xs (r.elim acc fun y => acc ++ [y])
noncomputable def ifB (v : V) (a b : Prop) : Prop := got (boolV v) fun c => cond c a b
noncomputable def argAll : List V → Option (List V)
  | [] => some []
  | v :: r => (argV v).bind fun x => (argAll r).map (x :: ·)
noncomputable def keepAll : List V → Option (List PyData)
  | [] => some []
  | v :: r => (kp v).bind fun x => (keepAll r).map (x :: ·)

noncomputable def seqW : List T → (List V → Prop) → Prop
  | [], K => K []
  | t :: ts, K => t fun v => seqW ts fun vs => K (v :: vs)
noncomputable def cmpW : List Op → List T → V → (V → Prop) → Prop
  | [o], [t], v, K => t fun w => opW o v w K
  | o :: os, t :: ts, v, K => t fun w => opW o v w fun r => ifB r (cmpW os ts w K) (K (.d (.bool false)))
  | _, _, _, _ => False
noncomputable def andW : List T → (V → Prop) → Prop
  | [], _ => False
  | [t], K => t fun v => ifB v (K (.d (.bool true))) (K (.d (.bool false)))
  | t :: ts, K => t fun v => ifB v (andW ts K) (K (.d (.bool false)))
noncomputable def orW : List T → (V → Prop) → Prop
  | [], _ => False
  | [t], K => t fun v => ifB v (K (.d (.bool true))) (K (.d (.bool false)))
  | t :: ts, K => t fun v => ifB v (K (.d (.bool true))) (orW ts K)
/-- the tests of a comprehension -/
noncomputable def tstW : List T → Prop → Prop → Prop
  | [], a, _ => a
  | t :: ts, a, b => t fun v => ifB v (tstW ts a b) b
/-- a written cut -/
noncomputable def fromW (v : V) (i : Int) (K : V → Prop) : Prop := got (lsV v) fun xs => (0 ≤ i ∧ i < lim ∧ xs.length < lim) ∧ K (.own (.list (xs.drop i.toNat)))
noncomputable def toW (v : V) (i : Int) (K : V → Prop) : Prop := got (lsV v) fun xs => (0 ≤ i ∧ i < lim ∧ xs.length < lim) ∧ K (.own (.list (xs.take i.toNat)))

mutual
noncomputable def wpE (Φ : Call) (hm : Bool) (X : Nat → Prop) : E → Rho → T
  | .nm i, ρ, K => got (ρ[i]?) fun s => got s fun v => K (nmV v)
  | .k x, _, K => K (.d x)
  | .tup es, ρ, K => seqW (wpL Φ hm X es ρ) fun vs => got (keepAll vs) fun xs => K (.d (.tuple xs))
  | .lst es, ρ, K => seqW (wpL Φ hm X es ρ) fun vs => got (keepAll vs) fun xs => K (.own (.list xs))
  | .dic0, _, K => K (.own (.dict []))
  | .dic1 k, ρ, K => wpE Φ hm X k ρ fun w => got (intV w) fun i => K (.own (.dict [(.int i, .bool true)]))
  | .op o a b, ρ, K => wpE Φ hm X a ρ fun v => wpE Φ hm X b ρ fun w => opW o v w K
  | .cmp a os es, ρ, K => wpE Φ hm X a ρ fun v => cmpW os (wpL Φ hm X es ρ) v K
  | .f1 f a, ρ, K => wpE Φ hm X a ρ fun v => qW f.quiet hm (f.W v K)
  | .f2 f a b, ρ, K => wpE Φ hm X a ρ fun v => wpE Φ hm X b ρ fun w => qW false hm (f.W v w K)
  | .and es, ρ, K => andW (wpL Φ hm X es ρ) K
  | .or es, ρ, K => orW (wpL Φ hm X es ρ) K
  | .idx a i, ρ, K => wpE Φ hm X a ρ fun v => wpE Φ hm X i ρ fun w => got (intV w) fun k => got (idxV v k) K
  | .sfrom a i, ρ, K => wpE Φ hm X a ρ fun v => wpE Φ hm X i ρ fun w => got (intV w) fun k => fromW v k K
  | .sto a i, ρ, K => wpE Φ hm X a ρ fun v => wpE Φ hm X i ρ fun w => got (intV w) fun k => toW v k K
  | .index a b, ρ, K => wpE Φ hm X a ρ fun v => got (rd v) fun x => got (listOf x) fun xs => got (allOf intOf xs) fun is => wpE Φ hm X b ρ fun w => got (intV w) fun k => (k ∈ is ∧ is.length < lim) ∧ K (.d (.int (is.idxOf k)))
  | .call f es, ρ, K => seqW (wpL Φ hm X es ρ) fun vs => got (argAll vs) fun us => Φ hm f us K X
  | .comp t src cs elt, ρ, K => wpE Φ hm X src ρ fun v => got (itemsV hm v) fun xs => xs.length < lim ∧
      compW (fun ρ' k => tstW (wpL Φ hm (fun _ => False) cs ρ') (wpE Φ hm (fun _ => False) elt ρ' fun v => got (kp v) fun y => k (some y)) (k none)) t ρ K xs []
noncomputable def wpL (Φ : Call) (hm : Bool) (X : Nat → Prop) : Es → Rho → List T
  | .nil, _ => []
  | .cons e es, ρ => wpE Φ hm X e ρ :: wpL Φ hm X es ρ
end

inductive Flow where
  | nxt
  | ret (v : V)
noncomputable abbrev KS := Flow → Rho → Prop
noncomputable abbrev XS := Nat → Rho → Prop
inductive Tgt where
  | one (i : Nat) | many (is : List Nat)
mutual
inductive S where
  | asg (o : Bool) (i : Nat) (e : E)
  | unp (is : List Nat) (e : E)
  | app (i : Nat) (e : E)
  | set (i : Nat) (k v : E)
  | key (i : Nat) (k : E)
  | fz (i : Nat) (s : S)
  | pop (j i : Nat)
  | ins (i : Nat) (k e : E)
  | ret2 (j : Nat) (e : E)
  | ite (c : E) (a b : Ss)
  | loop (t : Tgt) (src : E) (body : Ss)
  | loopn (t : Tgt) (i : Nat) (body : Ss)
  | whl (c : E) (body : Ss)
  | ret (e : E) | retm (i : Nat)
  | rais (c : Nat)
  | tryx (body : Ss) (c k : Nat) (h : Ss)
  | drop (e : E)
inductive Ss where
  | nil | cons (s : S) (ss : Ss)
end

noncomputable def setD (ρ : Rho) (i : Nat) (v : V) (k : Rho → Prop) : Prop := got (kp v) fun x => k (ρ.set i (some (.d x)))
noncomputable def setAll (ρ : Rho) (k : Rho → Prop) : List Nat → List V → Prop
  | [], [] => k ρ
  | i :: r, v :: vs => got (kp v) fun x => setAll (ρ.set i (some (.d x))) k r vs
  | _, _ => False
noncomputable def bindF (t : Tgt) (v : V) (ρ : Rho) (k : Rho → Prop) : Prop :=
  match t with
  | .one i => setD ρ i v k
  | .many is => got (partsV v is.length) fun vs => setAll ρ k is vs
noncomputable def slotW (ρ : Rho) (i : Nat) (k : V → Prop) : Prop := got (ρ[i]?) fun s => got s k
noncomputable def ownL (u : V) (k : List PyData → Prop) : Prop :=
  match u with
  | .own x => got (listOf x) k
  | _ => False
/-- a key more -/
noncomputable def addKey (x : PyData) (kvs : List (PyData × PyData)) : Option (List (PyData × PyData)) := (hasKey x kvs).map fun b => cond b kvs (kvs ++ [(x, .bool true)])
noncomputable def ownD (u : V) (k : List (PyData × PyData) → Prop) : Prop :=
  match u with
  | .own (.dict kvs) => k kvs
  | _ => False
noncomputable def ownS (ρ : Rho) (i : Nat) (k : List PyData → Prop) : Prop := slotW ρ i fun u => ownL u k
noncomputable def Rho.putL (ρ : Rho) (i : Nat) (xs : List PyData) : Rho := ρ.set i (some (.own (.list xs)))
/-- own no more -/
noncomputable def frzV : V → V
  | .own x => .d x
  | v => v
/-- a list of the frame's own that a loop runs over is own no more -/
noncomputable def frz (i : Nat) (ρ : Rho) : Rho := ρ.modify i (·.map frzV)
/-- what a for statement may run over: not what is only read -/
noncomputable def itemsL (hm : Bool) : V → Option (List V)
  | .brw _ => none
  | v => itemsV hm v
noncomputable def forW (body : V → Rho → KS → Prop) (K : KS) : List V → Rho → Prop
  | [], ρ => K .nxt ρ
  | x :: xs, ρ => body x ρ fun fl ρ' => match fl with
    | .nxt => forW body K xs ρ'
    | .ret v => K (.ret v) ρ'
noncomputable def whlW (test : Rho → T) (body : Rho → KS → Prop) (K : KS) : Nat → Rho → Prop
  | 0, _ => False
  | n + 1, ρ => test ρ fun b => ifB b (body ρ fun fl ρ' => match fl with
    | .nxt => whlW test body K n ρ'
    | .ret v => K (.ret v) ρ') (K .nxt ρ)
/-- what a handler may hand back -/
noncomputable def okRet : V → Prop
  | .d _ => True
  | .own (.list _) => True
  | _ => False
noncomputable def retmV : V → Option V
  | .exc _ => none
  | .rg _ => none
  | v => retV v

mutual
noncomputable def wpS (Φ : Call) (hm : Bool) : S → Rho → KS → XS → Prop
  | .asg o i e, ρ, K, X => wpE Φ hm (X · ρ) e ρ fun v => got (keepV o v) fun u => K .nxt (ρ.set i (some u))
  | .unp is e, ρ, K, X => wpE Φ hm (X · ρ) e ρ fun v => got (partsV v is.length) fun vs => setAll ρ (K .nxt) is vs
  | .app i e, ρ, K, X => ownS ρ i fun xs => wpE Φ hm (X · ρ) e ρ fun v => got (kp v) fun y => xs.length < lim ∧ K .nxt (ρ.putL i (xs ++ [y]))
  | .set i k v, ρ, K, X => ownS ρ i fun xs => wpE Φ hm (X · ρ) v ρ fun v => wpE Φ hm (X · ρ) k ρ fun w => got (kp v) fun y => got (intV w) fun j => (0 ≤ j ∧ j < xs.length ∧ j < lim) ∧ K .nxt (ρ.putL i (xs.set j.toNat y))
  | .fz i s, ρ, K, X => wpS Φ hm s (frz i ρ) K X
  | .key i k, ρ, K, X => slotW ρ i fun u => ownD u fun kvs => wpE Φ hm (X · ρ) k ρ fun w => got (kp w) fun x => got (addKey x kvs) fun kvs' => kvs.length < lim ∧ K .nxt (ρ.set i (some (.own (.dict kvs'))))
  | .pop j i, ρ, K, _ => ownS ρ i fun xs => got (xs.getLast?) fun y => xs.length < lim ∧ K .nxt ((ρ.putL i xs.dropLast).set j (some (.d y)))
  | .ite c a b, ρ, K, X => wpE Φ hm (X · ρ) c ρ fun v => ifB v (wpSs Φ hm a ρ K X) (wpSs Φ hm b ρ K X)
  | .loop t src body, ρ, K, X => wpE Φ hm (X · ρ) src ρ fun v => got (itemsL hm v) fun xs => xs.length < lim ∧ forW (fun x ρ' k => bindF t x ρ' fun ρ'' => wpSs Φ hm body ρ'' k X) K xs ρ
  | .loopn t i body, ρ, K, X => slotW (frz i ρ) i fun v => got (itemsV hm v) fun xs => xs.length < lim ∧ forW (fun x ρ' k => bindF t x ρ' fun ρ'' => wpSs Φ hm body ρ'' k X) K xs (frz i ρ)
  | .whl c body, ρ, K, X => ∃ n, whlW (fun ρ' => wpE Φ hm (X · ρ') c ρ') (fun ρ' k => wpSs Φ hm body ρ' k X) K n ρ
  | .ret e, ρ, K, X => wpE Φ hm (X · ρ) e ρ fun v => got (retO v) fun u => K (.ret u) ρ
  | .ret2 j e, ρ, K, X => ownS ρ j fun xs => wpE Φ hm (X · ρ) e ρ fun v => got (kp v) fun y => K (.ret (.ot (.list xs) y)) ρ
  | .ins i k e, ρ, K, X => ownS ρ i fun xs => wpE Φ hm (X · ρ) k ρ fun w => wpE Φ hm (X · ρ) e ρ fun v => got (intV w) fun j => got (kp v) fun y => (0 ≤ j ∧ j < lim ∧ xs.length < lim) ∧ K .nxt (ρ.putL i ((xs.take j.toNat ++ [y]) ++ xs.drop j.toNat))
  | .retm i, ρ, K, _ => slotW ρ i fun u => got (retmV u) fun u' => K (.ret u') ρ
  | .rais c, ρ, _, X => hm = false ∧ X c ρ
  | .tryx body c k h, ρ, K, X => wpSs Φ hm body ρ K fun c' ρ' => (c = 0 ∨ c = c') ∧ hm = false ∧ wpSs Φ true h (ρ'.set k (some (.exc c'))) (fun fl ρ'' => match fl with
      | .nxt => False
      | .ret v => okRet v ∧ K (.ret v) ρ'') (fun _ _ => False)
  | .drop e, ρ, K, X => wpE Φ hm (X · ρ) e ρ fun _ => K .nxt ρ
noncomputable def wpSs (Φ : Call) (hm : Bool) : Ss → Rho → KS → XS → Prop
  | .nil, ρ, K, _ => K .nxt ρ
  | .cons s ss, ρ, K, X => wpS Φ hm s ρ (fun fl ρ' => match fl with
      | .nxt => wpSs Φ hm ss ρ' K X
      | .ret v => K (.ret v) ρ') X
end
structure Fn where
  np : Nat
  ns : Nat
  body : Ss
noncomputable def outK (K : V → Prop) : KS
  | .nxt, _ => K (.d .none)
  | .ret v, _ => K v
noncomputable def wpCall (tab : List Fn) : Nat → Call
  | 0, _, _, _, _, _ => False
  | n + 1, hm, f, vs, K, X => got (tab[f]?) fun fn => (vs.length = fn.np ∧ fn.np ≤ fn.ns) ∧ wpSs (wpCall tab n) hm fn.body (vs.map some ++ List.replicate (fn.ns - fn.np) none) (outK K) (fun c _ => X c)
end TC

namespace TC
open PySem PySem.W PyProof.Rows

/-! Heaps: what a run leaves as it was; data read past hidden places. -/
noncomputable abbrev AP := Addr → Prop
/-- all stays -/
noncomputable abbrev Keep (h h' : Heap) : Prop := ∀ b o, h.get? b = some o → h'.get? b = some o
/-- all stays, but for the slots of the frames' objects -/
noncomputable def Ext (fr : AP) (h h' : Heap) : Prop := ∀ b o, h.get? b = some o → (¬ fr b → h'.get? b = some o) ∧ ∃ sl, h'.get? b = some { o with slots := sl }
theorem Ext.refl (fr : AP) (h : Heap) : Ext fr h h := fun _ o e => ⟨fun _ => e, o.slots, e⟩
theorem Ext.trans {fr : AP} {h₁ h₂ h₃ : Heap} (x : Ext fr h₁ h₂) (y : Ext fr h₂ h₃) : Ext fr h₁ h₃ := fun b o e =>
  ⟨fun hb => (y b o ((x b o e).1 hb)).1 hb, let ⟨_, q⟩ := (x b o e).2; let ⟨sl, q'⟩ := (y b _ q).2; ⟨sl, q'⟩⟩
theorem Ext.of {fr : AP} {h h' : Heap} (k : Keep h h') : Ext fr h h' := fun b o e => ⟨fun _ => k b o e, o.slots, k b o e⟩
theorem Ext.mono {fr fr' : AP} {h h' : Heap} (x : Ext fr h h') (s : ∀ b, fr b → fr' b) : Ext fr' h h' := fun b o e => ⟨fun hb => (x b o e).1 fun q => hb (s b q), (x b o e).2⟩
theorem none_of {h : Heap} {b : Addr} (n : ∀ o, h.get? b ≠ some o) : h.get? b = none := by
  cases q : h.get? b with
  | none => rfl
  | some o => exact absurd q (n o)
theorem some_none {α : Type} {x : Option α} {a : α} {P : Prop} (e : x = some a) (n : x = none) : P := by rw [e] at n; cases n
theorem Ext.gone {fr : AP} {h h' : Heap} {b : Addr} (x : Ext fr h h') (e : h'.get? b = none) : h.get? b = none :=
  none_of fun o q => let ⟨_, y⟩ := (x b o q).2; some_none y e
/-- no tuple -/
noncomputable def NT (o : Obj) : Prop := o.cls = .type "tuple" → ∀ vs n, o.data ≠ .seq vs n
/-- something is there that is no tuple -/
noncomputable def Is (h : Heap) (b : Addr) : Prop := ∃ o, h.get? b = some o ∧ NT o
theorem Is.ext {fr : AP} {h h' : Heap} {b : Addr} (i : Is h b) (x : Ext fr h h') : Is h' b := let ⟨o, e, n⟩ := i; let ⟨_, q⟩ := (x b o e).2; ⟨_, q, n⟩
theorem Is.not_none {h : Heap} {b : Addr} {P : Prop} (i : Is h b) (n : h.get? b = none) : P := let ⟨_, e, _⟩ := i; some_none e n
theorem Ext.ns {fr : AP} {h h' : Heap} {a : Addr} {m : Str → Option Value} (x : Ext fr h h') (n : h.Ns a m) : h'.Ns a m :=
  let ⟨o, es, ep, ho, hd, r⟩ := n; let ⟨_, hs⟩ := (x a o ho).2; ⟨_, es, ep, hs, hd, r⟩
theorem Ext.cell {fr : AP} {h h' : Heap} {c : Addr} {v : Option Value} (x : Ext fr h h') (n : h.IsCell c v) : h'.IsCell c v :=
  let ⟨o, ho, hd⟩ := n; let ⟨_, hs⟩ := (x c o ho).2; ⟨_, hs, hd⟩
theorem size_none (h : Heap) : h.get? h.objs.size = none := none_of fun _ q => absurd (Heap.lt_size q) (Nat.lt_irrefl _)
theorem keep_push (h : Heap) (o : Obj) : Keep h (h.push o) := fun _ _ e => Heap.get?_push_of_some _ e

noncomputable abbrev listObj (vs : Array Value) (n : Nat) : Obj := { cls := .type "list", data := .seq vs n }
noncomputable abbrev tupObj (vs : Array Value) (n : Nat) : Obj := { cls := .type "tuple", data := .seq vs n }
noncomputable abbrev dictObj (es : Array DictEntry) (n : Nat) : Obj := { cls := .type "dict", data := .dict es n }
noncomputable def tupH (ks : List Int) : Int := reduceHash (Builtin.Tuple.tupleHashOf (ks.map hashInt))
/-- a table at a that is used as a set: its values are True, its keys ints, or tuples of ints -/
structure DictOk (a : Addr) (es : Array DictEntry) (kvs : List (PyData × PyData)) : Prop where
  off : (a == sysModules) = false
  vals : ∀ p ∈ kvs, p.2 = .bool true
  keys : (∃ ks : List Int, kvs.map (·.1) = ofInts ks ∧ es.toList.map (·.hash) = ks.map hashInt ∧ ks.Nodup) ∨ ∃ ks : List (List Int), kvs.map (·.1) = ofTups ks ∧ es.toList.map (·.hash) = ks.map tupH ∧ ks.Nodup
theorem DictOk.nil {a : Addr} (h : (a == sysModules) = false) : DictOk a #[] [] := ⟨h, nofun, .inl ⟨[], rfl, rfl, .nil⟩⟩
mutual
/-- v is the datum x; each object is the plain one of its type, at a place that is not hidden -/
inductive PR (P : AP) (h : Heap) : Value → PyData → Prop
  | non : PR P h .none .none
  | bool (b) : PR P h (.bool b) (.bool b)
  | int (i t) : PR P h (.int i t) (.int i)
  | str (x t) : PR P h (.str x t) (.str x)
  | list {a vs n xs} : ¬ P a → h.get? a = some (listObj vs n) → PRs P h vs.toList xs → PR P h (.ref a) (.list xs)
  | tuple {a vs n xs} : ¬ P a → h.get? a = some (tupObj vs n) → PRs P h vs.toList xs → PR P h (.ref a) (.tuple xs)
  | dict {a es n kvs} : ¬ P a → h.get? a = some (dictObj es n) → PRs P h (es.toList.map (·.key)) (kvs.map (·.1)) → PRs P h (es.toList.map (·.val)) (kvs.map (·.2)) → DictOk a es kvs → PR P h (.ref a) (.dict kvs)
inductive PRs (P : AP) (h : Heap) : List Value → List PyData → Prop
  | nil : PRs P h [] []
  | cons {v vs x xs} : PR P h v x → PRs P h vs xs → PRs P h (v :: vs) (x :: xs)
end
noncomputable def PR.Inv (P : AP) (h : Heap) (v : Value) : PyData → Prop
  | .none => v = .none
  | .bool b => v = .bool b
  | .int i => ∃ t, v = .int i t
  | .str x => ∃ t, v = .str x t
  | .list xs => ∃ a vs n, v = .ref a ∧ ¬ P a ∧ h.get? a = some (listObj vs n) ∧ PRs P h vs.toList xs
  | .tuple xs => ∃ a vs n, v = .ref a ∧ ¬ P a ∧ h.get? a = some (tupObj vs n) ∧ PRs P h vs.toList xs
  | .dict kvs => ∃ a es n, v = .ref a ∧ ¬ P a ∧ h.get? a = some (dictObj es n) ∧ PRs P h (es.toList.map (·.key)) (kvs.map (·.1)) ∧ PRs P h (es.toList.map (·.val)) (kvs.map (·.2)) ∧ DictOk a es kvs
theorem PR.inv {P : AP} {h : Heap} {v : Value} {x : PyData} (r : PR P h v x) : PR.Inv P h v x :=
  PR.rec (motive_1 := fun v x _ => PR.Inv P h v x) (motive_2 := fun _ _ _ => True) rfl (fun _ => rfl) (fun _ t => ⟨t, rfl⟩) (fun _ t => ⟨t, rfl⟩)
    (fun n e r _ => ⟨_, _, _, rfl, n, e, r⟩) (fun n e r _ => ⟨_, _, _, rfl, n, e, r⟩) (fun n e r q d _ _ => ⟨_, _, _, rfl, n, e, r, q, d⟩) trivial (fun _ _ _ _ => trivial) r
noncomputable def PRs.Inv (P : AP) (h : Heap) (vs : List Value) : List PyData → Prop
  | [] => vs = []
  | x :: xs => ∃ v ws, vs = v :: ws ∧ PR P h v x ∧ PRs P h ws xs
theorem PRs.inv {P : AP} {h : Heap} {vs : List Value} {xs : List PyData} (r : PRs P h vs xs) : PRs.Inv P h vs xs :=
  PRs.rec (motive_1 := fun _ _ _ => True) (motive_2 := fun vs xs _ => PRs.Inv P h vs xs) trivial (fun _ => trivial) (fun _ _ => trivial) (fun _ _ => trivial) (fun _ _ _ _ => trivial) (fun _ _ _ _ => trivial) (fun _ _ _ _ _ _ _ => trivial) rfl (fun a b _ _ => ⟨_, _, rfl, a, b⟩) r
/-- from one heap, read past P, to another, read past P' -/
noncomputable abbrev Mv (P P' : AP) (h h' : Heap) : Prop := ∀ b o, ¬ P b → h.get? b = some o → ¬ P' b ∧ h'.get? b = some o
theorem PR.move {P P' : AP} {h h' : Heap} (k : Mv P P' h h') {v : Value} {x : PyData} (r : PR P h v x) : PR P' h' v x :=
  PR.rec (motive_1 := fun v x _ => PR P' h' v x) (motive_2 := fun vs xs _ => PRs P' h' vs xs) .non .bool .int .str
    (fun n e _ r => .list (k _ _ n e).1 (k _ _ n e).2 r) (fun n e _ r => .tuple (k _ _ n e).1 (k _ _ n e).2 r) (fun n e _ _ d r q => .dict (k _ _ n e).1 (k _ _ n e).2 r q d) .nil (fun _ _ a b => .cons a b) r
theorem PRs.move {P P' : AP} {h h' : Heap} (k : Mv P P' h h') {v : List Value} {x : List PyData} (r : PRs P h v x) : PRs P' h' v x :=
  PRs.rec (motive_1 := fun v x _ => PR P' h' v x) (motive_2 := fun vs xs _ => PRs P' h' vs xs) .non .bool .int .str
    (fun n e _ r => .list (k _ _ n e).1 (k _ _ n e).2 r) (fun n e _ r => .tuple (k _ _ n e).1 (k _ _ n e).2 r) (fun n e _ _ d r q => .dict (k _ _ n e).1 (k _ _ n e).2 r q d) .nil (fun _ _ a b => .cons a b) r
theorem PR.reads {P : AP} {h : Heap} {v : Value} {x : PyData} (r : PR P h v x) : ∃ as, Reads h v x as :=
  PR.rec (motive_1 := fun v x _ => ∃ as, Reads h v x as) (motive_2 := fun vs xs _ => ∃ as, ReadsAll h vs xs as) ⟨_, .none⟩ (fun b => ⟨_, .bool b⟩) (fun i t => ⟨_, .int i t⟩) (fun x t => ⟨_, .str x t⟩)
    (fun _ e _ ⟨_, r⟩ => ⟨_, .list e rfl rfl r⟩) (fun _ e _ ⟨_, r⟩ => ⟨_, .tuple e rfl rfl r⟩) (fun _ e _ _ _ ⟨_, r⟩ ⟨_, q⟩ => ⟨_, .dict e rfl rfl r q⟩) ⟨_, .nil⟩ (fun _ _ ⟨_, a⟩ ⟨_, b⟩ => ⟨_, .cons a b⟩) r
theorem not_tup {h : Heap} {b : Addr} {vs : Array Value} {n : Nat} {P : Prop} (i : Is h b) (e : h.get? b = some (tupObj vs n)) : P :=
  let ⟨_, e', nt⟩ := i; absurd rfl (nt (congrArg Obj.cls (Option.some.inj (e'.symm.trans e))) vs n |> fun q => (congrArg (· ≠ _) (congrArg Obj.data (Option.some.inj (e'.symm.trans e)))).mp q)
/-- data without a list or dict within is read past any place that holds no tuple -/
theorem flat_move {P P' : AP} {h : Heap} (n : ∀ b, P' b → Is h b) {v : Value} {x : PyData} (r : PR P h v x) : flat x = true → PR P' h v x :=
  PR.rec (motive_1 := fun v x _ => flat x = true → PR P' h v x) (motive_2 := fun vs xs _ => flats xs = true → PRs P' h vs xs) (fun _ => .non) (fun b _ => .bool b) (fun i t _ => .int i t) (fun x t _ => .str x t)
    (fun _ _ _ _ f => nomatch f) (fun _ e _ r f => .tuple (fun q => not_tup (n _ q) e) e (r f)) (fun _ _ _ _ _ _ _ f => nomatch f) (fun _ => .nil) (fun _ _ a b f => .cons (a (Bool.and_eq_true_iff.mp f).1) (b (Bool.and_eq_true_iff.mp f).2)) r
theorem flats_move {P P' : AP} {h : Heap} (n : ∀ b, P' b → Is h b) {vs : List Value} {xs : List PyData} (r : PRs P h vs xs) : flats xs = true → PRs P' h vs xs :=
  PRs.rec (motive_1 := fun v x _ => flat x = true → PR P' h v x) (motive_2 := fun vs xs _ => flats xs = true → PRs P' h vs xs) (fun _ => .non) (fun b _ => .bool b) (fun i t _ => .int i t) (fun x t _ => .str x t)
    (fun _ _ _ _ f => nomatch f) (fun _ e _ r f => .tuple (fun q => not_tup (n _ q) e) e (r f)) (fun _ _ _ _ _ _ _ f => nomatch f) (fun _ => .nil) (fun _ _ a b f => .cons (a (Bool.and_eq_true_iff.mp f).1) (b (Bool.and_eq_true_iff.mp f).2)) r
theorem PRs.length {P : AP} {h : Heap} {vs : List Value} {xs : List PyData} (r : PRs P h vs xs) : vs.length = xs.length :=
  PRs.rec (motive_1 := fun _ _ _ => True) (motive_2 := fun vs xs _ => vs.length = xs.length) trivial (fun _ => trivial) (fun _ _ => trivial) (fun _ _ => trivial) (fun _ _ _ _ => trivial) (fun _ _ _ _ => trivial) (fun _ _ _ _ _ _ _ => trivial) rfl (fun _ _ _ b => congrArg Nat.succ b) r
theorem PRs.size {P : AP} {h : Heap} {vs : Array Value} {xs : List PyData} (r : PRs P h vs.toList xs) : vs.size = xs.length := by rw [← r.length, Array.length_toList]
theorem PRs.append {P : AP} {h : Heap} {ws : List Value} {ys : List PyData} (q : PRs P h ws ys) {vs : List Value} {xs : List PyData} (r : PRs P h vs xs) : PRs P h (vs ++ ws) (xs ++ ys) :=
  PRs.rec (motive_1 := fun _ _ _ => True) (motive_2 := fun vs xs _ => PRs P h (vs ++ ws) (xs ++ ys)) trivial (fun _ => trivial) (fun _ _ => trivial) (fun _ _ => trivial) (fun _ _ _ _ => trivial) (fun _ _ _ _ => trivial) (fun _ _ _ _ _ _ _ => trivial) q (fun a _ _ b => .cons a b) r
/-- part by part -/
theorem PRs.of {P : AP} {h : Heap} {xs : List PyData} : ∀ {vs : List Value}, vs.length = xs.length → (∀ (k : Nat) v x, vs[k]? = some v → xs[k]? = some x → PR P h v x) → PRs P h vs xs := by
  induction xs with
  | nil => intro vs l _; rw [List.length_eq_zero_iff.mp l]; exact .nil
  | cons x xs ih =>
    intro vs l q
    cases vs with
    | nil => exact nomatch l
    | cons v vs => exact .cons (q 0 v x rfl rfl) (ih (Nat.succ.inj l) fun k => q (k + 1))
theorem PRs.at {P : AP} {h : Heap} {vs : List Value} {xs : List PyData} (r : PRs P h vs xs) : ∀ (k : Nat) v x, vs[k]? = some v → xs[k]? = some x → PR P h v x :=
  PRs.rec (motive_1 := fun _ _ _ => True) (motive_2 := fun vs xs _ => ∀ (k : Nat) v x, vs[k]? = some v → xs[k]? = some x → PR P h v x) trivial (fun _ => trivial) (fun _ _ => trivial) (fun _ _ => trivial) (fun _ _ _ _ => trivial) (fun _ _ _ _ => trivial) (fun _ _ _ _ _ _ _ => trivial)
    (fun _ _ _ e => nomatch e) (fun a _ _ b k => Nat.rec (fun _ _ e1 e2 => Option.some.inj e1 ▸ Option.some.inj e2 ▸ a) (fun k _ => b k) k) r
theorem PRs.get {P : AP} {h : Heap} {vs : List Value} {xs : List PyData} (r : PRs P h vs xs) {k : Nat} {x : PyData} (e : xs[k]? = some x) : ∃ v, vs[k]? = some v ∧ PR P h v x :=
  have lt : k < vs.length := by rw [r.length]; exact (List.getElem?_eq_some_iff.mp e).1
  ⟨_, List.getElem?_eq_getElem lt, r.at k _ x (List.getElem?_eq_getElem lt) e⟩
theorem PRs.get' {P : AP} {h : Heap} {vs : List Value} {xs : List PyData} (r : PRs P h vs xs) {k : Nat} {v : Value} (e : vs[k]? = some v) : ∃ x, xs[k]? = some x ∧ PR P h v x :=
  have lt : k < xs.length := by rw [← r.length]; exact (List.getElem?_eq_some_iff.mp e).1
  ⟨_, List.getElem?_eq_getElem lt, r.at k v _ e (List.getElem?_eq_getElem lt)⟩
theorem PRs.drop {P : AP} {h : Heap} {vs : List Value} {xs : List PyData} (r : PRs P h vs xs) (k : Nat) : PRs P h (vs.drop k) (xs.drop k) :=
  PRs.of (by rw [List.length_drop, List.length_drop, r.length]) fun j v x e1 e2 => r.at (k + j) v x (by rw [← List.getElem?_drop]; exact e1) (by rw [← List.getElem?_drop]; exact e2)
theorem PRs.take {P : AP} {h : Heap} {vs : List Value} {xs : List PyData} (r : PRs P h vs xs) (k : Nat) : PRs P h (vs.take k) (xs.take k) :=
  PRs.of (by rw [List.length_take, List.length_take, r.length]) fun j v x e1 e2 => by
    rw [List.getElem?_take] at e1 e2
    split at e1
    · rw [if_pos ‹_›] at e2; exact r.at j v x e1 e2
    · cases e1
theorem PRs.rep {P : AP} {h : Heap} {vs : List Value} {xs : List PyData} (r : PRs P h vs xs) (k : Nat) : PRs P h (List.replicate k vs).flatten (List.replicate k xs).flatten := by
  induction k with
  | zero => exact .nil
  | succ k ih => rw [List.replicate_succ, List.replicate_succ, List.flatten_cons, List.flatten_cons]; exact PRs.append ih r

theorem NT.list (vs : Array Value) (n : Nat) : NT (listObj vs n) := fun e => absurd (Value.type.inj e) (by decide)
theorem NT.dict (vs : Array DictEntry) (n : Nat) : NT (dictObj vs n) := fun e => absurd (Value.type.inj e) (by decide)
theorem PR.list_inv {P : AP} {h : Heap} {v : Value} {xs : List PyData} (r : PR P h v (.list xs)) : ∃ a vs n, v = .ref a ∧ ¬ P a ∧ h.get? a = some (listObj vs n) ∧ PRs P h vs.toList xs := r.inv
theorem PR.tuple_inv {P : AP} {h : Heap} {v : Value} {xs : List PyData} (r : PR P h v (.tuple xs)) : ∃ a vs n, v = .ref a ∧ ¬ P a ∧ h.get? a = some (tupObj vs n) ∧ PRs P h vs.toList xs := r.inv
theorem PR.int_inv {P : AP} {h : Heap} {v : Value} {i : Int} (r : PR P h v (.int i)) : ∃ t, v = .int i t := r.inv
theorem PR.bool_inv {P : AP} {h : Heap} {v : Value} {i : Bool} (r : PR P h v (.bool i)) : v = .bool i := r.inv
theorem PR.anti {P P' : AP} {h : Heap} {v : Value} {x : PyData} (r : PR P h v x) (s : ∀ b, P' b → P b) : PR P' h v x := r.move fun b _ n e => ⟨fun q => n (s b q), e⟩
theorem PRs.anti {P P' : AP} {h : Heap} {v : List Value} {x : List PyData} (r : PRs P h v x) (s : ∀ b, P' b → P b) : PRs P' h v x := r.move fun b _ n e => ⟨fun q => n (s b q), e⟩
theorem mv_ext {P fr : AP} {h h' : Heap} (x : Ext fr h h') (s : ∀ b, fr b → P b) : Mv P P h h' := fun b o n e => ⟨n, (x b o e).1 fun q => n (s b q)⟩
end TC

namespace TC
open PySem PySem.W PyProof.Rows

/-! From the model's text to the small language. -/
/-- all that an option may hold -/
noncomputable def All {α : Type} (o : Option α) (P : α → Prop) : Prop := ∀ a, o = some a → P a
theorem All.no {α : Type} {P : α → Prop} : All none P := fun _ e => nomatch e
theorem All.so {α : Type} {P : α → Prop} {a : α} (h : P a) : All (some a) P := fun _ e => Option.some.inj e ▸ h
theorem All.bind {α β : Type} {o : Option α} {f : α → Option β} {P : β → Prop} (h : All o fun a => All (f a) P) : All (o.bind f) P := by
  cases o with
  | none => exact .no
  | some a => exact h a rfl
theorem All.map {α β : Type} {o : Option α} {f : α → β} {P : β → Prop} (h : All o fun a => P (f a)) : All (o.map f) P := by
  cases o with
  | none => exact .no
  | some a => exact .so (h a rfl)
theorem All.imp {α : Type} {o : Option α} {P Q : α → Prop} (h : All o P) (k : ∀ a, P a → Q a) : All o Q := fun a e => k a (h a e)
theorem All.ite {α : Type} {c : Bool} {x : Option α} {P : α → Prop} (h : c = true → All x P) : All (cond c x none) P := by
  cases c with
  | false => exact .no
  | true => exact h rfl
theorem All.cond {α : Type} {c : Bool} {x y : Option α} {P : α → Prop} (h : c = true → All x P) (k : c = false → All y P) : All (cond c x y) P := by
  cases c with
  | false => exact k rfl
  | true => exact h rfl

structure Cx where
  kd : List (Str × NameKind)
  tb : List (Str × Nat)
  nx : Nat
  fns : List (Str × Nat)
  cls : List (Str × Nat)
  cst : List (Str × Int)
  ow : List Nat
noncomputable def Cx.glob (cx : Cx) (x : Str) : Bool := cx.kd.lookup x == some .globalImplicit && x != "__debug__" && x != "__name__"
noncomputable def isVar : Option NameKind → Bool
  | some .local => true
  | some .cell => true
  | some .free => true
  | _ => false
noncomputable def Cx.var (cx : Cx) (x : Str) : Option Nat := cond (x != "__debug__" && isVar (cx.kd.lookup x)) (cx.tb.lookup x) none

/-- the forms that are taken -/
inductive EV where
  | name (x : Str) (p : Pos) | const (x : Const) (k : Nat) (p : Pos) | unary (o : UnaryOp) (e : Expr) (p : Pos) | bin (l : Expr) (o : Operator) (r : Expr) (p : Pos) | bool (o : BoolOp) (es : List Expr) (p : Pos)
  | cmp (l : Expr) (os : List CmpOp) (rs : List Expr) (p : Pos) | tuple (es : List Expr) (k : Nat) (p : Pos) | list (es : List Expr) (p : Pos) | dict (ks : List (Option Expr)) (vs : List Expr) (p : Pos) | sub (a i : Expr) (p : Pos)
  | slice (a b d : Option Expr) (p : Pos) | call (f : Expr) (as : List Expr) (kws : List Keyword) (p : Pos) | attr (a : Expr) (m : Str) (p : Pos) | comp (e : Expr) (gs : List Comprehension) (sc : Scope) (p : Pos) | other
noncomputable def view : Expr → EV
  | .Name x p => .name x p
  | .Constant x k p => .const x k p
  | .UnaryOp o e p => .unary o e p
  | .BinOp l o r p => .bin l o r p
  | .BoolOp o es p => .bool o es p
  | .Compare l os rs p => .cmp l os rs p
  | .Tuple es k p => .tuple es k p
  | .List es p => .list es p
  | .Dict ks vs p => .dict ks vs p
  | .Subscript a i p => .sub a i p
  | .Slice a b d p => .slice a b d p
  | .Call f as kws p => .call f as kws p
  | .Attribute a m p => .attr a m p
  | .ListComp e gs sc p => .comp e gs sc p
  | _ => .other
noncomputable def EV.ex (e : Expr) : EV → Expr
  | .name x p => .Name x p
  | .const x k p => .Constant x k p
  | .unary o e p => .UnaryOp o e p
  | .bin l o r p => .BinOp l o r p
  | .bool o es p => .BoolOp o es p
  | .cmp l os rs p => .Compare l os rs p
  | .tuple es k p => .Tuple es k p
  | .list es p => .List es p
  | .dict ks vs p => .Dict ks vs p
  | .sub a i p => .Subscript a i p
  | .slice a b d p => .Slice a b d p
  | .call f as kws p => .Call f as kws p
  | .attr a m p => .Attribute a m p
  | .comp e gs sc p => .ListComp e gs sc p
  | .other => e
theorem view_eq (e : Expr) : (view e).ex e = e := by cases e <;> rfl

noncomputable def lowOp : Operator → Option Op
  | .Add => some .add
  | .Sub => some .sub
  | .Mult => some .mul
  | .FloorDiv => some .fdiv
  | .Mod => some .mod
  | _ => none
noncomputable def lowCmp : CmpOp → Option Op
  | .Eq => some .eq
  | .NotEq => some .ne
  | .Lt => some .lt
  | .LtE => some .le
  | .Gt => some .gt
  | .GtE => some .ge
  | .In => some .isin
  | .NotIn => some .notin
  | _ => none
noncomputable def lowL (f : Expr → Option E) : List Expr → Option Es
  | [] => some .nil
  | e :: r => (f e).bind fun a => (lowL f r).map fun b => .cons a b
noncomputable def lowCs (f : Expr → Option E) : List CmpOp → List Expr → Option (List Op × Es)
  | [o], [e] => (lowCmp o).bind fun o => (f e).map fun a => ([o], .cons a .nil)
  | o :: o2 :: os, e :: e2 :: es => (lowCmp o).bind fun o => (f e).bind fun a => (lowCs f (o2 :: os) (e2 :: es)).map fun q => (o :: q.1, .cons a q.2)
  | _, _ => none
/-- the builtins of one argument, and of two -/
noncomputable def f1Names : List (Str × F1) := [("len", .len), ("sum", .sum), ("max", .max), ("min", .min), ("list", .list), ("tuple", .tuple), ("sorted", .sorted), ("int", .int), ("all", .all), ("range", .range)]
noncomputable def f2Names : List (Str × F2) := [("max", .max), ("min", .min)]
noncomputable def tyNames : List (Str × Ty) := [("int", .int), ("bool", .bool), ("list", .list), ("tuple", .tuple), ("ValueError", .valueError)]
noncomputable def lowTy (cx : Cx) (x : Str) : Option Ty := (tyNames.lookup x).elim ((cx.cls.lookup x).map .exc) some

noncomputable def relab (kd : List (Str × NameKind)) (names : List (Str × NameKind)) : List (Str × NameKind) :=
  names.map fun p => if p.2 == .free && kd.lookup p.1 == some .cell then (p.1, .cell) else p
noncomputable def nameV : EV → Option Str
  | .name x _ => some x
  | _ => none
noncomputable abbrev asName (e : Expr) : Option Str := nameV (view e)
noncomputable def asNames : List Expr → Option (List Str)
  | [] => some []
  | e :: r => (asName e).bind fun x => (asNames r).map (x :: ·)
/-- the names that a target binds -/
noncomputable def tgtNames : EV → Option (Option Nat × List Str)
  | .name x _ => some (none, [x])
  | .tuple es _ _ => (asNames es).map fun l => (some l.length, l)
  | _ => none
noncomputable def freeOf (kd : List (Str × NameKind)) (tb : List (Str × Nat)) (nx : Nat) : List (Str × NameKind) → Option (List (Str × Nat))
  | [] => some []
  | p :: r => cond (p.2 == .free) (cond (kd.lookup p.1 == some .cell || kd.lookup p.1 == some .free) ((tb.lookup p.1).bind fun i => cond (decide (i < nx)) ((freeOf kd tb nx r).map ((p.1, i) :: ·)) none) none) (freeOf kd tb nx r)
noncomputable def Cx.inner (cx : Cx) (sc : Scope) (ts : List Str) : Option Cx :=
  cond (sc.kind == .function && decide (sc.names.map (·.1)).Nodup && decide ts.Nodup && ts.all (fun x => sc.names.lookup x == some .local || sc.names.lookup x == some .cell))
    ((freeOf cx.kd cx.tb cx.nx sc.names).map fun fr => { cx with kd := relab cx.kd sc.names, tb := (ts.zip (List.range' cx.nx ts.length)) ++ fr, nx := cx.nx + ts.length, ow := [] }) none

noncomputable def constV : EV → Option Const
  | .const x _ _ => some x
  | _ => none
noncomputable def isNoneC : Const → Bool
  | .none => true
  | _ => false
noncomputable def intC : Const → Option Int
  | .int i => some i
  | _ => none
noncomputable def isStrC : Const → Bool
  | .str _ => true
  | _ => false
noncomputable def isTrueC : Const → Bool
  | .bool b => b
  | _ => false
noncomputable abbrev asIntC (e : Expr) : Option Int := (constV (view e)).bind intC
noncomputable abbrev isC (p : Const → Bool) (e : Expr) : Bool := (constV (view e)).any p
noncomputable def asTrueKw (k : Keyword) : Option Str := k.arg.bind fun x => cond (isC isTrueC k.value) (some x) none
noncomputable def constD : Const → Option PyData
  | .int i => some (.int i)
  | .str s => some (.str s)
  | .bool b => some (.bool b)
  | .none => some .none
  | _ => none
/-- is, is not: None alone -/
noncomputable def isOp : CmpOp → Option Bool
  | .Is => some false
  | .IsNot => some true
  | _ => none
noncomputable def lowIs (le : Expr → Option E) (l : Expr) (o : CmpOp) (r : Expr) : Option E := (isOp o).bind fun neg => cond (isC isNoneC r) ((le l).map (.f1 (cond neg .notNone .isNone))) none
noncomputable def lowCmps (le : Expr → Option E) (l : Expr) (os : List CmpOp) (rs : List Expr) : Option E := cond (!lastMarks os rs) ((le l).bind fun a => (lowCs le os rs).map fun q => .cmp a q.1 q.2) none
noncomputable def lowCompare (le : Expr → Option E) (l : Expr) : List CmpOp → List Expr → Option E
  | [o], [r] => cond (isOp o).isSome (lowIs le l o r) (lowCmps le l [o] [r])
  | os, rs => lowCmps le l os rs
noncomputable def lowPow (a b : Option Int) : Option E := a.bind fun a => b.bind fun b => cond (decide (0 < a) && decide (a ≤ 10) && decide (0 ≤ b) && decide (b ≤ 20)) (some (.k (.int (a ^ b.toNat)))) none
noncomputable def isPow : Operator → Bool
  | .Pow => true
  | _ => false
noncomputable def lowBin (le : Expr → Option E) (l : Expr) (o : Operator) (r : Expr) : Option E :=
  cond (isPow o) (lowPow (asIntC l) (asIntC r)) ((lowOp o).bind fun o => (le l).bind fun a => (le r).map fun b => .op o a b)
noncomputable def lowSlice (le : Expr → Option E) (a : Expr) : Option Expr → Option Expr → Option Expr → Option E
  | some i, none, none => (le a).bind fun a => (le i).map fun i => .sfrom a i
  | none, some i, none => (le a).bind fun a => (le i).map fun i => .sto a i
  | _, _, _ => none
noncomputable def lowSub (le : Expr → Option E) (a i : Expr) : EV → Option E
  | .slice i j k _ => lowSlice le a i j k
  | _ => (le a).bind fun a => (le i).map fun i => .idx a i
/-- the argument of set(..) -/
noncomputable def asSet (cx : Cx) : EV → Option Expr
  | .call f [a] [] _ => (asName f).bind fun g => cond (g == "set" && cx.glob g) (some a) none
  | _ => none
/-- a call of a builtin -/
noncomputable def lowBuilt (le : Expr → Option E) (cx : Cx) (f : Str) : List Expr → List Keyword → Option E
  | [a], [] => (f1Names.lookup f).bind fun g => (asSet cx (view a)).elim ((le a).map (.f1 g)) fun b => cond (f == "len") ((le b).map (.f1 .dist)) none
  | [a], [k] => (asTrueKw k).bind fun k => cond (f == "sorted" && k == "reverse") ((le a).map (.f1 .sortedR)) none
  | [a, b], [] => cond (f == "isinstance") ((asName b).bind fun t => cond (cx.glob t) ((lowTy cx t).bind fun t => (le a).map (.f1 (.isi t))) none) ((f2Names.lookup f).bind fun f => (le a).bind fun a => (le b).map fun b => .f2 f a b)
  | _, _ => none
noncomputable def lowCallE (le : Expr → Option E) (cx : Cx) (f : Str) (args : List Expr) (kws : List Keyword) : Option E :=
  cond (cx.glob f) ((cx.fns.lookup f).elim (lowBuilt le cx f args kws) fun k => cond kws.isEmpty ((lowL le args).map (.call k)) none) none
noncomputable def lowSrc (le : Expr → Option E) (cx : Cx) (iter : Expr) (t : Option Nat) (cs : Es) (e : E) : Option E :=
  (le iter).map fun src => .comp t src cs e
/-- x.index(k) -/
noncomputable def lowIndex (le : Expr → Option E) (x : Expr) (m : Str) (c : Bool) : List Expr → Option E
  | [k] => cond (c && m == "index") ((le x).bind fun a => (le k).map fun b => .index a b) none
  | _ => none
noncomputable def lowCalls (le : Expr → Option E) (cx : Cx) (args : List Expr) (kws : List Keyword) (p : Pos) : EV → Option E
  | .name f _ => lowCallE le cx f args kws
  | .attr a m ap => lowIndex le a m (kws.isEmpty && ap.endLine == p.line && (asName a).isSome) args
  | _ => none
noncomputable def lowCompE (le : Cx → Expr → Option E) (cx : Cx) (elt : Expr) (sc : Scope) : List Comprehension → Option E
  | [⟨t, iter, ifs, ia⟩] => cond (ia == 0 && decide (ifs.length ≤ 1)) ((tgtNames (view t)).bind fun tn => (cx.inner sc tn.2).bind fun cx' => (le cx' elt).bind fun e => (lowL (le cx') ifs).bind fun cs => lowSrc (le cx) cx iter tn.1 cs e) none
  | _ => none
noncomputable def lowDict (le : Expr → Option E) : List (Option Expr) → List Expr → Option E
  | [], [] => some .dic0
  | [some k], [v] => cond (isC isTrueC v) ((le k).map .dic1) none
  | _, _ => none
noncomputable def lowUn (le : Expr → Option E) (e : Expr) : UnaryOp → Option E
  | .Not => (le e).map (.f1 .not)
  | .USub => (asIntC e).map fun i => .k (.int (-i))
  | _ => none
noncomputable def lowBoolE (le : Expr → Option E) (es : List Expr) : BoolOp → Option E
  | .And => (lowL le es).map .and
  | .Or => (lowL le es).map .or
noncomputable def lowV (le : Cx → Expr → Option E) (cx : Cx) : EV → Option E
  | .name x _ => (cx.var x).elim (cond (cx.glob x) ((cx.cst.lookup x).map fun i => .k (.int i)) none) fun i => some (.nm i)
  | .const c _ _ => (constD c).map .k
  | .unary o e _ => lowUn (le cx) e o
  | .bin l o r _ => lowBin (le cx) l o r
  | .bool o es _ => lowBoolE (le cx) es o
  | .cmp l os rs _ => lowCompare (le cx) l os rs
  | .tuple es _ _ => cond (decide (es.length < 1000)) ((lowL (le cx) es).map .tup) none
  | .list es _ => cond (decide (es.length < 1000)) ((lowL (le cx) es).map .lst) none
  | .dict ks vs _ => lowDict (le cx) ks vs
  | .sub a i _ => lowSub (le cx) a i (view i)
  | .call f args kws p => lowCalls (le cx) cx args kws p (view f)
  | .comp elt gens sc _ => lowCompE le cx elt sc gens
  | _ => none
noncomputable def lowE : Nat → Cx → Expr → Option E
  | 0, _, _ => none
  | n + 1, cx, pe => lowV (lowE n) cx (view pe)
theorem name_eq (e : Expr) : All (asName e) fun x => ∃ p, e = .Name x p := by
  have h := view_eq e
  unfold asName
  cases q : view e with
  | name x p => rw [q] at h; exact .so ⟨p, h.symm⟩
  | _ => exact .no
theorem const_eq (e : Expr) : All (constV (view e)) fun x => ∃ k p, e = .Constant x k p := by
  have h := view_eq e
  cases q : view e with
  | const x k p => rw [q] at h; exact .so ⟨k, p, h.symm⟩
  | _ => exact .no
theorem intC_eq (x : Const) : All (intC x) fun i => x = .int i := by
  cases x with
  | int i => exact .so rfl
  | _ => exact .no
theorem asIntC_eq (e : Expr) : All (asIntC e) fun i => ∃ k p, e = .Constant (.int i) k p := .bind fun x h1 i h2 => intC_eq x i h2 ▸ const_eq e x h1
theorem isC_eq {p : Const → Bool} {e : Expr} (h : isC p e = true) : ∃ x k q, e = .Constant x k q ∧ p x = true := by
  obtain ⟨x, h1, h2⟩ := (Option.any_eq_true p _).mp h
  obtain ⟨k, q, h3⟩ := const_eq e x h1
  exact ⟨x, k, q, h3, h2⟩

/-! Statements. -/
noncomputable def lowVars (cx : Cx) : List Expr → Option (List Nat)
  | [] => some []
  | e :: r => (asName e).bind fun x => (cx.var x).bind fun i => (lowVars cx r).map (i :: ·)
noncomputable def lowTgt (cx : Cx) : EV → Option Tgt
  | .name x _ => (cx.var x).map .one
  | .tuple es _ _ => (lowVars cx es).map .many
  | _ => none
noncomputable def unpV : EV → Bool
  | .call .. => true
  | .name .. => true
  | .sub .. => true
  | _ => false
noncomputable def lowSs (f : Stmt → Option S) : List Stmt → Option Ss
  | [] => some .nil
  | s :: r => (f s).bind fun a => (lowSs f r).map fun b => .cons a b
noncomputable def popAttr (cx : Cx) (p : Pos) : EV → Option Nat
  | .attr a m ap => cond (m == "pop" && ap.endLine == p.line) ((asName a).bind cx.var) none
  | _ => none
noncomputable def lowPop (cx : Cx) : EV → Option Nat
  | .call f [] [] p => popAttr cx p (view f)
  | _ => none
noncomputable def lowAsg (le : Expr → Option E) (cx : Cx) (v : Expr) : EV → Option S
  | .name x _ => (cx.var x).bind fun i => (lowPop cx (view v)).elim ((le v).map fun e => .asg (cx.ow.contains i) i e) fun j => some (.pop i j)
  | .tuple ts _ _ => cond (unpV (view v)) ((lowVars cx ts).bind fun is => (le v).map fun e => .unp is e) none
  | .sub a k _ => (asName a).bind fun x => (cx.var x).bind fun i => (le k).bind fun k => cond (isC isTrueC v) (some (.key i k)) ((le v).map fun v => .set i k v)
  | _ => none
/-- the own names that stand in a tuple, themselves or a part of them -/
noncomputable def ownIn (cx : Cx) : EV → Option Nat
  | .name x _ => cx.var x
  | .sub a _ _ => (asName a).bind cx.var
  | _ => none
noncomputable def ownsIn (cx : Cx) : EV → List Nat
  | .tuple es _ _ => es.filterMap fun e => (ownIn cx (view e)).filter (cx.ow.contains ·)
  | _ => []
noncomputable def fzs : List Nat → S → S
  | [], s => s
  | i :: r, s => .fz i (fzs r s)
/-- an own name -/
noncomputable def ownNm (cx : Cx) : EV → Option Nat
  | .name x _ => (cx.var x).bind fun j => cond (cx.ow.contains j) (some j) none
  | _ => none
noncomputable def lowApp (le : Expr → Option E) (cx : Cx) (i : Nat) (a : Expr) : Option S := (le a).map fun a' => fzs (ownsIn cx (view a)) (.app i a')
noncomputable def lowMeth (le : Expr → Option E) (cx : Cx) (x : Str) (m : Str) : List Expr → Option S
  | [a₀] => (cx.var x).bind fun i => cond (m == "append") (lowApp le cx i a₀) none
  | [k, a] => (cx.var x).bind fun i => cond (m == "insert") ((le k).bind fun k => (le a).map fun a => .ins i k a) none
  | _ => none
noncomputable def lowRecv (le : Expr → Option E) (cx : Cx) (m : Str) (args : List Expr) : EV → Option S
  | .name x _ => lowMeth le cx x m args
  | _ => none
noncomputable def lowExpr2 (le : Expr → Option E) (cx : Cx) (e : Expr) (args : List Expr) (kws : List Keyword) (p : Pos) : EV → Option S
  | .attr a m ap => cond (kws.isEmpty && ap.endLine == p.line) (lowRecv le cx m args (view a)) none
  | .name _ _ => (le e).map .drop
  | _ => none
noncomputable def lowExpr (le : Expr → Option E) (cx : Cx) (e : Expr) : EV → Option S
  | .call f args kws p => lowExpr2 le cx e args kws p (view f)
  | _ => none
noncomputable def lowRet2 (le : Expr → Option E) (cx : Cx) (e : Expr) : List Expr → Option S
  | [a, b] => (ownNm cx (view a)).elim ((le e).map fun e' => fzs (ownsIn cx (view e)) (.ret e')) fun j => (le b).map (.ret2 j)
  | _ => (le e).map fun e' => fzs (ownsIn cx (view e)) (.ret e')
noncomputable def lowRet (le : Expr → Option E) (cx : Cx) (e : Expr) : EV → Option S
  | .tuple es _ _ => lowRet2 le cx e es
  | .name x _ => (cx.var x).elim ((le e).map .ret) fun i => some (.retm i)
  | _ => (le e).map .ret
noncomputable def lowRaise (cx : Cx) : EV → Option S
  | .call f [a] [] _ => cond (isC isStrC a) ((asName f).bind fun c => cond (cx.glob c) ((cx.cls.lookup c).map .rais) none) none
  | _ => none
noncomputable def lowTry (ls : Stmt → Option S) (cx : Cx) (body : List Stmt) : List ExceptHandler → Option S
  | [.ExceptHandler (some t) (some x) h _] => cond (cx.kd.lookup x == some .local && !h.isEmpty) ((asName t).bind fun c => cond (cx.glob c) ((cx.cls.lookup c).bind fun c => (cx.var x).bind fun k => (lowSs ls body).bind fun b => (lowSs ls h).map fun h => .tryx b c k h) none) none
  | _ => none
noncomputable def lowFor (le : Expr → Option E) (cx : Cx) (iter : Expr) (t : Tgt) (b : Ss) : EV → Option S
  | .name x _ => (cx.var x).map fun i => .loopn t i b
  | _ => (le iter).map fun src => .loop t src b
noncomputable def lowSV (le : Expr → Option E) (ls : Stmt → Option S) (cx : Cx) : Stmt → Option S
  | .Assign [t] v _ => lowAsg le cx v (view t)
  | .Expr e _ => lowExpr le cx e (view e)
  | .If t a b _ => (le t).bind fun t => (lowSs ls a).bind fun a => (lowSs ls b).map fun b => .ite t a b
  | .For t iter body [] _ => (lowTgt cx (view t)).bind fun t => (lowSs ls body).bind fun b => lowFor le cx iter t b (view iter)
  | .While c body [] _ => (le c).bind fun c => (lowSs ls body).map fun b => .whl c b
  | .Return (some e) _ => lowRet le cx e (view e)
  | .Raise (some e) none _ => lowRaise cx (view e)
  | .Try body hs [] [] _ => lowTry ls cx body hs
  | _ => none
noncomputable def lowS : Nat → Cx → Stmt → Option S
  | 0, _, _ => none
  | n + 1, cx, st => lowSV (lowE n cx) (lowS n cx) cx st

/-- the frame's names, in the order of the scope -/
noncomputable def slotsOf : List (Str × NameKind) → Nat → List (Str × Nat)
  | [], _ => []
  | p :: r, n => cond (p.2 == .local || p.2 == .cell) ((p.1, n) :: slotsOf r (n + 1)) (slotsOf r n)
/-- a def of the text is told by the small one -/
noncomputable def fnMatch (fns cls : List (Str × Nat)) (cst : List (Str × Int)) (fn : Fn) (ow : List Nat) (params : Arguments) (scope : Scope) (body : List Stmt) : Option Ss :=
  cond (scope.kind == .function && !scope.isGenerator && !scope.isCoroutine && decide (scope.names.map (·.1)).Nodup && scope.names.all (fun p => p.2 != .free)
    && params.posonlyargs.isEmpty && params.vararg.isNone && params.kwonlyargs.isEmpty && params.kwarg.isNone && params.defaults.isEmpty
    && ((params.args.map fun a => (slotsOf scope.names 0).lookup a.arg) == (List.range fn.np).map some) && (slotsOf scope.names 0).length == fn.ns)
    (lowSs (lowS 40 { kd := scope.names, tb := slotsOf scope.names 0, nx := fn.ns, fns := fns, cls := cls, cst := cst, ow := ow }) body) none
end TC

namespace TC
open PySem PySem.W PyProof.Rows

/-! What the small language's words mean in the model. -/
/-- a list or dict of the frame's own, at a; P hides a too -/
noncomputable def OwnAt (P : AP) (h : Heap) (a : Addr) : PyData → Prop
  | .list xs => ∃ vs n, h.get? a = some (listObj vs n) ∧ PRs P h vs.toList xs
  | .dict kvs => ∃ es n, h.get? a = some (dictObj es n) ∧ PRs P h (es.toList.map (·.key)) (kvs.map (·.1)) ∧ PRs P h (es.toList.map (·.val)) (kvs.map (·.2)) ∧ DictOk a es kvs
  | _ => False
theorem OwnAt.is {P : AP} {h : Heap} {a : Addr} {x : PyData} (r : OwnAt P h a x) : Is h a := by
  cases x with
  | list xs => exact let ⟨_, _, e, _⟩ := r; ⟨_, e, .list _ _⟩
  | dict kvs => exact let ⟨_, _, e, _⟩ := r; ⟨_, e, .dict _ _⟩
  | _ => exact r.elim
theorem OwnAt.pr {P P' : AP} {h : Heap} {a : Addr} {x : PyData} (r : OwnAt P h a x) (n : ¬ P' a) (s : ∀ b, P' b → P b) : PR P' h (.ref a) x := by
  cases x with
  | list xs => exact let ⟨_, _, e, q⟩ := r; .list n e (q.anti s)
  | dict kvs => exact let ⟨_, _, e, q, q', d⟩ := r; .dict n e (q.anti s) (q'.anti s) d
  | _ => exact r.elim
theorem OwnAt.move {P P' : AP} {h h' : Heap} {a : Addr} {x : PyData} (r : OwnAt P h a x) (k : Mv P P' h h') (ka : ∀ o, h.get? a = some o → h'.get? a = some o) : OwnAt P' h' a x := by
  cases x with
  | list xs => exact let ⟨vs, n, e, q⟩ := r; ⟨vs, n, ka _ e, q.move k⟩
  | dict kvs => exact let ⟨es, n, e, q, q', d⟩ := r; ⟨es, n, ka _ e, q.move k, q'.move k, d⟩
  | _ => exact r.elim

/-- an exception of the own class c, raised under no other -/
inductive Bare (h : Heap) (e : Addr) : Prop
  | mk (o : Obj) (vs : Array Value) : h.get? e = some o → o.data = .fields vs → vs[2]? = some .none → Bare h e
inductive ExcAt (ca : List Addr) (c : Nat) (h : Heap) (v : Value) : Prop
  | mk (e : Addr) (o : Obj) (vs : Array Value) (C : Addr) : v = .ref e → ca[c]? = some C → h.get? e = some o → o.cls = .ref C → o.dict = none → o.data = .fields vs → ExcAt ca c h v
/-- its traceback: none yet, or one that is new, with the mark fl -/
inductive Trb (h₀ h : Heap) (e : Addr) (fl : Value) (vs : Array Value) : Prop
  | no : fl = .none → vs[1]? = some .none → Trb h₀ h e fl vs
  | at (T : Addr) (oT : Obj) (ts : Array Value) : vs[1]? = some (.ref T) → h₀.get? T = none → T ≠ e → h.get? T = some oT → oT.data = .fields ts → ts[3]? = some fl → Trb h₀ h e fl vs
/-- an exception of the class C at e, new since h₀, on its way -/
inductive Fly (h₀ : Heap) (e C : Addr) (fl : Value) (h : Heap) : Prop
  | mk (oe : Obj) (vs : Array Value) : h₀.get? e = none → h.get? e = some oe → oe.cls = .ref C → oe.dict = none → oe.data = .fields vs → vs[2]? = some .none → Trb h₀ h e fl vs → Fly h₀ e C fl h
theorem Fly.back {fr : AP} {h₀ h₁ h : Heap} {e C : Addr} {fl : Value} (x : Fly h₁ e C fl h) (k : Ext fr h₀ h₁) : Fly h₀ e C fl h := by
  obtain ⟨oe, vs, n, h1, h2, h3, h4, h5, h6⟩ := x
  refine ⟨oe, vs, k.gone n, h1, h2, h3, h4, h5, ?_⟩
  cases h6 with
  | no a b => exact .no a b
  | «at» T oT ts q1 q2 q3 => exact .at T oT ts q1 (k.gone q2) q3 ‹_› ‹_› ‹_›

structure Gl where
  prog : Program
  w : World
  K : Frag
  B : Heap
  p : Program
  loose : List Str
  mean : ExcName → Option Value
  mg : Str → Option Value
  mb : Str → Option Value
  fns : List (Str × Nat)
  fa : List Addr
  cls : List (Str × Nat)
  ca : List Addr
  cst : List (Str × Int)
  tab : List Fn

noncomputable def usedNames : List Str := ["len", "sum", "max", "min", "list", "tuple", "sorted", "set", "int", "all", "isinstance", "range", "zip", "reversed", "bool", "ValueError"]
/-- the bases of the own classes: those of ValueError -/
noncomputable def bmV : List Value := [.type "ValueError", .type "Exception", .type "BaseException", .type "object"]
/-- what is asked of an own class of exceptions -/
noncomputable def ownOk1 (K : Frag) (C : Addr) : Bool :=
  findIn K (.ref C) "__getattribute__" == some (some (.builtin "BaseException.__getattribute__")) && findIn K (.ref C) "__getattr__" == some none && mroIn K C (.type "BaseException") == some true && (clsIn K C).isSome && findIn K (.ref C) "__class__" == some (some (.builtin "object.__class__")) && specialIn K (.builtin "object.__class__") "__get__" == some (some (.builtin "getset_descriptor.__get__"))
    && takesIn K (.builtin "object.__class__") == some true && mroIn K C (.type "object") == some true && mroIn K C (.type "ValueError") == some true && typeIn K (.ref C) == some (.type "type")
structure Gl.Ok (G : Gl) : Prop where
  inK : G.K.In G.B
  top : Top G.p G.loose G.mean G.mg G.mb G.B
  fnm : ∀ x k, G.fns.lookup x = some k → ∃ a, G.fa[k]? = some a ∧ nsIn G.K mainGlobals x = some (some (.ref a))
  cnm : ∀ x k, G.cls.lookup x = some k → ∃ a, G.ca[k]? = some a ∧ nsIn G.K mainGlobals x = some (some (.ref a))
  cnst : ∀ x i, G.cst.lookup x = some i → ∃ t, nsIn G.K mainGlobals x = some (some (.int i t))
  bnm : ∀ x ∈ usedNames, nsIn G.K mainGlobals x = some none
  fok : ∀ (k : Nat) a, G.fa[k]? = some a → ∃ (d : DefRec) (fn : Fn) (ow : List Nat), d ∈ recsOf G.p ∧ nsIn G.K mainGlobals d.name = some (some (.ref a)) ∧ G.tab[k]? = some fn ∧ fnMatch G.fns G.cls G.cst fn ow d.params d.scope d.body = some fn.body
    ∧ ∀ (pm code doc : Value) (vals : List Value), vals.length = fn.np → bindArgs (Calls.docDef d.name d.params d.body d.scope pm code doc) ⟨vals, []⟩ = pure ((d.params.args.map (·.arg)).zip vals)
  cok : ∀ (c : Nat) C, G.ca[c]? = some C → ownOk1 G.K C = true
  csub : ∀ (c : Nat) C (c' : Nat) C', G.ca[c]? = some C → G.ca[c']? = some C' → mroIn G.K C (.ref C') = some (c' == 0 || c == c')
  cown : ∀ (c : Nat) C, G.ca[c]? = some C → ∃ x, OwnCls x C bmV "ValueError.__new__" G.mg G.B

noncomputable def varAt (env : Env) (h : Heap) (x : Str) (v : Value) : Prop :=
  (env.kindOf x = some .local ∧ ∃ m, h.Ns env.locals m ∧ m x = some v) ∨ ((env.kindOf x = some .cell ∨ env.kindOf x = some .free) ∧ ∃ c, env.cells.lookup x = some c ∧ h.IsCell c (some v))
theorem varAt.ext {env : Env} {h h' : Heap} {x : Str} {v : Value} {fr : AP} (y : varAt env h x v) (e : Ext fr h h') : varAt env h' x v :=
  y.imp (fun ⟨k, m, n, q⟩ => ⟨k, m, e.ns n, q⟩) fun ⟨k, c, n, q⟩ => ⟨k, c, n, e.cell q⟩

/-- what stays while an expression is reckoned: the text, the frames, the hidden places, the start, the names' values, the ends by an exception -/
structure Cf where
  G : Gl
  dep : Nat
  cx : Cx
  env : Env
  hm : Bool
  A : Around
  envs : List Env
  hid : AP
  ρ : Rho
  b : Shared
  X : Nat → Prop
  E : Value → Shared → Prop
/-- the frames' objects -/
noncomputable def frOf (envs : List Env) : AP := fun b => b ∈ envs.filterMap (·.frame)
noncomputable abbrev Cf.fr (c : Cf) : AP := frOf c.envs
noncomputable abbrev Cf.M (c : Cf) : Model := model c.G.prog c.G.w
noncomputable abbrev Cf.wp {α : Type} (c : Cf) (m : Sem α) (Q : α → Shared → Prop) (s : Shared) : Prop := wpAny c.M c.A m Q c.E s
/-- P with one place more -/
noncomputable abbrev also (P : AP) (a : Addr) : AP := fun b => b = a ∨ P b

/-- a new pair, whose first part is new, too, and no one else's -/
inductive OtV (hb : Heap) (hid : AP) (h : Heap) (v : Value) (x : PyData) : Prop
  | mk (t a : Addr) (v2 : Value) (m : Nat) : v = .ref t → hb.get? t = none → hb.get? a = none → h.get? t = some (tupObj #[.ref a, v2] m) → OwnAt (also hid a) h a x → OtV hb hid h v x
theorem OtV.move {hb hb' h h' : Heap} {hid hid' : AP} {v : Value} {x : PyData} (r : OtV hb hid h v x) (n : ∀ b, hb.get? b = none → hb'.get? b = none) (k : ∀ b o, hb.get? b = none → h.get? b = some o → h'.get? b = some o) (mv : ∀ b o, ¬ hid b → h.get? b = some o → ¬ hid' b ∧ h'.get? b = some o) : OtV hb' hid' h' v x := by
  obtain ⟨t, a, v2, m, e, nt, na, ht, r⟩ := r
  exact ⟨t, a, v2, m, e, n t nt, n a na, k t _ nt ht, r.move (fun b o nb e => ⟨fun q => q.elim (fun q => nb (.inl q)) (mv b o (fun q => nb (.inr q)) e).1, (mv b o (fun q => nb (.inr q)) e).2⟩) fun o e => k a o na e⟩
/-- a value on the way, reckoned since the heap hb -/
noncomputable def VR (ca : List Addr) (hb : Heap) (hid fr : AP) (h : Heap) (v : Value) : V → Prop
  | .d x => PR hid h v x
  | .brw x => PR fr h v x
  | .own x => ∃ a, v = .ref a ∧ hb.get? a = none ∧ OwnAt (also hid a) h a x
  | .exc k => ExcAt ca k h v
  | .rg n => ∃ r t1 t2 t3, v = .ref r ∧ ¬ fr r ∧ (-(lim : Int) < n ∧ n < lim) ∧ IsRange h r 0 n 1 t1 t2 t3
  | .ot x _ => OtV hb hid h v x
noncomputable abbrev Cf.R (c : Cf) (s : Shared) (v : Value) (u : V) : Prop := VR c.G.ca c.b.heap c.hid c.fr s.heap v u

theorem Bare.ext {h h' : Heap} {a : Addr} {fr : AP} (x : Bare h a) (e : Ext fr h h') : Bare h' a := by
  obtain ⟨o, vs, h1, h2, h3⟩ := x
  obtain ⟨_, q⟩ := (e a o h1).2
  exact ⟨_, vs, q, h2, h3⟩
noncomputable def HOk (hm : Bool) (A : Around) (h : Heap) : Prop := (hm = false ∧ A.handled = none) ∨ (hm = true ∧ ∃ e, A.handled = some (.ref e) ∧ Bare h e)
theorem HOk.ext {hm : Bool} {A : Around} {h h' : Heap} {fr : AP} (x : HOk hm A h) (e : Ext fr h h') : HOk hm A h' :=
  x.imp_right fun ⟨x, a, y, z⟩ => ⟨x, a, y, z.ext e⟩
structure Stk (c : Cf) (h : Heap) : Prop where
  frames : c.A.frames = some c.envs
  funs : h.FunFrames c.G.B c.envs
  base : c.G.B.StaysIn h
noncomputable def Same (s s' : Shared) : Prop := s'.gens = s.gens ∧ s'.os = s.os
theorem Same.refl (s : Shared) : Same s s := ⟨rfl, rfl⟩
theorem Same.trans {a b c : Shared} (x : Same a b) (y : Same b c) : Same a c := ⟨y.1.trans x.1, y.2.trans x.2⟩
theorem Same.mk' {a b c : Shared} (x : Same a b) (y : Same a c) : Same b c := ⟨y.1.trans x.1.symm, y.2.trans x.2.symm⟩
/-- the state, seen from a call -/
structure AtC (c : Cf) (s : Shared) : Prop where
  stk : Stk c s.heap
  hok : HOk c.hm c.A s.heap
  dom : ∀ b, c.hid b → Is s.heap b
  ext : Ext c.fr c.b.heap s.heap
  same : Same c.b s
structure At (c : Cf) (s : Shared) : Prop extends AtC c s where
  envr : ∀ x i, c.cx.tb.lookup x = some i → ∀ u, c.ρ[i]? = some (some u) → ∃ v, varAt c.env s.heap x v ∧ c.R s v (nmV u)
  cok : ∀ x a, c.env.cells.lookup x = some a → ∃ o, s.heap.get? a = some o
/-- an exception of the own class k on its way through the frames -/
noncomputable def Raised (c : Cf) (e : Addr) (k : Nat) (h' : Heap) : Prop := ∃ C, c.G.ca[k]? = some C ∧ Fly c.b.heap e C .none h' ∧ Ext c.fr c.b.heap h'
structure WfC (c : Cf) : Prop where
  ok : c.G.Ok
  depth : c.A.depth + c.dep ≤ 900
  units : c.A.units + 20 * c.dep ≤ 9000
  sub : ∀ b, c.fr b → c.hid b
  dom0 : ∀ b, c.hid b → Is c.b.heap b
  thr : ∀ e s' k, Raised c e k s'.heap → Same c.b s' → c.X k → c.E (.ref e) s'
structure EnvOk (G : Gl) (cx : Cx) (env : Env) : Prop where
  kind : env.scope.kind = .function
  names : env.scope.names = cx.kd
  glob : env.globals = mainGlobals
  bns : env.builtins = builtinsNs
  fns : cx.fns = G.fns
  cls : cx.cls = G.cls
  cst : cx.cst = G.cst
  cells : ∀ x, (cx.kd.lookup x = some .cell ∨ cx.kd.lookup x = some .free) → ∃ c, env.cells.lookup x = some c
  nocd : ∀ x, cx.kd.lookup x = some .free → (x == ("__classdict__" : Str)) = false
structure Wf (c : Cf) : Prop extends WfC c where
  envok : EnvOk c.G c.cx c.env
  len : c.ρ.length = c.cx.nx
/-- what holds of the value and the state behind -/
noncomputable abbrev Fin (c : Cf) (s : Shared) (K : V → Prop) (Q : Value → Shared → Prop) : Prop := ∀ v s' u, At c s' → Ext c.fr s.heap s'.heap → c.R s' v u → K u → Q v s'
noncomputable abbrev FinB (c : Cf) (s : Shared) (K : V → Prop) (Q : Bool → Shared → Prop) : Prop := ∀ b s', At c s' → Ext c.fr s.heap s'.heap → K (.d (.bool b)) → Q b s'
noncomputable def OkE (c : Cf) (pe : Expr) (e : E) : Prop := ∀ s K Q, At c s → wpE (wpCall c.G.tab c.dep) c.hm c.X e c.ρ K → Fin c s K Q → c.wp (eval pe c.env) Q s
noncomputable def OkT (c : Cf) (pe : Expr) (e : E) : Prop := ∀ s K Q, At c s → wpE (wpCall c.G.tab c.dep) c.hm c.X e c.ρ K → (∀ u, K u → ∃ b, u = .d (.bool b)) → FinB c s K Q → c.wp (isTrue pe c.env (eval pe c.env)) Q s
end TC

namespace TC
open PySem PySem.W PyProof.Rows

section
variable {c : Cf} {s s' : Shared} {v : Value} {u : V} {x : PyData} {xs : List PyData} {K : V → Prop} {Q : Value → Shared → Prop}
theorem guardO_inv {α : Type} {p : Prop} [Decidable p] {a b : α} (e : guardO p a = some b) : p ∧ a = b := by
  unfold guardO at e; split at e
  · exact ⟨‹_›, Option.some.inj e⟩
  · cases e
theorem WfC.new_hid (W : WfC c) {a : Addr} (n : c.b.heap.get? a = none) : ¬ c.hid a := fun q => (W.dom0 a q).not_none n
theorem WfC.new_fr (W : WfC c) {a : Addr} (n : c.b.heap.get? a = none) : ¬ c.fr a := fun q => W.new_hid n (W.sub a q)
theorem ExcAt.ext {ca : List Addr} {k : Nat} {h h' : Heap} {fr : AP} (r : ExcAt ca k h v) (x : Ext fr h h') : ExcAt ca k h' v := by
  obtain ⟨e, o, vs, C, h1, h2, h3, h4, h5, h6⟩ := r
  obtain ⟨_, q⟩ := (x e o h3).2
  exact ⟨e, _, vs, C, h1, h2, q, h4, h5, h6⟩
theorem WfC.R (W : WfC c) (r : c.R s v u) (x : Ext c.fr s.heap s'.heap) : c.R s' v u := by
  cases u with
  | d y => exact PR.move (mv_ext x W.sub) r
  | brw y => exact PR.move (mv_ext x fun _ b => b) r
  | own y =>
    obtain ⟨a, e, n, r⟩ := r
    exact ⟨a, e, n, r.move (mv_ext x fun b q => .inr (W.sub b q)) fun o q => (x a o q).1 (W.new_fr n)⟩
  | exc k => exact ExcAt.ext r x
  | rg n =>
    obtain ⟨a, t1, t2, t3, e, n, l, r⟩ := r
    exact ⟨a, t1, t2, t3, e, n, l, (x a _ r).1 n⟩
  | ot y z => exact OtV.move r (fun _ q => q) (fun b o n e => (x b o e).1 (W.new_fr n)) fun b o n e => ⟨n, (x b o e).1 fun q => n (W.sub b q)⟩
theorem Stk.ext {h h' : Heap} (S : Stk c h) (x : Ext c.fr h h') : Stk c h' :=
  ⟨S.frames, S.funs.of_keeps fun b o q _ => let ⟨_, y⟩ := (x b o q).2; ⟨_, y, rfl⟩, fun b o e => (x b o (S.base b o e)).1 fun q => some_none e (S.funs.mem q).1⟩
theorem AtC.go (a : AtC c s) (x : Ext c.fr s.heap s'.heap) (m : Same s s') : AtC c s' := ⟨a.stk.ext x, a.hok.ext x, fun b q => (a.dom b q).ext x, a.ext.trans x, a.same.trans m⟩
theorem WfC.go (W : WfC c) (a : At c s) (x : Ext c.fr s.heap s'.heap) (m : Same s s') : At c s' :=
  ⟨a.toAtC.go x m, fun y i hy u hu => let ⟨v, h1, h2⟩ := a.envr y i hy u hu; ⟨v, h1.ext x, W.R h2 x⟩, fun y b e => let ⟨o, q⟩ := a.cok y b e; let ⟨_, q'⟩ := (x b o q).2; ⟨_, q'⟩⟩
/-- kept as plain data -/
theorem WfC.keep (W : WfC c) (a : AtC c s) (r : c.R s v u) : All (kp u) (PR c.hid s.heap v) := by
  cases u with
  | d y => exact .so r
  | brw y => exact fun z e => (guardO_inv e).2 ▸ flat_move a.dom r (guardO_inv e).1
  | own y => exact .so (let ⟨_, e, n, r⟩ := r; e ▸ r.pr (W.new_hid n) fun _ q => .inr q)
  | _ => exact .no
/-- read -/
theorem WfC.rdf (W : WfC c) (r : c.R s v u) : All (rd u) (PR c.fr s.heap v) := by
  cases u with
  | d y => exact .so (PR.anti r W.sub)
  | brw y => exact .so r
  | own y => exact .so (let ⟨_, e, n, r⟩ := r; e ▸ r.pr (W.new_fr n) fun b q => .inr (W.sub b q))
  | _ => exact .no
inductive IsL (P : AP) (h : Heap) (v : Value) (xs : List PyData) : Prop
  | mk (a : Addr) (vs : Array Value) (n : Nat) : v = .ref a → h.get? a = some (listObj vs n) → PRs P h vs.toList xs → IsL P h v xs
theorem listOf_eq (x : PyData) : All (listOf x) fun xs => x = .list xs := by
  cases x with
  | list ys => exact .so rfl
  | _ => exact .no
theorem PR.isL {P : AP} {h : Heap} (r : PR P h v x) (e : listOf x = some xs) : IsL P h v xs := by
  rw [listOf_eq x xs e] at r
  obtain ⟨a, vs, n, h1, _, h2, h3⟩ := r.inv
  exact ⟨a, vs, n, h1, h2, h3⟩
theorem WfC.ls (W : WfC c) (a : AtC c s) (r : c.R s v u) : All (lsV u) (IsL c.hid s.heap v) := by
  cases u with
  | d y => exact fun xs e => PR.isL r e
  | own y => exact fun xs e => PR.isL (W.keep a r y rfl) e
  | brw y =>
    refine .bind fun xs e ys e2 => ?_
    obtain ⟨b, vs, n, h1, h2, h3⟩ := PR.isL r e
    exact ⟨b, vs, n, h1, h2, (guardO_inv e2).2 ▸ flats_move a.dom h3 (guardO_inv e2).1⟩
  | _ => exact .no
theorem boolV_eq (u : V) : All (boolV u) fun b => u = .d (.bool b) := by
  cases u with
  | d x => cases x with
    | bool a => exact .so rfl
    | _ => exact .no
  | _ => exact .no
theorem intV_eq (u : V) : All (intV u) fun b => u = .d (.int b) := by
  cases u with
  | d x => cases x with
    | int a => exact .so rfl
    | _ => exact .no
  | _ => exact .no
theorem Cf.R.int {i : Int} (r : c.R s v u) (e : intV u = some i) : ∃ t, v = .int i t := by rw [intV_eq u i e] at r; exact PR.inv r
theorem Cf.R.bool {i : Bool} (r : c.R s v u) (e : boolV u = some i) : v = .bool i := by rw [boolV_eq u i e] at r; exact PR.inv r

/-- the ends that a step of the model leaves, for one value -/
noncomputable abbrev Ret (c : Cf) (s : Shared) (u : V) (Q : Value → Shared → Prop) : Prop := ∀ v s', Ext c.fr s.heap s'.heap → Same s s' → c.R s' v u → Q v s'
theorem WfC.ret (W : WfC c) (a : At c s) (k : Fin c s K Q) (h : K u) : Ret c s u Q := fun v s' x m r => k v s' u (W.go a x m) x r h
theorem Fin.at {s₁ : Shared} (k : Fin c s K Q) (x : Ext c.fr s.heap s₁.heap) : Fin c s₁ K Q := fun v s' u a x' r h => k v s' u a (x.trans x') r h
theorem Ret.int {i : Int} (h : Ret c s (.d (.int i)) Q) (t tk : Tok) : Q (.int i t) { s with toks := tk } := h _ { s with toks := tk } (Ext.refl _ _) ⟨rfl, rfl⟩ (PR.int _ _)
theorem Ret.bool {b : Bool} (h : Ret c s (.d (.bool b)) Q) (tk : Tok) : Q (.bool b) { s with toks := tk } := h _ { s with toks := tk } (Ext.refl _ _) ⟨rfl, rfl⟩ (PR.bool _)
theorem Ret.bool' {b : Bool} (h : Ret c s (.d (.bool b)) Q) : Q (.bool b) s := h.bool s.toks
theorem Ret.kint {i : Int} (h : Ret c s (.d (.int i)) Q) (t : Tok) {h' : Heap} (k : Keep s.heap h') (tk : Tok) : Q (.int i t) { s with heap := h', toks := tk } := h _ { s with heap := h', toks := tk } (Ext.of k) ⟨rfl, rfl⟩ (PR.int _ _)
theorem Ret.kbool {i : Bool} (h : Ret c s (.d (.bool i)) Q) {h' : Heap} (k : Keep s.heap h') (tk : Tok) : Q (.bool i) { s with heap := h', toks := tk } := h _ { s with heap := h', toks := tk } (Ext.of k) ⟨rfl, rfl⟩ (PR.bool _)
/-- a new list at a place that was free, all else kept -/
theorem Ret.new {h' : Heap} {l : Addr} {vs : Array Value} {n : Nat} (k : Ret c s (.own (.list xs)) Q) (a : AtC c s) (kh : Keep s.heap h') (nl : s.heap.get? l = none) (hl : h'.get? l = some (listObj vs n)) (r : PRs c.hid s.heap vs.toList xs) (tk : Tok) : Q (.ref l) { s with heap := h', toks := tk } :=
  k _ { s with heap := h', toks := tk } (Ext.of kh) ⟨rfl, rfl⟩ ⟨l, rfl, a.ext.gone nl, vs, n, hl, r.move fun b o nb e => ⟨fun q => q.elim (fun q => some_none (q ▸ e) nl) nb, kh b o e⟩⟩
theorem Ret.push {vs : Array Value} (k : Ret c s (.own (.list xs)) Q) (a : AtC c s) (n : Nat) (r : PRs c.hid s.heap vs.toList xs) : Q (.ref s.heap.objs.size) { s with heap := s.heap.push (listObj vs n) } :=
  k.new a (keep_push _ _) (size_none _) (Heap.get?_push_size _ rfl) r s.toks
theorem WfC.tup (W : WfC c) {vs : Array Value} (k : Ret c s (.d (.tuple xs)) Q) (a : AtC c s) (n : Nat) (r : PRs c.hid s.heap vs.toList xs) : Q (.ref s.heap.objs.size) { s with heap := s.heap.push (tupObj vs n) } :=
  k _ { s with heap := s.heap.push (tupObj vs n) } (Ext.of (keep_push _ _)) ⟨rfl, rfl⟩ (PR.tuple (W.new_hid (a.ext.gone (size_none _))) (Heap.get?_push_size _ rfl) (r.move fun b o nb e => ⟨nb, keep_push _ _ b o e⟩))
end
end TC

namespace TC
open PySem PySem.W PyProof.Rows

/-! Tables that are used as sets. -/
theorem intOf_eq (x : PyData) : All (intOf x) fun i => x = .int i := by
  cases x with
  | int i => exact .so rfl
  | _ => exact .no
theorem allInts_eq {xs : List PyData} : All (allOf intOf xs) fun is => xs = ofInts is := by
  induction xs with
  | nil => exact .so rfl
  | cons x xs ih => exact .bind fun a h1 => .map fun is h2 => by rw [intOf_eq x a h1, ih is h2]; rfl
theorem tupOf_eq (x : PyData) : All (tupOf x) fun is => x = .tuple (ofInts is) := by
  cases x with
  | tuple t => exact fun is e => congrArg _ (allInts_eq is e)
  | _ => exact .no
theorem allTups_eq {xs : List PyData} : All (allOf tupOf xs) fun ts => xs = ofTups ts := by
  induction xs with
  | nil => exact .so rfl
  | cons x xs ih => exact .bind fun a h1 => .map fun is h2 => by rw [tupOf_eq x a h1, ih is h2]; rfl
theorem ofInts_inj {a : List Int} : ∀ {b : List Int}, ofInts a = ofInts b → a = b := by
  induction a with
  | nil => intro b e; cases b with
    | nil => rfl
    | cons => cases e
  | cons x a ih => intro b e; cases b with
    | nil => cases e
    | cons y b => injection e with e1 e2; cases e1; rw [ih e2]
theorem ofTups_inj {a : List (List Int)} : ∀ {b : List (List Int)}, ofTups a = ofTups b → a = b := by
  induction a with
  | nil => intro b e; cases b with
    | nil => rfl
    | cons => cases e
  | cons x a ih => intro b e; cases b with
    | nil => cases e
    | cons y b => injection e with e1 e2; injection e1 with e1; rw [ih e2, ofInts_inj e1]
theorem ints_tups {a : List Int} {b : List (List Int)} (e : ofInts a = ofTups b) : a = [] ∧ b = [] := by
  cases a with
  | nil => cases b with
    | nil => exact ⟨rfl, rfl⟩
    | cons => cases e
  | cons => cases b with
    | nil => cases e
    | cons => injection e with e1 e2; cases e1
section
variable {P : AP} {h : Heap} {a : Addr} {es : Array DictEntry} {kvs : List (PyData × PyData)}
theorem DictOk.ints (d : DictOk a es kvs) {ks : List Int} (e : tabI kvs = some ks) : kvs.map (·.1) = ofInts ks ∧ es.toList.map (·.hash) = ks.map hashInt ∧ ks.Nodup := by
  have e := allInts_eq ks e
  rcases d.keys with ⟨ks', h1, h2, h3⟩ | ⟨ks', h1, h2, h3⟩
  · obtain rfl := ofInts_inj (e.symm.trans h1); exact ⟨h1, h2, h3⟩
  · obtain ⟨rfl, rfl⟩ := ints_tups (e.symm.trans h1); exact ⟨h1, h2, .nil⟩
theorem DictOk.tups (d : DictOk a es kvs) {ks : List (List Int)} (e : tabT kvs = some ks) : kvs.map (·.1) = ofTups ks ∧ es.toList.map (·.hash) = ks.map tupH ∧ ks.Nodup := by
  have e := allTups_eq ks e
  rcases d.keys with ⟨ks', h1, h2, h3⟩ | ⟨ks', h1, h2, h3⟩
  · obtain ⟨rfl, rfl⟩ := ints_tups (h1.symm.trans e); exact ⟨h1, h2, .nil⟩
  · obtain rfl := ofTups_inj (e.symm.trans h1); exact ⟨h1, h2, h3⟩
theorem DictOk.snd (d : DictOk a es kvs) : kvs.map (·.2) = (kvs.map (·.1)).map fun _ => PyData.bool true := by
  rw [List.map_map]; exact List.map_congr_left fun p hp => d.vals p hp
variable {prog : Program} {w : World}
theorem tab_ints {l : List DictEntry} : ∀ {ks : List Int}, PRs P h (l.map (·.key)) (ofInts ks) → PRs P h (l.map (·.val)) ((ofInts ks).map fun _ => .bool true) → l.map (·.hash) = ks.map hashInt →
    Pairs (intKind prog w) l (ks.map fun k => (k, .bool true)) ∧ ∀ e ∈ l, ∃ k, (intKind prog w).is k e.key = true ∧ e.hash = (intKind prog w).hash k := by
  induction l with
  | nil => intro ks r _ _; cases ks with
    | nil => exact ⟨.nil, fun e h => nomatch h⟩
    | cons => obtain ⟨_, _, e, _⟩ := r.inv; cases e
  | cons d l ih =>
    intro ks r q e
    cases ks with
    | nil => exact nomatch (show _ = ([] : List Value) from r.inv)
    | cons k ks =>
      obtain ⟨v, vs, e1, r1, r2⟩ := r.inv
      obtain ⟨v', vs', e2, q1, q2⟩ := q.inv
      injection e1 with e1 e3
      injection e2 with e2 e4
      injection e with e5 e6
      subst e1 e3 e2 e4
      obtain ⟨t, ek⟩ := r1.inv
      obtain ⟨i1, i2⟩ := ih r2 q2 e6
      replace ek : d.key = .int k t := ek
      have is : (intKind prog w).is k d.key = true := by rw [ek]; exact intKind_is prog w k t
      refine ⟨.cons is (show d.val = .bool true from q1.inv) i1, fun z hz => ?_⟩
      rcases List.mem_cons.mp hz with rfl | hz
      · exact ⟨k, is, e5⟩
      · exact i2 z hz
theorem tab_of {d : Addr} {n : Nat} {ks : List Int} (ho : h.get? d = some (dictObj es n)) (rk : PRs P h (es.toList.map (·.key)) (kvs.map (·.1))) (rv : PRs P h (es.toList.map (·.val)) (kvs.map (·.2))) (ok : DictOk a es kvs) (e : tabI kvs = some ks) : h.DictOf (intKind prog w) d (ks.map fun k => (k, .bool true)) := by
  obtain ⟨h1, h2, h3⟩ := ok.ints e
  rw [ok.snd, h1] at rv
  rw [h1] at rk
  obtain ⟨p1, p2⟩ := tab_ints (prog := prog) (w := w) rk rv h2
  exact ⟨_, es, n, ho, ⟨rfl, rfl, rfl⟩, rfl, fun z hz => p2 z (Array.mem_toList_iff.mpr hz), p1, by rw [List.map_map]; exact (List.map_id ks).symm ▸ h3⟩
theorem pairs_tab {l : List DictEntry} {kv : List (Int × Value)} (hp : Pairs (intKind prog w) l kv) : (∀ e ∈ l, ∃ k, (intKind prog w).is k e.key = true ∧ e.hash = (intKind prog w).hash k) → (∀ p ∈ kv, p.2 = .bool true) →
    PRs P h (l.map (·.key)) (ofInts (kv.map (·.1))) ∧ PRs P h (l.map (·.val)) ((ofInts (kv.map (·.1))).map fun _ => .bool true) ∧ l.map (·.hash) = (kv.map (·.1)).map hashInt := by
  induction hp with
  | nil => exact fun _ _ => ⟨.nil, .nil, rfl⟩
  | cons h1 h2 _ ih =>
    rename_i e kv es kvs _
    intro hk ht
    obtain ⟨i1, i2, i3⟩ := ih (fun z hz => hk z (.tail _ hz)) fun z hz => ht z (.tail _ hz)
    obtain ⟨k, q1, q2⟩ := hk e (.head _)
    have ek : k = kv.1 := (intKind prog w).inj e.key k kv.1 q1 h1
    obtain ⟨t, q3⟩ := Value.isInt_shape h1
    refine ⟨.cons (show PR P h e.key (.int kv.1) by rw [q3]; exact .int _ _) i1, .cons (show PR P h e.val (.bool true) by rw [h2, ht kv (.head _)]; exact .bool _) i2, ?_⟩
    show e.hash :: _ = hashInt kv.1 :: _
    rw [i3, q2, ek]; rfl
theorem own_tab {d : Addr} {l : List (Int × Value)} (hm : h.DictOf (intKind prog w) d l) (ht : ∀ p ∈ l, p.2 = .bool true) (off : (d == sysModules) = false) : OwnAt P h d (.dict ((l.map (·.1)).map fun k => (.int k, .bool true))) := by
  obtain ⟨o, es, n, ho, ⟨c1, c2, c3⟩, hd, hk, hp, nd⟩ := hm
  obtain ⟨cls, dct, data, slots⟩ := o
  cases c1; cases c2; cases c3; cases hd
  obtain ⟨h1, h2, h3⟩ := pairs_tab (P := P) (h := h) hp (fun z hz => hk z (Array.mem_toList_iff.mp hz)) ht
  have e1 : (((l.map (·.1)).map fun k => (PyData.int k, PyData.bool true)).map (·.1)) = ofInts (l.map (·.1)) := by rw [List.map_map]; rfl
  refine ⟨es, n, ho, e1.symm ▸ h1, ?_, off, fun p hp => ?_, .inl ⟨l.map (·.1), e1, h3, nd⟩⟩
  · rw [List.map_map]; rw [ofInts, List.map_map] at h2; exact h2
  · obtain ⟨k, _, rfl⟩ := List.mem_map.mp hp; rfl
theorem items_are {vs : List Value} : ∀ {ks : List Int}, PRs P h vs (ofInts ks) → ItemsAre (intKind prog w) ks vs := by
  induction vs with
  | nil => intro ks r; cases ks with
    | nil => exact .nil
    | cons => obtain ⟨_, _, e, _⟩ := r.inv; cases e
  | cons v vs ih =>
    intro ks r
    cases ks with
    | nil => exact nomatch (show _ = ([] : List Value) from r.inv)
    | cons k ks =>
      obtain ⟨_, _, e1, r1, r2⟩ := r.inv
      cases e1
      obtain ⟨t, rfl⟩ := r1.inv
      exact .cons (intKind_is prog w k t) (ih r2)
theorem key_at {z : Addr} {ks : List Int} (r : PR P h (.ref z) (.tuple (ofInts ks))) : (tupleKind (intKind prog w)).is h ks z := by
  obtain ⟨b, vs, n, e, _, ho, q⟩ := r.inv
  cases e
  exact ⟨_, vs, n, ho, rfl, rfl, items_are q⟩
theorem tab_tups {l : List DictEntry} : ∀ {ks : List (List Int)}, PRs P h (l.map (·.key)) (ofTups ks) → PRs P h (l.map (·.val)) ((ofTups ks).map fun _ => .bool true) → l.map (·.hash) = ks.map tupH →
    ∃ xs : List (List Int × Addr × Value), xs.map (·.1) = ks ∧ l = xs.map (entryOfKey (tupleKind (intKind prog w))) ∧ ∀ x ∈ xs, (tupleKind (intKind prog w)).is h x.1 x.2.1 ∧ PR P h (.ref x.2.1) (.tuple (ofInts x.1)) ∧ x.2.2 = .bool true := by
  induction l with
  | nil => intro ks r _ _; cases ks with
    | nil => exact ⟨[], rfl, rfl, fun e h => nomatch h⟩
    | cons => obtain ⟨_, _, e, _⟩ := r.inv; cases e
  | cons d l ih =>
    intro ks r q e
    cases ks with
    | nil => exact nomatch (show _ = ([] : List Value) from r.inv)
    | cons k ks =>
      obtain ⟨v, vs, e1, r1, r2⟩ := r.inv
      obtain ⟨v', vs', e2, q1, q2⟩ := q.inv
      injection e1 with e1 e3
      injection e2 with e2 e4
      injection e with e5 e6
      subst e1 e3 e2 e4
      obtain ⟨xs, i1, i2, i3⟩ := ih r2 q2 e6
      obtain ⟨dh, dk, dv⟩ := d
      obtain ⟨z, vs, n, ek, _⟩ := r1.inv
      replace ek : dk = .ref z := ek
      subst ek
      obtain rfl : dv = .bool true := q1.inv
      obtain rfl : dh = tupH k := e5
      refine ⟨(k, z, .bool true) :: xs, by rw [← i1]; rfl, by rw [i2]; rfl, fun x hx => ?_⟩
      rcases List.mem_cons.mp hx with rfl | hx
      · exact ⟨key_at r1, r1, rfl⟩
      · exact i3 x hx
theorem find_has {α κ : Type} [BEq κ] [LawfulBEq κ] [DecidableEq κ] (f : α → κ) {xs : List α} {k : κ} : (xs.find? fun x => decide (f x = k)).isSome = (xs.map f).contains k := by
  induction xs with
  | nil => rfl
  | cons x xs ih =>
    rw [List.map_cons, List.contains_cons, List.find?_cons, ← ih]
    by_cases q : f x = k
    · rw [decide_eq_true q, beq_iff_eq.mpr q.symm]; rfl
    · rw [decide_eq_false q, beq_false_of_ne (Ne.symm q)]; rfl
theorem valueAt_set {ks : List Int} {k : Int} : (valueAt (ks.map fun k => (k, Value.bool true)) k).isSome = ks.contains k := by
  unfold valueAt
  rw [Option.isSome_map]
  refine (find_has (fun x : Int × Value => x.1)).trans ?_
  rw [List.map_map]
  exact congrArg (List.contains · k) (List.map_id ks)
theorem atKey_set {xs : List (List Int × Addr × Value)} {k : List Int} : (atKey xs k).isSome = (xs.map (·.1)).contains k := by
  unfold atKey
  rw [Option.isSome_map]
  exact find_has (fun x : List Int × Addr × Value => x.1)
end
end TC

namespace TC
open PySem PySem.W PyProof.Rows

/-! Operations. -/
section
variable {c : Cf} {s : Shared} {v1 v2 : Value} {u1 u2 : V} {xs ys : List PyData} {K : V → Prop} {Q : Value → Shared → Prop}
theorem WfC.hu (W : WfC c) : c.A.units + 100 < cLine := by
  have := W.units
  show c.A.units + 100 < 9900
  omega
theorem num_bin (W : WfC c) (a : At c s) (k : Fin c s K Q) (po : Operator) (i j : Int) (t1 t2 : Tok) : All (lowOp po) fun o => numW o i j K → c.wp (binaryOp po (.int i t1) (.int j t2)) Q s := by
  cases po with
  | Add => exact .so fun w => add_int ((W.ret a k w).int _ _)
  | Sub => exact .so fun w => sub_int ((W.ret a k w).int _ _)
  | Mult => exact .so fun w => mul_int ((W.ret a k w.2).int _ _) w.1
  | FloorDiv => exact .so fun w => floordiv_int w.1.1 ((W.ret a k w.2).int _ _) (.inl (PyProof.noPylong_small w.1.2))
  | Mod => exact .so fun w => mod_int' w.1 ((W.ret a k w.2).int _ _)
  | _ => exact .no
theorem lim_nat {n m : Nat} (h : n < lim) (le : 1000000 ≤ m) : n ≤ m := by rw [lim_eq] at h; omega
theorem list_cat (a : AtC c s) (h1 : IsL c.hid s.heap v1 xs) (h2 : IsL c.hid s.heap v2 ys) (hz : xs.length + ys.length < lim) (k : Ret c s (.own (.list (xs ++ ys))) Q) : c.wp (binaryOp .Add v1 v2) Q s := by
  obtain ⟨l1, vs, n, rfl, g1, r1⟩ := h1
  obtain ⟨l2, ws, m, rfl, g2, r2⟩ := h2
  refine P.add_list g1 g2 (k.push a 0 ?_) (by rw [r1.size, r2.size]; exact lim_nat hz (by rw [sizeLine_eq]; decide))
  rw [Array.toList_append]
  exact PRs.append r2 r1
theorem foldl_cat (its : Array Value) (k : Nat) : ∀ acc : Array Value, (List.foldl (fun x1 x2 => x1 ++ x2) acc (List.replicate k its)).toList = acc.toList ++ (List.replicate k its.toList).flatten := by
  induction k with
  | zero => intro acc; exact (List.append_nil _).symm
  | succ k ih => intro acc; rw [List.replicate_succ, List.foldl_cons, ih, List.replicate_succ, List.flatten_cons, Array.toList_append, List.append_assoc]
theorem list_rep (a : AtC c s) (h1 : IsL c.hid s.heap v1 xs) {i : Int} {t : Tok} (hk : 0 ≤ i ∧ i < lim ∧ xs.length * i.toNat < lim) (k : Ret c s (.own (.list (List.replicate i.toNat xs).flatten)) Q) : c.wp (binaryOp .Mult v1 (.int i t)) Q s := by
  obtain ⟨l, vs, n, rfl, h1, r1⟩ := h1
  have l1 := r1.size
  rw [lim_eq] at hk
  refine wpAny_binaryOp_repeat_ref (T := "list") (U := "int") (by decide) ⟨_, h1, rfl⟩ (fun s' => typeIs_int s' i t) noFill_list_mul F.fills_int_mul F.slot_int_rmul repeat_list F.slot_int_index.lookup
    (call_meets F.slot_int_rmul (typeIs_int s i t) F.entry_int_rmul (F.args_int_rmul_2 _ _) (int___rmul___int_list i t l vs n)
      ⟨h1, rfl, ⟨_, h1, rfl⟩, call_meets F.slot_list_mul ⟨_, h1, rfl⟩ F.entry_list_mul (F.args_list_mul_2 _ _)
        (AutoListH.list___mul___list_int_3 l vs n i t (by simp [Builtin.List.listFitsIndex]; omega) (by rw [l1]; omega) (by simp [Builtin.List.listTooLong, sizeLine, l1]; omega))
        ⟨h1, k.push a 0 ?_⟩⟩)
  rw [foldl_cat]
  cases he : vs.isEmpty with
  | true =>
    have : vs = #[] := by simpa using he
    subst this
    have hx : xs = [] := List.length_eq_zero_iff.mp l1.symm
    subst hx
    simp
    exact .nil
  | false => simpa using r1.rep i.toNat
theorem obj_bin (W : WfC c) (a : At c s) (k : Fin c s K Q) (r1 : c.R s v1 u1) (r2 : c.R s v2 u2) (po : Operator) : All (lowOp po) fun o => objW o u1 u2 K → c.wp (binaryOp po v1 v2) Q s := by
  cases po with
  | Add => exact .so fun w => got_elim w fun xs e1 w => got_elim w fun ys e2 w => list_cat a.toAtC (W.ls a.toAtC r1 xs e1) (W.ls a.toAtC r2 ys e2) w.1 (W.ret a k w.2)
  | Mult =>
    refine .so fun w => got_elim w fun xs e1 w => got_elim w fun i e2 w => ?_
    obtain ⟨t, rfl⟩ := r2.int e2
    exact list_rep a.toAtC (W.ls a.toAtC r1 xs e1) w.1 (W.ret a k w.2)
  | Sub => exact .so fun w => w.elim
  | FloorDiv => exact .so fun w => w.elim
  | Mod => exact .so fun w => w.elim
  | _ => exact .no
theorem opW_elim {o : Op} {P : Prop} (w : opW o u1 u2 K) (h1 : ∀ i j, intV u1 = some i → intV u2 = some j → numW o i j K → P) (h2 : objW o u1 u2 K → P) : P := by
  unfold opW at w
  cases e1 : intV u1 with
  | none => rw [e1] at w; exact h2 w
  | some i =>
    rw [e1] at w
    cases e2 : intV u2 with
    | none => rw [e2] at w; exact h2 w
    | some j => rw [e2] at w; exact h1 i j e1 e2 w
theorem bin_ok (W : WfC c) (a : At c s) (k : Fin c s K Q) (r1 : c.R s v1 u1) (r2 : c.R s v2 u2) {po : Operator} {o : Op} (lo : lowOp po = some o) (w : opW o u1 u2 K) : c.wp (binaryOp po v1 v2) Q s := by
  refine opW_elim w (fun i j e1 e2 w => ?_) fun w => obj_bin W a k r1 r2 po o lo w
  obtain ⟨t1, rfl⟩ := r1.int e1
  obtain ⟨t2, rfl⟩ := r2.int e2
  exact num_bin W a k po i j t1 t2 o lo w

theorem num_cmp (W : WfC c) (a : At c s) (k : Fin c s K Q) (po : CmpOp) (i j : Int) (t1 t2 : Tok) : All (lowCmp po) fun o => numW o i j K → c.wp (compareOp po (.int i t1) (.int j t2)) Q s := by
  cases po with
  | Eq => exact .so fun w => P.eq_int (W.ret a k w).bool'
  | NotEq => exact .so fun w => P.ne_int (W.ret a k w).bool'
  | Lt => exact .so fun w => P.lt_int (W.ret a k w).bool'
  | LtE => exact .so fun w => P.le_int (W.ret a k w).bool'
  | Gt => exact .so fun w => P.gt_int (W.ret a k w).bool'
  | GtE => exact .so fun w => P.ge_int (W.ret a k w).bool'
  | In => exact .so fun w => w.elim
  | NotIn => exact .so fun w => w.elim
  | _ => exact .no
theorem in_seq (W : WfC c) {x y : PyData} (r1 : PR c.fr s.heap v1 x) (r2 : PR c.fr s.heap v2 y) (h1 : shp x) (h2 : shp y) (e : seqOf y = some ys) (neg : Bool) (k : Ret c s (.d (.bool (neg ^^ (ys.any fun z => PyData.eqv z x)))) Q) : c.wp (compareOp (cond neg .NotIn .In) v1 v2) Q s := by
  obtain ⟨_, q1⟩ := r1.reads
  obtain ⟨_, q2⟩ := r2.reads
  have hu := room_in_shaped (A := c.A) (xs := ys) h1 (Nat.lt_trans (Nat.add_lt_add_left (by decide) _) W.hu)
  have l1 := SeqAt.canLay_of_shaped h1
  have l2 := SeqAt.canLay_of_shaped h2
  cases y with
  | list zs =>
    cases e
    cases neg with
    | false => exact SeqAt.in_list_reads q2 q1 l2 l1 hu (by simpa using k.bool')
    | true => exact SeqAt.notIn_list_reads q2 q1 l2 l1 hu (by simpa using k.bool')
  | tuple zs =>
    cases e
    cases neg with
    | false => exact SeqAt.in_tuple_reads q2 q1 l2 l1 hu (by simpa using k.bool')
    | true => exact SeqAt.notIn_tuple_reads q2 q1 l2 l1 hu (by simpa using k.bool')
  | _ => cases e
theorem in_tab (W : WfC c) {x : PyData} {kvs : List (PyData × PyData)} (r1 : PR c.fr s.heap v1 x) (r2 : PR c.fr s.heap v2 (.dict kvs)) (neg : Bool) : All (hasKey x kvs) fun b => Ret c s (.d (.bool (neg ^^ b))) Q → c.wp (compareOp (cond neg .NotIn .In) v1 v2) Q s := by
  obtain ⟨d, es, n, rfl, nP, ho, rk, rv, ok⟩ := r2.inv
  cases x with
  | int k =>
    refine .map fun ks e kk => ?_
    obtain ⟨t, rfl⟩ := r1.inv
    have hm := tab_of (prog := c.G.prog) (w := c.G.w) ho rk rv ok e
    have is := intKind_is c.G.prog c.G.w k t
    rw [← valueAt_set] at kk
    cases neg with
    | false => exact wpAny_in_of is ok.off hm.mapOf (by rw [Bool.false_xor] at kk; exact kk.bool _)
    | true => exact wpAny_notIn_of is ok.off hm.mapOf (by rw [Bool.true_xor] at kk; exact kk.bool _)
  | tuple t =>
    refine .bind fun k e1 => .map fun ks e kk => ?_
    obtain ⟨z, _, _, rfl, _⟩ := id r1.inv
    obtain ⟨h1, h2, h3⟩ := ok.tups e
    rw [ok.snd, h1] at rv
    rw [h1] at rk
    obtain ⟨xs, p1, p2, p3⟩ := tab_tups (prog := c.G.prog) (w := c.G.w) rk rv h2
    have hm : s.heap.DictOfH (tupleKind (intKind c.G.prog c.G.w)) d xs := ⟨_, es, n, ho, ⟨rfl, rfl, rfl⟩, rfl, p2, fun x hx => (p3 x hx).1, p1 ▸ h3⟩
    have is : (tupleKind (intKind c.G.prog c.G.w)).is s.heap k z := key_at (allInts_eq k e1 ▸ r1)
    have hu : (tupleKind (intKind c.G.prog c.G.w)).room c.A.in1 := show c.A.units + 1 < cLine from Nat.lt_trans (Nat.add_lt_add_left (by decide) _) W.hu
    rw [← p1, ← atKey_set] at kk
    cases neg with
    | false => exact wpAny_in_heap hu is ok.off hm (by rw [Bool.false_xor] at kk; exact kk.bool _)
    | true => exact wpAny_notIn_heap hu is ok.off hm (by rw [Bool.true_xor] at kk; exact kk.bool _)
  | _ => exact .no
theorem in_any (W : WfC c) {x y : PyData} {KB : Bool → Prop} (r1 : PR c.fr s.heap v1 x) (r2 : PR c.fr s.heap v2 y) (neg : Bool) (w : inW x y KB) (k : ∀ b, KB b → Ret c s (.d (.bool (neg ^^ b))) Q) : c.wp (compareOp (cond neg .NotIn .In) v1 v2) Q s := by
  cases y with
  | dict kvs => exact got_elim w fun b e w => in_tab W r1 r2 neg b e (k b w)
  | list ys => exact in_seq W r1 r2 w.1 w.2.1 rfl neg (k _ w.2.2)
  | tuple ys => exact in_seq W r1 r2 w.1 w.2.1 rfl neg (k _ w.2.2)
  | _ => exact w.elim
theorem obj_cmp (W : WfC c) (a : At c s) (k : Fin c s K Q) (r1 : c.R s v1 u1) (r2 : c.R s v2 u2) (po : CmpOp) : All (lowCmp po) fun o => objW o u1 u2 K → c.wp (compareOp po v1 v2) Q s := by
  have hu : c.A.units + 64 < cLine := Nat.lt_trans (Nat.add_lt_add_left (by decide) _) W.hu
  cases po with
  | Eq =>
    refine .so fun w => got_elim w fun x e1 w => got_elim w fun y e2 w => ?_
    obtain ⟨_, q1⟩ := (W.rdf r1 x e1).reads
    obtain ⟨_, q2⟩ := (W.rdf r2 y e2).reads
    exact SeqAt.compareEq_shaped q1 q2 w.1 w.2.1 hu (W.ret a k w.2.2).bool'
  | NotEq =>
    refine .so fun w => got_elim w fun x e1 w => got_elim w fun y e2 w => ?_
    obtain ⟨_, q1⟩ := (W.rdf r1 x e1).reads
    obtain ⟨_, q2⟩ := (W.rdf r2 y e2).reads
    exact SeqAt.compareNe_shaped q1 q2 w.1 w.2.1 hu (W.ret a k w.2.2).bool'
  | In => exact .so fun w => got_elim w fun x e1 w => got_elim w fun y e2 w => in_any W (W.rdf r1 x e1) (W.rdf r2 y e2) false w fun b w => by rw [Bool.false_xor]; exact W.ret a k w
  | NotIn => exact .so fun w => got_elim w fun x e1 w => got_elim w fun y e2 w => in_any W (W.rdf r1 x e1) (W.rdf r2 y e2) true w fun b w => by rw [Bool.true_xor]; exact W.ret a k w
  | Lt => exact .so fun w => w.elim
  | LtE => exact .so fun w => w.elim
  | Gt => exact .so fun w => w.elim
  | GtE => exact .so fun w => w.elim
  | _ => exact .no
theorem cmp_ok (W : WfC c) (a : At c s) (k : Fin c s K Q) (r1 : c.R s v1 u1) (r2 : c.R s v2 u2) {po : CmpOp} {o : Op} (lo : lowCmp po = some o) (w : opW o u1 u2 K) : c.wp (compareOp po v1 v2) Q s := by
  refine opW_elim w (fun i j e1 e2 w => ?_) fun w => obj_cmp W a k r1 r2 po o lo w
  obtain ⟨t1, rfl⟩ := r1.int e1
  obtain ⟨t2, rfl⟩ := r2.int e2
  exact num_cmp W a k po i j t1 t2 o lo w
end
end TC

namespace TC
open PySem PySem.W PyProof.Rows

/-! Iteration, under a handled exception too. -/
section
variable {prog : Program} {w : World} {A : Around} {s : Shared} {hm : Bool}

set_option maxRecDepth 100000 in
theorem unchain_ok {v : Value} {e : Addr} (hb : Bare s.heap e) {Q : Value → Shared → Prop} {E : Value → Shared → Prop} (h : Q .none s) :
    wpAny (model prog w) A (runValue (.builtin "proto.unchain" ⟨[v, .ref e, .ref e, .bool false], []⟩)) Q E s := by
  obtain ⟨o, vs, h1, h2, h3⟩ := hb
  refine wpAny_runValue (codeAny_builtin (b := Builtin.«proto.unchain») (entryFor_of_tree (by kernel_rfl)) ?_)
  show wpAny _ _ (field (.ref e) 2 >>= _) _ _ s
  refine wpAny_bind (wpAny_field h1 h2 h3 ?_)
  show wpAny _ _ (if (Value.none == Value.none) = true then _ else _) _ _ s
  rw [if_pos (show (Value.none == Value.none) = true from rfl)]
  exact wpAny_pure h

theorem stop_ok {α : Type} (hk : HOk hm A s.heap) {Q : α → Shared → Prop} {E : Value → Shared → Prop}
    (h : ∀ x h', (∀ b o, s.heap.get? b = some o → h'.get? b = some o) → (∃ o, h'.get? x = some o ∧ o.cls = .type "StopIteration") → E (.ref x) { s with heap := h' }) :
    wpAny (model prog w) A (newExc (.type "StopIteration") [] >>= fun e => (raiseNew e : Sem α)) Q E s := by
  refine wpAny_bind ?_
  simp only [newExc, newTuple]
  refine wpAny_bind (wpAny_newObj_type ?_ (by size_fits))
  refine wpAny_bind (m := firstArgMember _ _) (wpAny_of_eq (a := Value.none) (by first | rfl | (simp only [firstArgMember]; rfl)) ?_)
  refine wpAny_newObj_type ?_ (by size_fits)
  have old : ∀ (o1 o2 : Obj) b o, s.heap.get? b = some o → ((s.heap.push o1).push o2).get? b = some o := fun o1 o2 b o e => Heap.get?_push_of_some _ (Heap.get?_push_of_some _ e)
  simp only [raiseNew]
  refine wpAny_bind (wpAny_handled ?_)
  rcases hk with ⟨_, e⟩ | ⟨_, e, e1, hb⟩
  · rw [e]
    refine wpAny_bind (wpAny_pure (wpAny_throw ?_))
    exact h _ _ (old _ _) ⟨_, Heap.get?_push_size _ rfl, rfl⟩
  · rw [e1]
    have lt : e < s.heap.objs.size := by obtain ⟨o, vs, q, _, _⟩ := hb; exact Heap.lt_size q
    have ne : e ≠ (s.heap.push { cls := .type "tuple", data := .seq ([] : List Value).toArray }).objs.size := by rw [Heap.size_push]; exact Nat.ne_of_lt (Nat.lt_succ_of_lt lt)
    dsimp only
    rw [if_pos (by simp only [bne_iff_ne, ne_eq, Value.ref.injEq]; exact ne)]
    refine wpAny_bind (wpAny_holding (unchain_ok ?_ ?_))
    · obtain ⟨o, vs, q, r, z⟩ := hb; exact ⟨o, vs, old _ _ _ _ q, r, z⟩
    · refine wpAny_bind ?_
      show wpAny _ _ (setField (.ref _) 2 _) _ _ _
      refine wpAny_setField (Heap.get?_push_size _ rfl) rfl (by rw [Array.size_append]; exact Nat.lt_of_lt_of_le (show 2 < 6 from by decide) (Nat.le_add_right _ _)) (wpAny_throw ?_)
      refine h _ _ (fun b o q => ?_) ⟨_, Heap.get?_update_self _ (Heap.get?_push_size _ rfl) rfl, rfl⟩
      rw [Heap.get?_update_other]
      · exact old _ _ _ _ q
      · have := Heap.lt_size q; rw [Heap.size_push]; exact Nat.ne_of_gt (Nat.lt_succ_of_lt this)

/-- the place of the handled exception -/
noncomputable def hAddr (A : Around) : List Addr := match A.handled with
  | some (.ref e) => [e]
  | _ => []
theorem hAddr_of {e : Addr} (h : A.handled = some (.ref e)) : hAddr A = [e] := by unfold hAddr; rw [h]
theorem hAddr_no (h : A.handled = none) : hAddr A = [] := by unfold hAddr; rw [h]
theorem HOk.at {h h' : Heap} (x : HOk hm A h) (k : ∀ b ∈ hAddr A, ∀ o, h.get? b = some o → h'.get? b = some o) : HOk hm A h' := by
  rcases x with q | ⟨q, e, e1, o, vs, q1, q2, q3⟩
  · exact .inl q
  · exact .inr ⟨q, e, e1, o, vs, k e (hAddr_of e1 ▸ .head _) o q1, q2, q3⟩
/-- the handled exception is a record -/
theorem HOk.rec {h : Heap} (x : HOk hm A h) : ∀ b ∈ hAddr A, ∃ o vs, h.get? b = some o ∧ o.data = .fields vs := fun b hb => by
  rcases x with ⟨_, q⟩ | ⟨q, e, e1, o, vs, q1, q2, q3⟩
  · rw [hAddr_no q] at hb; cases hb
  · rw [hAddr_of e1] at hb; rw [List.mem_singleton.mp hb]; exact ⟨o, vs, q1, q2⟩
theorem HOk.lt {h : Heap} (x : HOk hm A h) : ∀ b ∈ hAddr A, b < h.objs.size := fun b hb => let ⟨_, _, e, _⟩ := x.rec b hb; Heap.lt_size e
theorem HOk.none {h : Heap} (x : HOk false A h) : A.handled = none := x.elim (·.2) fun q => nomatch q.1

theorem list_end {it l : Addr} {i : Nat} {items : Array Value} {Q : Option Value → Shared → Prop} {E : Value → Shared → Prop} (hk : HOk hm A s.heap) (hne : ∀ b ∈ hAddr A, b ≠ it)
    (hit : s.heap.IsListIter it l i) (hl : s.heap.IsList l items) (hx : items[i]? = none)
    (hQ : ∀ h', Heap.ExtBut it s.heap h' → Q none { s with heap := h' }) : wpAny (model prog w) A (pyNext (.ref it)) Q E s := by
  obtain ⟨o, ho, hc, hd⟩ := id hit
  obtain ⟨ol, hol, _, nl, hdl⟩ := hl
  unfold pyNext
  refine wpAny_bind (wpAny_attempt (wpAny_callSpecial?_slot (name := Str.ofString "__next__") hit.typeIs slot_listiter_next
    (wpAny_call_entry slot_listiter_next hit.typeIs entry_listiter_next ?_ (args_listiter_next _))))
  show wpAny _ _ (field (.ref it) 0 >>= _) _ _ s
  refine wpAny_bind (wpAny_field ho hd (x := .ref l) rfl ?_)
  show wpAny _ _ (if (Value.ref l == Value.none) = true then _ else _) _ _ s
  rw [if_neg (show ¬ ((Value.ref l == Value.none) = true) from Bool.false_ne_true)]
  show wpAny _ _ (field (.ref it) 1 >>= _) _ _ s
  refine wpAny_bind (wpAny_field ho hd (x := .int i 0) rfl ?_)
  show wpAny _ _ (seqItems? (.ref l) >>= _) _ _ s
  refine wpAny_bind (wpAny_seqItems hol hdl ?_)
  simp only [Int.toNat_natCast, hx]
  refine wpAny_bind (wpAny_rule (wpAny_bind (wpAny_setField ho hd (by simp) ?_)))
  show wpAny _ _ (newExc (.type "StopIteration") [] >>= _) _ _ _
  refine stop_ok (hm := hm) ?_ fun x h' keep ty => ?_
  · exact hk.at fun b hb o e => (Heap.get?_update_other _ _ (Ne.symm (hne b hb))).trans e
  refine wpAny_bind (wpAny_isInstance (T := "StopIteration") (b := true) ty isSubtype_stop ?_)
  exact wpAny_pure (hQ _ fun b o hb e => keep b o ((Heap.get?_update_other _ _ (Ne.symm hb)).trans e))

theorem tuple_end {it l : Addr} {i : Nat} {items : Array Value} {Q : Option Value → Shared → Prop} {E : Value → Shared → Prop} (hk : HOk hm A s.heap) (hne : ∀ b ∈ hAddr A, b ≠ it)
    (hit : s.heap.IsTupleIter it l i) (hl : s.heap.IsTuple l items) (hx : items[i]? = none)
    (hQ : ∀ h', Heap.ExtBut it s.heap h' → Q none { s with heap := h' }) : wpAny (model prog w) A (pyNext (.ref it)) Q E s := by
  obtain ⟨o, ho, hc, hd⟩ := id hit
  obtain ⟨ol, hol, _, nl, hdl⟩ := hl
  unfold pyNext
  refine wpAny_bind (wpAny_attempt (wpAny_callSpecial?_slot (name := Str.ofString "__next__") hit.typeIs F.slot_tuple_iterator_next
    (wpAny_call_entry F.slot_tuple_iterator_next hit.typeIs F.entry_tuple_iterator_next ?_ (F.args_tuple_iterator_next_1 _))))
  show wpAny _ _ (field (.ref it) 0 >>= _) _ _ s
  refine wpAny_bind (wpAny_field ho hd (x := .ref l) rfl ?_)
  show wpAny _ _ (if (Value.ref l == Value.none) = true then _ else _) _ _ s
  rw [if_neg (show ¬ ((Value.ref l == Value.none) = true) from Bool.false_ne_true)]
  show wpAny _ _ (field (.ref it) 1 >>= _) _ _ s
  refine wpAny_bind (wpAny_field ho hd (x := .int i 0) rfl ?_)
  show wpAny _ _ (seqItems? (.ref l) >>= _) _ _ s
  refine wpAny_bind (wpAny_seqItems hol hdl ?_)
  simp only [Int.toNat_natCast, hx]
  refine wpAny_bind (wpAny_rule (wpAny_bind (wpAny_setField ho hd (by simp) ?_)))
  show wpAny _ _ (newExc (.type "StopIteration") [] >>= _) _ _ _
  refine stop_ok (hm := hm) ?_ fun x h' keep ty => ?_
  · exact hk.at fun b hb o e => (Heap.get?_update_other _ _ (Ne.symm (hne b hb))).trans e
  refine wpAny_bind (wpAny_isInstance (T := "StopIteration") (b := true) ty isSubtype_stop ?_)
  exact wpAny_pure (hQ _ fun b o hb e => keep b o ((Heap.get?_update_other _ _ (Ne.symm hb)).trans e))

theorem walks_list (I ax : Addr) (hne : ax ≠ I) (hI : I ∉ hAddr A) (items : Array Value) :
    Walks prog w A I (I :: ax :: hAddr A) [I] items.size (fun i v => items[i]? = some v) (fun i h => h.IsListIter I ax i ∧ h.IsList ax items ∧ HOk hm A h) where
  sub := fun b hb => by simp at hb; simp [hb]
  frame := fun _ _ _ st hk => ⟨st.1.at fun o e => hk I (by simp) o e, st.2.1.at fun o e => hk ax (by simp) o e, st.2.2.at fun b hb o e => hk b (by simp [hb]) o e⟩
  item := fun i s Q E hi st hQ => by
    refine wpAny_pyNext_list_item st.1 st.2.1 (x := items[i]) (by simp [hi]) fun h' hit' hs' => ?_
    exact hQ _ h' s.toks (by simp [hi]) ⟨hit', st.2.1.extBut hs'.extBut hne, st.2.2.at fun b hb o e => hs'.extBut b o (fun q => hI (q ▸ hb)) e⟩ fun b o hb e => hs'.extBut b o (fun h => hb (by simp [h])) e
  done := fun s Q E st hQ => list_end st.2.2 (fun b q z => hI (z ▸ q)) st.1 st.2.1 (by simp) fun h' he' => hQ h' s.toks fun b o hb e => he' b o (fun h => hb (by simp [h])) e
  self := fun _ _ _ _ st hQ => wpAny_pyIter_listiter st.1 hQ
theorem walks_tuple (I ax : Addr) (hne : ax ≠ I) (hI : I ∉ hAddr A) (items : Array Value) :
    Walks prog w A I (I :: ax :: hAddr A) [I] items.size (fun i v => items[i]? = some v) (fun i h => h.IsTupleIter I ax i ∧ h.IsTuple ax items ∧ HOk hm A h) where
  sub := fun b hb => by simp at hb; simp [hb]
  frame := fun _ _ _ st hk => ⟨st.1.at fun o e => hk I (by simp) o e, st.2.1.at fun o e => hk ax (by simp) o e, st.2.2.at fun b hb o e => hk b (by simp [hb]) o e⟩
  item := fun i s Q E hi st hQ => by
    refine wpAny_pyNext_tuple_item st.1 st.2.1 (x := items[i]) (by simp [hi]) fun h' hit' hs' => ?_
    exact hQ _ h' s.toks (by simp [hi]) ⟨hit', st.2.1.extBut hs'.extBut hne, st.2.2.at fun b hb o e => hs'.extBut b o (fun q => hI (q ▸ hb)) e⟩ fun b o hb e => hs'.extBut b o (fun h => hb (by simp [h])) e
  done := fun s Q E st hQ => tuple_end st.2.2 (fun b q z => hI (z ▸ q)) st.1 st.2.1 (by simp) fun h' he' => hQ h' s.toks fun b o hb e => he' b o (fun h => hb (by simp [h])) e
  self := fun _ _ _ _ st hQ => wpAny_pyIter_tupleiter st.1 hQ

noncomputable def quietIt (n : String) : Bool := !(["enumerate", "zip", "dict_itemiterator", "dict_reverseitemiterator", "odict_iterator", "itertools.zip_longest", "itertools.pairwise"].contains n)
/-- what lies at an iterator's place -/
inductive ItObj (h : Heap) (I : Addr) : Prop
  | mk (o : Obj) (n : String) : h.get? I = some o → o.cls = .type n → quietIt n = true → NT o → ItObj h I
/-- an iterator at I over n values -/
inductive Itr (prog : Program) (w : World) (A : Around) (I : Addr) (n : Nat) (It : Nat → Value → Prop) (h : Heap) (src : Value) : Prop
  | mk (fp : List Addr) (St : Nat → Heap → Prop) : Walks prog w A I fp [I] n It St → St 0 h → (∀ b ∈ fp, b < h.objs.size ∧ (b = I ∨ b ∈ hAddr A ∨ src = .ref b)) → (∀ i h, St i h → ItObj h I) → Itr prog w A I n It h src

theorem NT.of {o : Obj} {vs : Array Value} (d : o.data = .fields vs) : NT o := fun _ ws k q => by rw [d] at q; cases q
theorem fp_ok {a : Addr} {o : Obj} (hk : HOk hm A s.heap) (lt : a < s.heap.objs.size) : ∀ b ∈ s.heap.objs.size :: a :: hAddr A, b < (s.heap.push o).objs.size ∧ (b = s.heap.objs.size ∨ b ∈ hAddr A ∨ Value.ref a = .ref b) := fun b hb => by
  rw [Heap.size_push]
  rcases List.mem_cons.mp hb with rfl | hb
  · exact ⟨Nat.lt_succ_self _, .inl rfl⟩
  · rcases List.mem_cons.mp hb with rfl | hb
    · exact ⟨Nat.lt_succ_of_lt lt, .inr (.inr rfl)⟩
    · exact ⟨Nat.lt_succ_of_lt (hk.lt _ hb), .inr (.inl hb)⟩
theorem iter_seq {v : Value} {x : PyData} {P : AP} {xs : List PyData} (hk : HOk hm A s.heap) (r : PR P s.heap v x) (e : seqOf x = some xs) {Q : Value → Shared → Prop} {E : Value → Shared → Prop}
    (h : ∀ h' (vs : Array Value), PRs P s.heap vs.toList xs → Keep s.heap h' → Itr prog w A s.heap.objs.size xs.length (fun i v => vs[i]? = some v) h' v → Q (.ref s.heap.objs.size) { s with heap := h' }) : wpAny (model prog w) A (pyIter v) Q E s := by
  cases x with
  | list ys =>
    cases e
    obtain ⟨a, vs, n, rfl, _, ho, q⟩ := r.inv
    have hl : s.heap.IsList a vs := ⟨_, ho, rfl, n, rfl⟩
    have lt := Heap.lt_size ho
    refine wpAny_pyIter_list hl (h _ vs q (keep_push _ _) ⟨s.heap.objs.size :: a :: hAddr A, fun i h => h.IsListIter s.heap.objs.size a i ∧ h.IsList a vs ∧ HOk hm A h, ?_, ⟨⟨_, Heap.get?_push_size _ rfl, rfl, rfl⟩, hl.push _, hk.at fun b hb => keep_push _ _ b⟩, fp_ok hk lt, fun i h st => ?_⟩)
    · rw [← q.size]; exact walks_list _ a (Nat.ne_of_lt lt) (fun q => Nat.lt_irrefl _ (hk.lt _ q)) vs
    · obtain ⟨⟨o, e1, e2, e3⟩, _⟩ := st; exact ⟨o, _, e1, e2, by decide, .of e3⟩
  | tuple ys =>
    cases e
    obtain ⟨a, vs, n, rfl, _, ho, q⟩ := r.inv
    have hl : s.heap.IsTuple a vs := ⟨_, ho, rfl, n, rfl⟩
    have lt := Heap.lt_size ho
    refine wpAny_pyIter_tuple hl (h _ vs q (keep_push _ _) ⟨s.heap.objs.size :: a :: hAddr A, fun i h => h.IsTupleIter s.heap.objs.size a i ∧ h.IsTuple a vs ∧ HOk hm A h, ?_, ⟨⟨_, Heap.get?_push_size _ rfl, rfl, rfl⟩, hl.push _, hk.at fun b hb => keep_push _ _ b⟩, fp_ok hk lt, fun i h st => ?_⟩)
    · rw [← q.size]; exact walks_tuple _ a (Nat.ne_of_lt lt) (fun q => Nat.lt_irrefl _ (hk.lt _ q)) vs
    · obtain ⟨⟨o, e1, e2, e3⟩, _⟩ := st; exact ⟨o, _, e1, e2, by decide, .of e3⟩
  | _ => cases e
theorem iter_range {n : Int} {r : Addr} {t1 t2 t3 : Tok} (hk : HOk false A s.heap) (hr : IsRange s.heap r 0 n 1 t1 t2 t3) (hn : -(lim : Int) < n ∧ n < lim) {Q : Value → Shared → Prop} {E : Value → Shared → Prop}
    (h : ∀ h', Keep s.heap h' → Itr prog w A s.heap.objs.size n.toNat (fun i v => ∃ t, v = .int i t) h' .none → Q (.ref s.heap.objs.size) { s with heap := h' }) : wpAny (model prog w) A (pyIter (.ref r)) Q E s := by
  rw [lim_eq] at hn
  have hz : Builtin.Range.rangeSize 0 n 1 = ((n.toNat : Nat) : Int) := by rw [rangeSize_one]; split <;> omega
  refine wpAny_pyIter_range hr (small_one (by omega) (by omega) (by omega) (by omega)) (h _ (keep_push _ _) ?_)
  refine ⟨[s.heap.objs.size], fun i h => IsRangeIter h s.heap.objs.size (0 + (i : Nat) * 1) ((n.toNat : Int) - (i : Nat)) 1, ?_, ?_, fun b hb => ?_, fun i h st => ⟨_, _, st, rfl, by decide, .of rfl⟩⟩
  · have := LCg.range_walks (prog := prog) (w := w) (A := A) (I := s.heap.objs.size) hk.none 0 n.toNat
    simpa only [Int.zero_add] using this
  · show IsRangeIter _ _ _ _ _; rw [hz]; simpa using Heap.get?_push_size _ rfl
  · rw [List.mem_singleton.mp hb, Heap.size_push]; exact ⟨Nat.lt_succ_self _, .inl rfl⟩
end
end TC

namespace TC
open PySem PySem.W PyProof.Rows

/-! list(..) of what is no list: a table, a range. -/
section
variable {prog : Program} {w : World} {A : Around} {E : Value → Shared → Prop} {s : Shared} {r : Addr} {n : Nat} {P : Nat → Value → Prop}
theorem hint_tab {Q : Bool → Shared → Prop} (hT : s.TypeIs (.ref r) "dict") (h : Q false s) : wpAny (model prog w) A (Builtin.List.listLengthHint (.ref r)) Q E s := by
  unfold Builtin.List.listLengthHint
  refine wpAny_bind (wpAny_specialOf hT PySem.F.slot_dict_len.lookup ?_)
  generalize hid : ("dict.__len__" : String) = id0
  wp_delta
  rw [show splitId id0 = some ("dict", "__len__") from by subst hid; decide +kernel]
  subst hid
  refine wpAny_bind (wpAny_isInstance (T := "dict") (b := true) hT (by rw [isSubtype_type]; kernel_rfl) ?_)
  refine wpAny_ite_split (fun hab => absurd hab (by decide)) (fun _ => ?_)
  refine wpAny_ite_split (fun _ => ?_) (fun hab => absurd (by decide +kernel) hab)
  exact wpAny_bind (wpAny_typeOf hT (wpAny_pure h))
/-- a fresh list takes what a table's iterator gives -/
theorem fill_tab {R : Result → Shared → Prop} {fp : List Addr} {St : Nat → Heap → Prop} {oI : Obj} {S : Addr} {c₀ : Nat} (hT : s.TypeIs (.ref r) "dict") (hit : ∀ (E : Value → Shared → Prop) (Q : Value → Shared → Prop), Q (.ref s.heap.objs.size) { s with heap := s.heap.push oI } → wpAny (model prog w) A.in1 (pyIter (.ref r)) Q E s)
    (W : Walks prog w A.in1 s.heap.objs.size fp [s.heap.objs.size] n P St) (st : St 0 (s.heap.push oI)) (hSf : S ∉ fp) (hSr : S ≠ r) (hS : s.heap.get? S = some { cls := .type "list", data := .seq #[] c₀ }) (hn : n ≤ sizeLine)
    (hR : ∀ h' tk acc' c', (∀ b o, b ≠ S → s.heap.get? b = some o → h'.get? b = some o) → h'.get? S = some { cls := .type "list", dict := none, data := .seq acc' c', slots := #[] } → ItemsOf P acc' n → R (.ok (.ret .none)) { s with heap := h', toks := tk }) :
    wpAny (model prog w) A.in1 (Builtin.List.listExtendWith (.ref S) (.ref r) .none) (fun fin s' => match fin with | .done f => R (.ok f) s' | .again c' => c'.quiet = true ∧ codeAny (model prog w) A c' R s') (fun e s' => R (.error e) s') s := by
  have go : ∀ (h : Heap) (c₁ tk : Nat), St 0 h → (∀ b o, b ≠ S → s.heap.get? b = some o → h.get? b = some o) → h.get? S = some { cls := .type "list", data := .seq #[] c₁ } → codeAny (model prog w) A (.builtin "list.extend.loop" ⟨[.ref S, .ref s.heap.objs.size, .none], []⟩) R { s with heap := h, toks := tk } := fun h c₁ tk hst hk hS₁ => by
    refine codeAny_extend_loopS W.toS hn S hSf .none n 0 _ #[] c₁ rfl (Nat.zero_le _) hst hS₁ (ItemsOf.nil _) fun s' acc' c' hm hS' hacc => ?_
    rw [Moved.eq_with hm]
    refine hR s'.heap s'.toks acc' c' (fun b o hb e => hm.heap b o (fun q => ?_) (hk b o hb e)) hS' hacc
    rcases List.mem_cons.mp q with q | q
    · exact hb q
    · exact absurd (Heap.lt_size e) (by rw [List.mem_singleton.mp q]; exact Nat.lt_irrefl _)
  unfold Builtin.List.listExtendWith
  refine wpAny_bind (wpAny_typeOf hT ?_)
  rw [show Builtin.List.listSameRef (.ref S) (.ref r) = false from by simp [Builtin.List.listSameRef, hSr]]
  refine wpAny_ite_split (fun q => absurd q (by decide)) fun _ => ?_
  refine wpAny_bind (hit _ _ ?_)
  have hS₁ := Heap.get?_push_of_some oI hS
  have hT' : Shared.TypeIs { s with heap := s.heap.push oI } (.ref r) "dict" := by obtain ⟨o, e, q⟩ := hT; exact ⟨o, Heap.get?_push_of_some _ e, q⟩
  refine wpAny_bind (wpAny_holding (hint_tab hT' ?_))
  refine wpAny_ite_split (fun _ => ?_) fun q => absurd (by decide) q
  refine wpAny_bind (wpAny_rule (wpAny_bind ?_))
  show wpAny _ _ (updateSeq S (·.push .none) >>= fun _ => updateSeq S (·.pop)) _ _ _
  refine wpAny_bind (wpAny_updateSeq hS₁ rfl ?_)
  have hS₂ := Heap.get?_update_self (Obj.mapSeq (·.push Value.none)) hS₁ rfl
  refine wpAny_updateSeq (hz := by seq_fits) hS₂ rfl ?_
  have hS₃ := Heap.get?_update_self (Obj.mapSeq (·.pop)) hS₂ rfl
  have two : ∀ b, b ≠ S → (((s.heap.push oI).update S (Obj.mapSeq (·.push Value.none))).update S (Obj.mapSeq (·.pop))).get? b = (s.heap.push oI).get? b := fun b hb => (Heap.get?_update_other _ _ (Ne.symm hb)).trans (Heap.get?_update_other _ _ (Ne.symm hb))
  exact wpAny_pure ⟨plainId_quiet PySem.F.plain_extend_loop _, go _ _ _ (W.frame 0 _ _ st fun b hb o e => (two b fun q => hSf (q ▸ hb)).trans e) (fun b o hb e => (two b hb).trans (Heap.get?_push_of_some _ e)) hS₃⟩
theorem list_tab {K : Type} [DecidableEq K] {knd : KeyKind prog w K} {d : Addr} {kvs : List (K × Value)} {Q : Value → Shared → Prop} (hh : A.handled = none) (lo : (d == sysModules) = false) (hm : s.heap.DictOf knd d kvs) (hn : kvs.length ≤ sizeLine)
    (hQ : ∀ h' tk acc' c', (∀ b o, s.heap.get? b = some o → h'.get? b = some o) → h'.get? s.heap.objs.size = some { cls := .type "list", dict := none, data := .seq acc' c', slots := #[] } → ItemsOf (fun i v => ∃ k x, kvs[i]? = some (k, x) ∧ knd.is k v = true) acc' kvs.length → Q (.ref s.heap.objs.size) { s with heap := h', toks := tk }) :
    wpAny (model prog w) A (call (.type "list") [.ref d]) Q E s := by
  refine callType_codes (Q₁ := fun obj s₁ => obj = .ref s.heap.objs.size ∧ s₁ = { s with heap := s.heap.push { cls := .type "list", data := .seq #[] } }) PySem.F.called_list (PySem.F.typeCall_list_1 _) PySem.F.entry_list_init (code_list_new _ ⟨rfl, rfl⟩) fun obj s₁ h₁ => ?_
  obtain ⟨rfl, rfl⟩ := h₁
  have hS : (s.heap.push { cls := .type "list", data := .seq #[] }).get? s.heap.objs.size = some { cls := .type "list", data := .seq #[] } := Heap.get?_push_size _ rfl
  refine ⟨⟨_, hS, rfl⟩, PySem.F.args_list_init_2 _ _, ?_⟩
  show wpAny _ _ (do let old ← Builtin.List.listItems (.ref s.heap.objs.size); Builtin.List.listUpdate (.ref s.heap.objs.size) (fun _ => #[]); letGo old.toList.reverse; Builtin.List.listExtendWith (.ref s.heap.objs.size) (.ref d) .none) _ _ _
  refine wpAny_bind ?_
  unfold Builtin.List.listItems
  refine wpAny_bind (wpAny_seqItems hS rfl (wpAny_pure ?_))
  show wpAny _ _ (updateSeq s.heap.objs.size (fun _ => #[]) >>= fun _ => letGo (#[] : Array Value).toList.reverse >>= fun _ => Builtin.List.listExtendWith (.ref s.heap.objs.size) (.ref d) .none) _ _ _
  refine wpAny_bind (wpAny_updateSeq hS rfl ?_)
  have hS₂ := Heap.get?_update_self (Obj.mapSeq (fun _ => (#[] : Array Value))) hS rfl
  obtain ⟨ep, hm⟩ := hm.dictAt
  have lt := hm.lt_size
  have oth : ∀ b o, s.heap.get? b = some o → ((s.heap.push { cls := .type "list", data := .seq #[] }).update s.heap.objs.size (Obj.mapSeq (fun _ => (#[] : Array Value)))).get? b = some o :=
    fun b o e => (Heap.get?_update_other _ _ (Nat.ne_of_gt (Heap.lt_size e))).trans (Heap.get?_push_of_some _ e)
  have hm' := hm.keep oth
  generalize hg : (s.heap.push { cls := .type "list", data := .seq #[] }).update s.heap.objs.size (Obj.mapSeq (fun _ => (#[] : Array Value))) = g at hS₂ oth hm' ⊢
  refine wpAny_bind (wpAny_letGo ?_)
  have ltg := hm'.lt_size
  refine fill_tab (s := { s with heap := g }) (A := A.in1) hm'.dictOf.typeIs (fun _ _ hq => wpAny_pyIter_dict (s := { s with heap := g }) lo hm' hq) (Walks.dictKeys (A := A.in1.in1) (knd := knd) hh _ d (Nat.ne_of_lt ltg) kvs ep) ⟨⟨_, Heap.get?_push_size _ rfl, rfl, rfl⟩, hm'.push _⟩ (fun q => ?_) (Nat.ne_of_gt lt) hS₂ hn fun h' tk acc' c' hk hS' hacc => ?_
  · rcases List.mem_cons.mp q with q | q
    · exact absurd (Heap.lt_size hS₂) (by rw [q]; exact Nat.lt_irrefl _)
    · exact absurd (List.mem_singleton.mp q) (Nat.ne_of_gt lt)
  · exact ⟨rfl, hQ h' tk acc' c' (fun b o e => hk b o (Nat.ne_of_lt (Heap.lt_size e)) (oth b o e)) hS' hacc⟩
end
end TC

namespace TC
open PySem PySem.W PyProof.Rows

/-! Tuples of ints, sorted. -/
/-- v is the tuple t of ints -/
inductive TK (h : Heap) (v : Value) (t : List Int) : Prop
  | mk (a : Addr) (items : Array Value) (m : Nat) : v = .ref a → h.get? a = some (tupObj items m) → IntsAre items.toList t → TK h v t
theorem TK.uniq {h : Heap} {v : Value} {t u : List Int} (x : TK h v t) (y : TK h v u) : t = u := by
  obtain ⟨a, is, m, rfl, h1, h2⟩ := x
  obtain ⟨b, js, n, e, h3, h4⟩ := y
  cases e
  rw [h1] at h3
  cases h3
  rw [← h2.nums, ← h4.nums]
noncomputable def tkOf (h : Heap) (v : Value) : Option (List Int) := @dite _ (∃ t, TK h v t) (Classical.propDecidable _) (fun q => some (Classical.choose q)) fun _ => none
theorem tkOf_eq {h : Heap} {v : Value} {t : List Int} (r : TK h v t) : tkOf h v = some t := by
  unfold tkOf
  rw [dif_pos ⟨t, r⟩]
  exact congrArg some ((Classical.choose_spec (⟨t, r⟩ : ∃ t, TK h v t)).uniq r)
noncomputable def tkind (h : Heap) : KeyKind where
  α := List Int
  blt a b := decide (a < b)
  irrefl a := decide_eq_false (List.lt_irrefl a)
  trans a b c h1 h2 := decide_eq_true (List.lt_trans (of_decide_eq_true h1) (of_decide_eq_true h2))
  negTrans a b c h := by
    by_cases hab : a < b
    · exact .inl (decide_eq_true hab)
    · exact .inr (decide_eq_true (List.lt_of_le_of_lt (List.not_lt.mp hab) (of_decide_eq_true h)))
  total a b h1 h2 := List.le_antisymm (List.not_lt.mp (of_decide_eq_false h2)) (List.not_lt.mp (of_decide_eq_false h1))
  keyOf := tkOf h
  dflt := []
section
variable {prog : Program} {w : World} {A : Around} {E : Value → Shared → Prop} {s : Shared}
theorem oneLt_ints {b : Bool} {a c : Int} {t u : Tok} {Q : Bool → Shared → Prop} (h : Q (decide (a < c)) s) : wpAny (model prog w) A (oneLt' b (.int a t) (.int c u)) Q E s := by
  cases b with
  | true => exact oneLt_int h
  | false =>
    rw [oneLt'_eq, if_neg (by decide)]
    exact wpAny_bind (wpAny_mono (show wpAny (model prog w) A (compareOp .Lt (.int a t) (.int c u)) (fun v s' => v = .bool (decide (a < c)) ∧ s' = s) E s from PyProof.Rows.lt_int ⟨rfl, rfl⟩) (fun v s' h' => by obtain ⟨rfl, rfl⟩ := h'; exact wpAny_truthy_bool h) fun _ _ e => e)
theorem cons_lt {n : Int} {a b : List Int} : decide (n :: a < n :: b) = decide (a < b) := decide_eq_decide.mpr ⟨fun h => (List.cons_lt_cons_iff.mp h).elim (fun h => absurd h (Int.lt_irrefl n)) (·.2), fun h => List.cons_lt_cons_iff.mpr (.inr ⟨rfl, h⟩)⟩
theorem cons_lt' {n m : Int} (ne : n ≠ m) {a b : List Int} : decide (n :: a < m :: b) = decide (n < m) := decide_eq_decide.mpr ⟨fun h => (List.cons_lt_cons_iff.mp h).elim id fun h => absurd h.1 ne, fun h => List.cons_lt_cons_iff.mpr (.inl h)⟩
/-- the items of two tuples set side by side -/
theorem lex_loop {body : (Value × Value) × Nat → Option Bool × Unit → Sem (ForInStep (Option Bool × Unit))}
    (hb : ∀ p q i, body ((p, q), i) (none, ()) = (do if !(← eqBool p q) then (do let r ← oneLt' (true && i == 0) p q; pure (.done (some r, ()))) else pure (.yield (none, ())))) {ps : List Value} {a : List Int} (r : IntsAre ps a) :
    ∀ {qs : List Value} {b : List Int} (i : Nat), IntsAre qs b → wpAny (model prog w) A (forIn ((ps.zip qs).zipIdx i) (none, ()) body) (fun c s' => s' = s ∧ (match c.1 with | some x => x | none => decide (a.length < b.length)) = decide (a < b)) E s := by
  induction r with
  | nil =>
    intro qs b i r2
    rw [List.zip_nil_left, List.zipIdx_nil, List.forIn_nil]
    refine wpAny_pure ⟨rfl, ?_⟩
    cases r2 with
    | nil => exact (decide_eq_false (Nat.lt_irrefl _)).trans (decide_eq_false (List.lt_irrefl [])).symm
    | cons m u r2 => exact (decide_eq_true (Nat.succ_pos _)).trans (decide_eq_true (List.nil_lt_cons _ _)).symm
  | cons n t r ih =>
    intro qs b i r2
    cases r2 with
    | nil =>
      rw [List.zip_nil_right, List.zipIdx_nil, List.forIn_nil]
      exact wpAny_pure ⟨rfl, (decide_eq_false (Nat.not_lt_zero _)).trans (decide_eq_false (List.not_lt_nil _)).symm⟩
    | cons m u r2 =>
      rw [List.zip_cons_cons, List.zipIdx_cons, List.forIn_cons, hb]
      refine wpAny_bind (wpAny_bind (wpAny_eqBool_int ?_))
      by_cases e : n = m
      · subst e
        rw [beq_self_eq_true]
        refine wpAny_pure ?_
        refine wpAny_mono (ih (i + 1) r2) (fun c s' h' => ⟨h'.1, ?_⟩) fun _ _ e => e
        rw [cons_lt, ← h'.2]
        cases c.1 with
        | some x => rfl
        | none => exact decide_eq_decide.mpr Nat.succ_lt_succ_iff
      · rw [beq_eq_false_iff_ne.mpr e]
        exact wpAny_bind (oneLt_ints (wpAny_pure (wpAny_pure ⟨rfl, (cons_lt' e).symm⟩)))
theorem tup_lt {x y : Value} {a b : List Int} {Q : Bool → Shared → Prop} (hx : TK s.heap x a) (hy : TK s.heap y b) (h : Q (decide (a < b)) s) : wpAny (model prog w) A (keyLt' (tuples' true) x y) Q E s := by
  obtain ⟨p, xs, m, rfl, h1, r1⟩ := hx
  obtain ⟨q, ys, n, rfl, h2, r2⟩ := hy
  show wpAny (model prog w) A (do
    let xs ← Builtin.List.listItems (.ref p); let ys ← Builtin.List.listItems (.ref q)
    for ((p, q), i) in (xs.toList.zip ys.toList).zipIdx do
      if !(← eqBool p q) then return ← oneLt' (true && i == 0) p q
    return xs.size < ys.size) Q E s
  refine wpAny_bind (listItems_at h1 rfl (wpAny_bind (listItems_at h2 rfl ?_)))
  refine wpAny_bind (wpAny_mono (lex_loop (fun p q i => ?_) r1 0 r2) (fun c s' h' => ?_) fun _ _ e => e)
  · rfl
  · obtain ⟨rfl, e⟩ := h'
    have l1 := r1.length
    have l2 := r2.length
    rw [Array.length_toList] at l1 l2
    rw [← e, ← l1, ← l2] at h
    obtain ⟨c, _⟩ := c
    cases c with
    | some x => exact wpAny_pure h
    | none => exact wpAny_pure h
/-- all are tuples of ints, none empty -/
inductive TKs (h : Heap) : List Value → List (List Int) → Prop
  | nil : TKs h [] []
  | cons {v : Value} {t : List Int} {vs : List Value} {ts : List (List Int)} : TK h v t → t ≠ [] → TKs h vs ts → TKs h (v :: vs) (t :: ts)
theorem TK.first {v : Value} {t : List Int} {Q : Option Value → Shared → Prop} (r : TK s.heap v t) (ne : t ≠ []) (h : ∀ n u, Q (some (.int n u)) s) : wpAny (model prog w) A (firstOfTuple' v) Q E s := by
  obtain ⟨a, xs, m, rfl, ho, r⟩ := r
  show wpAny (model prog w) A (do
    if (← typeOf (.ref a)) != .type "tuple" then return none
    return (← Builtin.List.listItems (.ref a))[0]?) Q E s
  refine wpAny_bind (wpAny_typeOf (T := "tuple") ⟨_, ho, rfl⟩ ?_)
  rw [if_neg (by decide)]
  refine wpAny_bind (listItems_at ho rfl (wpAny_pure ?_))
  rw [← Array.getElem?_toList]
  generalize xs.toList = l at r
  cases r with
  | nil => exact absurd rfl ne
  | cons n u r => exact h n u
theorem TKs.firsts {vs : List Value} {ts : List (List Int)} (r : TKs s.heap vs ts) : ∀ {Q : List (Option Value) → Shared → Prop}, (∀ fs ns, IntsAre fs ns → fs.length = vs.length → Q (fs.map some) s) → wpAny (model prog w) A (vs.mapM firstOfTuple') Q E s := by
  induction r with
  | nil => intro Q h; rw [List.mapM_nil]; exact wpAny_pure (h [] [] .nil rfl)
  | cons a ne _ ih =>
    intro Q h
    rw [List.mapM_cons]
    exact wpAny_bind (a.first ne fun n u => wpAny_bind (ih fun fs ns I l => wpAny_pure (h (.int n u :: fs) (n :: ns) (.cons n u I) (congrArg Nat.succ l))))
theorem TKs.length {h : Heap} {vs : List Value} {ts : List (List Int)} (r : TKs h vs ts) : vs.length = ts.length := by
  induction r with
  | nil => rfl
  | cons _ _ _ ih => exact congrArg Nat.succ ih
theorem TKs.kind {vs : List Value} {ts : List (List Int)} {Q : SortKind → Shared → Prop} (r : TKs s.heap vs ts) (l : 2 ≤ vs.length) (h : Q (tuples' true) s) : wpAny (model prog w) A (keyKind' vs.toArray) Q E s := by
  rw [keyKind'_eq, List.mapM_toArray, map_eq_pure_bind]
  refine wpAny_bind (wpAny_bind (r.firsts fun fs ns I lf => wpAny_pure ?_))
  rw [if_pos (by rw [List.all_toArray, List.all_map]; exact List.all_eq_true.mpr fun _ _ => rfl)]
  refine wpAny_bind (wpAny_rule ?_)
  have hfm : ((fs.map some).toArray.filterMap id) = fs.toArray := by rw [List.filterMap_toArray, List.filterMap_map]; exact congrArg List.toArray (List.filterMap_some)
  rw [hfm, oneTypeOnly'_eq, List.mapM_toArray, map_eq_pure_bind, mapM_typeOf_ints I]
  cases I with
  | nil => exact absurd (lf ▸ l) (by decide)
  | cons n u I =>
    refine wpAny_bind (wpAny_bind (wpAny_bind (wpAny_pure (wpAny_pure ?_))))
    show wpAny _ A (pure (if ((List.map (fun _ => Value.type "int") (Value.int n u :: _)).toArray.all fun x => x == Value.type "int") = true then some (Value.type "int") else none)) _ E s
    rw [if_pos (by rw [List.all_toArray, List.all_map]; exact List.all_eq_true.mpr fun _ _ => (by decide : (Value.type "int" == Value.type "int") = true))]
    exact wpAny_pure (wpAny_pure h)

/-! The runs. -/
structure SB (a₀ : Array Keyed) (st : SortSt) : Prop where
  perm : (arrOf st).Perm a₀
  kind : kindOf st = tuples' true
  failed : failedOf st = none
  pend : pendingOf st = #[]
/-- what is to be sorted: all keys tuples of ints, no two alike -/
structure KD (h : Heap) (a₀ : Array Keyed) : Prop where
  keys : ∀ p ∈ a₀.toList, ∃ t, TK h p.1 t
  nd : (a₀.toList.map fun p => tkOf h p.1).Nodup
variable {a₀ : Array Keyed} {st : SortSt}
theorem SB.size (B : SB a₀ st) : (arrOf st).size = a₀.size := B.perm.size_eq
theorem SB.arr (B : SB a₀ st) {xs : Array Keyed} (p : xs.Perm (arrOf st)) : SB a₀ (setArr st xs) := ⟨p.trans B.perm, B.kind, B.failed, B.pend⟩
noncomputable abbrev key (h : Heap) (xs : Array Keyed) (i : Nat) : List Int := KK (tkind h) xs i
theorem SB.at (B : SB a₀ st) (D : KD s.heap a₀) {i : Nat} (hi : i < a₀.size) : ∃ x p, (arrOf st)[i]? = some (x, p) ∧ TK s.heap x (key s.heap (arrOf st) i) := by
  have hi' : i < (arrOf st).size := B.size ▸ hi
  have e : (arrOf st)[i]? = some (arrOf st)[i] := getElem?_pos _ i hi'
  obtain ⟨t, ht⟩ := D.keys (arrOf st)[i] ((Array.perm_iff_toList_perm.mp B.perm).mem_iff.mp (by simp))
  refine ⟨(arrOf st)[i].1, (arrOf st)[i].2, e, ?_⟩
  have : key s.heap (arrOf st) i = t := by
    unfold key KK; rw [e]; exact congrArg (Option.getD · []) (tkOf_eq ht)
  rw [this]; exact ht
theorem SB.lt (B : SB a₀ st) (D : KD s.heap a₀) {i j : Nat} (hi : i < a₀.size) (hj : j < a₀.size) {Q : Option Bool → SortSt → Prop} (h : Q (some (decide (key s.heap (arrOf st) i < key s.heap (arrOf st) j))) st) : PyProof.Rows.wpS (model prog w) A E s (ltAt' i j) Q st := by
  obtain ⟨x, p, e1, hx⟩ := B.at D hi
  obtain ⟨y, q, e2, hy⟩ := B.at D hj
  rw [ltAt'_eq]
  refine wpS_bind (wpS_get ?_)
  show PyProof.Rows.wpS _ _ _ _ (do let x ← elem' (arrOf st) i; let y ← elem' (arrOf st) j; lt' x y) Q st
  rw [elem'_eq, elem'_eq, e1, e2]
  refine wpS_bind (wpS_pure (wpS_bind (wpS_pure ?_)))
  rw [lt'_eq]
  refine wpS_bind (wpS_get ?_)
  rw [B.kind]
  exact wpS_bind (wpS_lift (wpAny_attempt (tup_lt hx hy ⟨rfl, wpS_pure h⟩)))
theorem SB.ne (B : SB a₀ st) (D : KD s.heap a₀) {i j : Nat} (hi : i < a₀.size) (hj : j < a₀.size) (ne : i ≠ j) : key s.heap (arrOf st) i ≠ key s.heap (arrOf st) j := by
  obtain ⟨x, p, e1, hx⟩ := B.at D hi
  obtain ⟨y, q, e2, hy⟩ := B.at D hj
  intro e
  have nd : ((arrOf st).toList.map fun p => tkOf s.heap p.1).Nodup := ((Array.perm_iff_toList_perm.mp B.perm).map _).nodup_iff.mpr D.nd
  have k1 : ((arrOf st).toList.map fun p => tkOf s.heap p.1)[i]? = some (some (key s.heap (arrOf st) i)) := by rw [List.getElem?_map, Array.getElem?_toList, e1]; exact congrArg some (tkOf_eq hx)
  have k2 : ((arrOf st).toList.map fun p => tkOf s.heap p.1)[j]? = some (some (key s.heap (arrOf st) i)) := by rw [List.getElem?_map, Array.getElem?_toList, e2, e]; exact congrArg some (tkOf_eq hy)
  exact ne ((List.getElem?_inj (by rw [List.length_map, Array.length_toList, B.size]; exact hi) nd).mp (k1.trans k2.symm))
/-- the first k rise -/
noncomputable def Up (h : Heap) (xs : Array Keyed) (k : Nat) : Prop := ∀ i j, i < j → j < k → key h xs i < key h xs j
noncomputable def Dn (h : Heap) (xs : Array Keyed) (k : Nat) : Prop := ∀ i j, i < j → j < k → key h xs j < key h xs i
theorem SB.gt (B : SB a₀ st) (D : KD s.heap a₀) {i j : Nat} (hi : i < a₀.size) (hj : j < a₀.size) (ne : i ≠ j) (h : decide (key s.heap (arrOf st) i < key s.heap (arrOf st) j) = false) : key s.heap (arrOf st) j < key s.heap (arrOf st) i :=
  Classical.byContradiction fun q => B.ne D hi hj ne (List.le_antisymm (List.not_lt.mp q) (List.not_lt.mp (of_decide_eq_false h)))
theorem asc_ok (D : KD s.heap a₀) {a nr : Nat} {Q : AscSt → SortSt → Prop} (hn : nr ≤ a₀.size) (ha : 1 ≤ a) (le : a ≤ nr) (B : SB a₀ st) (u : Up s.heap (arrOf st) a)
    (h : ∀ n, a ≤ n → n ≤ nr → Up s.heap (arrOf st) n → (n = nr ∨ key s.heap (arrOf st) n < key s.heap (arrOf st) (n - 1)) → Q (none, n) st) : PyProof.Rows.wpS (model prog w) A E s (ascLoop a nr) Q st := by
  unfold ascLoop
  refine wpS_forRange (I := fun x c st' => st' = st ∧ c = (none, x) ∧ Up s.heap (arrOf st) x) ?_ ?_ ⟨rfl, rfl, u⟩
  · rintro x c st' l1 l2 ⟨rfl, rfl, u'⟩
    dsimp only
    refine wpS_bind (B.lt D (by omega) (by omega) ?_)
    cases e : decide (key s.heap (arrOf st') x < key s.heap (arrOf st') (x - 1)) with
    | true => exact wpS_pure (h x l1 (by omega) u' (.inr (of_decide_eq_true e)))
    | false =>
      refine wpS_pure ⟨rfl, rfl, fun i j lt hj => ?_⟩
      have gt := B.gt D (by omega) (by omega) (by omega) e
      by_cases c1 : j < x
      · exact u' i j lt c1
      · obtain rfl : j = x := by omega
        by_cases c2 : i = j - 1
        · rw [c2]; exact gt
        · exact List.lt_trans (u' i (j - 1) (by omega) (by omega)) gt
  · rintro c st' ⟨rfl, rfl, u'⟩
    rw [Nat.max_eq_right le] at u' ⊢
    exact h nr le (Nat.le_refl _) u' (.inl rfl)
theorem desc_ok (D : KD s.heap a₀) {n nr : Nat} {Q : DescSt → SortSt → Prop} (hn : nr ≤ a₀.size) (h1 : 1 ≤ n) (le : n ≤ nr) (B : SB a₀ st) (u : Dn s.heap (arrOf st) n)
    (h : ∀ m, n ≤ m → m ≤ nr → Dn s.heap (arrOf st) m → Q (none, m, 0) st) : PyProof.Rows.wpS (model prog w) A E s (descLoop n nr) Q st := by
  unfold descLoop
  refine wpS_forRange (I := fun x c st' => st' = st ∧ c = (none, x, 0) ∧ Dn s.heap (arrOf st) x) ?_ ?_ ⟨rfl, rfl, u⟩
  · rintro x c st' l1 l2 ⟨rfl, rfl, u'⟩
    dsimp only
    refine wpS_bind (B.lt D (by omega) (by omega) ?_)
    cases e : decide (key s.heap (arrOf st') x < key s.heap (arrOf st') (x - 1)) with
    | true =>
      refine wpS_pure ⟨rfl, rfl, fun i j lt hj => ?_⟩
      have gt := of_decide_eq_true e
      by_cases c1 : j < x
      · exact u' i j lt c1
      · obtain rfl : j = x := by omega
        by_cases c2 : i = j - 1
        · rw [c2]; exact gt
        · exact List.lt_trans gt (u' i (j - 1) (by omega) (by omega))
    | false =>
      have gt := B.gt D (by omega) (by omega) (by omega) e
      refine wpS_bind (B.lt D (by omega) (by omega) ?_)
      rw [decide_eq_true gt]
      exact wpS_pure (h x l1 (by omega) u')
  · rintro c st' ⟨rfl, rfl, u'⟩
    rw [Nat.max_eq_right le] at u' ⊢
    exact h nr le (Nat.le_refl _) u'
theorem count_ok (D : KD s.heap a₀) {nr : Nat} {Q : Option Nat → SortSt → Prop} (hn : nr ≤ a₀.size) (h1 : 1 ≤ nr) (B : SB a₀ st)
    (h : ∀ m st', SB a₀ st' → 1 ≤ m → m ≤ nr → Up s.heap (arrOf st') m → Q (some m) st') : PyProof.Rows.wpS (model prog w) A E s (countRun' 0 nr) Q st := by
  rw [countRun0_eq]
  refine wpS_bind (asc_ok D hn (Nat.le_refl 1) h1 B (fun i j lt hj => absurd lt (by omega)) fun n n1 n2 u hor => ?_)
  dsimp only
  by_cases e : n = nr
  · rw [if_pos (beq_iff_eq.mpr e)]; exact wpS_pure (h n st B n1 n2 u)
  · rw [if_neg (fun q => e (beq_iff_eq.mp q))]
    by_cases gt : n > 1
    · rw [if_pos gt]
      refine wpS_bind (B.lt D (by omega) (by omega) ?_)
      rw [decide_eq_true (u 0 (n - 1) (by omega) (by omega))]
      exact wpS_pure (h n st B n1 n2 u)
    · rw [if_neg gt]
      obtain rfl : n = 1 := by omega
      have lt := hor.resolve_left e
      unfold descPart
      refine wpS_bind (wpS_lift (wpAny_rule ⟨rfl, ?_⟩))
      refine wpS_bind (desc_ok D hn (by omega) (by omega) B (fun i j l1 l2 => ?_) fun m m1 m2 d => ?_)
      · obtain rfl : i = 0 := by omega
        obtain rfl : j = 1 := by omega
        exact lt
      · dsimp only
        rw [if_neg (Nat.lt_irrefl 0)]
        unfold tail3
        refine wpS_bind (wpS_reverse ?_)
        have B' : SB a₀ (setArr st (mirror (arrOf st) 0 m ((m - 0) / 2))) := B.arr (mirror_perm _ _ _ _)
        have sz : m ≤ (arrOf st).size := by rw [B.size]; omega
        refine wpS_bind (asc_ok D hn (by omega) m2 B' (fun i j l1 l2 => ?_) fun k k1 k2 u' _ => wpS_pure (h k _ B' (by omega) k2 u'))
        show key s.heap (mirror (arrOf st) 0 m ((m - 0) / 2)) i < key s.heap (mirror (arrOf st) 0 m ((m - 0) / 2)) j
        unfold key
        rw [KK_mirror sz, KK_mirror sz, if_pos ⟨Nat.zero_le _, by omega⟩, if_pos ⟨Nat.zero_le _, l2⟩]
        exact d _ _ (by omega) (by omega)
theorem bin_ok' (D : KD s.heap a₀) {n ok : Nat} {Q : Bool → SortSt → Prop} (hn : n ≤ a₀.size) (le : ok ≤ n) (h1 : 1 ≤ ok) (B : SB a₀ st) (u : Up s.heap (arrOf st) ok) (h : ∀ st', SB a₀ st' → Up s.heap (arrOf st') n → Q true st') : PyProof.Rows.wpS (model prog w) A E s (binarySort' 0 n ok) Q st := by
  rw [binarySort'_eq, Nat.max_eq_left h1]
  simp only [Nat.zero_add]
  refine wpS_bind (wpS_mono (wpS_forRange (I := fun k c st' => c = (none, ()) ∧ SB a₀ st' ∧ Up s.heap (arrOf st') k) (Q := fun c st' => c = (none, ()) ∧ SB a₀ st' ∧ Up s.heap (arrOf st') n) ?_ ?_ ⟨rfl, B, u⟩) ?_)
  · rintro k c st' l1 l2 ⟨rfl, B', u'⟩
    have hk : k < a₀.size := by omega
    refine wpS_bind (wpS_mono (wpS_forRange (I := fun x c st'' => st'' = st' ∧ ∃ l r, c = (none, l, r) ∧ l ≤ r ∧ r ≤ k ∧ r - l ≤ k - x ∧ (∀ i, i < l → key s.heap (arrOf st') i < key s.heap (arrOf st') k) ∧ ∀ i, r ≤ i → i < k → key s.heap (arrOf st') k < key s.heap (arrOf st') i)
      (Q := fun c st'' => st'' = st' ∧ ∃ l r, c = (none, l, r) ∧ l ≤ k ∧ (∀ i, i < l → key s.heap (arrOf st') i < key s.heap (arrOf st') k) ∧ ∀ i, l ≤ i → i < k → key s.heap (arrOf st') k < key s.heap (arrOf st') i) ?_ ?_
      ⟨rfl, 0, k, rfl, Nat.zero_le _, Nat.le_refl _, Nat.le_refl _, fun i q => absurd q (Nat.not_lt_zero _), fun i q1 q2 => absurd q2 (Nat.not_lt.mpr q1)⟩) ?_)
    · rintro x c st'' _ lx ⟨rfl, l, r, rfl, lr, rk, m, lo, hi⟩
      dsimp only
      by_cases ge : l ≥ r
      · rw [if_pos ge]
        obtain rfl : l = r := by omega
        exact wpS_pure ⟨rfl, l, l, rfl, rk, lo, hi⟩
      · rw [if_neg ge]
        refine wpS_bind (B'.lt D hk (by omega) ?_)
        cases e : decide (key s.heap (arrOf st'') k < key s.heap (arrOf st'') ((l + r) / 2)) with
        | true =>
          have lt := of_decide_eq_true e
          refine wpS_pure ⟨rfl, l, (l + r) / 2, rfl, by omega, by omega, by omega, lo, fun i q1 q2 => ?_⟩
          by_cases c : i = (l + r) / 2
          · rw [c]; exact lt
          · exact List.lt_trans lt (u' _ i (by omega) q2)
        | false =>
          have gt := B'.gt D hk (by omega) (by omega) e
          refine wpS_pure ⟨rfl, (l + r) / 2 + 1, r, rfl, by omega, by omega, by omega, fun i q => ?_, hi⟩
          by_cases c : i = (l + r) / 2
          · rw [c]; exact gt
          · exact List.lt_trans (u' i _ (by omega) (by omega)) gt
    · rintro c st'' ⟨rfl, l, r, rfl, lr, rk, m, lo, hi⟩
      obtain rfl : l = r := by omega
      exact ⟨rfl, l, l, rfl, rk, lo, hi⟩
    · rintro c st'' ⟨rfl, l, r, rfl, lk, lo, hi⟩
      show PyProof.Rows.wpS _ _ _ _ (do moveDown' k l; pure (ForInStep.yield (none, ()))) _ _
      rw [moveDown'_eq]
      refine wpS_bind (wpS_modify (wpS_pure ⟨rfl, B'.arr (bubble_perm _ _ _), fun i j lt hj => ?_⟩))
      have ks : k < (arrOf st'').size := by rw [B'.size]; exact hk
      show key s.heap (bubble (arrOf st'') k (k - l)) i < key s.heap (bubble (arrOf st'') k (k - l)) j
      unfold key
      rw [KK_bubble ks (by omega), KK_bubble ks (by omega), show k - (k - l) = l by omega]
      by_cases c1 : i = l
      · rw [if_pos c1, if_neg (by omega), if_pos ⟨by omega, by omega⟩]
        exact hi (j - 1) (by omega) (by omega)
      · rw [if_neg c1]
        by_cases c2 : l < i ∧ i ≤ k
        · rw [if_pos c2, if_neg (by omega), if_pos ⟨by omega, by omega⟩]
          exact u' (i - 1) (j - 1) (by omega) (by omega)
        · rw [if_neg c2]
          by_cases c3 : j = l
          · rw [if_pos c3]; exact lo i (by omega)
          · rw [if_neg c3]
            by_cases c4 : l < j ∧ j ≤ k
            · rw [if_pos c4]
              exact u' i (j - 1) (by omega) (by omega)
            · rw [if_neg c4]; exact u' i j lt (by omega)
  · rintro c st' ⟨rfl, B', u'⟩
    exact ⟨rfl, B', by rw [Nat.max_eq_right le] at u'; exact u'⟩
  · rintro c st' ⟨rfl, B', u'⟩
    exact wpS_pure (h st' B' u')
theorem runs_ok (D : KD s.heap a₀) {Q : Unit → SortSt → Prop} (B : SB a₀ st) (h2 : 2 ≤ a₀.size) (h64 : a₀.size < 64) (h : ∀ st', (arrOf st').Perm a₀ → failedOf st' = none → Up s.heap (arrOf st') a₀.size → Q () st') : PyProof.Rows.wpS (model prog w) A E s sortRuns' Q st := by
  rw [sortRuns'_eq]
  refine wpS_bind (wpS_get ?_)
  dsimp only
  have hmr : minRun' a₀.size a₀.size 0 = a₀.size := by
    cases e : a₀.size with
    | zero => omega
    | succ f => rw [minRun'_succ, if_pos (e ▸ h64)]
  simp only [B.size, hmr]
  let Dn' : SortSt → Prop := fun st' => (arrOf st').Perm a₀ ∧ failedOf st' = none ∧ pendingOf st' = #[(0, a₀.size, 0)] ∧ Up s.heap (arrOf st') a₀.size
  have fin : ∀ st', SB a₀ st' → Up s.heap (arrOf st') a₀.size → Dn' (setPending st' ((pendingOf st').push (0, a₀.size, 0))) := fun st' B' u => ⟨B'.perm, B'.failed, by show (pendingOf st').push _ = _; rw [B'.pend]; rfl, u⟩
  refine wpS_bind (wpS_mono (wpS_forRange (I := fun x c st' => (x = 0 ∧ c = (none, 0) ∧ SB a₀ st') ∨ (1 ≤ x ∧ c = (none, a₀.size) ∧ Dn' st')) (Q := fun c st' => c = (none, a₀.size) ∧ Dn' st') ?_ ?_ (.inl ⟨rfl, rfl, B⟩)) ?_)
  · rintro x c st' _ hx (⟨rfl, rfl, B'⟩ | ⟨_, rfl, d⟩)
    · dsimp only
      rw [if_neg (by omega)]
      simp only [Nat.sub_zero, Nat.min_self, Nat.zero_add]
      refine wpS_bind (count_ok D (Nat.le_refl _) (by omega) B' fun m st2 B2 m1 m2 u2 => ?_)
      dsimp only
      have rest : ∀ st3, SB a₀ st3 → Up s.heap (arrOf st3) a₀.size → PyProof.Rows.wpS (model prog w) A E s (modify fun s => setPending s ((pendingOf s).push (0, a₀.size, 0))) (fun _ st' => Dn' st') st3 := fun st3 B3 u3 => wpS_modify (fin st3 B3 u3)
      by_cases lt : m < a₀.size
      · rw [if_pos lt]
        refine wpS_bind (wpS_lift (wpAny_rule ⟨rfl, ?_⟩))
        refine wpS_bind (bin_ok' D (Nat.le_refl _) m2 m1 B2 u2 fun st3 B3 u3 => ?_)
        simp only [Bool.not_true, Bool.false_eq_true, if_false]
        refine wpS_bind (wpS_get ?_)
        rw [B3.pend]
        exact wpS_bind (wpS_mono (rest st3 B3 u3) fun _ st' d => wpS_pure (.inr ⟨by omega, rfl, d⟩))
      · rw [if_neg lt]
        obtain rfl : m = a₀.size := by omega
        refine wpS_bind (wpS_get ?_)
        rw [B2.pend]
        exact wpS_bind (wpS_mono (rest st2 B2 u2) fun _ st' d => wpS_pure (.inr ⟨by omega, rfl, d⟩))
    · dsimp only
      rw [if_pos (Nat.le_refl _)]
      exact wpS_pure ⟨rfl, d⟩
  · rintro c st' (⟨hx, _, _⟩ | ⟨_, hc, d⟩)
    · omega
    · exact ⟨hc, d⟩
  · rintro c st' ⟨rfl, d⟩
    dsimp only
    refine wpS_bind (wpS_mono (wpS_forRange (I := fun _ c st'' => st'' = st' ∧ c = (none, ())) (Q := fun c st'' => st'' = st' ∧ c = (none, ())) ?_ (fun _ _ q => q) ⟨rfl, rfl⟩) ?_)
    · rintro x c st'' _ _ ⟨rfl, rfl⟩
      refine wpS_bind (wpS_get ?_)
      rw [if_pos (by rw [d.2.2.1]; exact Nat.le_refl 1)]
      exact wpS_pure ⟨rfl, rfl⟩
    · rintro c st'' ⟨rfl, rfl⟩
      exact wpS_pure (h _ d.1 d.2.1 d.2.2.2)
theorem TK.move {h h' : Heap} {v : Value} {t : List Int} (r : TK h v t) (k : ∀ a o, h.get? a = some o → h'.get? a = some o) : TK h' v t := by
  obtain ⟨a, xs, m, e, ho, r⟩ := r; exact ⟨a, xs, m, e, k a _ ho, r⟩
theorem TKs.move {h h' : Heap} {vs : List Value} {ts : List (List Int)} (r : TKs h vs ts) (k : ∀ a o, h.get? a = some o → h'.get? a = some o) : TKs h' vs ts := by
  induction r with
  | nil => exact .nil
  | cons a ne _ ih => exact .cons (a.move k) ne ih
theorem TKs.keys {h : Heap} {vs : List Value} {ts : List (List Int)} (r : TKs h vs ts) : vs.map (tkOf h) = ts.map some := by
  induction r with
  | nil => rfl
  | cons a _ _ ih => rw [List.map_cons, List.map_cons, ih, tkOf_eq a]
theorem TKs.mem {h : Heap} {vs : List Value} {ts : List (List Int)} (r : TKs h vs ts) {v : Value} (hv : v ∈ vs) : ∃ t, TK h v t ∧ t ≠ [] := by
  induction r with
  | nil => exact nomatch hv
  | cons a ne _ ih =>
    rcases List.mem_cons.mp hv with rfl | hv
    · exact ⟨_, a, ne⟩
    · exact ih hv
theorem TKs.of {h : Heap} {vs : List Value} (m : ∀ v ∈ vs, ∃ t, TK h v t ∧ t ≠ []) : ∃ ts, TKs h vs ts := by
  induction vs with
  | nil => exact ⟨[], .nil⟩
  | cons v vs ih =>
    obtain ⟨t, a, ne⟩ := m v (.head _)
    obtain ⟨ts, r⟩ := ih fun v hv => m v (.tail _ hv)
    exact ⟨t :: ts, .cons a ne r⟩
theorem TKs.kd {h : Heap} {vs : List Value} {ts : List (List Int)} (r : TKs h vs ts) (nd : ts.Nodup) : KD h (pairsOf vs) := by
  refine ⟨fun p hp => ?_, ?_⟩
  · rw [pairsOf_toList] at hp
    obtain ⟨t, a, _⟩ := r.mem (mem_zip_self hp).2
    exact ⟨t, a⟩
  · have e : (pairsOf vs).toList.map (fun p => tkOf h p.1) = ts.map some := by
      rw [pairsOf_toList, ← r.keys]
      show (vs.zip vs).map (tkOf h ∘ Prod.fst) = _
      rw [← List.map_map, List.map_fst_zip (Nat.le_refl _)]
    rw [e]
    exact List.Pairwise.map _ (fun a b ne e => ne (Option.some.inj e)) nd
/-- what comes out -/
theorem TKs.out {h : Heap} {vs : List Value} {ts : List (List Int)} (r : TKs h vs ts) {xs : Array Keyed} (p : xs.Perm (pairsOf vs)) (u : Up h xs (pairsOf vs).size) : ∃ ts', TKs h (xs.map (·.2)).toList ts' ∧ ts'.Perm ts ∧ ts'.Pairwise (· < ·) := by
  have pl : xs.toList.Perm (vs.zip vs) := by rw [← pairsOf_toList]; exact Array.perm_iff_toList_perm.mp p
  have same : ∀ q ∈ xs.toList, q.1 = q.2 ∧ q.1 ∈ vs := fun q hq => mem_zip_self (pl.mem_iff.mp hq)
  have e2 : (xs.map (·.2)).toList = xs.toList.map (·.2) := Array.toList_map
  have pv : ((xs.map (·.2)).toList).Perm vs := by
    rw [e2]
    have := pl.map (·.2)
    rwa [List.map_snd_zip (Nat.le_refl _)] at this
  obtain ⟨ts', r'⟩ := TKs.of (h := h) (vs := (xs.map (·.2)).toList) fun v hv => r.mem (pv.mem_iff.mp hv)
  have pt : ts'.Perm ts := by
    have := pv.map (tkOf h)
    rw [r'.keys, r.keys] at this
    have q := this.filterMap id
    rw [List.filterMap_map, List.filterMap_map] at q
    exact (List.filterMap_some (l := ts') ▸ List.filterMap_some (l := ts) ▸ q : _)
  refine ⟨ts', r', pt, ?_⟩
  rw [List.pairwise_iff_getElem]
  intro i j hi hj lt
  have sz : xs.size = ts'.length := by rw [← r'.length, Array.length_toList, Array.size_map]
  have kv : ∀ k (hk : k < ts'.length), key h xs k = ts'[k] := fun k hk => by
    have hx : k < xs.size := sz ▸ hk
    have e : xs[k]? = some xs[k] := getElem?_pos _ k hx
    have ks := congrArg (·[k]?) r'.keys
    simp only [List.getElem?_map, List.getElem?_eq_getElem hk, e2] at ks
    rw [Array.getElem?_toList, e] at ks
    have s1 := (same xs[k] (by simp)).1
    unfold key KK
    rw [e]
    show (tkOf h xs[k].1).getD [] = _
    rw [s1]
    have := Option.some.inj ks
    rw [show tkOf h xs[k].2 = some ts'[k] from this]
    rfl
  rw [← kv i hi, ← kv j hj]
  exact u i j lt (by rw [← p.size_eq, sz]; exact hj)
theorem some_inj {α : Type} {a b : List α} (e : a.map some = b.map some) : a = b := by
  have := congrArg (List.filterMap id) e
  rw [List.filterMap_map, List.filterMap_map] at this
  exact (List.filterMap_some (l := a)).symm.trans (this.trans (List.filterMap_some (l := b)))
theorem sort_tree {a : Addr} {vs : List Value} {ts : List (List Int)} {n : Nat} {P : PySem.Fin → Shared → Prop} (ho : s.heap.get? a = some (seqObj "list" vs.toArray n)) (r : TKs s.heap vs ts) (na : ∀ v ∈ vs, v ≠ .ref a) (nd : ts.Nodup) (h64 : vs.length < 64)
    (h : ∀ out ts', (∀ v ∈ out.toList, v ∈ vs) → TKs s.heap out.toList ts' → ts'.Perm ts → ts'.Pairwise (· < ·) → P (.done (.ret .none)) { s with heap := sortedHeap s.heap a vs out }) : wpAny (model prog w) A (Builtin.«list.sort» ⟨[.ref a], []⟩) P E s := by
  rw [list_sort_plain]
  have ha : a < s.heap.objs.size := Heap.lt_size ho
  refine wpAny_bind (listItems_at ho rfl ?_)
  refine wpAny_bind (listUpdate_at ho rfl ?_)
  obtain ⟨e1, ho1⟩ : ∃ e1, (s.heap.update a (Obj.mapSeq fun _ => #[])).get? a = some (seqObj "list" #[] e1) := ⟨_, get?_update_seq ho (fun _ => #[])⟩
  refine wpAny_bind (seqEpoch_at ho1 rfl ?_)
  refine wpAny_bind (wpAny_newTuple ?_)
  refine wpAny_bind (wpAny_newList ?_)
  refine wpAny_holding ?_
  have ho6 : (((s.heap.update a (Obj.mapSeq fun _ => #[])).push (seqObj "tuple" vs.toArray 0)).push (seqObj "list" #[] 0)).get? a = some (seqObj "list" #[] e1) := Heap.get?_push_of_some _ (Heap.get?_push_of_some _ ho1)
  have kp6 : ∀ b o, b ≠ a → s.heap.get? b = some o → (((s.heap.update a (Obj.mapSeq fun _ => #[])).push (seqObj "tuple" vs.toArray 0)).push (seqObj "list" #[] 0)).get? b = some o := fun b o ne e => Heap.get?_push_of_some _ (Heap.get?_push_of_some _ ((Heap.get?_update_other _ _ (Ne.symm ne)).trans e))
  have mv : ∀ {us : List Value} {ws : List (List Int)}, (∀ v ∈ us, v ∈ vs) → TKs s.heap us ws → TKs (((s.heap.update a (Obj.mapSeq fun _ => #[])).push (seqObj "tuple" vs.toArray 0)).push (seqObj "list" #[] 0)) us ws := fun {us ws} sub r => by
    induction r with
    | nil => exact .nil
    | cons t ne _ ih =>
      obtain ⟨b, xs, m, rfl, hb, I⟩ := t
      exact .cons ⟨b, xs, m, rfl, kp6 b _ (fun e => na _ (sub _ (.head _)) (congrArg Value.ref e)) hb, I⟩ ne (ih fun v hv => sub v (.tail _ hv))
  have r6 := mv (fun _ q => q) r
  show wpAny (model prog w) A _ P E { s with heap := ((s.heap.update a (Obj.mapSeq fun _ => #[])).push (seqObj "tuple" vs.toArray 0)).push (seqObj "list" #[] 0) }
  dsimp only
  have hsz : vs.toArray.size = vs.length := List.size_toArray
  by_cases h2 : vs.toArray.size < 2
  · rw [if_pos h2, if_pos h2]
    refine wpAny_bind (wpAny_pure ?_)
    rw [StateT.run_pure]
    refine wpAny_bind (wpAny_pure ?_)
    dsimp only
    refine wpAny_bind (seqEpoch_at ho6 rfl ?_)
    refine wpAny_bind (listUpdate_at ho6 rfl ?_ (hsz2 := by rw [Array.size_map]; show (pairsOf vs).size ≤ _; rw [pairsOf_size, sizeLine_eq]; omega))
    simp only [bne_self_eq_false, Bool.false_eq_true, if_false]
    have eo : ((pairsOf vs).map fun x : Keyed => x.2).toList = vs := by
      rw [Array.toList_map, pairsOf_toList, List.map_snd_zip (Nat.le_refl _)]
    have fin := h ((pairsOf vs).map fun x : Keyed => x.2) ts (fun v hv => by rw [eo] at hv; exact hv) (by rw [eo]; exact r) (List.Perm.refl _)
    refine wpAny_pure (fin ?_)
    have l := r.length
    match ts, l with
    | [], _ => exact .nil
    | [t], _ => exact List.pairwise_singleton _ _
    | _ :: _ :: _, l => rw [hsz, l] at h2; exact absurd h2 (by simp)
  · rw [if_neg h2, if_neg h2]
    have l2 : 2 ≤ vs.length := by rw [← hsz]; omega
    refine wpAny_bind (r6.kind (s := { s with heap := _ }) l2 ?_)
    refine wpAny_bind (wpAny_mono (runs_ok (s := { s with heap := ((s.heap.update a (Obj.mapSeq fun _ => #[])).push (seqObj "tuple" vs.toArray 0)).push (seqObj "list" #[] 0) }) (a₀ := pairsOf vs) (st := SortSt.mk' (tuples' true) (vs.toArray.zip vs.toArray) #[] 7 none)
      (Q := fun _ st' => (arrOf st').Perm (pairsOf vs) ∧ failedOf st' = none ∧ Up (((s.heap.update a (Obj.mapSeq fun _ => #[])).push (seqObj "tuple" vs.toArray 0)).push (seqObj "list" #[] 0)) (arrOf st') (pairsOf vs).size)
      (r6.kd nd) ⟨Array.Perm.refl _, rfl, rfl, rfl⟩ (by rw [pairsOf_size]; exact l2) (by rw [pairsOf_size]; exact h64) fun st' a1 a2 a3 => ⟨a1, a2, a3⟩) ?_ fun _ _ e => e)
    rintro ⟨⟨⟩, st'⟩ s' ⟨rfl, hp, hf, hu⟩
    dsimp only
    refine wpAny_bind (seqEpoch_at ho6 rfl ?_)
    refine wpAny_bind (listUpdate_at ho6 rfl ?_ (hsz2 := by refine Nat.le_trans (Nat.le_of_eq ((Array.size_map ..).trans (hp.size_eq.trans (pairsOf_size _)))) ?_; rw [sizeLine_eq]; omega))
    rw [hf]
    simp only [bne_self_eq_false, Bool.false_eq_true, if_false]
    obtain ⟨ts', q1, q2, q3⟩ := r6.out hp hu
    have pv : ((arrOf st').map (·.2)).toList.Perm vs := by
      rw [Array.toList_map]
      have := (Array.perm_iff_toList_perm.mp hp).map (·.2)
      rwa [pairsOf_toList, List.map_snd_zip (Nat.le_refl _)] at this
    obtain ⟨us, q4⟩ := TKs.of (h := s.heap) (vs := ((arrOf st').map (·.2)).toList) fun v hv => r.mem (pv.mem_iff.mp hv)
    have eu : us = ts' := by
      exact some_inj ((mv (fun v hv => pv.mem_iff.mp hv) q4).keys.symm.trans q1.keys)
    exact wpAny_pure (h _ ts' (fun v hv => pv.mem_iff.mp hv) (eu ▸ q4) q2 q3)
theorem sorted_tups {l : Addr} {vs : List Value} {ts : List (List Int)} {Q : Value → Shared → Prop} (hl : s.heap.IsList l vs.toArray) (r : TKs s.heap vs ts) (nd : ts.Nodup) (h64 : vs.length < 64)
    (h : ∀ out ts', TKs s.heap out.toList ts' → ts'.Perm ts → ts'.Pairwise (· < ·) → Q (.ref (s.heap.objs.size + 1)) { s with heap := sortedAll s.heap vs out }) : wpAny (model prog w) A (call (.builtin "sorted") [.ref l]) Q E s := by
  refine Calls.call_function_entry kind_sorted plain_sorted entry_sorted (args_sorted1 _) ?_
  unfold Builtin.«sorted»
  refine wpAny_bind (m := checkCount "sorted" 1 1 _) (wpAny_pure ?_)
  refine wpAny_bind (collect_list hl ?_)
  refine wpAny_bind (wpAny_newList ?_)
  have hsz : ((s.heap.push (seqObj "list" #[] 0)).update s.heap.objs.size (Obj.mapSeq (· ++ vs.toArray))).objs.size = s.heap.objs.size + 1 := by
    rw [Heap.size_update, size_push']
  generalize hh : ((s.heap.push (seqObj "list" #[] 0)).update s.heap.objs.size (Obj.mapSeq (· ++ vs.toArray))) = h1 at *
  have kh : ∀ b o, s.heap.get? b = some o → h1.get? b = some o := fun b o e => by
    rw [← hh, Heap.get?_update_other _ _ (Nat.ne_of_gt (Heap.lt_size e))]; exact Heap.get?_push_of_some _ e
  have hoL : (h1.push (seqObj "list" vs.toArray 0)).get? (s.heap.objs.size + 1) = some (seqObj "list" vs.toArray 0) := by
    rw [← hsz]; exact Heap.get?_push_size _ rfl
  show wpAny _ _ _ _ _ { s with heap := h1.push (seqObj "list" vs.toArray 0) }
  rw [hsz]
  have rL : TKs (h1.push (seqObj "list" vs.toArray 0)) vs ts := r.move fun b o e => Heap.get?_push_of_some _ (kh b o e)
  have na : ∀ v ∈ vs, v ≠ .ref (s.heap.objs.size + 1) := fun v hv e => by
    obtain ⟨t, ⟨b, xs, m, e2, hb, _⟩, _⟩ := r.mem hv
    rw [e] at e2
    have := Heap.lt_size (Value.ref.inj e2 ▸ hb)
    exact absurd this (Nat.not_lt.mpr (Nat.le_succ _))
  refine wpAny_bind (wpAny_holding (wpAny_call_entry slot_list_sort ⟨_, hoL, rfl⟩ entry_list_sort (sort_tree (s := { s with heap := h1.push (seqObj "list" vs.toArray 0) }) hoL rL na nd h64 fun out ts' a0 a1 a2 a3 => ⟨_, rfl, ?_⟩) (args_list_sort _)))
  obtain ⟨us, q4⟩ := TKs.of (h := s.heap) (vs := out.toList) fun v hv => r.mem (a0 v hv)
  have eu : us = ts' := some_inj ((q4.move fun b o e => Heap.get?_push_of_some _ (kh b o e)).keys.symm.trans a1.keys)
  have := h out ts' (eu ▸ q4) a2 a3
  unfold sortedAll at this
  rw [hh] at this
  exact wpAny_pure ⟨_, rfl, this⟩
end
end TC

namespace TC
open PySem PySem.W PyProof.Rows
/-! The set of a tuple of ints. -/
theorem sub_tuple_set : isSubtype (.type "tuple") (.type "set") = pure false := by rw [isSubtype_type]; kernel_rfl
theorem sub_tuple_frozenset : isSubtype (.type "tuple") (.type "frozenset") = pure false := by rw [isSubtype_type]; kernel_rfl
section
variable {prog : Program} {w : World} {A : Around} {E : Value → Shared → Prop} {s : Shared}
set_option maxRecDepth 100000 in
set_option maxHeartbeats 3200000 in
theorem set_tuple {l : Addr} {items : Array Value} {nl : Nat} {ns : List Int} {Q : Value → Shared → Prop} (hh : A.handled = none) (hol : s.heap.get? l = some (tupObj items nl)) (hi : IntsAre items.toList ns) (hb : items.size + 1 < scanBound)
    (h : ∀ (h' : Heap) (tk : Nat), h'.SetOf (intKind prog w) s.heap.objs.size (fun k' => (firstMet (fun i => ns.getD i 0) items.size).any (· == k')) (firstMet (fun i => ns.getD i 0) items.size).length →
      (∀ b o, s.heap.get? b = some o → h'.get? b = some o) → Q (.ref s.heap.objs.size) { s with heap := h', toks := tk }) : wpAny (model prog w) A (call (.type "set") [.ref l]) Q E s := by
  obtain ⟨c, tl, hmro⟩ := PySem.F.called_set.mro
  have hmade := PySem.F.called_set.made
  have hsub := PySem.F.called_set.sub
  refine wpAny_call (codeAny_of_tree ?_)
  show wpAny _ _ (callAny (.type "set") _) _ _ _
  refine wpAny_pure ⟨Code.quiet_builtin _ (by decide +kernel), codeAny_builtin PySem.F.entry_type_call ?_⟩
  rw [Around.under_plain (weight_type_call_type "set" [.ref l] []) rfl]
  have h1 := PySem.F.called_set.notType
  have h2 := PySem.F.called_set.canCreate
  have hct := PySem.F.typeCall_set_1 (.ref l)
  repeat (any_goals (first | assumption | wp_step))
  refine codeAny_mono (code_set_new_1 (.ref l) (E := E) (Q₁ := fun obj s₁ => ∃ led : Bool, obj = .ref s.heap.objs.size ∧ s₁ = { s with heap := s.heap.push { cls := .type "set", dict := none, data := .set #[] 0 (.fresh 0 0 led) } }) fun led => ⟨led, rfl, rfl⟩) fun r s₁ hr => ?_
  cases r with
  | error e => exact hr
  | ok fl =>
    cases fl with
    | ret obj =>
      obtain ⟨led, rfl, rfl⟩ := hr
      have hS : (s.heap.push { cls := .type "set", dict := none, data := .set #[] 0 (.fresh 0 0 led) }).get? s.heap.objs.size = some { cls := .type "set", dict := none, data := .set #[] 0 (.fresh 0 0 led) } := Heap.get?_push_size _ rfl
      have hT : Shared.TypeIs { s with heap := s.heap.push { cls := .type "set", dict := none, data := .set #[] 0 (.fresh 0 0 led) } } (.ref s.heap.objs.size) "set" := ⟨_, hS, rfl⟩
      have hli := PySem.F.called_set.init.lookup
      have hbi := PySem.F.called_set.init.bind (.ref s.heap.objs.size)
      repeat (any_goals (first | assumption | wp_step))
      refine codeAny_mono (codeAny_call_builtin (R := wants (fun r s₂ => r = .none ∧ ∃ h' tk, s₂ = { s with heap := h', toks := tk } ∧
          h'.SetOf (intKind prog w) s.heap.objs.size (fun k' => (firstMet (fun i => ns.getD i 0) items.size).any (· == k')) (firstMet (fun i => ns.getD i 0) items.size).length ∧
          (∀ b o, s.heap.get? b = some o → h'.get? b = some o)) E) PySem.F.called_set.init.plain PySem.F.entry_set_init (check_set_init_1 hT ?_)) fun r₂ s₂ hr₂ => ?_
      · have hol' : (s.heap.push { cls := .type "set", dict := none, data := .set #[] 0 (.fresh 0 0 led) }).get? l = some (tupObj items nl) := Heap.get?_push_of_some _ hol
        have hsls := sub_tuple_set
        have hslf := sub_tuple_frozenset
        have hne : (Value.type "tuple" == Value.type "dict") = false := by decide
        have hl1 : (s.heap.push { cls := .type "set", dict := none, data := .set #[] 0 (.fresh 0 0 led) }).IsTuple l items := ⟨_, hol', rfl, nl, rfl⟩
        unfold Builtin.«set.__init__» noKeywords Builtin.Frozenset.updateFrom
        generalize hPI : pyIter = PI
        wp_walk
        subst hPI
        refine wpAny_pyIter_tuple hl1 ?_
        refine wpAny_bind (wpAny_runValue ?_)
        have hlS : l < s.heap.objs.size := Heap.lt_size hol
        have hh3 : A.in1.in1.in1.handled = none := by simp [hh]
        have hneI : l ≠ (s.heap.push { cls := .type "set", dict := none, data := .set #[] 0 (.fresh 0 0 led) }).objs.size := by
          rw [Heap.size_push]; exact Nat.ne_of_lt (Nat.lt_succ_of_lt hlS)
        have hSf : s.heap.objs.size ∉ [(s.heap.push { cls := .type "set", dict := none, data := .set #[] 0 (.fresh 0 0 led) }).objs.size, l] := by
          rw [Heap.size_push]; simp only [List.mem_cons, List.not_mem_nil, or_false, not_or]
          exact ⟨Nat.ne_of_lt (Nat.lt_succ_self _), Nat.ne_of_gt hlS⟩
        have hval : ∀ (i : Nat) (v : Value), items[i]? = some v → ∃ t, v = .int ((fun i => ns.getD i 0) i) t := fun i v hv => IntsAre.int_at hi i v (by rw [Array.getElem?_toList]; exact hv)
        refine codeAny_set_update_loopS ((Walks.tuple hh3 _ l hneI items).toS) s.heap.objs.size hSf (fun i => ns.getD i 0) hval hb (items.size - 0) 0 _ (by omega) (Nat.zero_le _) ⟨?hI0, hl1.push _⟩ ?hS0 ?hR
        case hI0 => exact ⟨_, Heap.get?_push_size _ rfl, rfl, rfl⟩
        case hS0 => exact SetOf_congr ((setObjOf_fresh (knd := intKind prog w) led).setOf (Heap.get?_push_of_some _ hS) (by unfold scanBound; omega)) (fun _ => rfl) rfl
        case hR =>
          intro s' hm hS'
          obtain ⟨h', g', d', tk', os'⟩ := s'
          have eg : g' = s.gens := hm.gens
          have ed : d' = s.drawn := hm.drawn
          have eo : os' = s.os := hm.os
          subst eg; subst ed; subst eo
          show wpAny _ _ _ _ _ _
          refine wpAny_pure ?_
          show wpAny _ _ (ret Value.none) _ _ _
          refine wpAny_pure ⟨rfl, h', tk', rfl, hS', fun b o e => ?_⟩
          have lb := Heap.lt_size e
          refine hm.heap b o ?_ (Heap.get?_push_of_some _ (Heap.get?_push_of_some _ e))
          rw [Heap.size_push]
          simp only [List.mem_cons, List.not_mem_nil, or_false, not_or]
          exact ⟨Nat.ne_of_lt lb, Nat.ne_of_lt (Nat.lt_succ_of_lt lb)⟩
      · cases r₂ with
        | error e => exact hr₂
        | ok fl₂ =>
          cases fl₂ with
          | ret r =>
            obtain ⟨rfl, h', tk, rfl, hS', hk'⟩ := hr₂
            repeat (any_goals (first | assumption | wp_step))
            exact h _ _ hS' hk'
          | _ => exact hr₂.elim
    | _ => exact hr.elim
theorem firstMet_fold (is : List Int) : firstMet (fun i => is.getD i 0) is.length = is.foldl step_dedup [] := by
  unfold firstMet
  have e : (List.range is.length).map (fun i => is.getD i 0) = is := List.ext_getElem (by rw [List.length_map, List.length_range]) fun i h1 h2 => by
    rw [List.getElem_map, List.getElem_range, List.getD_eq_getElem?_getD, List.getElem?_eq_getElem h2]; rfl
  rw [e]
theorem len_set {a : Addr} {S : Int → Bool} {n : Nat} {Q : Value → Shared → Prop} (hS : s.heap.SetOf (intKind prog w) a S n) (hn : n < 100) (h : ∀ t tk, Q (.int n t) { s with toks := tk }) : wpAny (model prog w) A (call (.builtin "len") [.ref a]) Q E s := by
  obtain ⟨o, es, ep, t, ho, rest⟩ := hS
  obtain ⟨hex, hd, _, _, _, hf, rfl⟩ := rest
  exact call_len_set ho hex hd hf (by omega) (h _ _)
end
end TC

namespace TC
open PySem PySem.W PyProof.Rows

/-! Builtins. -/
theorem boolOf_eq (x : PyData) : All (boolOf x) fun i => x = .bool i := by
  cases x with
  | bool ys => exact .so rfl
  | _ => exact .no
theorem allOf_cons {α : Type} {f : PyData → Option α} {x : PyData} {xs : List PyData} {as : List α} (e : allOf f (x :: xs) = some as) : ∃ a r, as = a :: r ∧ f x = some a ∧ allOf f xs = some r := by
  obtain ⟨a, h1, h2⟩ := Option.bind_eq_some_iff.mp e
  obtain ⟨r, h3, h4⟩ := Option.map_eq_some_iff.mp h2
  exact ⟨a, r, h4.symm, h1, h3⟩
theorem allOf_length {α : Type} {f : PyData → Option α} : ∀ {xs : List PyData} {as : List α}, allOf f xs = some as → as.length = xs.length := fun {xs} => by
  induction xs with
  | nil => intro as e; cases e; rfl
  | cons x xs ih => intro as e; obtain ⟨a, r, rfl, _, h⟩ := allOf_cons e; exact congrArg Nat.succ (ih h)
theorem allOf_get {α : Type} {f : PyData → Option α} : ∀ {xs : List PyData} {as : List α}, allOf f xs = some as → ∀ {k : Nat} {x : PyData}, xs[k]? = some x → ∃ a, as[k]? = some a ∧ f x = some a := fun {xs} => by
  induction xs with
  | nil => intro as _ k x q; cases q
  | cons x xs ih =>
    intro as e k y q
    obtain ⟨a, r, rfl, h1, h2⟩ := allOf_cons e
    cases k with
    | zero => cases q; exact ⟨a, rfl, h1⟩
    | succ k => exact ih h2 q
theorem PRs.intsAre {P : AP} {h : Heap} : ∀ {xs : List PyData} {vs : List Value} {is : List Int}, PRs P h vs xs → allOf intOf xs = some is → IntsAre vs is := fun {xs} => by
  induction xs with
  | nil => intro vs is r e; cases e; obtain rfl := r.inv; exact .nil
  | cons x xs ih =>
    intro vs is r e
    obtain ⟨i, js, rfl, h1, h2⟩ := allOf_cons e
    obtain ⟨v, ws, rfl, a, b⟩ := r.inv
    rw [intOf_eq x i h1] at a
    obtain ⟨t, rfl⟩ := a.inv
    exact .cons _ t (ih b h2)
theorem ints_back {P : AP} {h : Heap} {vs : List Value} {is : List Int} (r : IntsAre vs is) : PRs P h vs (ofInts is) := by
  induction r with
  | nil => exact .nil
  | cons n t _ ih => exact .cons (.int n t) ih
/-- the values that an iterator over ints hands out -/
theorem int_at {P : AP} {h : Heap} {vs : Array Value} {xs : List PyData} {is : List Int} (r : PRs P h vs.toList xs) (e : allOf intOf xs = some is) (i : Nat) (v : Value) (q : vs[i]? = some v) : ∃ t, v = .int (is.getD i 0) t := by
  rw [← Array.getElem?_toList] at q
  obtain ⟨x, h1, h2⟩ := r.get' q
  obtain ⟨a, h3, h4⟩ := allOf_get e h1
  rw [intOf_eq x a h4] at h2
  rw [List.getD_eq_getElem?_getD, h3]
  exact h2.inv
theorem bool_at {P : AP} {h : Heap} {vs : Array Value} {xs : List PyData} {is : List Bool} (r : PRs P h vs.toList xs) (e : allOf boolOf xs = some is) (i : Nat) (v : Value) (q : vs[i]? = some v) : v = .bool (is.getD i true) := by
  rw [← Array.getElem?_toList] at q
  obtain ⟨x, h1, h2⟩ := r.get' q
  obtain ⟨a, h3, h4⟩ := allOf_get e h1
  rw [boolOf_eq x a h4] at h2
  rw [List.getD_eq_getElem?_getD, h3]
  exact h2.inv

theorem preSum_get (is : List Int) : ∀ k, k ≤ is.length → preSum (fun i => is.getD i 0) k = (is.take k).sum
  | 0, _ => rfl
  | k + 1, h => by
    have hk : k < is.length := h
    have e : (is.take (k + 1)).sum = (is.take k).sum + is[k] := by rw [List.take_add_one, List.getElem?_eq_getElem hk, List.sum_append]; simp
    rw [preSum, preSum_get is k (Nat.le_of_lt hk), e]
    simp [hk]
theorem foldl_max : ∀ (r : List Int) (a : Int), (r.foldl max a ∈ a :: r) ∧ ∀ x ∈ a :: r, x ≤ r.foldl max a
  | [], a => by simp
  | b :: r, a => by
    obtain ⟨h1, h2⟩ := foldl_max r (max a b)
    simp only [List.foldl_cons]
    refine ⟨?_, fun x hx => ?_⟩
    · rcases List.mem_cons.mp h1 with e | e
      · rw [e]; rcases Int.le_total a b with q | q
        · rw [Int.max_eq_right q]; simp
        · rw [Int.max_eq_left q]; simp
      · simp [e]
    · have h3 := h2 (max a b) (by simp)
      simp only [List.mem_cons] at hx
      rcases hx with rfl | rfl | hx
      · exact Int.le_trans (Int.le_max_left _ _) h3
      · exact Int.le_trans (Int.le_max_right _ _) h3
      · exact h2 x (by simp [hx])
theorem foldl_min : ∀ (r : List Int) (a : Int), (r.foldl min a ∈ a :: r) ∧ ∀ x ∈ a :: r, r.foldl min a ≤ x
  | [], a => by simp
  | b :: r, a => by
    obtain ⟨h1, h2⟩ := foldl_min r (min a b)
    simp only [List.foldl_cons]
    refine ⟨?_, fun x hx => ?_⟩
    · rcases List.mem_cons.mp h1 with e | e
      · rw [e]; rcases Int.le_total a b with q | q
        · rw [Int.min_eq_left q]; simp
        · rw [Int.min_eq_right q]; simp
      · simp [e]
    · have h3 := h2 (min a b) (by simp)
      simp only [List.mem_cons] at hx
      rcases hx with rfl | rfl | hx
      · exact Int.le_trans h3 (Int.min_le_left _ _)
      · exact Int.le_trans h3 (Int.min_le_right _ _)
      · exact h2 x (by simp [hx])
theorem maxL_spec {is : List Int} {m : Int} (h : maxL is = some m) : m ∈ is ∧ ∀ x ∈ is, x ≤ m := by
  cases is with
  | nil => cases h
  | cons a r => cases h; exact foldl_max r a
theorem minL_spec {is : List Int} {m : Int} (h : minL is = some m) : m ∈ is ∧ ∀ x ∈ is, m ≤ x := by
  cases is with
  | nil => cases h
  | cons a r => cases h; exact foldl_min r a
theorem maxL_of {is : List Int} {m : Int} (h1 : m ∈ is) (h2 : ∀ x ∈ is, x ≤ m) : maxL is = some m := by
  cases e : maxL is with
  | none => cases is with | nil => cases h1 | cons => cases e
  | some m' => obtain ⟨a, b⟩ := maxL_spec e; exact congrArg some (Int.le_antisymm (h2 m' a) (b m h1))
theorem minL_of {is : List Int} {m : Int} (h1 : m ∈ is) (h2 : ∀ x ∈ is, m ≤ x) : minL is = some m := by
  cases e : minL is with
  | none => cases is with | nil => cases h1 | cons => cases e
  | some m' => obtain ⟨a, b⟩ := minL_spec e; exact congrArg some (Int.le_antisymm (b m h1) (h2 m' a))
theorem perm_sorted_eq : ∀ {a b : List Int}, a.Perm b → a.Pairwise (· ≤ ·) → b.Pairwise (· ≤ ·) → a = b
  | [], b, p, _, _ => by rw [List.nil_perm] at p; exact p.symm
  | x :: a, [], p, _, _ => by rw [List.perm_nil] at p; cases p
  | x :: a, y :: b, p, h1, h2 => by
    obtain ⟨h1a, h1b⟩ := List.pairwise_cons.mp h1
    obtain ⟨h2a, h2b⟩ := List.pairwise_cons.mp h2
    have hxy : x = y := by
      have mx : x ∈ y :: b := p.mem_iff.mp (by simp)
      have my : y ∈ x :: a := p.mem_iff.mpr (by simp)
      rcases List.mem_cons.mp mx with e | e
      · exact e
      · rcases List.mem_cons.mp my with e' | e'
        · exact e'.symm
        · exact Int.le_antisymm (h1a y e') (h2a x e)
    subst hxy
    rw [perm_sorted_eq (List.Perm.cons_inv p) h1b h2b]
theorem sortI_sorted (is : List Int) : (sortI is).Pairwise (· ≤ ·) := by
  have := List.pairwise_mergeSort (le := fun a b : Int => decide (a ≤ b)) (by intro a b c h1 h2; simp at *; omega) (by intro a b; simp; omega) is
  exact this.imp (by intro a b h; simpa using h)
theorem sortI_perm (is : List Int) : (sortI is).Perm is := List.mergeSort_perm ..
theorem sortI_eq {a is : List Int} (p : a.Perm is) (h : a.Pairwise (· ≤ ·)) : a = sortI is := perm_sorted_eq (p.trans (sortI_perm is).symm) h (sortI_sorted is)
theorem sortI_rev_eq {a is : List Int} (p : a.Perm is) (h : a.Pairwise (· ≥ ·)) : a = (sortI is).reverse := by
  have := sortI_eq (a := a.reverse) (is := is) ((List.reverse_perm a).trans p) (List.pairwise_reverse.mpr (h.imp fun q => q))
  rw [← this, List.reverse_reverse]

section
variable {c : Cf} {s : Shared} {v v2 : Value} {u u2 : V} {x : PyData} {xs : List PyData} {K : V → Prop} {Q : Value → Shared → Prop}
theorem old_iter {h h' h'' : Heap} (k : Keep h h') (q : ∀ b o, b ∉ [h.objs.size] → h'.get? b = some o → h''.get? b = some o) : Keep h h'' := fun b o e =>
  q b o (fun z => some_none (List.mem_singleton.mp z ▸ e) (size_none h)) (k b o e)
theorem len_call (r : PR c.fr s.heap v x) (e : seqOf x = some xs) (hz : xs.length < lim) (k : Ret c s (.d (.int xs.length)) Q) : c.wp (call (.builtin "len") [v]) Q s := by
  have hz := lim_nat hz (Nat.le_refl _)
  cases x with
  | list ys =>
    cases e
    obtain ⟨a, vs, n, rfl, _, ho, q⟩ := r.inv
    exact Calls.call_len_list ⟨_, ho, rfl, n, rfl⟩ (by rw [q.size]; omega) (by rw [q.size]; exact k.int _ _)
  | tuple ys =>
    cases e
    obtain ⟨a, vs, n, rfl, _, ho, q⟩ := r.inv
    exact len_tuple ⟨_, ho, rfl, n, rfl⟩ (by rw [q.size]; omega) (by rw [q.size]; exact k.int _ _)
  | _ => cases e
theorem sum_call {is : List Int} (hk : HOk c.hm c.A s.heap) (r : PR c.fr s.heap v x) (e : seqOf x = some xs) (ei : allOf intOf xs = some is) (k : Ret c s (.d (.int is.sum)) Q) : c.wp (call (.builtin "sum") [v]) Q s := by
  refine call_sum_walkG (iter_seq (A := c.A.in1) (hm := c.hm) hk r e fun h' vs q kh it => ?_)
  obtain ⟨fp, St, W, st, lt, _⟩ := it
  refine ⟨_, fp, _, _, _, St, fun i => is.getD i 0, rfl, W, st, fun b hb => (lt b hb).1, int_at q ei, fun h'' tk t' kk => ?_⟩
  rw [← allOf_length ei, preSum_get is _ (Nat.le_refl _), List.take_length]
  exact k.kint t' (old_iter kh kk) tk
theorem best_in {is : List Int} {j : Nat} (h : j < is.length) : is.getD j 0 ∈ is := by
  rw [List.getD_eq_getElem?_getD, List.getElem?_eq_getElem h]; exact List.getElem_mem h
theorem max_call {is : List Int} {m : Int} (hk : HOk c.hm c.A s.heap) (r : PR c.fr s.heap v x) (e : seqOf x = some xs) (ei : allOf intOf xs = some is) (em : maxL is = some m) (k : Ret c s (.d (.int m)) Q) : c.wp (call (.builtin "max") [v]) Q s := by
  refine call_max_walk (iter_seq (A := c.A.in1) (hm := c.hm) hk r e fun h' vs q kh it => ?_)
  obtain ⟨fp, St, W, st, lt, _⟩ := it
  have l := allOf_length ei
  have hpos : 0 < is.length := by cases is with | nil => cases em | cons => exact Nat.succ_pos _
  refine ⟨_, fp, _, _, _, St, _, rfl, W, st, fun b hb => (lt b hb).1, by rw [← l]; exact hpos, CmpOf.ints_gt (fun i => is.getD i 0) (int_at q ei), fun w h'' tk p kk => ?_⟩
  obtain ⟨t, rfl⟩ := int_at q ei _ w p
  obtain ⟨b1, b2⟩ := argBest_gt (fun i => is.getD i 0) (xs.length - 1)
  rw [← l] at b1 b2 ⊢
  have em' := maxL_of (best_in (is := is) (j := argBest (fun i j => decide (is.getD i 0 > is.getD j 0)) (is.length - 1)) (by omega)) (fun y hy => by
      obtain ⟨j, hj, rfl⟩ := List.getElem_of_mem hy
      have := b2 j (by omega)
      rwa [List.getD_eq_getElem?_getD (i := j), List.getElem?_eq_getElem hj] at this)
  rw [em] at em'
  cases em'
  exact k.kint t (old_iter kh kk) tk
theorem min_call {is : List Int} {m : Int} (hk : HOk c.hm c.A s.heap) (r : PR c.fr s.heap v x) (e : seqOf x = some xs) (ei : allOf intOf xs = some is) (em : minL is = some m) (k : Ret c s (.d (.int m)) Q) : c.wp (call (.builtin "min") [v]) Q s := by
  refine call_min_walk (iter_seq (A := c.A.in1) (hm := c.hm) hk r e fun h' vs q kh it => ?_)
  obtain ⟨fp, St, W, st, lt, _⟩ := it
  have l := allOf_length ei
  have hpos : 0 < is.length := by cases is with | nil => cases em | cons => exact Nat.succ_pos _
  refine ⟨_, fp, _, _, _, St, _, rfl, W, st, fun b hb => (lt b hb).1, by rw [← l]; exact hpos, CmpOf.ints_lt (fun i => is.getD i 0) (int_at q ei), fun w h'' tk p kk => ?_⟩
  obtain ⟨t, rfl⟩ := int_at q ei _ w p
  obtain ⟨b1, b2⟩ := argBest_lt (fun i => is.getD i 0) (xs.length - 1)
  rw [← l] at b1 b2 ⊢
  have em' := minL_of (best_in (is := is) (j := argBest (fun i j => decide (is.getD i 0 < is.getD j 0)) (is.length - 1)) (by omega)) (fun y hy => by
      obtain ⟨j, hj, rfl⟩ := List.getElem_of_mem hy
      have := b2 j (by omega)
      rwa [List.getD_eq_getElem?_getD (i := j), List.getElem?_eq_getElem hj] at this)
  rw [em] at em'
  cases em'
  exact k.kint t (old_iter kh kk) tk
theorem all_range {bs : List Bool} : (List.range bs.length).all (fun i => bs.getD i true) = bs.all id := by
  rw [Bool.eq_iff_iff, List.all_eq_true, List.all_eq_true]
  constructor
  · intro H y hy
    obtain ⟨j, hj, rfl⟩ := List.getElem_of_mem hy
    have := H j (List.mem_range.mpr hj)
    rwa [List.getD_eq_getElem?_getD, List.getElem?_eq_getElem hj] at this
  · intro H j hj
    have hj := List.mem_range.mp hj
    rw [List.getD_eq_getElem?_getD, List.getElem?_eq_getElem hj]
    exact H _ (List.getElem_mem hj)
theorem all_call {bs : List Bool} (hk : HOk c.hm c.A s.heap) (r : PR c.fr s.heap v x) (e : seqOf x = some xs) (ei : allOf boolOf xs = some bs) (k : Ret c s (.d (.bool (bs.all id))) Q) : c.wp (call (.builtin "all") [v]) Q s := by
  refine call_all_walk (iter_seq (A := c.A.in1) (hm := c.hm) hk r e fun h' vs q kh it => ?_)
  obtain ⟨fp, St, W, st, lt, _⟩ := it
  refine ⟨_, fp, _, _, _, St, fun i => bs.getD i true, rfl, W, st, fun i v s Q E p hq => ?_, fun h'' tk kk => ?_⟩
  · rw [bool_at q ei i v p]; exact wpAny_truthy_bool hq
  · rw [← allOf_length ei, all_range]
    exact k.kbool (old_iter kh kk) tk
theorem list_call (a : AtC c s) (h : IsL c.hid s.heap v xs) (hz : xs.length < lim) (k : Ret c s (.own (.list xs)) Q) : c.wp (call (.type "list") [v]) Q s := by
  obtain ⟨l, vs, n, rfl, ho, r⟩ := h
  exact call_list_seq l (.inl rfl) ho rfl rfl (fun h' c' kh e => k.new a kh (size_none _) e r _) (by rw [r.size]; exact lim_nat hz (by rw [sizeLine_eq]; decide))
theorem ofInts_at {ks : List Int} {i : Nat} {y : PyData} (e : (ofInts ks)[i]? = some y) : ∃ k, ks[i]? = some k ∧ y = .int k := by
  unfold ofInts at e
  rw [List.getElem?_map] at e
  obtain ⟨k, h1, h2⟩ := Option.map_eq_some_iff.mp e
  exact ⟨k, h1, h2.symm⟩
theorem keys_call (W : WfC c) (a : At c s) (hh : c.A.handled = none) (r : c.R s v u) : All (keysV u) fun xs => xs.length < lim → Ret c s (.own (.list xs)) Q → c.wp (call (.type "list") [v]) Q s := by
  cases u with
  | brw x =>
    cases x with
    | dict kvs =>
      refine .map fun ks e hz k => ?_
      obtain ⟨d, es, n, rfl, nP, ho, rk, rv, ok⟩ := PR.inv r
      have hz' : ks.length < lim := by rw [ofInts, List.length_map] at hz; exact hz
      refine list_tab hh ok.off (tab_of (prog := c.G.prog) (w := c.G.w) ho rk rv ok e) (by rw [List.length_map]; exact lim_nat hz' (by rw [sizeLine_eq]; decide)) fun h' tk acc' c' kh e hacc => k.new a.toAtC kh (size_none _) e (PRs.of ?_ fun i w y e1 e2 => ?_) tk
      · rw [Array.length_toList, hacc.1, List.length_map, ofInts, List.length_map]
      · obtain ⟨k, h1, rfl⟩ := ofInts_at e2
        rw [Array.getElem?_toList] at e1
        obtain ⟨k', x, h2, h3⟩ := hacc.2 i w e1
        rw [List.getElem?_map, h1] at h2
        cases h2
        obtain ⟨t, rfl⟩ := Value.isInt_shape h3
        exact .int k t
    | _ => exact fun xs e hz k => list_call a.toAtC (W.ls a.toAtC r xs e) hz k
  | rg n =>
    refine .so fun hz k => ?_
    obtain ⟨r, t1, t2, t3, rfl, nr, l, ir⟩ := r
    rw [lim_eq] at l
    refine call_list_range (n := n.toNat) hh ir (small_one (by omega) (by omega) (by omega) (by omega)) (by rw [rangeSize_one]; split <;> omega) (by omega) fun h' tk acc' c' kh e hacc => k.new a.toAtC kh (size_none _) e (PRs.of ?_ fun i w y e1 e2 => ?_) tk
    · rw [Array.length_toList, hacc.1, ofInts, List.length_map, rangeL, List.length_map, List.length_range]
    · obtain ⟨k, h1, rfl⟩ := ofInts_at e2
      rw [Array.getElem?_toList] at e1
      obtain ⟨t, rfl⟩ := hacc.2 i w e1
      rw [rangeL, List.getElem?_map] at h1
      obtain ⟨j, e4, rfl⟩ := Option.map_eq_some_iff.mp h1
      obtain ⟨_, e3⟩ := List.getElem?_eq_some_iff.mp e4
      rw [List.getElem_range] at e3
      subst e3
      rw [Int.zero_add, Int.mul_one]
      exact .int _ t
  | _ => exact fun xs e hz k => list_call a.toAtC (W.ls a.toAtC r xs e) hz k
theorem tuple_call (W : WfC c) (a : AtC c s) (h : IsL c.hid s.heap v xs) (hz : xs.length < lim) (k : Ret c s (.d (.tuple xs)) Q) : c.wp (call (.type "tuple") [v]) Q s := by
  obtain ⟨l, vs, n, rfl, ho, r⟩ := h
  refine call_tuple_list ⟨_, ho, rfl, n, rfl⟩ (fun h' kh => ?_) (by rw [r.size]; exact lim_nat hz (by rw [sizeLine_eq]; decide))
  exact W.tup (s := { s with heap := h' }) (fun v s' x m => k v s' ((Ext.of kh).trans x) m) (a.go (Ext.of kh) ⟨rfl, rfl⟩) 0 (r.move fun b o hb q => ⟨hb, kh b o q⟩)
theorem succ_none (h : Heap) : h.get? (h.objs.size + 1) = none := none_of fun o z => absurd (Heap.lt_size z) (Nat.not_lt.mpr (Nat.le_succ _))
theorem sorted_call (a : AtC c s) (h : IsL c.fr s.heap v xs) {is : List Int} (ei : allOf intOf xs = some is) (hz : is.length < 64) (k : Ret c s (.own (.list (ofInts (sortI is)))) Q) : c.wp (call (.builtin "sorted") [v]) Q s := by
  obtain ⟨l, vs, n, rfl, ho, r⟩ := h
  have I := r.intsAre ei
  have ln := I.length
  refine sorted_ints (l := l) (vs := vs.toList) ⟨_, ho, rfl, n, rfl⟩ I (by omega) fun out ns' q p o => ?_
  obtain ⟨e, he⟩ := sortedAll_at s.heap vs.toList out
  rw [← sortI_eq p o] at k
  exact k.new a (fun _ _ => sortedAll_old) (succ_none _) he (ints_back q) _
theorem tup_eq' (x : PyData) : All (tupOf x) fun t => ∃ ys, x = .tuple ys ∧ allOf intOf ys = some t := by
  cases x with
  | tuple ys => exact fun t e => ⟨ys, rfl, e⟩
  | _ => exact .no
theorem allOf_cons' {α : Type} {f : PyData → Option α} {x : PyData} {r : List PyData} {ts : List α} (e : allOf f (x :: r) = some ts) : ∃ a as, ts = a :: as ∧ f x = some a ∧ allOf f r = some as := by
  obtain ⟨a, h1, h2⟩ := Option.bind_eq_some_iff.mp e
  obtain ⟨as, h3, h4⟩ := Option.map_eq_some_iff.mp h2
  exact ⟨a, as, h4.symm, h1, h3⟩
theorem PRs.tks {P : AP} {h : Heap} {xs : List PyData} : ∀ {vs : List Value} {ts : List (List Int)}, PRs P h vs xs → allOf tupOf xs = some ts → [] ∉ ts → TKs h vs ts := by
  induction xs with
  | nil => intro vs ts r e ne; cases e; rw [show vs = [] from r.inv]; exact .nil
  | cons x xs ih =>
    intro vs ts r e ne
    obtain ⟨t, us, rfl, h1, h2⟩ := allOf_cons' e
    obtain ⟨v, ws, rfl, a, b⟩ := r.inv
    obtain ⟨ys, rfl, h3⟩ := tup_eq' x t h1
    obtain ⟨z, items, m, rfl, _, ho, q⟩ := a.inv
    exact .cons ⟨z, items, m, rfl, ho, q.intsAre h3⟩ (fun e => ne (e ▸ .head _)) (ih b h2 fun q => ne (.tail _ q))
theorem TKs.prs {P : AP} {h : Heap} (n : ∀ b, P b → Is h b) {vs : List Value} {ts : List (List Int)} (r : TKs h vs ts) : PRs P h vs (ofTups ts) := by
  induction r with
  | nil => exact .nil
  | cons a _ _ ih =>
    obtain ⟨z, items, m, rfl, ho, I⟩ := a
    exact .cons (.tuple (fun q => not_tup (n z q) ho) ho (ints_back I)) ih
theorem sortT_eq {ts' ts : List (List Int)} (p : ts'.Perm ts) (h : ts'.Pairwise (· < ·)) : ts' = sortT ts := by
  refine List.Perm.eq_of_pairwise (le := fun a b : List Int => a ≤ b) (fun x y _ _ p q => List.le_antisymm p q) (h.imp List.le_of_lt) ?_ (p.trans (List.mergeSort_perm _ _).symm)
  exact (List.pairwise_mergeSort (le := fun a b : List Int => decide (a ≤ b)) (fun a b c h1 h2 => decide_eq_true (List.le_trans (of_decide_eq_true h1) (of_decide_eq_true h2))) (fun a b => by rw [Bool.or_eq_true, decide_eq_true_iff, decide_eq_true_iff]; exact List.le_total a b) ts).imp fun h => of_decide_eq_true h
theorem sortT_call (a : AtC c s) (h : IsL c.fr s.heap v xs) {ts : List (List Int)} (ei : allOf tupOf xs = some ts) (hz : ts.length < 64) (nd : ts.Nodup) (ne : [] ∉ ts) (k : Ret c s (.own (.list (ofTups (sortT ts)))) Q) : c.wp (call (.builtin "sorted") [v]) Q s := by
  obtain ⟨l, vs, n, rfl, ho, r⟩ := h
  have I := r.tks ei ne
  refine sorted_tups (l := l) (vs := vs.toList) ⟨_, ho, rfl, n, rfl⟩ I nd (by rw [I.length]; exact hz) fun out ts' q p o => ?_
  obtain ⟨e, he⟩ := sortedAll_at s.heap vs.toList out
  rw [← sortT_eq p o] at k
  exact k.new a (fun _ _ => sortedAll_old) (succ_none _) he (q.prs a.dom) _
theorem dist_call (hh : c.A.handled = none) {is : List Int} {x : PyData} (r : PR c.fr s.heap v x) (e : tupleOf x = some xs) (ei : allOf intOf xs = some is) (hz : is.length < 64) {Q' : Value → Shared → Prop} (q : ∀ d s', Ext c.fr s.heap s'.heap → Same s s' → (∀ Q : Value → Shared → Prop, (∀ t tk, Q (.int (is.foldl step_dedup []).length t) { s' with toks := tk }) → c.wp (call (.builtin "len") [d]) Q s') → Q' d s') : c.wp (call (.type "set") [v]) Q' s := by
  cases x with
  | tuple ys =>
    cases e
    obtain ⟨l, vs, n, rfl, _, ho, r⟩ := r.inv
    have I := r.intsAre ei
    have ln := I.length
    rw [Array.length_toList] at ln
    refine set_tuple hh ho I (by unfold scanBound; omega) fun h' tk hS kh => ?_
    rw [ln, firstMet_fold] at hS
    refine q _ { s with heap := h', toks := tk } (Ext.of kh) ⟨rfl, rfl⟩ fun Q k => ?_
    have le := firstMet_length_le (fun i => is.getD i 0) is.length
    rw [firstMet_fold] at le
    exact len_set (s := { s with heap := h', toks := tk }) hS (by omega) k
  | _ => exact nomatch e
theorem idx_at (k : Int) {vs : List Value} {is : List Int} (I : IntsAre vs is) : k ∈ is → ∃ hj : is.idxOf k < vs.length, isInt k vs[is.idxOf k] = true ∧ ∀ m (hm : m < vs.length), m < is.idxOf k → isInt k vs[m] = false := by
  induction I with
  | nil => exact fun h => nomatch h
  | cons n t r ih =>
    rename_i vs' is'
    intro h
    by_cases c : n = k
    · subst c
      have e : (n :: is').idxOf n = 0 := List.idxOf_cons_self
      simp only [e]
      exact ⟨Nat.succ_pos _, by simp [isInt], fun m _ lt => absurd lt (Nat.not_lt_zero _)⟩
    · obtain ⟨hj, h1, h2⟩ := ih ((List.mem_cons.mp h).resolve_left fun e => c e.symm)
      have e : (n :: is').idxOf k = is'.idxOf k + 1 := by rw [List.idxOf_cons, beq_eq_false_iff_ne.mpr c]; rfl
      simp only [e]
      refine ⟨Nat.succ_lt_succ hj, h1, fun m hm lt => ?_⟩
      cases m with
      | zero => simp [isInt, c]
      | succ m => exact h2 m (Nat.lt_of_succ_lt_succ hm) (Nat.lt_of_succ_lt_succ lt)
theorem index_call {k : Int} {t : Tok} {is : List Int} (h : IsL c.fr s.heap v xs) (ei : allOf intOf xs = some is) (hk : k ∈ is) (hz : is.length < lim) (kk : Ret c s (.d (.int (is.idxOf k))) Q) : c.wp (call (.builtin "list.index") [v, .int k t]) Q s := by
  obtain ⟨l, vs, n, rfl, ho, r⟩ := h
  have I := r.intsAre ei
  obtain ⟨hj, h1, h2⟩ := idx_at k I hk
  have hj' : is.idxOf k < vs.size := by simpa using hj
  have ln := I.length
  rw [Array.length_toList] at ln
  rw [lim_eq] at hz
  exact call_meets PySem.F.slot_list_index ⟨_, ho, rfl⟩ PySem.F.entry_list_index (PySem.F.args_list_index_2 _ _) (MeetsSeq.list_index l vs n (.int k t) (isInt k) (fun y hy => eq_isInt k t I y (by simpa using hy)) (is.idxOf k) hj' (by omega) (by simpa using h1) fun m hm lt => by have q := h2 m (by simpa using hm) lt; rwa [Array.getElem_toList] at q) ⟨ho, kk.int _ _⟩
theorem sortedR_call (a : AtC c s) (h : IsL c.fr s.heap v xs) {is : List Int} (ei : allOf intOf xs = some is) (hz : is.length < 64) (k : Ret c s (.own (.list (ofInts (sortI is).reverse))) Q) : c.wp (call (.builtin "sorted") [v] [(Str.ofString "reverse", .bool true)]) Q s := by
  obtain ⟨l, vs, n, rfl, ho, r⟩ := h
  have I := r.intsAre ei
  have ln := I.length
  refine sorted_ints_rev (l := l) (vs := vs.toList) ⟨_, ho, rfl, n, rfl⟩ I (by omega) fun out ns' q p o => ?_
  obtain ⟨e, he⟩ := sortedAll_at s.heap vs.toList out
  rw [← sortI_rev_eq p o] at k
  exact k.new a (fun _ _ => sortedAll_old) (succ_none _) he (ints_back q) _
theorem range_call {i : Int} {t : Tok} (W : WfC c) (a : AtC c s) (l : -(lim : Int) < i ∧ i < lim) (k : Ret c s (.rg i) Q) : c.wp (call (.type "range") [.int i t]) Q s :=
  call_range_1 (k _ { s with heap := _, toks := _ } (Ext.of (keep_push _ _)) ⟨rfl, rfl⟩ ⟨_, _, _, _, rfl, W.new_fr (a.ext.gone (size_none _)), l, IsRange.new _ _ _ _ _ _ _⟩)
theorem max2_call {a b : Int} {t t' : Tok} (hh : c.A.handled = none) (k : Ret c s (.d (.int (max a b))) Q) : c.wp (call (.builtin "max") [.int a t, .int b t']) Q s :=
  max_two_ints hh fun h' tk kh => by
    by_cases q : b > a
    · rw [if_pos q]; rw [Int.max_eq_right (Int.le_of_lt q)] at k; exact k.kint _ kh tk
    · rw [if_neg q]; rw [Int.max_eq_left (Int.not_lt.mp q)] at k; exact k.kint _ kh tk
theorem min2_call {a b : Int} {t t' : Tok} (hh : c.A.handled = none) (k : Ret c s (.d (.int (min a b))) Q) : c.wp (call (.builtin "min") [.int a t, .int b t']) Q s :=
  min_two_ints hh fun h' tk kh => by
    by_cases q : b < a
    · rw [if_pos q]; rw [Int.min_eq_right (Int.le_of_lt q)] at k; exact k.kint _ kh tk
    · rw [if_neg q]; rw [Int.min_eq_left (Int.not_lt.mp q)] at k; exact k.kint _ kh tk

noncomputable def F1.callee : F1 → Value
  | .len => .builtin "len"
  | .sum => .builtin "sum"
  | .max => .builtin "max"
  | .min => .builtin "min"
  | .list => .type "list"
  | .tuple => .type "tuple"
  | .sorted => .builtin "sorted"
  | .int => .type "int"
  | .all => .builtin "all"
  | .range => .type "range"
  | _ => .none
noncomputable def F2.callee : F2 → Value
  | .max => .builtin "max"
  | .min => .builtin "min"
  | .index => .none
noncomputable def isBT : Value → Bool
  | .builtin _ => true
  | .type _ => true
  | _ => false
theorem f1_boot : ∀ p ∈ f1Names, bootBuiltins p.1 = some p.2.callee ∧ p.1 ∈ usedNames ∧ isBT p.2.callee = true := by decide +kernel
theorem f2_boot : ∀ p ∈ f2Names, bootBuiltins p.1 = some p.2.callee ∧ p.1 ∈ usedNames ∧ isBT p.2.callee = true := by decide +kernel
theorem f1_call (W : WfC c) (a : At c s) (r : c.R s v u) (k : Fin c s K Q) {f : F1} (hf : isBT f.callee = true) (hq : f.quiet = false → c.hm = false) (w : f.W u K) : c.wp (call f.callee [v]) Q s := by
  cases f with
  | len => exact got_elim w fun x e1 w => got_elim w fun xs e2 w => len_call (W.rdf r x e1) e2 w.1 (W.ret a k w.2)
  | sum => exact got_elim w fun x e1 w => got_elim w fun xs e2 w => got_elim w fun is e3 w => sum_call a.hok (W.rdf r x e1) e2 e3 (W.ret a k w)
  | max => exact got_elim w fun x e1 w => got_elim w fun xs e2 w => got_elim w fun is e3 w => got_elim w fun m e4 w => max_call a.hok (W.rdf r x e1) e2 e3 e4 (W.ret a k w)
  | min => exact got_elim w fun x e1 w => got_elim w fun xs e2 w => got_elim w fun is e3 w => got_elim w fun m e4 w => min_call a.hok (W.rdf r x e1) e2 e3 e4 (W.ret a k w)
  | list => exact got_elim w fun xs e1 w => keys_call W a (HOk.none (hq rfl ▸ a.hok)) r xs e1 w.1 (W.ret a k w.2)
  | tuple => exact got_elim w fun xs e1 w => tuple_call W a.toAtC (W.ls a.toAtC r xs e1) w.1 (W.ret a k w.2)
  | sorted =>
    refine got_elim w fun x e1 w => got_elim w fun xs e2 w => ?_
    revert w
    cases e3 : allOf intOf xs with
    | some is => exact fun w => sorted_call a.toAtC ((W.rdf r x e1).isL e2) e3 w.1 (W.ret a k w.2)
    | none => exact fun w => got_elim w fun ts e4 w => sortT_call a.toAtC ((W.rdf r x e1).isL e2) e4 w.1.1 w.1.2.1 w.1.2.2 (W.ret a k w.2)
  | int =>
    refine got_elim w fun b e1 w => ?_
    obtain rfl := r.bool e1
    have := (W.ret a k w).int
    exact call_int_bool (by cases b <;> exact this _ _)
  | all => exact got_elim w fun x e1 w => got_elim w fun xs e2 w => got_elim w fun is e3 w => all_call a.hok (W.rdf r x e1) (listOf_eq x xs e2 ▸ rfl) e3 (W.ret a k w)
  | range =>
    refine got_elim w fun i e1 w => ?_
    obtain ⟨t, rfl⟩ := r.int e1
    exact range_call W a.toAtC w.1 (W.ret a k w.2)
  | _ => exact nomatch hf
theorem f2_call (W : WfC c) (a : At c s) (r : c.R s v u) (r2 : c.R s v2 u2) (hh : c.hm = false) (k : Fin c s K Q) {f : F2} (hf : isBT f.callee = true) (w : f.W u u2 K) : c.wp (call f.callee [v, v2]) Q s := by
  have hn : c.A.handled = none := HOk.none (hh ▸ a.hok)
  cases f with
  | max =>
    refine got_elim w fun i e1 w => got_elim w fun j e2 w => ?_
    obtain ⟨t1, rfl⟩ := r.int e1
    obtain ⟨t2, rfl⟩ := r2.int e2
    exact max2_call hn (W.ret a k w)
  | min =>
    refine got_elim w fun i e1 w => got_elim w fun j e2 w => ?_
    obtain ⟨t1, rfl⟩ := r.int e1
    obtain ⟨t2, rfl⟩ := r2.int e2
    exact min2_call hn (W.ret a k w)
  | index => exact nomatch hf
end
end TC

namespace TC
open PySem PySem.W PyProof.Rows

/-! Parts, cuts, questions of type. -/
section
variable {c : Cf} {s : Shared} {v v2 : Value} {u u2 : V} {x y : PyData} {xs ys : List PyData} {K : V → Prop} {Q : Value → Shared → Prop}
theorem seqIndex_of {k : Int} (ei : idxD xs k = some y) : ∃ j, seqIndex? k xs.length = some j ∧ xs[j]? = some y ∧ (-(2 ^ 63) ≤ k ∧ k < 2 ^ 63) ∧ (0 ≤ k → j = k.toNat) ∧ (k < 0 → j = (k + xs.length).toNat ∧ -(xs.length : Int) ≤ k) := by
  unfold idxD at ei
  simp only [lim_eq] at ei
  split at ei
  · rename_i q
    have := (List.getElem?_eq_some_iff.mp ei).1
    exact ⟨k.toNat, by simp [seqIndex?, show ¬ k < 0 by omega, q.1, show k < xs.length by omega], ei, by omega, fun _ => rfl, fun q => by omega⟩
  · split at ei
    · rename_i q
      exact ⟨(k + xs.length).toNat, by simp [seqIndex?, q.1, show 0 ≤ k + xs.length by omega, show k + (xs.length : Int) < xs.length by omega], by rw [Int.add_comm]; exact ei, by omega, fun q => by omega, fun q => ⟨rfl, by omega⟩⟩
    · cases ei
theorem item_seq {P : AP} {k : Int} {t : Tok} {value slice : Expr} (r : PR P s.heap v x) (e : seqOf x = some xs) (ei : idxD xs k = some y) (h : ∀ w, PR P s.heap w y → Q w s) (hs : subscripted slice false v (.int k t) = operate [v, .int k t] (getItem v (.int k t))) : c.wp (subscriptTail value slice v (.int k t)) Q s := by
  obtain ⟨j, hj, hy, ⟨lo, hi⟩, n1, n2⟩ := seqIndex_of ei
  cases x with
  | list ys =>
    cases e
    obtain ⟨a, vs, n, rfl, _, ho, q⟩ := r.inv
    obtain ⟨v, hv, rv⟩ := q.get hy
    have hl : s.heap.IsList a vs := ⟨_, ho, rfl, n, rfl⟩
    rw [Array.getElem?_toList] at hv
    refine tail_any hl.typeIs slot_list_getitem.lookup ?_ hs
    by_cases z : 0 ≤ k
    · exact wpAny_getItem_list hl z hi (n1 z ▸ hv) (h v rv)
    · have z := Int.not_le.mp z
      exact wpAny_getItem_list_neg hl z (by rw [q.size]; exact (n2 z).2) lo (by rw [q.size, ← (n2 z).1]; exact hv) (h v rv)
  | tuple ys =>
    cases e
    obtain ⟨a, vs, n, rfl, _, ho, q⟩ := r.inv
    obtain ⟨v, hv, rv⟩ := q.get hy
    have hl : IsTup s.heap a vs := ⟨_, ho, rfl, n, rfl⟩
    rw [Array.getElem?_toList] at hv
    exact tail_any hl.typeIs slot_tuple_getitem.lookup (PyProof.Rows.getItem_tuple hl lo hi (by rw [q.size]; exact hj) hv (h v rv)) hs
  | _ => cases e
theorem low_R (a : AtC c s) (r : PR c.fr s.heap v y) : c.R s v (low y) := by
  unfold low
  cases f : flat y with
  | false => exact r
  | true => exact flat_move a.dom r f
theorem idx_ok (W : WfC c) (a : At c s) (r : c.R s v u) {k : Int} {t : Tok} {value slice : Expr} (kk : Fin c s K Q) (w : got (idxV u k) K) (hs : subscripted slice false v (.int k t) = operate [v, .int k t] (getItem v (.int k t))) : c.wp (subscriptTail value slice v (.int k t)) Q s := by
  refine got_elim w fun u' e w => ?_
  have kk : ∀ w', c.R s w' u' → Q w' s := fun w' r' => kk w' s u' a (Ext.refl _ _) r' w
  have plain : ∀ {y}, PR c.hid s.heap v y → ((seqOf y).bind (idxD · k)).map V.d = some u' → c.wp (subscriptTail value slice v (.int k t)) Q s := fun {y} r e => by
    obtain ⟨z, e', rfl⟩ := Option.map_eq_some_iff.mp e
    obtain ⟨zs, e1, e2⟩ := Option.bind_eq_some_iff.mp e'
    exact item_seq r e1 e2 kk hs
  cases u with
  | d y => exact plain r e
  | own y => exact plain (W.keep a.toAtC r y rfl) e
  | brw y =>
    obtain ⟨z, e', rfl⟩ := Option.map_eq_some_iff.mp e
    obtain ⟨zs, e1, e2⟩ := Option.bind_eq_some_iff.mp e'
    exact item_seq r e1 e2 (fun w' r' => kk w' (low_R a.toAtC r')) hs
  | ot y z =>
    obtain ⟨q, rfl⟩ := guardO_inv e
    subst q
    obtain ⟨t', a', v2, m, rfl, nt, na, ht, ro⟩ := r
    have hl : IsTup s.heap t' #[.ref a', v2] := ⟨_, ht, rfl, m, rfl⟩
    exact tail_any hl.typeIs slot_tuple_getitem.lookup (PyProof.Rows.getItem_tuple hl (show -(2 ^ 63 : Int) ≤ 0 by decide) (show (0 : Int) < 2 ^ 63 by decide) rfl rfl (kk _ ⟨a', rfl, na, ro⟩)) hs
  | exc k => exact nomatch e
  | rg n => exact nomatch e
/-- a cut: the slice object, then the new list -/
theorem cut_ok (a : AtC c s) (h : IsL c.hid s.heap v xs) (hz : xs.length < lim) {vl vu : Value} {lo hi : Option Int} {value slice : Expr} (pl : IsPart vl lo) (pu : IsPart vu hi) (hp : ∀ vs : Array Value, PRs c.hid s.heap vs.toList xs → PRs c.hid s.heap (slicePick vs lo hi none).toList ys) (k : Ret c s (.own (.list ys)) Q)
    (hs : subscripted slice false v (.ref s.heap.objs.size) = operate [.ref s.heap.objs.size, v] (getItem v (.ref s.heap.objs.size))) :
    c.wp (subscriptTail value slice v (.ref s.heap.objs.size)) Q { s with heap := s.heap.push { cls := .type "slice", data := .fields #[vl, vu, .none] } } := by
  obtain ⟨l, vs, n, rfl, ho, r⟩ := h
  have hl : s.heap.IsList l vs := ⟨_, ho, rfl, n, rfl⟩
  refine tail_any (Heap.IsList.typeIs (s := { s with heap := s.heap.push { cls := .type "slice", data := .fields #[vl, vu, .none] } }) (hl.push _)) list_getitem_lookup
    (wpAny_getItem_list_slice (hl.push _) (Heap.IsSliceOf.new ..) pl pu .none (by simp) ?_ (by rw [r.size]; exact lim_nat hz (by rw [sizeLine_eq]; decide))) hs
  exact Ret.push (s := { s with heap := s.heap.push { cls := .type "slice", data := .fields #[vl, vu, .none] } }) (fun v s' x m => k v s' ((Ext.of (keep_push _ _)).trans x) m) (a.go (Ext.of (keep_push _ _)) ⟨rfl, rfl⟩) 0 ((hp vs r).move fun b o hb e => ⟨hb, keep_push _ _ b o e⟩)
theorem pick_from {P : AP} {h : Heap} {k : Int} (hk : 0 ≤ k) (vs : Array Value) (r : PRs P h vs.toList xs) : PRs P h (slicePick vs (some k) none none).toList (xs.drop k.toNat) := by
  obtain ⟨j, rfl⟩ := Int.eq_ofNat_of_zero_le hk
  show PRs P h (slicePick vs (some (j : Int)) none none).toList _
  rw [slicePick_from']
  simpa using r.drop j
theorem pick_upto {P : AP} {h : Heap} {k : Int} (hk : 0 ≤ k) (vs : Array Value) (r : PRs P h vs.toList xs) : PRs P h (slicePick vs none (some k) none).toList (xs.take k.toNat) := by
  obtain ⟨j, rfl⟩ := Int.eq_ofNat_of_zero_le hk
  show PRs P h (slicePick vs none (some (j : Int)) none).toList _
  rw [slicePick_upto']
  simpa using r.take j
theorem fits (vs : List Value) (h : vs.length < 1000) : vs.toArray.size ≤ sizeLine := by rw [List.size_toArray, sizeLine_eq]; omega
theorem newList_ok (a : AtC c s) {vs : List Value} (r : PRs c.hid s.heap vs xs) (hz : vs.length < 1000) (k : Ret c s (.own (.list xs)) Q) : c.wp (newList vs) Q s := wpAny_newObj_type (k.push a 0 r) (fits vs hz)
theorem newTuple_ok (W : WfC c) (a : AtC c s) {vs : List Value} (r : PRs c.hid s.heap vs xs) (hz : vs.length < 1000) (k : Ret c s (.d (.tuple xs)) Q) : c.wp (newTuple vs) Q s := wpAny_newObj_type (W.tup k a 0 r) (fits vs hz)

noncomputable def tyStr : Ty → String
  | .int => "int"
  | .bool => "bool"
  | .list => "list"
  | .tuple => "tuple"
  | _ => "ValueError"
theorem isi_data (r : PR c.fr s.heap v x) (ty : Ty) (k : Ret c s (.d (.bool (ty.has x))) Q) : ty ≠ .valueError → (∀ j, ty ≠ .exc j) → c.wp (call (.builtin "isinstance") [v, .type (tyStr ty)]) Q s := fun n1 n2 => by
  cases x with
  | none => obtain rfl := r.inv; cases ty with
    | int => exact PySem.IsiPair.NoneType_int (k.bool _)
    | bool => exact PySem.IsiPair.NoneType_bool (k.bool _)
    | list => exact PySem.IsiPair.NoneType_list (k.bool _)
    | tuple => exact PySem.IsiPair.NoneType_tuple (k.bool _)
    | exc j => exact absurd rfl (n2 j)
    | valueError => exact absurd rfl n1
  | bool b => obtain rfl := r.inv; cases ty with
    | int => exact PySem.IsiPair.bool_int k.bool'
    | bool => exact PySem.IsiPair.bool_bool k.bool'
    | list => exact PySem.IsiPair.bool_list (k.bool _)
    | tuple => exact PySem.IsiPair.bool_tuple (k.bool _)
    | exc j => exact absurd rfl (n2 j)
    | valueError => exact absurd rfl n1
  | int b => obtain ⟨t, rfl⟩ := r.inv; cases ty with
    | int => exact PySem.IsiPair.int_int k.bool'
    | bool => exact PySem.IsiPair.int_bool (k.bool _)
    | list => exact PySem.IsiPair.int_list (k.bool _)
    | tuple => exact PySem.IsiPair.int_tuple (k.bool _)
    | exc j => exact absurd rfl (n2 j)
    | valueError => exact absurd rfl n1
  | str b => obtain ⟨t, rfl⟩ := r.inv; cases ty with
    | int => exact PySem.IsiPair.str_int (k.bool _)
    | bool => exact PySem.IsiPair.str_bool (k.bool _)
    | list => exact PySem.IsiPair.str_list (k.bool _)
    | tuple => exact PySem.IsiPair.str_tuple (k.bool _)
    | exc j => exact absurd rfl (n2 j)
    | valueError => exact absurd rfl n1
  | list b =>
    obtain ⟨a, vs, n, rfl, _, ho, _⟩ := r.inv
    have hl : s.heap.IsList a vs := ⟨_, ho, rfl, n, rfl⟩
    cases ty with
    | int => exact PySem.IsiPair.isList_int hl (fun _ _ e => e) (k.bool _)
    | bool => exact PySem.IsiPair.isList_bool hl (fun _ _ e => e) (k.bool _)
    | list => exact PySem.IsiPair.isList_list hl (fun _ _ e => e) k.bool'
    | tuple => exact PySem.IsiPair.isList_tuple hl (fun _ _ e => e) (k.bool _)
    | exc j => exact absurd rfl (n2 j)
    | valueError => exact absurd rfl n1
  | tuple b =>
    obtain ⟨a, vs, n, rfl, _, ho, _⟩ := r.inv
    have hl : s.heap.IsTuple a vs := ⟨_, ho, rfl, n, rfl⟩
    cases ty with
    | int => exact PySem.IsiPair.isTuple_int hl (fun _ _ e => e) (k.bool _)
    | bool => exact PySem.IsiPair.isTuple_bool hl (fun _ _ e => e) (k.bool _)
    | list => exact PySem.IsiPair.isTuple_list hl (fun _ _ e => e) (k.bool _)
    | tuple => exact PySem.IsiPair.isTuple_tuple hl (fun _ _ e => e) k.bool'
    | exc j => exact absurd rfl (n2 j)
    | valueError => exact absurd rfl n1
  | dict b =>
    obtain ⟨a, vs, n, rfl, _, ho, _⟩ := r.inv
    cases ty with
    | int => exact PySem.IsiPair.dict_int ho rfl (k.bool _)
    | bool => exact PySem.IsiPair.dict_bool ho rfl (k.bool _)
    | list => exact PySem.IsiPair.dict_list ho rfl (k.bool _)
    | tuple => exact PySem.IsiPair.dict_tuple ho rfl (k.bool _)
    | exc j => exact absurd rfl (n2 j)
    | valueError => exact absurd rfl n1
theorem none_is {P : AP} {h : Heap} (r : PR P h v x) : (v == .none) = isNon x := by
  have := r.inv
  cases x with
  | none => rw [show v = .none from this]; rfl
  | bool b => rw [show v = .bool b from this]; rfl
  | int b => obtain ⟨_, rfl⟩ := this; rfl
  | str b => obtain ⟨_, rfl⟩ := this; rfl
  | list b => obtain ⟨_, _, _, rfl, _⟩ := this; rfl
  | tuple b => obtain ⟨_, _, _, rfl, _⟩ := this; rfl
  | dict b => obtain ⟨_, _, _, rfl, _⟩ := this; rfl
end
end TC

namespace TC
open PySem PySem.W PyProof.Rows

/-! Asked whether a caught exception is one of a class. -/
section
variable {G : Gl} {A : Around} {E : Value → Shared → Prop} {s : Shared} {C : Addr} {M : Model}
set_option maxRecDepth 100000 in
theorem exc_class {prog : Program} {w : World} {K : Frag} {x : Addr} {ox : Obj} {Q : Option Value → Shared → Prop} (X : K.In s.heap) (I : InstAt s.heap x ox C none) (hga : findIn K (.ref C) "__getattribute__" = some (some (.builtin "BaseException.__getattribute__"))) (hgt : findIn K (.ref C) "__getattr__" = some none)
    (hf : findObj K C none "__class__" = some (.bind (.builtin "getset_descriptor.__get__") (.builtin "object.__class__"))) (hmB : mroIn K C (.type "BaseException") = some true) (hm : mroIn K C (.type "object") = some true)
    (h : Q (some (.ref C)) { s with toks := s.toks + 1 }) : wpAny (model prog w) A (getAttr? (.ref x) "__class__") Q E s := by
  obtain ⟨hh, g, d, t, os⟩ := s
  have L0 := I.type (M := model prog w)
  have L1 := looks_findIn (M := model prog w) X hga
  have L2 := looks_findIn (M := model prog w) X hgt
  have L3 := looks_find (M := model prog w) X I hf
  have L4 := looks_mroIn (M := model prog w) X hmB
  unfold getAttr? getAttrBy? getAttrBy
  refine wpAny_bind (wpAny_mkText (wpAny_bind (wpAny_attempt (wpAny_holding (wpAny_bind (L0.at (wpAny_bind (L1.at ?_))))))))
  have hx2 : (Value.builtin "BaseException.__getattribute__" == Value.builtin "object.__getattribute__") = false := by decide +kernel
  have hx1 : (onTheHeap (Value.ref C) && Value.builtin "BaseException.__getattribute__" == Value.builtin "object.__getattribute__") = false := by rw [hx2]; rfl
  dsimp only
  rw [if_neg (by rw [hx1]; decide)]
  unfold getAttrByItsOwn hookBefore
  rw [if_pos (show onTheHeap (Value.ref C) = true from rfl)]
  refine wpAny_bind (L2.at (wpAny_bind (wpAny_attempt (wpAny_holding ?_))))
  unfold callGetattribute
  rw [if_neg (by decide)]
  unfold boundAndCalled
  rw [PySem.F.attr_ValueError.ga.bind (.ref x)]
  refine wpAny_bind (wpAny_pure (wpAny_call ?_))
  refine codeAny_call_builtin PySem.F.attr_ValueError.ga.plain PySem.F.entry_bexc_ga ?_
  have hk : builtinKind "BaseException.__getattribute__" = some .slot := by decide +kernel
  have hsplit : splitId "BaseException.__getattribute__" = some ("BaseException", "__getattribute__") := by decide +kernel
  have ha := PySem.F.args_bexc_ga (.ref x) (Value.str (Str.ofString "__class__") t)
  show wpAny _ _ (checkBuiltinCall _ ⟨[.ref x, Value.str (Str.ofString "__class__") t], []⟩) _ _ _
  simp only [checkBuiltinCall, hk, hsplit]
  unfold isInstance
  refine wpAny_bind (wpAny_bind (L0.at (L4.at ?_)))
  repeat (first | assumption | wp_step)
  refine wpAny_loadPart_at I.at_ ?_
  rw [I.cls]
  refine wpAny_pure (wpAny_bind (L3.at ?_))
  dsimp only
  repeat (first | assumption | wp_step)
  exact class_get (ox := ox) (od := none) X I hm (wpAny_pure (handed_on rfl (wpAny_pure h)))

/-- asked whether a caught exception is one of a class -/
theorem own_facts (O : G.Ok) {c : Nat} (hc : G.ca[c]? = some C) : (findIn G.K (.ref C) "__getattribute__" = some (some (.builtin "BaseException.__getattribute__")) ∧ findIn G.K (.ref C) "__getattr__" = some none ∧ mroIn G.K C (.type "BaseException") = some true) ∧ (clsIn G.K C).isSome = true ∧ findIn G.K (.ref C) "__class__" = some (some (.builtin "object.__class__")) ∧ specialIn G.K (.builtin "object.__class__") "__get__" = some (some (.builtin "getset_descriptor.__get__"))
    ∧ takesIn G.K (.builtin "object.__class__") = some true ∧ mroIn G.K C (.type "object") = some true ∧ mroIn G.K C (.type "ValueError") = some true ∧ typeIn G.K (.ref C) = some (.type "type") := by
  have q := O.cok c C hc
  unfold ownOk1 at q
  simp only [Bool.and_eq_true, beq_iff_eq] at q
  obtain ⟨⟨⟨⟨⟨⟨⟨⟨⟨q1, q1'⟩, q1''⟩, q2⟩, q3⟩, q4⟩, q5⟩, q6⟩, q7⟩, q8⟩ := q
  exact ⟨⟨q1, q1', q1''⟩, q2, q3, q4, q5, q6, q7, q8⟩
theorem cls_isType (O : G.Ok) {c : Nat} {h : Heap} (hc : G.ca[c]? = some C) (X : G.K.In h) : Looks M h (isType (.ref C)) true := by
  obtain ⟨cd, e⟩ := Option.isSome_iff_exists.mp (own_facts O hc).2.1
  unfold clsIn at e
  split at e
  · rename_i ho
    exact fun A' Q' E' s' k q => wpAny_bind (wpAny_loadPart (k _ _ (X _ _ ho)) (wpAny_pure q))
  · cases e
/-- isinstance of a caught exception -/
theorem isi_any (O : G.Ok) {c : Nat} {x : Addr} {o : Obj} {v : Value} {b : Bool} (hc : G.ca[c]? = some C) (X : G.K.In s.heap) (I : InstAt s.heap x o C none) (hb : (Value.ref C == v) = true → b = true) (hty : Looks (model G.prog G.w) s.heap (typeOf v) (.type "type")) (his : Looks (model G.prog G.w) s.heap (isType v) true)
    (hsub : Looks (model G.prog G.w) s.heap (isSubtype (.ref C) v) b) {Q : Value → Shared → Prop} (h : ∀ tk, Q (.bool b) { s with toks := tk }) : wpAny (model G.prog G.w) A (call (.builtin "isinstance") [.ref x, v]) Q E s := by
  obtain ⟨hg, hcl, ha, hn, htk, hm, _, _⟩ := own_facts O hc
  obtain ⟨cdD, hcD⟩ := Option.isSome_iff_exists.mp hcl
  have hf : findObj G.K C none "__class__" = some (.bind (.builtin "getset_descriptor.__get__") (.builtin "object.__class__")) := by
    unfold findObj; rw [hcD, ha]; simp only [Option.bind_some, hn, htk]
  have hit := cls_isType (M := model G.prog G.w) O hc X
  refine call_isinstance_of ?_ (by intro q; cases q)
  have LT := I.type (M := model G.prog G.w)
  have LI : Looks (model G.prog G.w) s.heap (isInstance (.ref x) v) b := LT.andThen hsub
  unfold Builtin.«isinstance.nested»
  refine wpAny_bind (LT.at ?_)
  by_cases q : (Value.ref C == v) = true
  · rw [if_pos q]
    have e := hb q
    subst e
    exact wpAny_bind (wpAny_rule (wpAny_pure (h s.toks)))
  · rw [if_neg q]
    refine wpAny_bind (hty.at ?_)
    rw [if_pos (by decide)]
    k_delta "plainIsInstance"
    refine wpAny_bind (wpAny_bind (his.at ?_))
    rw [if_neg (by decide)]
    refine wpAny_bind (LI.at ?_)
    cases b with
    | true => exact wpAny_pure (wpAny_pure (h s.toks))
    | false =>
      rw [if_neg (by decide)]
      refine wpAny_bind (exc_class X I hg.1 hg.2.1 hf hg.2.2 hm ?_)
      refine wpAny_bind (hit.at ?_)
      rw [if_neg (by decide)]
      exact wpAny_bind (wpAny_rule (hsub.at (wpAny_pure (h _))))
theorem type_ValueError : typeOf (.type "ValueError") = pure (.type "type") := by
  show (pure (Value.type ((Manifest.find? "ValueError").elim "type" fun x => x.metatype)) : Sem Value) = _
  rw [show ((Manifest.find? "ValueError").elim "type" fun x => x.metatype) = "type" from by kernel_rfl]
theorem exc_inst {ca : List Addr} {c : Nat} {h : Heap} {v : Value} (x : ExcAt ca c h v) : ∃ e C, v = .ref e ∧ ca[c]? = some C ∧ ∃ o, InstAt h e o C none := by
  obtain ⟨e, o, vs, C, rfl, h1, h2, h3, h4, h5⟩ := x
  exact ⟨e, C, rfl, h1, o, h2, h3, by unfold notCls; rw [h5], by rw [h4]; trivial⟩
end
section
variable {c : Cf} {s : Shared} {v : Value} {u : V} {K : V → Prop} {Q : Value → Shared → Prop}
theorem WfC.inK (W : WfC c) (a : AtC c s) : c.G.K.In s.heap := W.ok.inK.keeps a.stk.base
theorem isi_exc_own (W : WfC c) (a : AtC c s) {k k' : Nat} {C' : Addr} (x : ExcAt c.G.ca k s.heap v) (hc' : c.G.ca[k']? = some C') (h : Ret c s (.d (.bool (k' == 0 || k == k'))) Q) : c.wp (call (.builtin "isinstance") [v, .ref C']) Q s := by
  obtain ⟨e, C, rfl, hc, o, i⟩ := exc_inst x
  have hs := W.ok.csub _ _ _ _ hc hc'
  have X := W.inK a
  refine isi_any W.ok hc X i (fun q => ?_) (looks_typeIn X (own_facts W.ok hc').2.2.2.2.2.2.2) (cls_isType W.ok hc' X) (looks_mroIn X hs) fun tk => h.bool tk
  have e1 : C = C' := Value.ref.inj (beq_iff_eq.mp q)
  subst e1
  have h1 := W.ok.csub _ _ _ _ hc hc
  rw [hs] at h1
  simpa using h1
theorem isi_exc_value (W : WfC c) (a : AtC c s) {k : Nat} (x : ExcAt c.G.ca k s.heap v) (h : Ret c s (.d (.bool true)) Q) : c.wp (call (.builtin "isinstance") [v, .type "ValueError"]) Q s := by
  obtain ⟨e, C, rfl, hc, o, i⟩ := exc_inst x
  have X := W.inK a
  exact isi_any W.ok hc X i (fun _ => rfl) (Looks.of_pure type_ValueError) (Looks.of_pure rfl) (looks_mroIn X (own_facts W.ok hc).2.2.2.2.2.2.1) fun tk => h.bool tk

/-! Names. -/
structure Vr (c : Cf) (x : Str) (i : Nat) : Prop where
  nd : (x == ("__debug__" : Str)) = false
  tb : c.cx.tb.lookup x = some i
  kd : isVar (c.cx.kd.lookup x) = true
theorem var_inv {cx : Cx} {x : Str} {i : Nat} (h : cx.var x = some i) : (x == ("__debug__" : Str)) = false ∧ cx.tb.lookup x = some i ∧ isVar (cx.kd.lookup x) = true := by
  unfold Cx.var at h
  cases e : (x != "__debug__" && isVar (cx.kd.lookup x)) with
  | false => rw [e] at h; cases h
  | true =>
    rw [e] at h
    have q := Bool.and_eq_true_iff.mp e
    exact ⟨Bool.eq_false_iff.mpr fun z => bne_iff_ne.mp q.1 (beq_iff_eq.mp z), h, q.2⟩
theorem load_var {x : Str} {pos : Pos} (O : EnvOk c.G c.cx c.env) (hd : (x == ("__debug__" : Str)) = false) (a : varAt c.env s.heap x v) (h : Q v s) : c.wp (eval (.Name x pos) c.env) Q s := by
  refine wpAny_Name ?_ hd
  rcases a with ⟨k, m, hn, hv⟩ | ⟨k | k, z, hc, hv⟩
  · exact wpAny_loadName_local O.kind k hn hv h
  · exact wpAny_loadName_cell O.kind k hc hv h
  · exact wpAny_loadName_free O.kind k hc hv h (O.nocd x (by rw [← O.names]; exact k))
theorem nm_ok (W : Wf c) {x : Str} {pos : Pos} : All (c.cx.var x) fun i => OkE c (.Name x pos) (.nm i) := fun i hv s K Q a w k => by
  obtain ⟨h1, h2, _⟩ := var_inv hv
  refine got_elim w fun o e1 w => got_elim w fun u e2 w => ?_
  obtain ⟨v, va, r⟩ := a.envr x i h2 u (e2 ▸ e1)
  exact load_var W.envok h1 va (k v s _ a (Ext.refl _ _) r w)
theorem glob_inv {cx : Cx} {x : Str} (h : cx.glob x = true) : cx.kd.lookup x = some .globalImplicit ∧ (x == ("__debug__" : Str)) = false ∧ x ≠ "__name__" := by
  unfold Cx.glob at h
  simp only [Bool.and_eq_true, beq_iff_eq, bne_iff_ne, ne_eq] at h
  exact ⟨h.1.1, Bool.eq_false_iff.mpr fun q => h.1.2 (beq_iff_eq.mp q), h.2⟩
theorem name_own (W : Wf c) (a : AtC c s) {x : Str} {pos : Pos} (hg : c.cx.glob x = true) (e : nsIn c.G.K mainGlobals x = some (some v)) (h : Q v s) : c.wp (eval (.Name x pos) c.env) Q s := by
  obtain ⟨h1, h2, _⟩ := glob_inv hg
  refine Calls.Name_function_global W.envok.kind (by unfold Env.kindOf; rw [W.envok.names]; exact h1) (Calls.loadGlobal_global (mg := c.G.mg) ?_ (mg_of W.ok.inK W.ok.top.g e) h) h2
  rw [W.envok.glob]
  exact W.ok.top.g.keeps a.stk.base
theorem name_built (W : Wf c) (a : AtC c s) {x : Str} {pos : Pos} (hg : c.cx.glob x = true) (m : x ∈ usedNames) (hv : bootBuiltins x = some v) (h : Q v s) : c.wp (eval (.Name x pos) c.env) Q s := by
  obtain ⟨h1, h2, h3⟩ := glob_inv hg
  refine Calls.Name_function_global W.envok.kind (by unfold Env.kindOf; rw [W.envok.names]; exact h1) (Calls.loadGlobal_builtin (mg := c.G.mg) (mb := c.G.mb) ?_ (mg_none_of W.ok.inK W.ok.top.g (W.ok.bnm x m)) ?_ ((W.ok.top.builtins x h3).trans hv) h) h2
  · rw [W.envok.glob]; exact W.ok.top.g.keeps a.stk.base
  · rw [W.envok.bns]; exact W.ok.top.b.keeps a.stk.base

/-! Lists of expressions. -/
/-- not starred -/
noncomputable abbrev Plain (pe : Expr) : Prop := ∀ env rest, starEach (pe :: rest) env = (false, eval pe env) :: starEach rest env
/-- as a place: no slice -/
noncomputable abbrev NoSl (pe : Expr) : Prop := ∀ v w, subscripted pe false v w = operate [v, w] (getItem v w)
structure Ok (c : Cf) (pe : Expr) (e : E) : Prop where
  ev : OkE c pe e
  ts : OkT c pe e
  pl : Plain pe
  ns : NoSl pe
noncomputable def OkL (c : Cf) : List Expr → Es → Prop
  | [], .nil => True
  | p :: ps, .cons e es => Ok c p e ∧ OkL c ps es
  | _, _ => False
theorem lowL_ok {f : Expr → Option TC.E} {es : List Expr} (h : ∀ pe, All (f pe) (Ok c pe)) : All (lowL f es) (OkL c es) := by
  induction es with
  | nil => exact .so trivial
  | cons e es ih => exact .bind fun a h1 => .map fun b h2 => ⟨h e a h1, ih b h2⟩
inductive Rs (R : Value → V → Prop) : List Value → List V → Prop
  | nil : Rs R [] []
  | cons {v u vs us} : R v u → Rs R vs us → Rs R (v :: vs) (u :: us)
theorem Rs.imp {R R' : Value → V → Prop} (k : ∀ v u, R v u → R' v u) {vs : List Value} {us : List V} (r : Rs R vs us) : Rs R' vs us :=
  Rs.rec (motive := fun vs us _ => Rs R' vs us) .nil (fun a _ b => .cons (k _ _ a) b) r
theorem Rs.length {R : Value → V → Prop} {vs : List Value} {us : List V} (r : Rs R vs us) : vs.length = us.length :=
  Rs.rec (motive := fun vs us _ => vs.length = us.length) rfl (fun _ _ b => congrArg Nat.succ b) r
theorem Rs.keep {R : Value → V → Prop} {P : AP} {h : Heap} (k : ∀ v u, R v u → All (kp u) (PR P h v)) {vs : List Value} {us : List V} (r : Rs R vs us) : All (keepAll us) (PRs P h vs) :=
  Rs.rec (motive := fun vs us _ => All (keepAll us) (PRs P h vs)) (.so .nil) (fun a _ b => .bind fun x h1 => .map fun xs h2 => .cons (k _ _ a x h1) (b xs h2)) r
theorem plain_all {es : List Expr} {pos : Pos} {env : Env} : ∀ {es' : Es}, OkL c es es' → (backTo pos (starEach es env)).any (·.1) = false := by
  induction es with
  | nil => intro _ _; rfl
  | cons e es ih =>
    intro es' h
    cases es' with
    | nil => exact h.elim
    | cons a as =>
      rw [h.1.pl env es]
      show (false || (backTo pos (starEach es env)).any (·.1)) = false
      rw [ih h.2]; rfl
noncomputable abbrev Φ (c : Cf) : Call := wpCall c.G.tab c.dep
theorem args_ok (W : Wf c) {pos : Pos} {es : List Expr} : ∀ {es' : Es} {s : Shared} {K : List V → Prop} {Q : List Value → Shared → Prop}, OkL c es es' → At c s → seqW (wpL (Φ c) c.hm c.X es' c.ρ) K →
    (∀ vs s' us, At c s' → Ext c.fr s.heap s'.heap → Rs (c.R s') vs us → us.length = es.length → K us → Q vs s') → c.wp (spliced (backTo pos (starEach es c.env))) Q s := by
  induction es with
  | nil =>
    intro es' s K Q h a w k
    cases es' with
    | nil => exact args_nil (k [] s [] a (Ext.refl _ _) .nil rfl w)
    | cons => exact h.elim
  | cons e es ih =>
    intro es' s K Q h a w k
    cases es' with
    | nil => exact h.elim
    | cons e' es' =>
      exact args_cons (h.1.ev s _ _ a w fun v s₁ u a₁ x₁ r w₁ => ih h.2 a₁ w₁ fun vs s₂ us a₂ x₂ rs l w₂ =>
        k (v :: vs) s₂ (u :: us) a₂ (x₁.trans x₂) (.cons (W.R r x₂) rs) (congrArg Nat.succ l) w₂) (h.1.pl _ _)
end
end TC

namespace TC
open PySem PySem.W PyProof.Rows

/-! The cases of an expression. -/
section
variable {c : Cf} {l r : Expr} {a b : TC.E} {pos p : Pos}
theorem ifB_elim {u : V} {P Q : Prop} {R : Prop} (w : ifB u P Q) (h : ∀ b, boolV u = some b → (b = true → P) → (b = false → Q) → R) : R :=
  got_elim w fun b e w => h b e (fun q => by subst q; exact w) (fun q => by subst q; exact w)
theorem bin_case (W : Wf c) (h1 : Ok c l a) (h2 : Ok c r b) {po : Operator} {o : Op} (lo : lowOp po = some o) : OkE c (.BinOp l po r pos) (.op o a b) := fun s K Q A w k =>
  wpAny_BinOp (h1.ev s _ _ A w fun v1 s₁ u1 a1 x1 r1 w1 => h2.ev s₁ _ _ a1 w1 fun v2 s₂ u2 a2 x2 r2 w2 => bin_ok W.toWfC a2 (k.at (x1.trans x2)) (W.R r1 x2) r2 lo w2)
theorem isPow_eq {po : Operator} (h : isPow po = true) : po = .Pow := by
  cases po with
  | Pow => rfl
  | _ => exact nomatch h
theorem pow_case (W : Wf c) {po : Operator} (hp : isPow po = true) : All (lowPow (asIntC l) (asIntC r)) (OkE c (.BinOp l po r pos)) := by
  refine .bind fun i e1 => .bind fun j e2 => .ite fun q => .so fun s K Q A w k => ?_
  obtain ⟨_, _, rfl⟩ := asIntC_eq l i e1
  obtain ⟨_, _, rfl⟩ := asIntC_eq r j e2
  rw [isPow_eq hp]
  simp only [Bool.and_eq_true, decide_eq_true_eq] at q
  exact wpAny_BinOp (wpAny_Constant_int (wpAny_Constant_int (PyProof.Rows.pow_int_small (by omega) (by omega) (by omega) ((W.toWfC.ret A k w).int _ _))))

/-! comparisons -/
inductive Chn (c : Cf) : List CmpOp → List Op → List Expr → Es → Prop
  | one {p o e e'} : lowCmp p = some o → Ok c e e' → Chn c [p] [o] [e] (.cons e' .nil)
  | more {p o e e' p2 ps o2 os e2 es e2' es'} : lowCmp p = some o → Ok c e e' → Chn c (p2 :: ps) (o2 :: os) (e2 :: es) (.cons e2' es') → Chn c (p :: p2 :: ps) (o :: o2 :: os) (e :: e2 :: es) (.cons e' (.cons e2' es'))
noncomputable def chnP (c : Cf) (ps : List CmpOp) (rs : List Expr) (q : List Op × Es) : Prop := Chn c ps q.1 rs q.2 ∧ ∃ o os e es, q = (o :: os, .cons e es)
theorem lowCs_ok {f : Expr → Option TC.E} (h : ∀ pe, All (f pe) (Ok c pe)) : ∀ ps rs, All (lowCs f ps rs) (chnP c ps rs)
  | [p], [e] => .bind fun o h1 => .map fun a h2 => ⟨.one h1 (h e a h2), _, _, _, _, rfl⟩
  | p :: p2 :: ps, e :: e2 :: rs => .bind fun o h1 => .bind fun a h2 => .map fun q h3 => by
      obtain ⟨h4, o2, os, e', es, rfl⟩ := lowCs_ok h (p2 :: ps) (e2 :: rs) q h3
      exact ⟨.more h1 (h e a h2) h4, _, _, _, _, rfl⟩
  | [], _ => .no
  | [_], [] => .no
  | [_], _ :: _ :: _ => .no
  | _ :: _ :: _, [] => .no
  | _ :: _ :: _, [_] => .no
/-- a chain, as a value and as a test -/
noncomputable def ChnOk (c : Cf) (pos : Pos) (ps : List CmpOp) (os : List Op) (rs : List Expr) (es : Es) : Prop := ∀ s v u K, At c s → c.R s v u → cmpW os (wpL (Φ c) c.hm c.X es c.ρ) u K →
    (∀ Q, Fin c s K Q → c.wp (compareChain pos v ps (evalEach rs c.env)) Q s) ∧ ∀ Q, (∀ u, K u → ∃ b, u = .d (.bool b)) → FinB c s K Q → c.wp (testChain pos v ps (evalEach rs c.env)) Q s
theorem chain_ok (W : Wf c) {ps : List CmpOp} {os : List Op} {rs : List Expr} {es : Es} (h : Chn c ps os rs es) : ChnOk c pos ps os rs es := by
  induction h with
  | one h1 h2 =>
    refine fun s v u K A r w => ⟨fun Q k => chain_last (h2.ev s _ _ A w fun v2 s₂ u2 a2 x2 r2 w2 => cmp_ok W.toWfC a2 (k.at x2) (W.R r x2) r2 h1 w2), fun Q kb k => test_last (h2.ev s _ _ A w fun v2 s₂ u2 a2 x2 r2 w2 => cmp_ok W.toWfC a2 (fun v3 s₃ u3 a3 x3 r3 hk => ?_) (W.R r x2) r2 h1 w2)⟩
    obtain ⟨b, rfl⟩ := kb u3 hk
    rw [PR.inv r3]
    exact wpAny_truthy_bool (k b s₃ a3 (x2.trans x3) hk)
  | more h1 h2 h3 ih =>
    refine fun s v u K A r w => ⟨fun Q k => chain_link (h2.ev s _ _ A w fun v2 s₂ u2 a2 x2 r2 w2 => cmp_ok W.toWfC a2 (fun v3 s₃ u3 a3 x3 r3 w3 => ?_) (W.R r x2) r2 h1 w2), fun Q kb k => test_link (h2.ev s _ _ A w fun v2 s₂ u2 a2 x2 r2 w2 => cmp_ok W.toWfC a2 (fun v3 s₃ u3 a3 x3 r3 w3 => ?_) (W.R r x2) r2 h1 w2)⟩
    · refine ifB_elim w3 fun b e w4 w5 => ?_
      rw [r3.bool e]
      refine wpAny_truthy_bool ?_
      cases b with
      | true => exact (ih s₃ v2 u2 K a3 (W.R r2 x3) (w4 rfl)).1 Q (k.at (x2.trans x3))
      | false => exact k _ s₃ (.d (.bool false)) a3 (x2.trans x3) (PR.bool false) (w5 rfl)
    · refine ifB_elim w3 fun b e w4 w5 => ?_
      rw [r3.bool e]
      refine wpAny_truthy_bool ?_
      cases b with
      | true => exact (ih s₃ v2 u2 K a3 (W.R r2 x3) (w4 rfl)).2 Q kb fun b s' a x => k b s' a ((x2.trans x3).trans x)
      | false => exact k false s₃ a3 (x2.trans x3) (w5 rfl)
theorem cmp_case (W : Wf c) (h1 : Ok c l a) {ps : List CmpOp} {os : List Op} {rs : List Expr} {es : Es} (hm : lastMarks ps rs = false) (hl : Chn c ps os rs es) : OkE c (.Compare l ps rs pos) (.cmp a os es) := fun s K Q A w k => by
  have go : ∀ {pos}, c.wp (eval l c.env) (fun v s₁ => c.wp (compareChain pos v ps (evalEach rs c.env)) Q s₁) s := fun {pos} =>
    h1.ev s _ _ A w fun v1 s₁ u1 a1 x1 r1 w1 => (chain_ok W hl s₁ v1 u1 K a1 r1 w1).1 Q (k.at x1)
  cases hl with
  | one =>
    rw [eval_Compare1, markedBehindIn_of_false hm]
    exact wpAny_bind go
  | more => exact Compare_chain go hm
theorem cmp_test (W : Wf c) (h1 : Ok c l a) {ps : List CmpOp} {os : List Op} {rs : List Expr} {es : Es} (hm : lastMarks ps rs = false) (hl : Chn c ps os rs es) : OkT c (.Compare l ps rs pos) (.cmp a os es) := fun s K Q A w kb k => by
  show c.wp (do testChain pos (← eval l c.env) ps (markedEach ps rs (evalEach rs c.env))) Q s
  rw [markedEach_of_false _ _ _ hm]
  exact wpAny_bind (h1.ev s _ _ A w fun v1 s₁ u1 a1 x1 r1 w1 => (chain_ok W hl s₁ v1 u1 K a1 r1 w1).2 Q kb fun b s' a x => k b s' a (x1.trans x))
end
end TC

namespace TC
open PySem PySem.W PyProof.Rows

section
variable {c : Cf} {l r : Expr} {a b : TC.E} {pos p : Pos} {es : List Expr} {es' : Es}
theorem and_case (W : Wf c) : ∀ {es' : Es}, OkL c es es' → OkE c (.BoolOp .And es pos) (.and es') := by
  induction es with
  | nil => intro es' h s K Q A w k; cases es' with | nil => exact w.elim | cons => exact h.elim
  | cons e es ih =>
    intro es' h s K Q A w k
    cases es' with
    | nil => exact h.elim
    | cons e' es' =>
    cases es with
    | nil => cases es' with
      | cons => exact h.2.elim
      | nil =>
        refine BoolOp_one (h.1.ev s _ _ A w fun v1 s₁ u1 a1 x1 r1 w1 => ifB_elim w1 fun b e w2 w3 => ?_)
        rw [boolV_eq u1 b e] at r1
        cases b with
        | true => exact k _ _ _ a1 x1 r1 (w2 rfl)
        | false => exact k _ _ _ a1 x1 r1 (w3 rfl)
    | cons e2 es => cases es' with
      | nil => exact h.2.elim
      | cons e2' es' =>
        refine BoolOp_and (h.1.ev s _ _ A w fun v1 s₁ u1 a1 x1 r1 w1 => ifB_elim w1 fun b e w2 w3 => ?_)
        rw [r1.bool e]
        refine wpAny_truthy_bool ?_
        cases b with
        | true => exact ih h.2 s₁ K Q a1 (w2 rfl) (k.at x1)
        | false => exact k _ s₁ (.d (.bool false)) a1 x1 (PR.bool false) (w3 rfl)
theorem or_case (W : Wf c) : ∀ {es' : Es}, OkL c es es' → OkE c (.BoolOp .Or es pos) (.or es') := by
  induction es with
  | nil => intro es' h s K Q A w k; cases es' with | nil => exact w.elim | cons => exact h.elim
  | cons e es ih =>
    intro es' h s K Q A w k
    cases es' with
    | nil => exact h.elim
    | cons e' es' =>
    cases es with
    | nil => cases es' with
      | cons => exact h.2.elim
      | nil =>
        refine BoolOp_one (h.1.ev s _ _ A w fun v1 s₁ u1 a1 x1 r1 w1 => ifB_elim w1 fun b e w2 w3 => ?_)
        rw [boolV_eq u1 b e] at r1
        cases b with
        | true => exact k _ _ _ a1 x1 r1 (w2 rfl)
        | false => exact k _ _ _ a1 x1 r1 (w3 rfl)
    | cons e2 es => cases es' with
      | nil => exact h.2.elim
      | cons e2' es' =>
        refine BoolOp_or (h.1.ev s _ _ A w fun v1 s₁ u1 a1 x1 r1 w1 => ifB_elim w1 fun b e w2 w3 => ?_)
        rw [r1.bool e]
        refine wpAny_truthy_bool ?_
        cases b with
        | false => exact ih h.2 s₁ K Q a1 (w3 rfl) (k.at x1)
        | true => exact k _ s₁ (.d (.bool true)) a1 x1 (PR.bool true) (w2 rfl)
theorem bool_of {u : V} {P Q : Prop} (w : ifB u P Q) : ∃ b, u = .d (.bool b) := ifB_elim w fun b e _ _ => ⟨b, boolV_eq u b e⟩
theorem ifB_at {b : Bool} {P Q : Prop} (w : ifB (.d (.bool b)) P Q) : cond b P Q := w
theorem and_test {whole : Sem Value} : ∀ {es' : Es}, OkL c es es' → ∀ s K Q, At c s → andW (wpL (Φ c) c.hm c.X es' c.ρ) K → FinB c s K Q → c.wp (isTrue (.BoolOp .And es pos) c.env whole) Q s := by
  induction es with
  | nil => intro es' h s K Q A w k; cases es' with | nil => exact w.elim | cons => exact h.elim
  | cons e es ih =>
    intro es' h s K Q A w k
    cases es' with
    | nil => exact h.elim
    | cons e' es' =>
    cases es with
    | nil => cases es' with
      | cons => exact h.2.elim
      | nil => exact isTrue_and (h.1.ts s _ _ A w (fun u => bool_of) fun b s₁ a1 x1 w1 => by
          cases b with
          | false => exact k false s₁ a1 x1 w1
          | true => exact isTrue_and_nil (k true s₁ a1 x1 w1))
    | cons e2 es => cases es' with
      | nil => exact h.2.elim
      | cons e2' es' => exact isTrue_and (h.1.ts s _ _ A w (fun u => bool_of) fun b s₁ a1 x1 w1 => by
          cases b with
          | false => exact k false s₁ a1 x1 w1
          | true => exact ih h.2 s₁ K Q a1 w1 fun b s' a x => k b s' a (x1.trans x))
theorem or_test {whole : Sem Value} : ∀ {es' : Es}, OkL c es es' → ∀ s K Q, At c s → orW (wpL (Φ c) c.hm c.X es' c.ρ) K → FinB c s K Q → c.wp (isTrue (.BoolOp .Or es pos) c.env whole) Q s := by
  induction es with
  | nil => intro es' h s K Q A w k; cases es' with | nil => exact w.elim | cons => exact h.elim
  | cons e es ih =>
    intro es' h s K Q A w k
    cases es' with
    | nil => exact h.elim
    | cons e' es' =>
    cases es with
    | nil => cases es' with
      | cons => exact h.2.elim
      | nil => exact isTrue_or (h.1.ts s _ _ A w (fun u => bool_of) fun b s₁ a1 x1 w1 => by
          cases b with
          | true => exact k true s₁ a1 x1 w1
          | false => exact isTrue_or_nil (k false s₁ a1 x1 w1))
    | cons e2 es => cases es' with
      | nil => exact h.2.elim
      | cons e2' es' => exact isTrue_or (h.1.ts s _ _ A w (fun u => bool_of) fun b s₁ a1 x1 w1 => by
          cases b with
          | true => exact k true s₁ a1 x1 w1
          | false => exact ih h.2 s₁ K Q a1 w1 fun b s' a x => k b s' a (x1.trans x))
theorem not_case (h : Ok c l a) : OkE c (.UnaryOp .Not l pos) (.f1 .not a) := fun s K Q A w k => UnaryOp_ (h.ev s _ _ A w fun v1 s₁ u1 a1 x1 r1 w1 => got_elim (qW_inv w1).2 fun b e w2 => by
  rw [r1.bool e]
  exact not_of (wpAny_truthy_bool (k _ s₁ (.d (.bool !b)) a1 x1 (PR.bool _) w2)))
theorem not_test (h : Ok c l a) : OkT c (.UnaryOp .Not l pos) (.f1 .not a) := fun s K Q A w kb k => isTrue_not (h.ts s _ _ A w (fun u w1 => got_elim (qW_inv w1).2 fun b e _ => ⟨b, boolV_eq u b e⟩) fun b s₁ a1 x1 w1 => k _ s₁ a1 x1 (qW_inv w1).2)
theorem none_eq {x : Const} (h : isNoneC x = true) : x = .none := by
  cases x with
  | none => rfl
  | _ => exact nomatch h
/-- is None, is not None -/
theorem none_at (W : Wf c) {neg : Bool} {s : Shared} {v : Value} {u : V} {K : V → Prop} {Q : Value → Shared → Prop} (A : At c s) (r : c.R s v u) (w : qW (F1.quiet (cond neg .notNone .isNone)) c.hm (F1.W (cond neg .notNone .isNone) u K)) (k : Fin c s K Q) : c.wp (compareOp (cond neg .IsNot .Is) v .none) Q s := by
  cases neg with
  | false => exact got_elim (qW_inv w).2 fun x e w => is_none_gen (none_is (W.rdf r x e) ▸ k _ s (.d (.bool (isNon x))) A (Ext.refl _ _) (PR.bool _) w)
  | true => exact got_elim (qW_inv w).2 fun x e w => isnot_none_gen (none_is (W.rdf r x e) ▸ k _ s (.d (.bool !isNon x)) A (Ext.refl _ _) (PR.bool _) w)
theorem none_case (W : Wf c) (h : Ok c l a) (hn : isC isNoneC r = true) {neg : Bool} : OkE c (.Compare l [cond neg .IsNot .Is] [r] pos) (.f1 (cond neg .notNone .isNone) a) := fun s K Q A w k => by
  obtain ⟨x, _, _, rfl, h2⟩ := isC_eq hn
  rw [none_eq h2]
  exact wpAny_Compare1 (h.ev s _ _ A w fun v1 s₁ u1 a1 x1 r1 w1 => PyProof.Rows.Constant_none (none_at W a1 r1 w1 (k.at x1))) (by cases neg <;> rfl)
theorem none_test (W : Wf c) (h : Ok c l a) (hn : isC isNoneC r = true) {neg : Bool} : OkT c (.Compare l [cond neg .IsNot .Is] [r] pos) (.f1 (cond neg .notNone .isNone) a) := fun s K Q A w kb k => by
  obtain ⟨x, i, p, rfl, h2⟩ := isC_eq hn
  rw [none_eq h2]
  show c.wp (do testChain pos (← eval l c.env) [cond neg .IsNot .Is] (markedEach [cond neg .IsNot .Is] [.Constant .none i p] (evalEach [.Constant .none i p] c.env))) Q s
  rw [markedEach_of_false _ _ _ (by cases neg <;> rfl)]
  refine wpAny_bind (h.ev s _ _ A w fun v1 s₁ u1 a1 x1 r1 w1 => test_last (PyProof.Rows.Constant_none (none_at W a1 r1 w1 fun v2 s₂ u2 a2 x2 r2 w2 => ?_)))
  obtain ⟨b, rfl⟩ := kb u2 w2
  rw [PR.inv r2]
  exact wpAny_truthy_bool (k b s₂ a2 (x1.trans x2) w2)
theorem tup_case (W : Wf c) (h : OkL c es es') (hz : es.length < 1000) {i : Nat} : OkE c (.Tuple es i pos) (.tup es') := fun s K Q A w k => Tuple_ (args_ok W h A w fun vs s' us a x rs l w1 => got_elim w1 fun xs e w2 =>
  newTuple_ok W.toWfC a.toAtC (rs.keep (fun _ _ r => W.keep a.toAtC r) xs e) (by rw [rs.length, l]; exact hz) (W.ret a (k.at x) w2))
theorem lst_case (W : Wf c) (h : OkL c es es') (hz : es.length < 1000) : OkE c (.List es pos) (.lst es') := fun s K Q A w k => List_ (args_ok W h A w fun vs s' us a x rs l w1 => got_elim w1 fun xs e w2 =>
  newList_ok a.toAtC (rs.keep (fun _ _ r => W.keep a.toAtC r) xs e) (by rw [rs.length, l]; exact hz) (W.ret a (k.at x) w2))
theorem idx_case (W : Wf c) (h1 : Ok c l a) (h2 : Ok c r b) : OkE c (.Subscript l r pos) (.idx a b) := fun s K Q A w k => Subscript_ (h1.ev s _ _ A w fun v1 s₁ u1 a1 x1 r1 w1 => h2.ev s₁ _ _ a1 w1 fun v2 s₂ u2 a2 x2 r2 w2 => got_elim w2 fun i e w3 => by
  obtain ⟨t, rfl⟩ := r2.int e
  exact idx_ok W.toWfC a2 (W.R r1 x2) (k.at (x1.trans x2)) w3 (h2.ns _ _))
theorem from_case (W : Wf c) (h1 : Ok c l a) (h2 : Ok c r b) : OkE c (.Subscript l (.Slice (some r) none none p) pos) (.sfrom a b) := fun s K Q A w k => Subscript_ (h1.ev s _ _ A w fun v1 s₁ u1 a1 x1 r1 w1 => wpAny_Slice (h2.ev s₁ _ _ a1 w1 fun v2 s₂ u2 a2 x2 r2 w2 => got_elim w2 fun i e w3 => got_elim w3 fun xs e1 w4 => by
  obtain ⟨t, rfl⟩ := r2.int e
  rw [evalPart_none]
  exact wpAny_pure (wpAny_pure (cut_ok a2.toAtC (W.ls a2.toAtC (W.R r1 x2) xs e1) w4.1.2.2 (.int i t) .none (pick_from w4.1.1) (W.ret a2 (k.at (x1.trans x2)) w4.2) rfl))))
theorem upto_case (W : Wf c) (h1 : Ok c l a) (h2 : Ok c r b) : OkE c (.Subscript l (.Slice none (some r) none p) pos) (.sto a b) := fun s K Q A w k => Subscript_ (h1.ev s _ _ A w fun v1 s₁ u1 a1 x1 r1 w1 => wpAny_Slice (by
  rw [evalPart_none]
  exact wpAny_pure (h2.ev s₁ _ _ a1 w1 fun v2 s₂ u2 a2 x2 r2 w2 => got_elim w2 fun i e w3 => got_elim w3 fun xs e1 w4 => by
    obtain ⟨t, rfl⟩ := r2.int e
    exact wpAny_pure (cut_ok a2.toAtC (W.ls a2.toAtC (W.R r1 x2) xs e1) w4.1.2.2 .none (.int i t) (pick_upto w4.1.1) (W.ret a2 (k.at (x1.trans x2)) w4.2) rfl))))
theorem sub_case (W : Wf c) {f : Expr → Option TC.E} (h : ∀ pe, All (f pe) (Ok c pe)) : All (lowSub f l r (view r)) (OkE c (.Subscript l r pos)) := by
  have q := view_eq r
  have gen : All ((f l).bind fun a => (f r).map fun i => TC.E.idx a i) (OkE c (.Subscript l r pos)) := .bind fun a h1 => .map fun b h2 => idx_case W (h l a h1) (h r b h2)
  revert q
  cases view r with
  | slice i j k p =>
    intro q
    rw [← q]
    rcases i with _ | i <;> rcases j with _ | j <;> rcases k with _ | k
    · exact .no
    · exact .no
    · exact .bind fun a h1 => .map fun b h2 => upto_case W (h l a h1) (h j b h2)
    · exact .no
    · exact .bind fun a h1 => .map fun b h2 => from_case W (h l a h1) (h i b h2)
    · exact .no
    · exact .no
    · exact .no
  | _ => exact fun _ => gen
/-- a call of a builtin function or type with plain arguments -/
theorem with_ok {s : Shared} {Q : Value → Shared → Prop} {cal : Value} {pe : Expr} {rest : List Expr} (hc : isBT cal = true) (he : Plain pe) (hp : (backTo pos (starEach rest c.env)).any (·.1) = false)
    (h : c.wp (spliced (backTo pos (starEach (pe :: rest) c.env))) (fun vs s₁ => c.wp (call cal vs) Q s₁) s) : c.wp (callWith pos cal [] (backTo pos (starEach (pe :: rest) c.env)) []) Q s := by
  cases cal with
  | builtin id => exact PyProof.Rows.callWith_builtin1 h (he _ _) hp
  | type T => exact PyProof.Rows.callWith_type1 h (he _ _) hp
  | _ => exact nomatch hc
theorem mem_lookup {α : Type} {l : List (Str × α)} {x : Str} {a : α} (h : l.lookup x = some a) : (x, a) ∈ l := mem_of_lookup h
theorem f1_case (W : Wf c) (h : Ok c l a) {f : Str} {g : F1} (hg : c.cx.glob f = true) (lo : f1Names.lookup f = some g) : OkE c (.Call (.Name f p) [l] [] pos) (.f1 g a) := fun s K Q A w k => by
  obtain ⟨b1, b2, b3⟩ := f1_boot (f, g) (mem_lookup lo)
  exact PyProof.Rows.Call_ (name_built W A.toAtC hg b2 b1 (with_ok b3 h.pl rfl (args_cons (h.ev s _ _ A w fun v1 s₁ u1 a1 x1 r1 w1 => args_nil (f1_call W.toWfC a1 r1 (k.at x1) b3 (qW_inv w1).1 (qW_inv w1).2)) (h.pl _ _))))
theorem f2_case (W : Wf c) (h1 : Ok c l a) (h2 : Ok c r b) {f : Str} {g : F2} (hg : c.cx.glob f = true) (lo : f2Names.lookup f = some g) : OkE c (.Call (.Name f p) [l, r] [] pos) (.f2 g a b) := fun s K Q A w k => by
  obtain ⟨b1, b2, b3⟩ := f2_boot (f, g) (mem_lookup lo)
  exact PyProof.Rows.Call_ (name_built W A.toAtC hg b2 b1 (with_ok b3 h1.pl (by rw [h2.pl]; rfl) (args_cons (h1.ev s _ _ A w fun v1 s₁ u1 a1 x1 r1 w1 =>
    args_cons (h2.ev s₁ _ _ a1 w1 fun v2 s₂ u2 a2 x2 r2 w2 => args_nil (f2_call W.toWfC a2 (W.R r1 x2) r2 ((qW_inv w2).1 rfl) (k.at (x1.trans x2)) b3 (qW_inv w2).2)) (h2.pl _ _)) (h1.pl _ _))))
theorem dist_case (W : Wf c) (h : Ok c l a) (hg : c.cx.glob "len" = true) (hs : c.cx.glob "set" = true) {p2 pos2 : Pos} : OkE c (.Call (.Name "len" p) [.Call (.Name "set" p2) [l] [] pos2] [] pos) (.f1 .dist a) := fun s K Q A w k => by
  refine PyProof.Rows.Call_ (name_built W A.toAtC hg (by decide) (f1_boot ("len", .len) (.head _)).1 (with_ok rfl (fun _ _ => rfl) rfl (args_cons (PyProof.Rows.Call_ (name_built W A.toAtC hs (by decide) PyProof.Rows.boot_set (with_ok rfl h.pl rfl (args_cons (h.ev s _ _ A w fun v1 s₁ u1 a1 x1 r1 w1 => args_nil ?_) (h.pl _ _))))) rfl)))
  refine got_elim (qW_inv w1).2 fun x e1 w => got_elim w fun xs e2 w => got_elim w fun is e3 w => ?_
  exact dist_call (HOk.none ((qW_inv w1).1 rfl ▸ a1.hok)) (W.rdf r1 x e1) e2 e3 w.1 fun d s' x2 m q => args_nil (q _ fun t tk => k.at (x1.trans x2) _ { s' with toks := tk } (.d (.int (is.foldl PyProof.Rows.step_dedup []).length)) (W.go a1 x2 ⟨m.1, m.2⟩) (Ext.refl _ _) (PR.int _ t) w.2)
theorem index_case (W : Wf c) {x : Str} {np ap : Pos} (hl : (ap.endLine == pos.line) = true) (h1 : Ok c (.Name x np) a) (h2 : Ok c r b) : OkE c (.Call (.Attribute (.Name x np) "index" ap) [r] [] pos) (.index a b) := fun s K Q A w k => by
  refine Call_method1 rfl (h2.pl _ _) hl (h1.ev s _ _ A w fun v1 s₁ u1 a1 x1 r1 w1 => got_elim w1 fun y e1 w => got_elim w fun xs e2 w => got_elim w fun is e3 w => ?_)
  have L := (W.rdf r1 y e1).isL e2
  obtain ⟨z, vs, n, rfl, ho, rs⟩ := L
  have hL : s₁.heap.IsList z vs := ⟨_, ho, rfl, n, rfl⟩
  refine ⟨"list", "list.index", PySem.F.plainAttrs_list, PySem.F.slot_list_index, PySem.F.type_list_index, hL.typeIs, fun b e => ?_, ?_⟩
  · cases e; exact ⟨_, ho, rfl⟩
  · refine Calls.callWith_builtin rfl (Calls.evalArgs_plain (Calls.spliced_cons (h2.ev s₁ _ _ a1 w fun v2 s₂ u2 a2 x2 r2 w2 => Calls.spliced_nil (got_elim w2 fun k' e4 w => ?_))))
    obtain ⟨t, rfl⟩ := r2.int e4
    exact index_call ((W.rdf (W.R r1 x2) y e1).isL e2) e3 w.1.1 w.1.2 (W.ret a2 (k.at (x1.trans x2)) w.2)
theorem sortedR_case (W : Wf c) (h : Ok c l a) (hg : c.cx.glob "sorted" = true) {kw : Keyword} (hk : asTrueKw kw = some "reverse") : OkE c (.Call (.Name "sorted" p) [l] [kw] pos) (.f1 .sortedR a) := fun s K Q A w k => by
  obtain ⟨ka, kv, kp⟩ := kw
  obtain ⟨x, e1, e2⟩ := Option.bind_eq_some_iff.mp hk
  have hv : isC isTrueC kv = true := by cases q : isC isTrueC kv with | true => rfl | false => rw [q] at e2; cases e2
  rw [hv] at e2
  cases e1
  cases e2
  obtain ⟨y, i, p1, rfl, h2⟩ := isC_eq hv
  have hy : y = .bool true := by cases y <;> first | exact congrArg Const.bool h2 | cases h2
  subst hy
  show c.wp (do callWith pos (← eval (.Name "sorted" p) c.env) [] (backTo pos (starEach [l] c.env)) (backToKw pos (keywordEach [⟨some "reverse", .Constant (.bool true) i p1, kp⟩] c.env))) Q s
  refine wpAny_bind (name_built W A.toAtC hg (by decide) (f1_boot ("sorted", .sorted) (.tail _ (.tail _ (.tail _ (.tail _ (.tail _ (.tail _ (.head _)))))))).1 (callWith_kw (args_cons (h.ev s _ _ A w fun v1 s₁ u1 a1 x1 r1 w1 => args_nil ?_) (h.pl _ _)) (by rw [h.pl]; rfl) (by rw [h.pl]; rfl) rfl rfl))
  refine got_elim (qW_inv w1).2 fun x e1 w => got_elim w fun xs e2 w => got_elim w fun is e3 w => ?_
  have fin := sortedR_call a1.toAtC ((W.rdf r1 x e1).isL e2) e3 w.1 (W.ret a1 (k.at x1) w.2)
  show c.wp (evalAll [do let v ← eval (.Constant (.bool true) i p1) c.env; standAt pos; pure v]) _ s₁
  unfold evalAll
  exact wpAny_bind (wpAny_bind (PyProof.Rows.Constant_bool (wpAny_bind (wpAny_standAt (wpAny_pure (wpAny_bind (wpAny_holding (wpAny_pure (wpAny_pure fin)))))))))
end
end TC

namespace TC
open PySem PySem.W PyProof.Rows

/-! Names bound. -/
/-- the places where a block's own names lie: its namespace, its own cells -/
structure Fm (env : Env) (own : List (Str × Addr)) (h : Heap) : Prop where
  kf : env.scope.kind = .function
  ns : ∃ m, h.Ns env.locals m
  cell : ∀ x a, own.lookup x = some a → ∃ v, h.IsCell a v
  look : ∀ x a, own.lookup x = some a → env.cells.lookup x = some a
  inj : ∀ y a, env.cells.lookup y = some a → ∀ x, own.lookup x = some a → x = y
noncomputable def pls (env : Env) (own : List (Str × Addr)) : AP := fun b => b = env.locals ∨ ∃ x, own.lookup x = some b
theorem ns_data {h : Heap} {a : Addr} {m : Str → Option Value} (n : h.Ns a m) : ∃ o es ep, h.get? a = some o ∧ o.data = .dict es ep := by
  obtain ⟨o, es, ep, ho, hd, _⟩ := n; exact ⟨o, es, ep, ho, hd⟩
theorem ns_off_cell {h : Heap} {a z : Addr} {m : Str → Option Value} {v : Option Value} (n : h.Ns a m) (q : h.IsCell z v) : z ≠ a := fun e => by
  obtain ⟨o, es, ep, ho, hd⟩ := ns_data n
  obtain ⟨o', ho', hd'⟩ := q
  rw [e, ho] at ho'; cases ho'; rw [hd] at hd'; cases hd'
/-- what lies there is neither a tuple nor a record -/
theorem Fm.data {env : Env} {own : List (Str × Addr)} {h : Heap} (F : Fm env own h) {b : Addr} (hb : pls env own b) : ∃ o, h.get? b = some o ∧ NT o ∧ ∀ vs, o.data ≠ .fields vs := by
  rcases hb with rfl | ⟨x, q⟩
  · obtain ⟨m, n⟩ := F.ns
    obtain ⟨o, es, ep, ho, hd⟩ := ns_data n
    exact ⟨o, ho, (fun _ vs k q => by rw [hd] at q; cases q), fun vs q => by rw [hd] at q; cases q⟩
  · obtain ⟨v, o, ho, hd⟩ := F.cell x b q
    exact ⟨o, ho, (fun _ vs k q => by rw [hd] at q; cases q), fun vs q => by rw [hd] at q; cases q⟩
theorem Fm.is {env : Env} {own : List (Str × Addr)} {h : Heap} (F : Fm env own h) {b : Addr} (hb : pls env own b) : Is h b := by
  obtain ⟨o, e, n, _⟩ := F.data hb; exact ⟨o, e, n⟩
theorem Fm.on {env : Env} {own : List (Str × Addr)} {h h' : Heap} (F : Fm env own h) (k : ∀ b o, pls env own b → h.get? b = some o → h'.get? b = some o) : Fm env own h' := by
  obtain ⟨m, n⟩ := F.ns
  refine ⟨F.kf, ⟨m, n.at' fun o e => k _ o (.inl rfl) e⟩, fun x a e => ?_, F.look, F.inj⟩
  obtain ⟨v, o, h1, h2⟩ := F.cell x a e
  exact ⟨v, o, k a o (.inr ⟨x, e⟩) h1, h2⟩
theorem Fm.ext {env : Env} {own : List (Str × Addr)} {h h' : Heap} {fr : AP} (F : Fm env own h) (x : Ext fr h h') : Fm env own h' := by
  obtain ⟨m, n⟩ := F.ns
  exact ⟨F.kf, ⟨m, x.ns n⟩, fun y a e => let ⟨w, z⟩ := F.cell y a e; ⟨w, x.cell z⟩, F.look, F.inj⟩
/-- where a name may be bound -/
noncomputable def Bindable (env : Env) (own : List (Str × Addr)) (x : Str) : Prop := env.kindOf x = some .local ∨ (env.kindOf x = some .cell ∧ ∃ a, own.lookup x = some a)
section
variable {prog : Program} {w : World} {env : Env} {hm : Bool} {A : Around} {s : Shared} {E : Value → Shared → Prop} {v : Value} {own : List (Str × Addr)} {M : Model}
theorem store_ok {x : Str} {Q : Unit → Shared → Prop} (F : Fm env own s.heap) (hx : Bindable env own x)
    (h : ∀ h' tk, Fm env own h' → (∀ b o, ¬ pls env own b → s.heap.get? b = some o → h'.get? b = some o) → varAt env h' x v → (∀ y w, y ≠ x → varAt env s.heap y w → varAt env h' y w) → Q () { s with heap := h', toks := tk }) :
    wpAny M A (storeName env x v) Q E s := by
  obtain ⟨m, n⟩ := F.ns
  rcases hx with hl | ⟨hl, a, ha⟩
  · refine wpAny_storeName_local hl n (fun h' n' sb => h h' _ ?_ (fun b o hb e => sb.extBut b o (fun q => hb (.inl q)) e) (.inl ⟨hl, _, n', by simp⟩) fun y w ne z => ?_) (by rw [F.kf]; rfl)
    · refine ⟨F.kf, ⟨_, n'⟩, fun y a e => ?_, F.look, F.inj⟩
      obtain ⟨w, q⟩ := F.cell y a e
      exact ⟨w, q.sameBut sb (ns_off_cell n q)⟩
    · rcases z with ⟨k, m2, n2, hv⟩ | ⟨k, a, ha, q⟩
      · refine .inl ⟨k, _, n', ?_⟩
        simp only [if_neg ne]
        obtain ⟨o1, es1, ep1, a1, a2, _, a3⟩ := n
        obtain ⟨o2, es2, ep2, b1, b2, _, b3⟩ := n2
        rw [a1] at b1; cases b1
        rw [a2] at b2; cases b2
        rw [← a3, b3, hv]
      · exact .inr ⟨k, a, ha, q.sameBut sb (ns_off_cell n q)⟩
  · obtain ⟨v0, q0⟩ := F.cell x a ha
    have off := ns_off_cell n q0
    refine wpAny_storeName_cell F.kf hl (F.look x a ha) q0 fun h' q' sb => h h' s.toks ?_ (fun b o hb e => sb.extBut b o (fun q => hb (.inr ⟨x, q ▸ ha⟩)) e) (.inr ⟨.inl hl, a, F.look x a ha, q'⟩) fun y w ne z => ?_
    · refine ⟨F.kf, ⟨m, n.sameBut sb (Ne.symm off)⟩, fun y b e => ?_, F.look, F.inj⟩
      by_cases z : b = a
      · subst z; exact ⟨_, q'⟩
      · obtain ⟨w, q⟩ := F.cell y b e
        exact ⟨w, q.sameBut sb z⟩
    · rcases z with ⟨k, m2, n2, hv⟩ | ⟨k, b, hb, q⟩
      · exact .inl ⟨k, m2, n2.sameBut sb (Ne.symm off), hv⟩
      · refine .inr ⟨k, b, hb, q.sameBut sb fun z => ne ?_⟩
        subst z
        exact (F.inj y b hb x ha).symm

/-- a tuple taken apart, under a handled exception too -/
theorem unpack_ok {t : Addr} {items : Array Value} {n : Nat} {targets : List (Bool × (Value → Sem Unit))} {Q : Unit → Shared → Prop} (hk : HOk hm A s.heap) (ho : s.heap.get? t = some (tupObj items n)) (hn : targets.length = items.size) (hs : targets.findIdx? (·.1) = none)
    (h : ∀ h', (∀ b o, s.heap.get? b = some o → h'.get? b = some o) → wpAny (model prog w) A (assignInOrder (targets.map (·.2)) items.toList) Q E { s with heap := h' }) : wpAny (model prog w) A (unpack (.ref t) targets) Q E s := by
  have ht : s.heap.IsTuple t items := ⟨_, ho, rfl, n, rfl⟩
  have hlt : t ≠ s.heap.objs.size := Nat.ne_of_lt (Heap.lt_size ho)
  unfold unpack
  rw [hn, hs]
  refine wpAny_bind (wpAny_holding ?_)
  unfold unpackItems
  refine wpAny_bind ?_
  unfold notIterableAtAll
  refine wpAny_bind (wpAny_specialOf ht.typeIs F.slot_tuple_iter.lookup ?_)
  refine wpAny_pure ?_
  simp only [Bool.false_eq_true, if_false]
  refine wpAny_bind (wpAny_holding (wpAny_pyIter_tuple ht ?_))
  refine wpAny_bind (wpAny_holding (wpAny_draw_tuple hlt items.size 0 _ _ ⟨_, Heap.get?_push_size _ rfl, rfl, rfl⟩ (ht.push _) (by omega) fun h₁ hit₁ hs₁ => ?_))
  have hall : List.take items.size (List.drop 0 items.toList) = items.toList := by
    rw [List.drop_zero]; exact List.take_of_length_le (by simp)
  rw [hall]
  rw [if_neg (by simp)]
  have ht₁ : h₁.IsTuple t items := (ht.push _).extBut hs₁.extBut hlt
  have old : ∀ b o, s.heap.get? b = some o → h₁.get? b = some o := fun b o e => hs₁.extBut b o (Nat.ne_of_lt (Heap.lt_size e)) (Heap.get?_push_of_some _ e)
  refine wpAny_bind (wpAny_holding (tuple_end (s := { s with heap := h₁ }) (hk.at fun b hb o e => old b o e) (fun e q z => ?_) hit₁ ht₁ (by simp) fun h₂ he₂ => ?_))
  · have := hk.lt e q
    rw [z] at this; exact Nat.lt_irrefl _ this
  simp only [Option.isSome_none, Bool.false_eq_true, if_false]
  exact wpAny_pure (h h₂ fun b o e => he₂ b o (Nat.ne_of_lt (Heap.lt_size e)) (old b o e))

/-- all of the names xs hold the values vs -/
noncomputable def VarsAt (env : Env) (h : Heap) (xs : List Str) (vs : List Value) : Prop := ∀ (i : Nat) x w, xs[i]? = some x → vs[i]? = some w → varAt env h x w
theorem bind_names {Q : Unit → Shared → Prop} {xs : List Str} : ∀ {ps : List Pos} {vs : List Value} {s : Shared}, xs.length = vs.length → xs.length = ps.length → xs.Nodup → Fm env own s.heap → (∀ x ∈ xs, Bindable env own x) →
    (∀ h' tk, Fm env own h' → (∀ b o, ¬ pls env own b → s.heap.get? b = some o → h'.get? b = some o) → VarsAt env h' xs vs → (∀ y w, y ∉ xs → varAt env s.heap y w → varAt env h' y w) → Q () { s with heap := h', toks := tk }) →
    wpAny M A (assignInOrder ((xs.zip ps).map fun p => assign (.Name p.1 p.2) env) vs) Q E s := by
  induction xs with
  | nil =>
    intro ps vs s l _ _ F _ h
    cases vs with
    | nil => exact wpAny_pure (h s.heap s.toks F (fun _ _ _ e => e) (fun i x w e => nomatch e) fun _ _ _ a => a)
    | cons => exact nomatch l
  | cons x xs ih =>
    intro ps vs s l l2 nd F hb h
    cases vs with
    | nil => exact nomatch l
    | cons v vs =>
    cases ps with
    | nil => exact nomatch l2
    | cons p ps =>
      obtain ⟨nx, nd⟩ := List.nodup_cons.mp nd
      refine wpAny_bind (wpAny_holding (wpAny_bind (wpAny_standAt (wpAny_bindName (store_ok F (hb x (.head _)) fun h1 tk F1 k1 a1 o1 => ?_)))))
      refine ih (ps := ps) (vs := vs) (s := { s with heap := h1, toks := tk }) (Nat.succ.inj l) (Nat.succ.inj l2) nd F1 (fun y hy => hb y (.tail _ hy)) fun h2 tk2 F2 k2 a2 o2 => ?_
      refine h h2 tk2 F2 (fun b o hb e => k2 b o hb (k1 b o hb e)) (fun i y w e1 e2 => ?_) fun y w hy a => o2 y w (fun q => hy (.tail _ q)) (o1 y w (fun q => hy (q ▸ .head _)) a)
      cases i with
      | zero => cases e1; cases e2; exact o2 x v nx a1
      | succ i => exact a2 i y w e1 e2
end
theorem names_of {es : List Expr} : All (asNames es) fun l => ∃ ps : List Pos, l.length = ps.length ∧ es = (l.zip ps).map fun p => .Name p.1 p.2 := by
  induction es with
  | nil => exact .so ⟨[], rfl, rfl⟩
  | cons e es ih =>
    refine .bind fun x h1 => .map fun l h2 => ?_
    obtain ⟨p, rfl⟩ := name_eq e x h1
    obtain ⟨ps, h3, rfl⟩ := ih l h2
    exact ⟨p :: ps, congrArg Nat.succ h3, rfl⟩
theorem assignEach_names {env : Env} (l : List (Str × Pos)) : (assignEach (l.map fun p => Expr.Name p.1 p.2) env) = l.map fun p => (false, assign (.Name p.1 p.2) env) := by
  induction l with
  | nil => rfl
  | cons p l ih => exact congrArg ((false, assign (.Name p.1 p.2) env) :: ·) ih
theorem no_star {α : Type} (l : List (Str × Pos)) (f : Str × Pos → α) : (l.map fun p => (false, f p)).findIdx? (·.1) = none := by
  induction l with
  | nil => rfl
  | cons p l ih => rw [List.map_cons, List.findIdx?_cons, ih]; rfl

section
variable {c : Cf} {s : Shared} {v : Value} {u : V} {own : List (Str × Addr)}
/-- the parts of a tuple -/
inductive IsT (c : Cf) (s : Shared) (v : Value) (us : List V) : Prop
  | mk (t : Addr) (items : Array Value) (m : Nat) : v = .ref t → s.heap.get? t = some (tupObj items m) → ¬ c.fr t → Rs (c.R s) items.toList us → IsT c s v us
theorem PRs.rs {P : AP} {R : Value → V → Prop} {f : PyData → V} {h : Heap} (k : ∀ v x, PR P h v x → R v (f x)) {xs : List PyData} : ∀ {vs : List Value}, PRs P h vs xs → Rs R vs (xs.map f) := by
  induction xs with
  | nil => intro vs r; rw [show vs = [] from r.inv]; exact .nil
  | cons x xs ih => intro vs r; obtain ⟨v, ws, rfl, a, b⟩ := r.inv; exact .cons (k v x a) (ih b)
theorem parts_ok (W : WfC c) (a : AtC c s) (r : c.R s v u) (n : Nat) : All (partsV u n) (IsT c s v) := by
  cases u with
  | d x => cases x with
    | tuple xs =>
      intro us e
      obtain ⟨_, rfl⟩ := guardO_inv e
      obtain ⟨t, vs, m, h1, h2, h3, h4⟩ := PR.inv r
      exact ⟨t, vs, m, h1, h3, fun q => h2 (W.sub t q), h4.rs fun _ _ q => q⟩
    | _ => exact .no
  | brw x => cases x with
    | tuple xs =>
      intro us e
      obtain ⟨_, rfl⟩ := guardO_inv e
      obtain ⟨t, vs, m, h1, h2, h3, h4⟩ := PR.inv r
      exact ⟨t, vs, m, h1, h3, h2, h4.rs fun _ _ q => low_R a q⟩
    | _ => exact .no
  | ot y z => exact .no
  | own x => exact .no
  | exc k => exact .no
  | rg k => exact .no
theorem parts_length {n : Nat} : All (partsV u n) fun us => us.length = n := by
  cases u with
  | d x => cases x with
    | tuple xs => exact fun us e => by obtain ⟨h, rfl⟩ := guardO_inv e; rw [List.length_map, h]
    | _ => exact .no
  | brw x => cases x with
    | tuple xs => exact fun us e => by obtain ⟨h, rfl⟩ := guardO_inv e; rw [List.length_map, h]
    | _ => exact .no
  | ot y z => exact .no
  | own x => exact .no
  | exc k => exact .no
  | rg k => exact .no
end
end TC

namespace TC
open PySem PySem.W PyProof.Rows

/-! What a loop runs over. -/
noncomputable def Pln (u : V) : Prop := (∃ x, u = .d x) ∨ ∃ x, u = .brw x
/-- an iterator at the end of the heap s, over the values us; the heap is h' -/
inductive Src (c : Cf) (s : Shared) (v₀ : Value) (h' : Heap) (us : List V) : Prop
  | mk (It : Nat → Value → Prop) (src : Value) : Itr c.G.prog c.G.w c.A s.heap.objs.size us.length It h' src → (∀ b, src = .ref b → v₀ = src ∧ ¬ c.fr b ∧ ∃ o, s.heap.get? b = some o ∧ ∀ vs, o.data ≠ .fields vs) → (∀ i v u, It i v → us[i]? = some u → c.R s v u) → (∀ u ∈ us, Pln u) → Src c s v₀ h' us
section
variable {c : Cf} {s : Shared} {v : Value} {u : V} {x : PyData} {xs : List PyData}
theorem seq_src {P : AP} (a : At c s) (r : PR P s.heap v x) (s1 : ∀ b, c.fr b → P b) (e : seqOf x = some xs) {f : PyData → V} (hf : ∀ w y, PR P s.heap w y → c.R s w (f y)) (hp : ∀ y, Pln (f y)) {Q : Value → Shared → Prop} (k : ∀ h', Keep s.heap h' → Src c s v h' (xs.map f) → Q (.ref s.heap.objs.size) { s with heap := h' }) : c.wp (pyIter v) Q s := by
  refine iter_seq (hm := c.hm) a.hok r e fun h' vs q kh it => k h' kh ⟨fun i w => vs[i]? = some w, v, (by rw [List.length_map]; exact it), fun b hb => ?_, fun i w u p hu => ?_, fun u hu => ?_⟩
  · subst hb
    have i := r.inv
    cases x with
    | list ys => obtain ⟨l, vs, n, e', na, ho, _⟩ := i; cases e'; exact ⟨rfl, fun z => na (s1 _ z), _, ho, fun _ e => nomatch e⟩
    | tuple ys => obtain ⟨l, vs, n, e', na, ho, _⟩ := i; cases e'; exact ⟨rfl, fun z => na (s1 _ z), _, ho, fun _ e => nomatch e⟩
    | _ => exact nomatch e
  · rw [← Array.getElem?_toList] at p
    obtain ⟨y, h1, h2⟩ := q.get' p
    rw [List.getElem?_map, h1] at hu
    exact Option.some.inj hu ▸ hf w y h2
  · obtain ⟨y, _, rfl⟩ := List.mem_map.mp hu; exact hp y
theorem low_pln (y : PyData) : Pln (low y) := by
  unfold low
  cases flat y with
  | true => exact .inl ⟨y, rfl⟩
  | false => exact .inr ⟨y, rfl⟩
theorem items_ok (W : WfC c) (a : At c s) (r : c.R s v u) : All (itemsV c.hm u) fun us => ∀ Q : Value → Shared → Prop, (∀ h', Keep s.heap h' → Src c s v h' us → Q (.ref s.heap.objs.size) { s with heap := h' }) → c.wp (pyIter v) Q s := by
  cases u with
  | d x => exact .map fun xs e Q k => seq_src (f := V.d) a r W.sub e (fun _ _ q => q) (fun y => .inl ⟨y, rfl⟩) k
  | own x => exact .map fun xs e Q k => seq_src (f := V.d) a (W.keep a.toAtC r x rfl) W.sub e (fun _ _ q => q) (fun y => .inl ⟨y, rfl⟩) k
  | brw x => exact .map fun xs e Q k => seq_src a r (fun _ q => q) e (fun _ _ q => low_R a.toAtC q) low_pln k
  | rg n =>
    unfold itemsV
    cases hh : c.hm with
    | true => exact .no
    | false =>
      refine .so fun Q k => ?_
      obtain ⟨r, t1, t2, t3, rfl, nr, l, ir⟩ := r
      refine iter_range (hh ▸ a.hok) ir l fun h' kh it => k h' kh ⟨fun i w => ∃ t, w = .int i t, .none, ?_, (fun b hb => nomatch hb), fun i w u p hu => ?_, fun u hu => ?_⟩
      · rw [List.length_map, rangeL, List.length_map, List.length_range]; exact it
      · obtain ⟨t, rfl⟩ := p
        rw [List.getElem?_map, rangeL, List.getElem?_map] at hu
        obtain ⟨z, e1, rfl⟩ := Option.map_eq_some_iff.mp hu
        obtain ⟨j, e2, rfl⟩ := Option.map_eq_some_iff.mp e1
        obtain ⟨_, e3⟩ := List.getElem?_eq_some_iff.mp e2
        rw [List.getElem_range] at e3
        exact e3 ▸ PR.int _ _
      · obtain ⟨z, _, rfl⟩ := List.mem_map.mp hu; exact .inl ⟨_, rfl⟩
  | ot y z => exact .no
  | exc k => exact .no
end
section
variable {A : Around} {s : Shared} {E : Value → Shared → Prop} {env : Env}
theorem cellsFrom_app : ∀ (names : List (Str × NameKind)) (n : Nat) (acc : List (Str × Addr)), cellsFrom n names acc = cellsFrom n names [] ++ acc
  | [], _, _ => rfl
  | (x, k) :: r, n, acc => by
    unfold cellsFrom
    split
    · rw [cellsFrom_app r (n + 1) ((x, n) :: acc), cellsFrom_app r (n + 1) [(x, n)]]; simp
    · exact cellsFrom_app r n acc
theorem cellsFrom_mem : ∀ (names : List (Str × NameKind)) (n : Nat) (x : Str) (c : Addr), (x, c) ∈ cellsFrom n names [] → (x, NameKind.cell) ∈ names
  | [], _, _, _, h => by cases h
  | (y, k) :: r, n, x, c, h => by
    unfold cellsFrom at h
    split at h
    · rename_i q
      rw [cellsFrom_app] at h
      rcases List.mem_append.mp h with h | h
      · exact .tail _ (cellsFrom_mem r _ x c h)
      · simp only [List.mem_singleton, Prod.mk.injEq] at h
        rw [h.1, beq_iff_eq.mp q]; exact .head _
    · exact .tail _ (cellsFrom_mem r _ x c h)
theorem cellsFrom_some : ∀ (names : List (Str × NameKind)) (n : Nat) (x : Str), (x, NameKind.cell) ∈ names → ∃ c, (x, c) ∈ cellsFrom n names []
  | (y, k) :: r, n, x, h => by
    unfold cellsFrom
    rcases List.mem_cons.mp h with e | h
    · cases e
      rw [if_pos (by rfl), cellsFrom_app]
      exact ⟨n, List.mem_append_right _ (.head _)⟩
    · split
      · rw [cellsFrom_app]
        obtain ⟨c, hc⟩ := cellsFrom_some r (n + 1) x h
        exact ⟨c, List.mem_append_left _ hc⟩
      · exact cellsFrom_some r n x h
theorem lookup_mem_nodup {α : Type} : ∀ {l : List (Str × α)}, (l.map (·.1)).Nodup → ∀ {x : Str} {c : α}, (x, c) ∈ l → l.lookup x = some c
  | (y, d) :: r, nd, x, c, h => by
    obtain ⟨n1, n2⟩ := List.nodup_cons.mp nd
    rw [List.lookup_cons]
    rcases List.mem_cons.mp h with e | h
    · cases e; simp
    · cases hx : x == y with
      | true => rw [beq_iff_eq.mp hx] at h; exact absurd (List.mem_map.mpr ⟨_, h, rfl⟩) n1
      | false => exact lookup_mem_nodup n2 h
theorem cellsFrom_names : ∀ (names : List (Str × NameKind)) (n : Nat), (cellsFrom n names []).map (·.1) = ((names.filter (·.2 == .cell)).map (·.1)).reverse
  | [], _ => rfl
  | (x, k) :: r, n => by
    unfold cellsFrom
    split
    · rename_i q; rw [cellsFrom_app, List.map_append, cellsFrom_names r]; simp [q]
    · rename_i q; rw [cellsFrom_names r]; simp [q]
theorem letOwned_ok {target : Expr} {I : Addr} {v : Value} {o : Obj} {n : String} {M : Model} {Q : Unit → Shared → Prop} (h1 : s.heap.get? I = some o) (h2 : o.cls = .type n) (h3 : quietIt n = true) (h : Q () s) : wpAny M A (letOwnedTupleGo target (.ref I) v) Q E s := by
  have go : wpAny M A (letOwnedTupleGo target (.ref I) v) Q E s := by
    unfold letOwnedTupleGo
    have both : ∀ a : Addr, wpAny M A (do
        let o ← load I
        match o.cls, o.data with
        | .type n, .fields vs =>
          if ["enumerate", "zip", "dict_itemiterator", "dict_reverseitemiterator", "odict_iterator", "itertools.zip_longest", "itertools.pairwise"].contains n && vs[0]? == some (rawInt a) then
            rule "for.unpacks-the-owned-tuple"
            updateField I 0 .none
        | _, _ => pure ()) Q E s := fun a => by
      refine wpAny_bind (wpAny_load h1 ?_)
      rw [h2]
      unfold quietIt at h3
      rw [Bool.not_eq_true'] at h3
      cases o.data with
      | fields vs => dsimp only; rw [h3, Bool.false_and, if_neg (by decide)]; exact wpAny_pure h
      | _ => exact wpAny_pure h
    cases target with
    | Tuple => cases v <;> first | exact both _ | exact wpAny_pure h
    | List => cases v <;> first | exact both _ | exact wpAny_pure h
    | _ => exact wpAny_pure h
  exact go

theorem append_ok {prog : Program} {w : World} {l : Addr} {vs : Array Value} {n : Nat} {x : Value} {Q : Value → Shared → Prop} (ho : s.heap.get? l = some (listObj vs n)) (hsz : vs.size ≤ sizeLine)
    (h : ∀ h' n', h'.get? l = some (listObj (vs.push x) n') → (∀ b o, b ≠ l → s.heap.get? b = some o → h'.get? b = some o) → Q .none { s with heap := h' }) : wpAny (model prog w) A (call (.builtin "list.append") [.ref l, x]) Q E s := by
  have hl : s.heap.IsList l vs := ⟨_, ho, rfl, n, rfl⟩
  refine wpAny_call_entry slot_list_append hl.typeIs entry_list_append ?_ (args_list_append _ _)
  show wpAny _ _ (updateSeq l (·.push x) >>= fun _ => ret .none) _ _ s
  refine wpAny_bind ?_
  obtain ⟨n', hd'⟩ := Obj.data_mapSeq (o := listObj vs n) rfl (·.push x)
  refine wpAny_updateSeq ho rfl (wpAny_pure ⟨.none, rfl, h _ n' ?_ fun b o hb e => (Heap.get?_update_other _ _ (Ne.symm hb)).trans e⟩)
  have e := Heap.get?_update_self (Obj.mapSeq (·.push x)) ho (Obj.isFreed_of_seq hd')
  rw [e]
  have : Obj.mapSeq (·.push x) (listObj vs n) = listObj (vs.push x) n' := by
    unfold Obj.mapSeq at hd' ⊢
    simp only at hd' ⊢
    injection hd' with _ q
    rw [← q]
  rw [this]

theorem loop_turns {prog : Program} {w : World} {elt target iter : Expr} {ifs : List Expr} {scope : Scope} {pos : Pos} {it acc : Value} {env : Env} {R : Result → Shared → Prop} (I : Nat → Shared → Prop)
    (turn : ∀ n s, I n s → wpAny (model prog w) A (pyNext it) (fun r s₁ => match r with
      | none => R (.ok .next) s₁
      | some v => wpAny (model prog w) A (letOwnedTupleGo target it v) (fun _ s₁' => wpAny (model prog w) A (assign target env v) (fun _ s₂ =>
          wpAny (model prog w) A (forIn ifs true fun c r => if r = true then do let ok ← isTrue c env (eval c env); pure (ForInStep.yield ok) else pure (ForInStep.yield r)) (fun ok s₃ =>
            if ok = true then wpAny (model prog w) A (eval elt env) (fun x s₄ =>
              wpAny (model prog w) A (call (.builtin "list.append") [acc, x]) (fun _ s₅ => ∃ m, m < n ∧ I m s₅) (notedBy (model prog w) A env fun e s' => R (.error e) s') s₄) (notedBy (model prog w) A env fun e s' => R (.error e) s') s₃
            else ∃ m, m < n ∧ I m s₃) (notedBy (model prog w) A env fun e s' => R (.error e) s') s₂) (notedBy (model prog w) A env fun e s' => R (.error e) s') s₁') (notedBy (model prog w) A env fun e s' => R (.error e) s') s₁) (notedBy (model prog w) A env fun e s' => R (.error e) s') s)
    (n : Nat) (h : I n s) : codeAny (model prog w) A (.compLoop (.ListComp elt [⟨target, iter, ifs, 0⟩] scope pos) 0 it acc env) R s := by
  refine codeAny_loop rfl I (fun n s hI => ?_) n h
  show wpAny _ A ((compTurn (.ListComp elt [⟨target, iter, ifs, 0⟩] scope pos) 0 it acc env).onRaise (fun x => do noteFrame x env; theTreesLotGoes x)) _ _ s
  refine wpAny_noted ?_
  rw [compTurn_list]
  refine wpAny_bind (wpAny_standAt (wpAny_bind (wpAny_mono (turn n s hI) (fun r s₁ h₁ => ?_) fun _ _ h' => h')))
  cases r with
  | none => exact wpAny_pure h₁
  | some v =>
    refine wpAny_bind (wpAny_mono h₁ (fun _ s₁' h₁' => ?_) fun _ _ h' => h')
    refine wpAny_bind (wpAny_mono h₁' (fun _ s₂ h₂ => wpAny_bind (wpAny_mono h₂ (fun ok s₃ h₃ => ?_) fun _ _ h' => h')) fun _ _ h' => h')
    cases ok with
    | false => exact wpAny_pure ⟨rfl, h₃⟩
    | true =>
      exact wpAny_bind (wpAny_bind (wpAny_mono h₃ (fun x s₄ h₄ => wpAny_bind (wpAny_mono h₄ (fun _ s₅ h₅ => wpAny_pure (wpAny_pure ⟨rfl, h₅⟩)) fun _ _ h' => h')) fun _ _ h' => h'))

theorem comp_env {sc : Scope} {cl : List (Str × Addr)} {M : Model} {Q : Env → Shared → Prop}
    (h : Q { scope := sc, locals := s.heap.objs.size, globals := env.globals, cells := cellsFrom (s.heap.objs.size + 1) sc.names [] ++ cl, qual := env.qual, func := none, code := env.code, frame := env.frame, builtins := env.builtins }
      { s with heap := pushCells (s.heap.push { cls := .type "dict", data := .dict #[] }) sc.names }) : wpAny M A (newFunctionEnv sc env.globals cl [] env.qual none .none (some env)) Q E s := by
  simp only [newFunctionEnv, Option.isSome_some, if_true]
  refine wpAny_bind (wpAny_alloc ?_)
  refine wpAny_bind (wpAny_layCells _ (fun name kind cells => by cases hkc : kind == NameKind.cell <;> simp [hkc]) _ _ _ _ ?_)
  rw [show ({ s with heap := s.heap.push { cls := .type "dict", data := .dict #[] } } : Shared).heap.objs.size = s.heap.objs.size + 1 from Heap.size_push ..]
  rw [cellsFrom_app]
  simp only [List.forIn_nil]
  exact wpAny_bind (wpAny_pure (wpAny_pure h))

end

/-! The names of a comprehension's block. -/
theorem relab_lookup (kd : List (Str × NameKind)) (names : List (Str × NameKind)) (x : Str) : (relab kd names).lookup x = (names.lookup x).map fun k => cond (k == .free && kd.lookup x == some .cell) .cell k := by
  induction names with
  | nil => rfl
  | cons p r ih =>
    obtain ⟨y, k⟩ := p
    show (List.lookup x ((if (k == .free && kd.lookup y == some .cell) = true then (y, .cell) else (y, k)) :: relab kd r)) = _
    cases hx : x == y with
    | true =>
      obtain rfl := beq_iff_eq.mp hx
      cases q : (k == NameKind.free && kd.lookup x == some .cell) <;> simp [List.lookup_cons, q]
    | false => split <;> rw [List.lookup_cons, List.lookup_cons, hx] <;> exact ih
theorem clos_ok {env : Env} (f : Str × NameKind → List (Str × Addr) → Sem (ForInStep (List (Str × Addr))))
    (hf : ∀ name kind cells, f (name, kind) cells = if kind == .free then (do let a ← cellOf env name; pure (.yield ((name, a) :: cells))) else pure (.yield cells)) :
    ∀ (names : List (Str × NameKind)) (acc : List (Str × Addr)), (∀ x, (x, NameKind.free) ∈ names → ∃ c, env.cells.lookup x = some c) → ∃ cl, (forIn names acc f : Sem _) = pure cl ∧ (∀ x, ((x, NameKind.free) ∈ names ∨ acc.lookup x = env.cells.lookup x) → cl.lookup x = env.cells.lookup x) ∧
      ∀ x c, cl.lookup x = some c → acc.lookup x = some c ∨ env.cells.lookup x = some c
  | [], acc, _ => ⟨acc, by rw [List.forIn_nil], fun x h => h.elim (fun q => by cases q) id, fun x c e => .inl e⟩
  | (y, k) :: r, acc, h => by
    rw [List.forIn_cons, hf]
    cases q : (k == NameKind.free) with
    | true =>
      obtain rfl := beq_iff_eq.mp q
      obtain ⟨c, hc⟩ := h y (.head _)
      obtain ⟨cl, h1, h2, h3⟩ := clos_ok f hf r ((y, c) :: acc) fun x hx => h x (.tail _ hx)
      refine ⟨cl, ?_, fun x hx => h2 x ?_, fun x d e => ?_⟩
      · rw [if_pos rfl]
        unfold cellOf
        rw [hc]
        exact h1
      · by_cases z : x = y
        · right; rw [z, List.lookup_cons]; simp [hc]
        · rcases hx with hx | hx
          · rcases List.mem_cons.mp hx with e | e
            · cases e; exact absurd rfl z
            · exact .inl e
          · right; rw [List.lookup_cons, show (x == y) = false from Bool.eq_false_iff.mpr fun q => z (beq_iff_eq.mp q)]; exact hx
      · rcases h3 x d e with q | q
        · rw [List.lookup_cons] at q
          cases hx : x == y with
          | true => rw [hx] at q; cases q; rw [beq_iff_eq.mp hx]; exact .inr hc
          | false => rw [hx] at q; exact .inl q
        · exact .inr q
    | false =>
      obtain ⟨cl, h1, h2, h3⟩ := clos_ok f hf r acc fun x hx => h x (.tail _ hx)
      refine ⟨cl, ?_, fun x hx => h2 x (hx.imp_left fun hx => ?_), h3⟩
      · rw [if_neg (by decide)]
        exact h1
      · rcases List.mem_cons.mp hx with e | e
        · cases e; cases q
        · exact e
theorem closure_ok {env : Env} {sc : Scope} (h : ∀ x, (x, NameKind.free) ∈ sc.names → ∃ c, env.cells.lookup x = some c) :
    ∃ cl, closureFor sc env = pure cl ∧ (∀ x, (x, NameKind.free) ∈ sc.names → cl.lookup x = env.cells.lookup x) ∧ ∀ x c, cl.lookup x = some c → env.cells.lookup x = some c := by
  obtain ⟨cl, h1, h2, h3⟩ := clos_ok (env := env) (fun p cells => if p.2 == .free then (do let a ← cellOf env p.1; pure (.yield ((p.1, a) :: cells))) else pure (.yield cells)) (fun _ _ _ => rfl) sc.names [] h
  refine ⟨cl, ?_, fun x hx => h2 x (.inl hx), fun x c e => (h3 x c e).elim (fun q => by cases q) id⟩
  unfold closureFor
  refine Eq.trans (congrArg (· >>= fun cs => pure cs) (Eq.trans ?_ h1)) rfl
  refine congrArg (forIn sc.names []) (funext fun p => funext fun cells => ?_)
  obtain ⟨x, k⟩ := p
  show (if (k == NameKind.free) = true then _ else _) = (if (k == NameKind.free) = true then _ else _)
  split <;> first | rfl | simp

theorem inner_inv {cx cx' : Cx} {sc : Scope} {xs : List Str} (h : cx.inner sc xs = some cx') : sc.kind = .function ∧ (sc.names.map (·.1)).Nodup ∧ xs.Nodup ∧ (∀ x ∈ xs, sc.names.lookup x = some .local ∨ sc.names.lookup x = some .cell) ∧
    ∃ fs, freeOf cx.kd cx.tb cx.nx sc.names = some fs ∧ cx' = { cx with kd := relab cx.kd sc.names, tb := (xs.zip (List.range' cx.nx xs.length)) ++ fs, nx := cx.nx + xs.length, ow := [] } := by
  unfold Cx.inner at h
  cases q : (sc.kind == ScopeKind.function && decide (sc.names.map (·.1)).Nodup && decide xs.Nodup && xs.all (fun x => sc.names.lookup x == some .local || sc.names.lookup x == some .cell)) with
  | false => rw [q] at h; cases h
  | true =>
    rw [q] at h
    simp only [Bool.and_eq_true, beq_iff_eq, decide_eq_true_eq, List.all_eq_true, Bool.or_eq_true] at q
    obtain ⟨⟨⟨c1, c3⟩, c4⟩, c5⟩ := q
    obtain ⟨fs, h1, h2⟩ := Option.map_eq_some_iff.mp h
    exact ⟨c1, c3, c4, c5, fs, h1, h2.symm⟩
theorem freeOf_inv {kd : List (Str × NameKind)} {tb : List (Str × Nat)} {nx : Nat} {names : List (Str × NameKind)} : All (freeOf kd tb nx names) fun fs =>
    (∀ x i, fs.lookup x = some i → tb.lookup x = some i ∧ i < nx ∧ (x, NameKind.free) ∈ names) ∧ ∀ x, (x, NameKind.free) ∈ names → kd.lookup x = some .cell ∨ kd.lookup x = some .free := by
  induction names with
  | nil => exact .so ⟨(fun x i e => nomatch e), fun x e => nomatch e⟩
  | cons p r ih =>
    obtain ⟨y, k⟩ := p
    refine .cond (fun hk => ?_) (fun hk fs h => ?_)
    · obtain rfl : k = .free := beq_iff_eq.mp hk
      refine .ite fun q => .bind fun i h1 => .ite fun lt => .map fun gs h3 => ?_
      obtain ⟨g1, g2⟩ := ih gs h3
      refine ⟨fun x j e => ?_, fun x e => ?_⟩
      · rw [List.lookup_cons] at e
        cases hx : x == y with
        | true => rw [hx] at e; cases e; rw [beq_iff_eq.mp hx]; exact ⟨h1, of_decide_eq_true lt, .head _⟩
        | false => rw [hx] at e; obtain ⟨a, b, z⟩ := g1 x j e; exact ⟨a, b, .tail _ z⟩
      · rcases List.mem_cons.mp e with e | e
        · cases e
          simp only [Bool.or_eq_true, beq_iff_eq] at q
          exact q
        · exact g2 x e
    · obtain ⟨g1, g2⟩ := ih fs h
      refine ⟨fun x j e => let ⟨a, b, z⟩ := g1 x j e; ⟨a, b, .tail _ z⟩, fun x e => ?_⟩
      rcases List.mem_cons.mp e with e | e
      · cases e; exact nomatch hk
      · exact g2 x e
end TC

namespace TC
open PySem PySem.W PyProof.Rows

/-! A comprehension under way. -/
theorem lookup_append {α : Type} (a b : List (Str × α)) (x : Str) : (a ++ b).lookup x = (a.lookup x).elim (b.lookup x) some := by
  induction a with
  | nil => rfl
  | cons p a ih =>
    rw [List.cons_append, List.lookup_cons, List.lookup_cons]
    cases x == p.1 with
    | true => rfl
    | false => exact ih
theorem zip_lookup {xs : List Str} : ∀ {m : Nat} {x : Str}, All ((xs.zip (List.range' m xs.length)).lookup x) fun j => ∃ i, xs[i]? = some x ∧ j = m + i := by
  induction xs with
  | nil => exact .no
  | cons y xs ih =>
    intro m x j e
    rw [List.length_cons, List.range'_succ, List.zip_cons_cons, List.lookup_cons] at e
    cases hx : x == y with
    | true => rw [hx] at e; cases e; exact ⟨0, by rw [beq_iff_eq.mp hx]; rfl, rfl⟩
    | false =>
      rw [hx] at e
      obtain ⟨i, h1, h2⟩ := ih j e
      exact ⟨i + 1, h1, by omega⟩
structure Cb where
  c : Cf
  s : Shared
  sc : Scope
  xs : List Str
  cx' : Cx
  cl : List (Str × Addr)
  D : Nat
noncomputable abbrev Cb.I (k : Cb) : Nat := k.s.heap.objs.size
noncomputable abbrev Cb.own (k : Cb) : List (Str × Addr) := cellsFrom (k.D + 1 + 1) k.sc.names []
noncomputable def Cb.env (k : Cb) : Env :=
  { scope := relabel k.sc k.c.env, locals := k.D + 1, globals := k.c.env.globals, cells := k.own ++ k.cl, qual := k.c.env.qual, func := none, code := k.c.env.code, frame := k.c.env.frame, builtins := k.c.env.builtins }
/-- the places that are new -/
noncomputable def Cb.nw (k : Cb) : AP := fun b => b = k.I ∨ b = k.D ∨ pls k.env k.own b
structure Cb.Ok (k : Cb) : Prop where
  W : Wf k.c
  A : At k.c k.s
  inn : k.c.cx.inner k.sc k.xs = some k.cx'
  hcl : ∀ x, (x, NameKind.free) ∈ k.sc.names → k.cl.lookup x = k.c.env.cells.lookup x
  hcl2 : ∀ x a, k.cl.lookup x = some a → k.c.env.cells.lookup x = some a
  lt : k.I < k.D
  ge : ∀ x a, k.own.lookup x = some a → k.D + 1 < a
/-- the block's names, at one turn -/
noncomputable def Cb.at (k : Cb) (us : List V) (t : Shared) (E : Value → Shared → Prop) : Cf :=
  { k.c with cx := k.cx', env := k.env, hid := fun b => k.nw b ∨ k.c.hid b, ρ := k.c.ρ ++ us.map some, b := t, X := fun _ => False, E := E }
section
variable {k : Cb} {t : Shared} {us : List V} {vs : List Value} {E : Value → Shared → Prop} {v : Value} {u : V}
theorem Cb.Ok.pl (h : k.Ok) {b : Addr} (q : pls k.env k.own b) : k.D < b := by
  rcases q with rfl | ⟨x, q⟩
  · exact Nat.lt_succ_self _
  · exact Nat.lt_trans (Nat.lt_succ_self _) (h.ge x b q)
theorem Cb.Ok.new (h : k.Ok) {b : Addr} (q : k.nw b) : k.s.heap.get? b = none := by
  refine Heap.get?_none_of_le ?_
  rcases q with rfl | rfl | q
  · exact Nat.le_refl _
  · exact Nat.le_of_lt h.lt
  · exact Nat.le_of_lt (Nat.lt_trans h.lt (h.pl q))
theorem Cb.Ok.off (h : k.Ok) {b : Addr} {P : Prop} {o : Obj} (q : k.nw b) (e : k.s.heap.get? b = some o) : P := some_none e (h.new q)
theorem Cb.Ok.nfr (h : k.Ok) {b : Addr} (q : k.nw b) : ¬ k.c.fr b := fun z => (h.A.dom b (h.W.sub b z)).not_none (h.new q)
/-- a value that stood before the block was entered, seen from within -/
noncomputable def Fix : V → Prop
  | .own _ => False
  | .ot _ _ => False
  | _ => True
theorem Cb.Ok.R (h : k.Ok) (x : Ext k.c.fr k.s.heap t.heap) (r : k.c.R k.s v u) (no : Fix u) : (k.at us t E).R t v u := by
  cases u with
  | d y => exact PR.move (fun b o n e => ⟨fun q => q.elim (fun q => h.off q e) n, (x b o e).1 fun q => n (h.W.sub b q)⟩) r
  | brw y => exact PR.move (mv_ext x fun _ b => b) r
  | exc k => exact ExcAt.ext r x
  | rg n => obtain ⟨a, t1, t2, t3, e, n, l, r⟩ := r; exact ⟨a, t1, t2, t3, e, n, l, (x a _ r).1 n⟩
  | _ => exact no.elim
theorem nm_fix (u : V) : Fix (nmV u) := by
  cases u with
  | brw x => show Fix (low x); unfold low; cases flat x <;> trivial
  | _ => trivial
theorem Cb.Ok.names (h : k.Ok) : k.env.scope.names = relab k.c.cx.kd k.sc.names := by
  show (relabel k.sc k.c.env).names = _
  unfold relabel relab Env.kindOf
  simp only [h.W.envok.kind, h.W.envok.names]
  refine List.map_congr_left fun p _ => ?_
  obtain ⟨x, q⟩ := p
  simp
theorem Cb.Ok.own_none (h : k.Ok) {x : Str} (q : (x, NameKind.free) ∈ k.sc.names) : k.own.lookup x = none := by
  obtain ⟨_, nd, _⟩ := inner_inv h.inn
  cases z : k.own.lookup x with
  | none => rfl
  | some a =>
    have e1 := lookup_mem_nodup nd q
    rw [lookup_mem_nodup nd (cellsFrom_mem _ _ _ _ (mem_of_lookup z))] at e1
    cases e1
theorem Cb.Ok.cells (h : k.Ok) {x : Str} (q : (x, NameKind.free) ∈ k.sc.names) : k.env.cells.lookup x = k.c.env.cells.lookup x := by
  show (k.own ++ k.cl).lookup x = _
  rw [lookup_append, h.own_none q]; exact h.hcl x q
theorem own_some {names : List (Str × NameKind)} (nd : (names.map (·.1)).Nodup) {x : Str} (q : (x, NameKind.cell) ∈ names) (n : Nat) : ∃ a, (cellsFrom n names []).lookup x = some a := by
  obtain ⟨a, ha⟩ := cellsFrom_some names n x q
  refine ⟨a, lookup_mem_nodup ?_ ha⟩
  rw [cellsFrom_names]
  exact (List.reverse_perm _).nodup_iff.mpr (List.Nodup.sublist (List.Sublist.map _ List.filter_sublist) nd)
theorem Cb.Ok.envok (h : k.Ok) : EnvOk k.c.G k.cx' k.env := by
  obtain ⟨i1, i2, i3, i4, fs, i5, i6⟩ := inner_inv h.inn
  obtain ⟨f1, f2⟩ := freeOf_inv fs i5
  have O := h.W.envok
  have kd : k.cx'.kd = relab k.c.cx.kd k.sc.names := by rw [i6]
  have look : ∀ y n, k.cx'.kd.lookup y = some n → ∃ m, k.sc.names.lookup y = some m ∧ cond (m == .free && k.c.cx.kd.lookup y == some .cell) .cell m = n := fun y n e => by
    rw [kd, relab_lookup] at e; exact Option.map_eq_some_iff.mp e
  refine ⟨i1, kd ▸ h.names, O.glob, O.bns, by rw [i6]; exact O.fns, by rw [i6]; exact O.cls, by rw [i6]; exact O.cst, fun y hy => ?_, fun y hy => ?_⟩
  · have : (y, NameKind.cell) ∈ k.sc.names ∨ (y, NameKind.free) ∈ k.sc.names := by
      rcases hy with e | e <;> obtain ⟨m, h1, h2⟩ := look y _ e <;> have h3 := mem_of_lookup h1 <;> cases m <;> first | exact .inl h3 | exact .inr h3 | exact nomatch h2
    rcases this with q | q
    · obtain ⟨a, ha⟩ := own_some i2 q (k.D + 1 + 1)
      refine ⟨a, ?_⟩
      show (k.own ++ k.cl).lookup y = some a
      rw [lookup_append, ha]; rfl
    · obtain ⟨a, ha⟩ := O.cells y (f2 y q)
      exact ⟨a, (h.cells q).trans ha⟩
  · obtain ⟨m, h1, h2⟩ := look y _ hy
    have hm : m = .free := by cases m <;> first | rfl | exact nomatch h2
    subst hm
    refine O.nocd y ((f2 y (mem_of_lookup h1)).resolve_left fun z => ?_)
    rw [z] at h2; exact nomatch h2
theorem Cb.Ok.bnd (h : k.Ok) {y : Str} (hy : y ∈ k.xs) : Bindable k.env k.own y := by
  obtain ⟨i1, i2, i3, i4, fs, i5, i6⟩ := inner_inv h.inn
  have e : k.env.kindOf y = (relab k.c.cx.kd k.sc.names).lookup y := by unfold Env.kindOf; rw [h.names]
  unfold Bindable
  rw [e, relab_lookup]
  rcases i4 y hy with q | q
  · rw [q]; exact .inl rfl
  · rw [q]; exact .inr ⟨rfl, own_some i2 (mem_of_lookup q) _⟩
theorem Cb.Ok.wf (h : k.Ok) (l : us.length = k.xs.length) (x : Ext k.c.fr k.s.heap t.heap) (is : ∀ b, k.nw b → Is t.heap b) : Wf (k.at us t E) := by
  obtain ⟨_, _, _, _, fs, _, i6⟩ := inner_inv h.inn
  refine ⟨⟨h.W.ok, h.W.depth, h.W.units, fun b q => .inr (h.W.sub b q), fun b q => q.elim (is b) fun q => (h.A.dom b q).ext x, fun _ _ _ _ _ f => f.elim⟩, h.envok, ?_⟩
  show (k.c.ρ ++ us.map some).length = k.cx'.nx
  rw [List.length_append, List.length_map, h.W.len, l, i6]
theorem Rs.at {R : Value → V → Prop} {us : List V} : ∀ {vs : List Value}, Rs R vs us → ∀ {i : Nat} {u : V}, us[i]? = some u → ∃ v, vs[i]? = some v ∧ R v u := by
  induction us with
  | nil => intro vs r i u e; exact nomatch e
  | cons w us ih =>
    intro vs r i u e
    cases r with
    | cons a b => cases i with
      | zero => cases e; exact ⟨_, rfl, a⟩
      | succ i => exact ih b e
theorem Cb.Ok.go (h : k.Ok) (l : us.length = k.xs.length) (x : Ext k.c.fr k.s.heap t.heap) (is : ∀ b, k.nw b → Is t.heap b) (va : VarsAt k.env t.heap k.xs vs) (r : Rs (k.c.R k.s) vs us) (ku : ∀ w ∈ us, Pln w) : At (k.at us t E) t := by
  have W := h.wf (E := E) l x is
  obtain ⟨i1, i2, i3, i4, fs, i5, i6⟩ := inner_inv h.inn
  obtain ⟨f1, f2⟩ := freeOf_inv fs i5
  have a : AtC (k.at us t E) t := ⟨⟨h.A.stk.frames, (h.A.stk.ext x).funs, (h.A.stk.ext x).base⟩, h.A.hok.ext x, W.dom0, Ext.refl _ _, Same.refl _⟩
  refine ⟨a, fun y i hy u hu => ?_, fun y b e => ?_⟩
  · rw [show (k.at us t E).cx = k.cx' from rfl, i6] at hy
    replace hy : (k.xs.zip (List.range' k.c.cx.nx k.xs.length) ++ fs).lookup y = some i := hy
    rw [lookup_append] at hy
    replace hu : (k.c.ρ ++ us.map some)[i]? = some (some u) := hu
    cases q : (k.xs.zip (List.range' k.c.cx.nx k.xs.length)).lookup y with
    | some j =>
      rw [q] at hy; cases hy
      obtain ⟨m, h1, rfl⟩ := zip_lookup _ q
      rw [List.getElem?_append_right (by rw [h.W.len]; exact Nat.le_add_right _ _), h.W.len, Nat.add_sub_cancel_left, List.getElem?_map] at hu
      obtain ⟨w, e1, e2⟩ := Option.map_eq_some_iff.mp hu
      cases e2
      obtain ⟨v, e3, r3⟩ := r.at e1
      refine ⟨v, va m y v h1 e3, ?_⟩
      rcases ku u (List.mem_of_getElem? e1) with ⟨z, rfl⟩ | ⟨z, rfl⟩
      · exact h.R x r3 trivial
      · exact low_R a (PR.move (mv_ext x fun _ b => b) r3)
    | none =>
      rw [q] at hy
      obtain ⟨g1, g2, g3⟩ := f1 y i hy
      rw [List.getElem?_append_left (by rw [h.W.len]; exact g2)] at hu
      obtain ⟨v, va, r3⟩ := h.A.envr y i g1 u hu
      refine ⟨v, ?_, h.R x r3 (nm_fix u)⟩
      have hk := f2 y g3
      rcases va with ⟨z, _⟩ | ⟨z, b, hb, hv⟩
      · unfold Env.kindOf at z
        rw [h.W.envok.names] at z
        rcases hk with q | q <;> rw [z] at q <;> cases q
      · refine .inr ⟨?_, b, (h.cells g3).trans hb, x.cell hv⟩
        show k.env.scope.names.lookup y = some .cell ∨ k.env.scope.names.lookup y = some .free
        rw [h.names, relab_lookup, lookup_mem_nodup i2 g3]
        cases k.c.cx.kd.lookup y == some .cell with
        | true => exact .inl rfl
        | false => exact .inr rfl
  · replace e : (k.own ++ k.cl).lookup y = some b := e
    rw [lookup_append] at e
    cases q : k.own.lookup y with
    | some b' => rw [q] at e; cases e; obtain ⟨o, e, _⟩ := is b (.inr (.inr (.inr ⟨y, q⟩))); exact ⟨o, e⟩
    | none =>
      rw [q] at e
      obtain ⟨o, z⟩ := h.A.cok y b (h.hcl2 y b e)
      obtain ⟨_, z'⟩ := (x b o z).2
      exact ⟨_, z'⟩
end
end TC

namespace TC
open PySem PySem.W PyProof.Rows

section
variable {k : Cb} {t : Shared} {u : V} {v : Value}
theorem parts_pln (hu : Pln u) (n : Nat) : All (partsV u n) fun us => ∀ w ∈ us, Pln w := by
  rcases hu with ⟨x, rfl⟩ | ⟨x, rfl⟩
  · cases x with
    | tuple xs => exact fun us e w hw => by obtain ⟨_, rfl⟩ := guardO_inv e; obtain ⟨y, _, rfl⟩ := List.mem_map.mp hw; exact .inl ⟨y, rfl⟩
    | _ => exact .no
  · cases x with
    | tuple xs => exact fun us e w hw => by obtain ⟨_, rfl⟩ := guardO_inv e; obtain ⟨y, _, rfl⟩ := List.mem_map.mp hw; exact low_pln y
    | _ => exact .no
/-- a tuple taken apart -/
theorem Cb.Ok.unp (h : k.Ok) {ps : List Pos} {i : Nat} {p : Pos} (l1 : k.xs.length = ps.length) (fm : Fm k.env k.own t.heap) (hok : HOk k.c.hm k.c.A t.heap) {a : Addr} {items : Array Value} {m : Nat} (ho : t.heap.get? a = some (tupObj items m)) (q2 : items.size = k.xs.length) {E : Value → Shared → Prop} {Q : Unit → Shared → Prop}
    (q : ∀ h' tk, Fm k.env k.own h' → (∀ b o, ¬ pls k.env k.own b → t.heap.get? b = some o → h'.get? b = some o) → VarsAt k.env h' k.xs items.toList → Q () { t with heap := h', toks := tk }) :
    wpAny k.c.M k.c.A (assign (.Tuple ((k.xs.zip ps).map fun q => .Name q.1 q.2) i p) k.env (.ref a)) Q E t := by
  obtain ⟨i1, i2, i3, i4, _⟩ := inner_inv h.inn
  rw [arm_assign_Tuple, assignEach_names]
  refine wpAny_bind (wpAny_standAt (unpack_ok (hm := k.c.hm) hok ho (by rw [List.length_map, List.length_zip, ← l1, Nat.min_self, q2]) (no_star _ _) fun h1 k1 => ?_))
  rw [List.map_map]
  have f1 : Fm k.env k.own h1 := fm.on fun b o _ e => k1 b o e
  exact bind_names (s := { t with heap := h1 }) (vs := items.toList) (by rw [Array.length_toList, q2]) l1 i3 f1 (fun y hy => h.bnd hy) fun h2 tk F2 k2 a2 o2 => q h2 tk F2 (fun b o hb e => k2 b o hb (k1 b o e)) a2
/-- the target bound -/
theorem Cb.Ok.bind (h : k.Ok) {tg : Expr} {topt : Option Nat} (ht : tgtNames (view tg) = some (topt, k.xs)) (fm : Fm k.env k.own t.heap) (x : Ext k.c.fr k.s.heap t.heap) (r : k.c.R k.s v u) (hu : Pln u) {kk : Rho → Prop} (w : bindT topt u k.c.ρ kk) {E : Value → Shared → Prop} {Q : Unit → Shared → Prop}
    (q : ∀ h' tk vs us, Fm k.env k.own h' → (∀ b o, ¬ pls k.env k.own b → t.heap.get? b = some o → h'.get? b = some o) → VarsAt k.env h' k.xs vs → Rs (k.c.R k.s) vs us → us.length = k.xs.length → (∀ w ∈ us, Pln w) → kk (k.c.ρ ++ us.map some) → Q () { t with heap := h', toks := tk }) :
    wpAny k.c.M k.c.A (assign tg k.env v) Q E t := by
  obtain ⟨i1, i2, i3, i4, _⟩ := inner_inv h.inn
  have ve := view_eq tg
  revert ht ve
  cases view tg with
  | name y p =>
    intro ht ve
    replace ve : Expr.Name y p = tg := ve
    subst ve
    injection ht with ht
    injection ht with h1 h2
    subst h1
    refine wpAny_bind (wpAny_standAt (wpAny_bindName (store_ok fm (h.bnd (h2 ▸ .head _)) fun h1 tk F1 k1 a1 o1 => ?_)))
    refine q h1 tk [v] [u] F1 k1 (fun i y w e1 e2 => ?_) (.cons r .nil) (by rw [← h2]; rfl) (fun w hw => by rw [List.mem_singleton.mp hw]; exact hu) w
    rw [← h2] at e1
    cases i with
    | zero => cases e1; cases e2; exact a1
    | succ i => exact nomatch e1
  | tuple es i p =>
    intro ht ve
    replace ve : Expr.Tuple es i p = tg := ve
    subst ve
    obtain ⟨l, h1, h2⟩ := Option.map_eq_some_iff.mp ht
    injection h2 with h2 h3
    subst h2
    subst h3
    obtain ⟨ps, l1, rfl⟩ := names_of _ h1
    refine got_elim w fun us e w => ?_
    obtain ⟨a, items, m, rfl, ho, nf, q1⟩ := parts_ok h.W.toWfC h.A.toAtC r _ us e
    have q2 : us.length = k.xs.length := parts_length us e
    have q3 := q1.length
    exact h.unp l1 fm (h.A.hok.ext x) ((x a _ ho).1 nf) (by rw [← q2, ← q3, Array.length_toList]) fun h' tk F k' va => q h' tk items.toList us F k' va q1 q2 (parts_pln hu _ us e) w
  | _ => intro ht; exact nomatch ht
end
/-- the tests and the element of a turn -/
theorem turn_ok {c : Cf} {ifs : List Expr} {elt : Expr} {cs : Es} {e : TC.E} {s : Shared} (W : Wf c) (hz : ifs.length ≤ 1) (h1 : OkL c ifs cs) (h2 : Ok c elt e) (a : At c s) {kk : Option PyData → Prop}
    (w : tstW (wpL (Φ c) c.hm c.X cs c.ρ) (wpE (Φ c) c.hm c.X e c.ρ fun v => got (kp v) fun y => kk (some y)) (kk none)) {P : Value → Shared → Prop} {Z : Shared → Prop}
    (q1 : ∀ v s' y, At c s' → Ext c.fr s.heap s'.heap → PR c.hid s'.heap v y → kk (some y) → P v s') (q2 : ∀ s', At c s' → Ext c.fr s.heap s'.heap → kk none → Z s') :
    c.wp (forIn ifs true fun x r => if r = true then do let ok ← isTrue x c.env (eval x c.env); pure (ForInStep.yield ok) else pure (ForInStep.yield r)) (fun ok s₃ => if ok = true then c.wp (eval elt c.env) P s₃ else Z s₃) s := by
  have el : ∀ s₃, At c s₃ → Ext c.fr s.heap s₃.heap → wpE (Φ c) c.hm c.X e c.ρ (fun v => got (kp v) fun y => kk (some y)) → c.wp (eval elt c.env) P s₃ := fun s₃ a₃ x₃ w => h2.ev s₃ _ _ a₃ w fun v s' u a' x' r w => got_elim w fun y e w => q1 v s' y a' (x₃.trans x') (W.keep a'.toAtC r y e) w
  rcases ifs with _ | ⟨i, _ | ⟨j, ifs⟩⟩
  · cases cs with
    | nil => rw [List.forIn_nil]; exact wpAny_pure (el s a (Ext.refl _ _) w)
    | cons => exact h1.elim
  · rcases cs with _ | ⟨c1, _ | ⟨c2, cs⟩⟩
    · exact h1.elim
    · refine wpAny_tests_one (h1.1.ts s _ _ a w (fun u => bool_of) fun b s' a' x' w' => ?_)
      cases b with
      | false => exact q2 s' a' x' w'
      | true => exact el s' a' x' w'
    · exact h1.2.elim
  · exact absurd hz (by simp)
theorem Ext.on {fr : AP} {h h' h'' : Heap} {P : AP} (x : Ext fr h h') (k : ∀ b o, ¬ P b → h'.get? b = some o → h''.get? b = some o) (p : ∀ b, P b → h.get? b = none) : Ext fr h h'' := fun b o e => by
  have n : ¬ P b := fun q => some_none e (p b q)
  obtain ⟨x1, sl, x2⟩ := x b o e
  exact ⟨fun hb => k b o n (x1 hb), sl, k b _ n x2⟩

/-- the loop's state: the list so far, read past P -/
structure Cb.Lp (k : Cb) (P : AP) (ys : List PyData) (t : Shared) : Prop where
  x : Ext k.c.fr k.s.heap t.heap
  m : Same k.s t
  acc : IsL P t.heap (.ref k.D) ys
  fm : Fm k.env k.own t.heap
/-- what is hidden in the block -/
noncomputable abbrev Cb.hd (k : Cb) : AP := fun b => k.nw b ∨ k.c.hid b
/-- a comprehension: its text, lowered -/
structure Cb.Tx (k : Cb) (tg : Expr) (topt : Option Nat) (ifs : List Expr) (elt : Expr) (cs : Es) (e : TC.E) : Prop where
  tg : tgtNames (view tg) = some (topt, k.xs)
  hz : ifs.length ≤ 1
  ok : ∀ us t E, Wf (k.at us t E) → OkL (k.at us t E) ifs cs ∧ TC.Ok (k.at us t E) elt e
noncomputable abbrev Cb.step (k : Cb) (cs : Es) (e : TC.E) (ρ : Rho) (kk : Option PyData → Prop) : Prop := tstW (wpL (Φ k.c) k.c.hm (fun _ => False) cs ρ) (wpE (Φ k.c) k.c.hm (fun _ => False) e ρ fun v => got (kp v) fun y => kk (some y)) (kk none)
section
variable {k : Cb} {tg iter elt : Expr} {topt : Option Nat} {ifs : List Expr} {cs : Es} {e : TC.E} {K : V → Prop} {us : List V} {v₀ : Value} {h' : Heap} {R : Result → Shared → Prop} {pos : Pos} {P : AP}
theorem Cb.Ok.plN (h : k.Ok) {b : Nat} (hb : b ≤ k.D) : ¬ pls k.env k.own b := fun q => absurd (h.pl q) (Nat.not_lt.mpr hb)
theorem Cb.Ok.free (h : k.Ok) {b : Nat} (hb : k.I ≤ b) : ¬ k.c.fr b := fun z => (h.A.dom b (h.W.sub b z)).not_none (Heap.get?_none_of_le hb)
/-- a turn, once the target is bound -/
theorem Cb.Ok.turn (h : k.Ok) (X : k.Tx tg topt ifs elt cs e) (sP : ∀ b, k.hd b → P b) {t : Shared} {ys : List PyData} (L : k.Lp P ys t) (is : ∀ b, k.nw b → Is t.heap b) {vs : List Value} {us : List V} (va : VarsAt k.env t.heap k.xs vs) (r : Rs (k.c.R k.s) vs us) (l : us.length = k.xs.length) (p : ∀ w ∈ us, Pln w) (ly : ys.length < lim)
    {kk : Option PyData → Prop} (hP : ∀ h v y, kk (some y) → PR k.hd h v y → PR P h v y) (w : k.step cs e (k.c.ρ ++ us.map some) kk) {E : Value → Shared → Prop} {Z : Shared → Prop}
    (again : ∀ s' r, k.Lp P (r.elim ys fun y => ys ++ [y]) s' → (∀ b o, b < k.D → ¬ k.c.fr b → t.heap.get? b = some o → s'.heap.get? b = some o) → kk r → Z s') :
    wpAny k.c.M k.c.A (forIn ifs true fun x r => if r = true then do let ok ← isTrue x k.env (eval x k.env); pure (ForInStep.yield ok) else pure (ForInStep.yield r)) (fun ok s₃ => if ok = true then wpAny k.c.M k.c.A (eval elt k.env) (fun x s₄ => wpAny k.c.M k.c.A (call (.builtin "list.append") [.ref k.D, x]) (fun _ s₅ => Z s₅) E s₄) E s₃ else Z s₃) E t := by
  have a7 := h.go (E := E) l L.x is va r p
  have W7 := h.wf (E := E) l L.x is
  obtain ⟨D, ws, nn, eD, hD, rD⟩ := L.acc
  cases eD
  have Dfr : ¬ k.c.fr k.D := h.nfr (.inr (.inl rfl))
  have sfr : ∀ b, k.c.fr b → P b := fun b q => sP b (.inr (h.W.sub b q))
  refine turn_ok (kk := kk) W7 X.hz (X.ok _ _ _ W7).1 (X.ok _ _ _ W7).2 a7 w (fun v7 s7 y a8 x7 r7 w7 => ?_) fun s7 a8 x7 w7 => ?_
  · have r7' : PRs P s7.heap ws.toList ys := rD.move (mv_ext x7 sfr)
    refine append_ok ((x7 _ _ hD).1 Dfr) ?_ fun h8 n8 hd8 k8 => ?_
    · rw [r7'.size]; exact lim_nat ly (by rw [sizeLine_eq]; decide)
    · have kk : Mv P P s7.heap h8 := fun b o n e => ⟨n, k8 b o (fun q => n (sP b (.inl (.inr (.inl q))))) e⟩
      refine again { s7 with heap := h8 } (some y) ⟨(L.x.trans x7).on (P := (· = k.D)) k8 fun b q => h.new (.inr (.inl q)), L.m.trans ⟨a8.same.1, a8.same.2⟩, ⟨_, _, n8, rfl, hd8, ?_⟩, (L.fm.ext x7).on fun b o hb e => k8 b o (fun q => h.plN (Nat.le_refl _) (q ▸ hb)) e⟩ (fun b o lt nf e => k8 b o (Nat.ne_of_lt lt) ((x7 b o e).1 nf)) w7
      rw [Array.toList_push]
      exact PRs.append (.cons ((hP _ _ _ w7 r7).move kk) .nil) (r7'.move kk)
  · exact again s7 none ⟨L.x.trans x7, L.m.trans ⟨a8.same.1, a8.same.2⟩, ⟨_, _, nn, rfl, (x7 _ _ hD).1 Dfr, rD.move (mv_ext x7 sfr)⟩, L.fm.ext x7⟩ (fun b o lt nf e => (x7 b o e).1 nf) w7
theorem Cb.Ok.loop (h : k.Ok) (X : k.Tx tg topt ifs elt cs e) (sr : Src k.c k.s v₀ h' us) (lu : us.length < lim) (w : compW (k.step cs e) topt k.c.ρ K us []) {t : Shared} (kt : Keep h' t.heap) (hk : ∀ b, b < h'.objs.size → b < k.D) (L : k.Lp k.hd [] t)
    (fin : ∀ t ys, k.Lp k.hd ys t → K (.own (.list ys)) → R (.ok .next) t) : codeAny k.c.M k.c.A (.compLoop (.ListComp elt [⟨tg, iter, ifs, 0⟩] k.sc pos) 0 (.ref k.I) (.ref k.D) k.env) R t := by
  obtain ⟨It, src, ⟨fp, St, Wk, st0, hfp, hIt⟩, hsrc, hR, hP⟩ := sr
  have fpD : ∀ b ∈ fp, b < k.D := fun b hb => hk b (hfp b hb).1
  have fpfr : ∀ b ∈ fp, ¬ k.c.fr b := fun b hb => by
    rcases (hfp b hb).2 with rfl | q | q
    · exact h.nfr (.inl rfl)
    · obtain ⟨o, vs, e1, e2⟩ := h.A.hok.rec b q
      exact fun z => let ⟨_, o', e3, e4⟩ := h.A.stk.funs.mem z; absurd e2 (by rw [e1] at e3; cases e3; exact e4 vs)
    · exact (hsrc b q).2.1
  let Inv : Nat → Shared → Prop := fun j t => ∃ i ys, i + j = us.length ∧ St i t.heap ∧ k.Lp k.hd ys t ∧ ys.length ≤ i ∧ compW (k.step cs e) topt k.c.ρ K (us.drop i) ys
  refine loop_turns Inv (fun j t inv => ?_) us.length ⟨0, [], Nat.zero_add _, Wk.frame 0 h' t.heap st0 fun b hb o e => kt b o e, L, Nat.le_refl _, w⟩
  obtain ⟨i, ys, e1, st, L, l1, w1⟩ := inv
  have offI : ∀ b, b ∈ [k.I] → k.s.heap.get? b = none := fun b q => h.new (.inl (List.mem_singleton.mp q))
  have go : ∀ h5 tk, (∀ b o, b ∉ [k.I] → t.heap.get? b = some o → h5.get? b = some o) → k.Lp k.hd ys { t with heap := h5, toks := tk } := fun h5 tk k5 => by
    have k5' : ∀ b o, b ≠ k.I → t.heap.get? b = some o → h5.get? b = some o := fun b o n e => k5 b o (fun q => n (List.mem_singleton.mp q)) e
    obtain ⟨D, ws, nn, eD, hD, rD⟩ := L.acc
    cases eD
    exact ⟨L.x.on (P := (· ∈ [k.I])) k5 offI, L.m.trans ⟨rfl, rfl⟩, ⟨_, ws, nn, rfl, k5' _ _ (Nat.ne_of_gt h.lt) hD, rD.move fun b o n e => ⟨n, k5' b o (fun q => n (.inl (.inl q))) e⟩⟩, L.fm.on fun b o hb e => k5' b o (fun q => h.plN (Nat.le_of_lt h.lt) (q ▸ hb)) e⟩
  by_cases lt : i < us.length
  · refine Wk.item i t _ _ lt st fun v h5 tk p st5 k5 => ?_
    rw [List.drop_eq_getElem_cons lt] at w1
    have L5 := go h5 tk k5
    obtain ⟨oI, nm, q1, q2, q3, q4⟩ := hIt (i + 1) h5 st5
    refine letOwned_ok (s := { t with heap := h5, toks := tk }) q1 q2 q3 ?_
    refine h.bind (t := { t with heap := h5, toks := tk }) X.tg L5.fm L5.x (hR i v _ p (List.getElem?_eq_getElem lt)) (hP _ (List.getElem_mem lt)) w1 fun h6 tk6 vs us' F6 k6 a6 r6 l6 p6 w2 => ?_
    obtain ⟨D, ws, nn, eD, hD, rD⟩ := L5.acc
    cases eD
    have hD6 : h6.get? k.D = some (listObj ws nn) := k6 k.D _ (h.plN (Nat.le_refl _)) hD
    have is6 : ∀ b, k.nw b → Is h6 b := fun b q => by
      rcases q with rfl | rfl | q
      · exact ⟨oI, k6 _ _ (h.plN (Nat.le_of_lt h.lt)) q1, q4⟩
      · exact ⟨_, hD6, .list _ _⟩
      · exact F6.is q
    refine h.turn X (fun _ q => q) (t := { t with heap := h6, toks := tk6 }) (ys := ys) ⟨L5.x.on (P := pls k.env k.own) k6 fun b q => h.new (.inr (.inr q)), L.m.trans ⟨rfl, rfl⟩, ⟨_, _, nn, rfl, hD6, rD.move fun b o n e => ⟨n, k6 b o (fun q => n (.inl (.inr (.inr q)))) e⟩⟩, F6⟩ is6 a6 r6 l6 p6 (Nat.lt_of_le_of_lt l1 (Nat.lt_trans lt lu)) (fun _ _ _ _ q => q) w2 fun s' r L' kf w' => ?_
    exact ⟨j - 1, by omega, i + 1, _, by omega, Wk.frame (i + 1) h5 _ st5 fun b hb o e => kf b o (fpD b hb) (fpfr b hb) (k6 b o (h.plN (Nat.le_of_lt (fpD b hb))) e), L', by cases r with | none => exact Nat.le_succ_of_le l1 | some y => show (ys ++ [y]).length ≤ i + 1; rw [List.length_append]; exact Nat.succ_le_succ l1, w'⟩
  · have ei : i = us.length := by omega
    refine Wk.done t _ _ (ei ▸ st) fun h5 tk k5 => ?_
    rw [List.drop_eq_nil_of_le (by omega)] at w1
    exact fin { t with heap := h5, toks := tk } ys (go h5 tk k5) w1.2

end
end TC

namespace TC
open PySem PySem.W PyProof.Rows

section
variable {c : Cf} {s : Shared} {tg iter elt : Expr} {topt : Option Nat} {ifs : List Expr} {cs : Es} {e src : TC.E} {K : V → Prop} {us : List V} {v₀ : Value} {h' : Heap} {pos p : Pos} {sc : Scope} {xs : List Str} {cx' : Cx} {cl : List (Str × Addr)}
theorem src_self (sr : Src c s v₀ h' us) {t : Shared} (k3 : Keep h' t.heap) {Q : Value → Shared → Prop} {E : Value → Shared → Prop} (q : Q (.ref s.heap.objs.size) t) : wpAny c.M c.A (pyIter (.ref s.heap.objs.size)) Q E t := by
  obtain ⟨It, src, ⟨fp, St, Wk, st0, hfp, hIt⟩, hsrc, hR, hP⟩ := sr
  exact Wk.self 0 t _ _ (Wk.frame 0 h' t.heap st0 fun b hb o e => k3 b o e) q
/-- what the text of a comprehension's block is -/
noncomputable abbrev Blk (c : Cf) (cx' : Cx) (ifs : List Expr) (elt : Expr) (cs : Es) (e : TC.E) : Prop := ∀ c', c'.dep = c.dep → c'.cx = cx' → Wf c' → OkL c' ifs cs ∧ Ok c' elt e
theorem comp_start (W : Wf c) (a : At c s) (hi : c.cx.inner sc xs = some cx') (hcl : ∀ x, (x, NameKind.free) ∈ sc.names → cl.lookup x = c.env.cells.lookup x) (hcl2 : ∀ x a, cl.lookup x = some a → c.env.cells.lookup x = some a) (lt : s.heap.objs.size < h'.objs.size) (kh : Keep s.heap h') {it : Value} {P : Nat → AP} {R : Value → Addr → Result → Shared → Prop}
    (self : ∀ (t : Shared) (Q : Value → Shared → Prop) (E : Value → Shared → Prop), Keep h' t.heap → Q it t → wpAny c.M c.A (pyIter it) Q E t)
    (loop : ∀ D t, h'.objs.size = D → Cb.Ok ⟨c, s, sc, xs, cx', cl, D⟩ → Keep h' t.heap → Cb.Lp ⟨c, s, sc, xs, cx', cl, D⟩ (P D) [] t → codeAny c.M c.A (.compLoop (.ListComp elt [⟨tg, iter, ifs, 0⟩] sc pos) 0 it (.ref D) (Cb.env ⟨c, s, sc, xs, cx', cl, D⟩)) (R (.ref D) (D + 1)) t) :
    c.wp (newList []) (fun acc s₃ => c.wp (newFunctionEnv sc c.env.globals cl [] c.env.qual none .none (some c.env)) (fun cenv s₄ =>
      codeAny c.M c.A (.compStart (.ListComp elt [⟨tg, iter, ifs, 0⟩] sc pos) 0 it acc { cenv with scope := relabel sc c.env }) (R acc cenv.locals) s₄) s₃) { s with heap := h' } := by
  obtain ⟨i1, i2, _⟩ := inner_inv hi
  refine wpAny_newObj_type (comp_env ?_) (by size_fits)
  dsimp only
  generalize hD : h'.objs.size = D at lt loop
  have eC : (h'.push { cls := .type "list", dict := none, data := .seq ([] : List Value).toArray }).objs.size = D + 1 := by rw [Heap.size_push, hD]
  simp only [eC]
  have ok := cellsFrom_ok sc.names ((h'.push { cls := .type "list", dict := none, data := .seq ([] : List Value).toArray }).push { cls := .type "dict", data := .dict #[] }) (D + 1 + 1) [] ⟨(fun _ _ hm => nomatch hm), List.Pairwise.nil⟩ (by rw [Heap.size_push, eC]; exact Nat.le_refl _)
  rw [show ((h'.push { cls := .type "list", dict := none, data := .seq ([] : List Value).toArray }).push { cls := .type "dict", data := .dict #[] }).objs.size = D + 1 + 1 from by rw [Heap.size_push, eC]] at ok
  generalize h3e : pushCells ((h'.push { cls := .type "list", dict := none, data := .seq ([] : List Value).toArray }).push { cls := .type "dict", data := .dict #[] }) sc.names = h3 at ok ⊢
  have k3 : Keep h' h3 := fun b o e => by rw [← h3e]; exact pushCells_keeps _ _ b o (Heap.get?_push_of_some _ (Heap.get?_push_of_some _ e))
  have hD3 : h3.get? D = some (listObj #[] 0) := by
    rw [← h3e]; refine pushCells_keeps _ _ _ _ (Heap.get?_push_of_some _ ?_)
    rw [← hD]; exact Heap.get?_push_size _ rfl
  have hC3 : h3.Ns (D + 1) (fun _ => none) := by
    rw [← h3e]
    have := (Heap.Ns.new (h'.push { cls := .type "list", dict := none, data := .seq ([] : List Value).toArray }) (.type "dict"))
    rw [eC] at this
    exact this.keeps (pushCells_keeps _ _)
  let k : Cb := ⟨c, s, sc, xs, cx', cl, D⟩
  have h : k.Ok := ⟨W, a, hi, hcl, hcl2, lt, fun x b q => (ok.empty x b (mem_of_lookup q)).2⟩
  have fm : Fm k.env k.own h3 := by
    refine ⟨i1, ⟨_, hC3⟩, fun x b e => ⟨none, (ok.empty x b (mem_of_lookup e)).1⟩, fun x b e => ?_, fun y b e x ex => ?_⟩
    · show (k.own ++ cl).lookup x = some b
      rw [lookup_append, e]; rfl
    · replace e : (k.own ++ cl).lookup y = some b := e
      rw [lookup_append] at e
      cases q : k.own.lookup y with
      | some b' => rw [q] at e; cases e; exact name_of_addr ok.apart (mem_of_lookup ex) (mem_of_lookup q)
      | none =>
        rw [q] at e
        obtain ⟨o, z⟩ := a.cok y b (hcl2 y b e)
        exact h.off (.inr (.inr (.inr ⟨x, ex⟩))) z
  have L : ∀ t : Shared, t.heap = h3 → Same s t → k.Lp (P D) [] t := fun t e m => ⟨e ▸ Ext.of fun b o q => k3 b o (kh b o q), m, ⟨D, #[], 0, rfl, e ▸ hD3, .nil⟩, e ▸ fm⟩
  have loop : ∀ t : Shared, t.heap = h3 → Same s t → codeAny c.M c.A (.compLoop (.ListComp elt [⟨tg, iter, ifs, 0⟩] sc pos) 0 it (.ref D) k.env) (R (.ref D) (D + 1)) t := fun t e m => loop D t rfl h (e ▸ k3) (L t e m)
  exact codeAny_compStart_list (loop _ rfl ⟨rfl, rfl⟩) (self _ _ _ k3 (loop _ rfl ⟨rfl, rfl⟩))
/-- a comprehension, whatever is done with its value -/
inductive CompOk (c : Cf) (elt : Expr) (gs : List Comprehension) (sc : Scope) (e : TC.E) : Prop
  | mk (tg iter : Expr) (ifs : List Expr) (xs : List Str) (cx' : Cx) : gs = [⟨tg, iter, ifs, 0⟩] →
    (∀ s p pos K use Q, At c s → wpE (Φ c) c.hm c.X e c.ρ K → (∀ s₁ cl D t ys, Ext c.fr s.heap s₁.heap → Cb.Ok ⟨c, s₁, sc, xs, cx', cl, D⟩ → Cb.Lp ⟨c, s₁, sc, xs, cx', cl, D⟩ (Cb.hd ⟨c, s₁, sc, xs, cx', cl, D⟩) ys t → K (.own (.list ys)) → compPost c.M c.A c.E use Q (.ref D) (D + 1) (.ok .next) t) →
      c.wp (comprehension (.ListComp elt [⟨tg, iter, ifs, 0⟩] sc pos) sc c.env p (newList []) false (eval iter c.env) use) Q s) → CompOk c elt gs sc e
theorem comp_any (W : Wf c) (hs : Ok c iter src) (hf : ∀ x, foldedSetIterable iter c.env x = pure x) (ht : tgtNames (view tg) = some (topt, xs)) (hi : c.cx.inner sc xs = some cx') (hz : ifs.length ≤ 1) (T : Blk c cx' ifs elt cs e) : CompOk c elt [⟨tg, iter, ifs, 0⟩] sc (.comp topt src cs e) := ⟨tg, iter, ifs, xs, cx', rfl, fun s p pos K use Q a w fin => by
  obtain ⟨i1, i2, i3, i4, fs, i5, _⟩ := inner_inv hi
  obtain ⟨f1, f2⟩ := freeOf_inv fs i5
  obtain ⟨cl, c1, c2, c3⟩ := closure_ok (env := c.env) (sc := sc) fun x hx => W.envok.cells x (f2 x hx)
  refine wpAny_comprehension_free (g := ⟨tg, iter, ifs, 0⟩) (gs := []) rfl hf c1 i1 (fun x hx q => ?_) (hs.ev s _ _ a w fun v s₁ u a₁ x₁ r w₁ => got_elim w₁ fun us e w₂ => items_ok W.toWfC a₁ r us e _ fun h' kh sr => ?_)
  · obtain ⟨y, k⟩ := x; cases q; exact lookup_mem_nodup i2 hx
  · have lt : s₁.heap.objs.size < h'.objs.size := by
      obtain ⟨It, src, ⟨fp, St, Wk, st0, hfp, hIt⟩, _⟩ := sr
      exact (hfp _ (Wk.sub _ (.head _))).1
    exact comp_start (P := fun D => Cb.hd ⟨c, s₁, sc, xs, cx', cl, D⟩) (R := compPost c.M c.A c.E use Q) W a₁ hi c2 c3 lt kh (fun t Q E k q => src_self sr k q) fun D t hD h kt L => h.loop ⟨ht, hz, fun us t E W' => T _ rfl rfl W'⟩ sr w₂.1 w₂.2 kt (fun b q => hD ▸ q) L fun t ys L hk => fin s₁ cl D t ys x₁ h L hk⟩
theorem comp_case {gs : List Comprehension} (W : Wf c) (h : CompOk c elt gs sc e) : OkE c (.ListComp elt gs sc pos) e := fun s K Q a w k => by
  obtain ⟨tg, iter, ifs, xs, cx', rfl, h⟩ := h
  rw [eval_ListComp]
  refine h s _ _ K none Q a w fun s₁ cl D t ys x₁ h L hk => ?_
  obtain ⟨m, n⟩ := L.fm.ns
  refine ⟨m, n, fun h' sb => ?_⟩
  have kp : ∀ b o, b ≠ D + 1 → t.heap.get? b = some o → h'.get? b = some o := fun b o hb e => (sb.2 b hb).trans e
  have x2 : Ext c.fr s₁.heap h' := L.x.on (P := (· = D + 1)) kp fun b q => h.new (.inr (.inr (.inl q)))
  obtain ⟨_, ws, nn, eD, hD, rD⟩ := L.acc
  cases eD
  have nD : s₁.heap.get? D = none := h.new (.inr (.inl rfl))
  refine k _ { t with heap := h' } (.own (.list ys)) (W.go h.A x2 ⟨L.m.1, L.m.2⟩) (x₁.trans x2) ⟨D, rfl, h.A.ext.gone nD, ws, nn, kp D _ (Nat.ne_of_lt (Nat.lt_succ_self D)) hD, rD.move fun b o n e => ⟨fun q => n (q.elim (fun q => .inl (.inr (.inl q))) .inr), kp b o (fun q => n (.inl (.inr (.inr (.inl q))))) e⟩⟩ hk
end

/-! Calls. -/
section
variable {c : Cf} {pos p : Pos}
theorem argV_ok {s : Shared} {v : Value} {u : V} (W : WfC c) (a : AtC c s) (r : c.R s v u) : All (argV u) fun u' => VR c.G.ca s.heap c.hid c.fr s.heap v u' ∧ argV u' = some u' := by
  cases u with
  | d x => exact .so ⟨r, rfl⟩
  | own x => exact .so ⟨W.keep a r x rfl, rfl⟩
  | brw x => exact .so ⟨r, rfl⟩
  | ot y z => exact .no
  | exc k => exact .so ⟨r, rfl⟩
  | rg n => exact .no
theorem args_V {s : Shared} (W : WfC c) (a : AtC c s) {vs : List Value} {us : List V} (r : Rs (c.R s) vs us) : All (argAll us) (Rs (fun v u => VR c.G.ca s.heap c.hid c.fr s.heap v u ∧ argV u = some u) vs) :=
  Rs.rec (motive := fun vs us _ => All (argAll us) (Rs (fun v u => VR c.G.ca s.heap c.hid c.fr s.heap v u ∧ argV u = some u) vs)) (.so .nil) (fun q _ ih => .bind fun u' h1 => .map fun us' h2 => .cons (argV_ok W a q u' h1) (ih us' h2)) r
/-- calls of the defs of the text -/
noncomputable def Calls (c : Cf) : Prop := ∀ s f z vs us K Q, c.G.fa[f]? = some z → AtC c s → Rs (fun v u => VR c.G.ca s.heap c.hid c.fr s.heap v u ∧ argV u = some u) vs us → Φ c c.hm f us K c.X → (∀ v s' u, AtC c s' → Ext c.fr s.heap s'.heap → VR c.G.ca s.heap c.hid c.fr s'.heap v u → K u → Q v s') → c.wp (call (.ref z) vs) Q s
theorem VR.back {ca : List Addr} {h₀ h₁ h : Heap} {hid fr : AP} {v : Value} {u : V} (r : VR ca h₁ hid fr h v u) (x : Ext fr h₀ h₁) : VR ca h₀ hid fr h v u := by
  cases u with
  | own y => obtain ⟨a, e, n, r⟩ := r; exact ⟨a, e, x.gone n, r⟩
  | ot y z => exact OtV.move r (fun _ q => x.gone q) (fun _ _ _ e => e) fun _ _ n e => ⟨n, e⟩
  | _ => exact r
theorem fn_at (O : c.G.Ok) {k : Nat} {z : Addr} (h : c.G.fa[k]? = some z) : ∃ o fd, c.G.B.get? z = some o ∧ o.data = .func fd := by
  obtain ⟨d, fn, ow, h1, h2, h3, h4, h5⟩ := O.fok k z h
  obtain ⟨a', o, pm, code, doc, q1, q2, q3, q4⟩ := O.top.fn d h1
  have := mg_of O.inK O.top.g h2
  rw [q1] at this
  cases this
  exact ⟨o, _, q2, q3⟩
theorem call_case (W : Wf c) (C : Calls c) {f : Str} {args : List Expr} {es : Es} {k : Nat} (hg : c.cx.glob f = true) (lf : c.cx.fns.lookup f = some k) (hl : OkL c args es) : OkE c (.Call (.Name f p) args [] pos) (.call k es) := fun s K Q a w kk => by
  obtain ⟨z, h1, h2⟩ := W.ok.fnm f k (by rw [← W.envok.fns]; exact lf)
  obtain ⟨o, fd, h3, h4⟩ := fn_at W.ok h1
  refine PyProof.Rows.Call_ (name_own W a.toAtC hg h2 (Calls.callWith_function (o := o) (fd := fd) ?_))
  have fin : ∀ vs s' us, At c s' → Ext c.fr s.heap s'.heap → Rs (c.R s') vs us → us.length = args.length → got (argAll us) (fun us => Φ c c.hm k us K c.X) → (s'.heap.get? z = some o ∧ o.data = .func fd) ∧ c.wp (call (.ref z) vs) Q s' := fun vs s' us a' x r l w' =>
    ⟨⟨a'.stk.base _ _ h3, h4⟩, got_elim w' fun us' e w'' => C s' k z vs us' K Q h1 a'.toAtC (args_V W.toWfC a'.toAtC r us' e) w'' fun v s₂ u a₂ x₂ r₂ hk => kk v s₂ u (W.go a' x₂ (Same.mk' a'.same a₂.same)) (x.trans x₂) (r₂.back a'.ext) hk⟩
  cases args with
  | nil => cases es with
    | nil => exact PyProof.Rows.evalArgs_none (fin [] s [] a (Ext.refl _ _) .nil rfl w)
    | cons => exact hl.elim
  | cons e args =>
    have := args_ok (pos := pos) W hl a w fin
    cases es with
    | nil => exact hl.elim
    | cons e' es =>
      rw [hl.1.pl] at this ⊢
      exact Calls.evalArgs_plain this

/-! Questions of type. -/
theorem ty_boot : ∀ q ∈ tyNames, bootBuiltins q.1 = some (.type (tyStr q.2)) ∧ q.1 ∈ usedNames := by decide +kernel
noncomputable def isExcT : Ty → Bool
  | .exc _ => true
  | _ => false
theorem ty_exc : ∀ q ∈ tyNames, isExcT q.2 = false := by decide +kernel
theorem isi_at {s : Shared} {v : Value} {u : V} {K : V → Prop} {Q : Value → Shared → Prop} (W : WfC c) (a : At c s) (r : c.R s v u) (ty : Ty) (nt : ∀ j, ty ≠ .exc j) (k : Fin c s K Q) (w : got (isiV ty u) fun b => K (.d (.bool b))) : c.wp (call (.builtin "isinstance") [v, .type (tyStr ty)]) Q s := by
  have data : ∀ x, rd u = some x → (ty ≠ .valueError → K (.d (.bool (ty.has x)))) → ty ≠ .valueError → c.wp (call (.builtin "isinstance") [v, .type (tyStr ty)]) Q s := fun x e h n => isi_data (W.rdf r x e) ty (W.ret a k (h n)) n nt
  refine got_elim w fun b e w => ?_
  have gen : ((rd u).map fun x => ty.has x) = some b → ty ≠ .valueError → c.wp (call (.builtin "isinstance") [v, .type (tyStr ty)]) Q s := fun e n => by
    obtain ⟨x, e1, e2⟩ := Option.map_eq_some_iff.mp e
    exact data x e1 (fun _ => e2 ▸ w) n
  cases u with
  | exc j => cases ty with
    | valueError => cases e; exact isi_exc_value W a.toAtC r (W.ret a k w)
    | exc j => exact absurd rfl (nt j)
    | _ => exact nomatch e
  | ot y z => cases ty <;> exact nomatch e
  | _ => cases ty with
    | exc j => exact absurd rfl (nt j)
    | valueError => exact nomatch e
    | _ => exact gen e nofun
theorem isi_case (W : Wf c) {l : Expr} {a : TC.E} (h : Ok c l a) (hg : c.cx.glob "isinstance" = true) {t : Str} (ht : c.cx.glob t = true) {q : Pos} : All (lowTy c.cx t) fun ty => OkE c (.Call (.Name "isinstance" p) [l, .Name t q] [] pos) (.f1 (.isi ty) a) := fun ty lo s K Q A w k => by
  refine PyProof.Rows.Call_ (name_built W A.toAtC hg (by decide) (v := .builtin "isinstance") (by decide +kernel) (with_ok rfl h.pl rfl (args_cons (h.ev s _ _ A w fun v1 s₁ u1 a1 x1 r1 w1 => args_cons ?_ rfl) (h.pl _ _))))
  unfold lowTy at lo
  cases e : tyNames.lookup t with
  | some ty' =>
    rw [e] at lo
    cases lo
    obtain ⟨b1, b2⟩ := ty_boot (t, ty) (mem_lookup e)
    refine name_built W a1.toAtC ht b2 b1 (args_nil (isi_at W.toWfC a1 r1 ty (fun j z => ?_) (k.at x1) (qW_inv w1).2))
    subst z
    exact nomatch ty_exc _ (mem_lookup e)
  | none =>
    rw [e] at lo
    obtain ⟨j, hj, rfl⟩ := Option.map_eq_some_iff.mp lo
    obtain ⟨z, h1, h2⟩ := W.ok.cnm t j (by rw [← W.envok.cls]; exact hj)
    refine name_own W a1.toAtC ht h2 (args_nil (got_elim (qW_inv w1).2 fun b e w => ?_))
    cases u1 with
    | exc i => cases e; exact isi_exc_own W.toWfC a1.toAtC r1 h1 (W.ret a1 (k.at x1) w)
    | _ => exact nomatch e
end
end TC

namespace TC
open PySem PySem.W PyProof.Rows

/-! All expressions. -/
section
variable {c : Cf} {pe l r : Expr} {e : TC.E} {pos p : Pos}
noncomputable abbrev PlainT (c : Cf) (pe : Expr) : Prop := isTrue pe c.env (eval pe c.env) = (do let v ← eval pe c.env; standAt pe.pos; holding [v] (truthy v))
theorem Ok.of (h : OkE c pe e) (he : PlainT c pe) (pl : Plain pe) (ns : NoSl pe) : Ok c pe e := ⟨h, fun s K Q a w kb k => isTrue_plain (h s K _ a w fun v s' u a' x r hk => by
  obtain ⟨b, rfl⟩ := kb u hk
  rw [PR.inv r]
  exact wpAny_truthy_bool (k b s' a' x hk)) he, pl, ns⟩
theorem const_case (W : Wf c) (x : Const) {i : Nat} : All (constD x) fun y => OkE c (.Constant x i pos) (.k y) := by
  cases x with
  | int j => exact .so fun s K Q a w k => wpAny_Constant_int ((W.ret a k w).int _ _)
  | str j => exact .so fun s K Q a w k => Calls.Constant_str (W.ret a k w _ { s with toks := _ } (Ext.refl _ _) ⟨rfl, rfl⟩ (PR.str _ _))
  | bool j => exact .so fun s K Q a w k => PyProof.Rows.Constant_bool (W.ret a k w).bool'
  | none => exact .so fun s K Q a w k => PyProof.Rows.Constant_none (W.ret a k w _ s (Ext.refl _ _) (Same.refl _) PR.non)
  | _ => exact .no
theorem name_case (W : Wf c) (x : Str) : All ((c.cx.var x).elim (cond (c.cx.glob x) ((c.cx.cst.lookup x).map fun i => TC.E.k (.int i)) none) fun i => some (.nm i)) (OkE c (.Name x pos)) := by
  cases h : c.cx.var x with
  | some i => exact .so (nm_ok W i h)
  | none =>
    refine .ite fun hg => .map fun i h1 => fun s K Q a w k => ?_
    obtain ⟨tk, h2⟩ := W.ok.cnst x i (by rw [← W.envok.cst]; exact h1)
    exact name_own W a.toAtC hg h2 (W.ret a k w _ s (Ext.refl _ _) (Same.refl _) (PR.int _ _))
theorem usub_case (W : Wf c) : All ((asIntC l).map fun i => TC.E.k (.int (-i))) (OkE c (.UnaryOp .USub l pos)) := .map fun i h s K Q a w k => by
  obtain ⟨_, _, rfl⟩ := asIntC_eq l i h
  exact UnaryOp_ (wpAny_Constant_int (PyProof.Rows.neg_int ((W.ret a k w).int _ _)))
theorem isOp_eq (o : CmpOp) : All (isOp o) fun neg => o = cond neg .IsNot .Is := by
  cases o with
  | Is => exact .so rfl
  | IsNot => exact .so rfl
  | _ => exact .no
variable {f : Expr → Option TC.E}
theorem compare_case (W : Wf c) (h : ∀ pe, All (f pe) (Ok c pe)) (os : List CmpOp) (rs : List Expr) : All (lowCompare f l os rs) fun e => OkE c (.Compare l os rs pos) e ∧ OkT c (.Compare l os rs pos) e := by
  have gen : All (lowCmps f l os rs) fun e => OkE c (.Compare l os rs pos) e ∧ OkT c (.Compare l os rs pos) e := .ite fun hm => .bind fun a h1 => .map fun q h2 => by
    have hm : lastMarks os rs = false := by cases z : lastMarks os rs with | false => rfl | true => rw [z] at hm; cases hm
    have hc := (lowCs_ok h os rs q h2).1
    exact ⟨cmp_case W (h l a h1) hm hc, cmp_test W (h l a h1) hm hc⟩
  rcases os with _ | ⟨o, _ | ⟨o2, os⟩⟩
  · exact gen
  · rcases rs with _ | ⟨r, _ | ⟨r2, rs⟩⟩
    · exact gen
    · refine .cond (fun _ => .bind fun neg hn => .ite fun hr => .map fun a h1 => ?_) fun _ => gen
      rw [isOp_eq o neg hn]
      exact ⟨none_case W (h l a h1) hr, none_test W (h l a h1) hr⟩
    · exact gen
  · exact gen
theorem bin_cases (W : Wf c) (h : ∀ pe, All (f pe) (Ok c pe)) (o : Operator) : All (lowBin f l o r) (OkE c (.BinOp l o r pos)) :=
  .cond (fun hp => pow_case W hp) fun _ => .bind fun o' ho => .bind fun a h1 => .map fun b h2 => bin_case W (h l a h1) (h r b h2) ho
theorem asSet_eq {cx : Cx} (pe : Expr) : All (asSet cx (view pe)) fun a => ∃ p2 pos2, pe = .Call (.Name "set" p2) [a] [] pos2 ∧ cx.glob "set" = true := by
  have ve := view_eq pe
  revert ve
  cases view pe with
  | call f as kws p =>
    intro ve
    rcases as with _ | ⟨a, _ | ⟨b, as⟩⟩ <;> rcases kws with _ | ⟨k, kws⟩ <;> try exact .no
    refine .bind fun g hg => .ite fun c => .so ?_
    obtain ⟨zp, rfl⟩ := name_eq f g hg
    have c := Bool.and_eq_true_iff.mp c
    obtain rfl := beq_iff_eq.mp c.1
    exact ⟨zp, p, ve.symm, c.2⟩
  | _ => exact fun _ => .no
theorem built_case (W : Wf c) (h : ∀ pe, All (f pe) (Ok c pe)) {g : Str} (hg : c.cx.glob g = true) (args : List Expr) (kws : List Keyword) : All (lowBuilt f c.cx g args kws) (OkE c (.Call (.Name g p) args kws pos)) := by
  rcases args with _ | ⟨a, _ | ⟨b, _ | ⟨d, args⟩⟩⟩
  · exact .no
  · rcases kws with _ | ⟨k, _ | ⟨k2, kws⟩⟩
    · refine .bind fun f1 hf => ?_
      cases z : asSet c.cx (view a) with
      | none => exact .map fun e h1 => f1_case W (h a e h1) hg hf
      | some b =>
        refine .ite fun q => .map fun e h1 => ?_
        rw [beq_iff_eq.mp q] at hg ⊢
        obtain ⟨p2, pos2, rfl, hs⟩ := asSet_eq a b z
        exact dist_case W (h b e h1) hg hs
    · refine .bind fun kn hk => .ite fun q => .map fun e h1 => ?_
      have q := Bool.and_eq_true_iff.mp q
      rw [beq_iff_eq.mp q.2] at hk
      rw [beq_iff_eq.mp q.1] at hg ⊢
      exact sortedR_case W (h a e h1) hg hk
    · exact .no
  · rcases kws with _ | ⟨k, kws⟩
    · refine .cond (fun q => .bind fun t ht => .ite fun hgt => .bind fun ty hty => .map fun e h1 => ?_) fun _ => .bind fun f2 hf => .bind fun e1 h1 => .map fun e2 h2 => f2_case W (h a e1 h1) (h b e2 h2) hg hf
      rw [beq_iff_eq.mp q] at hg ⊢
      obtain ⟨pp, rfl⟩ := name_eq b t ht
      exact isi_case W (h a e h1) hg hgt ty hty
    · exact .no
  · exact .no
theorem callE_case (W : Wf c) (C : Calls c) (h : ∀ pe, All (f pe) (Ok c pe)) (x : Str) {q : Pos} (args : List Expr) (kws : List Keyword) : All (lowCallE f c.cx x args kws) (OkE c (.Call (.Name x q) args kws pos)) := .ite fun hg => by
  cases hl : c.cx.fns.lookup x with
  | none => exact built_case W h hg args kws
  | some k =>
    refine .ite fun hk => .map fun es h1 => ?_
    cases kws with
    | nil => exact call_case W C hg hl (lowL_ok h es h1)
    | cons => exact nomatch hk
theorem calls_case (W : Wf c) (C : Calls c) (h : ∀ pe, All (f pe) (Ok c pe)) (g : Expr) (args : List Expr) (kws : List Keyword) : All (lowCalls f c.cx args kws pos (view g)) (OkE c (.Call g args kws pos)) := by
  have ve := view_eq g
  revert ve
  cases view g with
  | name x q => intro ve; replace ve : Expr.Name x q = g := ve; subst ve; exact callE_case W C h x args kws
  | attr a m ap =>
    intro ve
    replace ve : Expr.Attribute a m ap = g := ve
    subst ve
    rcases args with _ | ⟨k, _ | ⟨k2, args⟩⟩
    · exact .no
    · refine .ite fun q => .bind fun e1 h1 => .map fun e2 h2 => ?_
      have q := Bool.and_eq_true_iff.mp q
      have q1 := Bool.and_eq_true_iff.mp q.1
      have q2 := Bool.and_eq_true_iff.mp q1.1
      obtain rfl := beq_iff_eq.mp q.2
      obtain ⟨x, hx⟩ := Option.isSome_iff_exists.mp q1.2
      obtain ⟨np, rfl⟩ := name_eq a x hx
      cases kws with
      | nil => exact index_case W q2.2 (h _ e1 h1) (h k e2 h2)
      | cons => exact nomatch q2.1
    · exact .no
  | _ => exact fun _ => .no
end
/-- the expressions of the text that the lowering takes with fuel n -/
noncomputable abbrev SE (dep n : Nat) : Prop := ∀ c, c.dep = dep → Wf c → ∀ pe, All (lowE n c.cx pe) (Ok c pe)
theorem folded_ok {n : Nat} {cx : Cx} {env : Env} (pe : Expr) : All (lowE n cx pe) fun _ => ∀ x, foldedSetIterable pe env x = pure x := by
  cases n with
  | zero => exact .no
  | succ n =>
    have ve := view_eq pe
    show All (lowV (lowE n) cx (view pe)) _
    revert ve
    cases view pe with
    | other => exact fun _ => .no
    | slice => exact fun _ => .no
    | attr => exact fun _ => .no
    | _ => exact fun ve _ _ x => by rw [← ve]; rfl
theorem comp_low {dep n : Nat} (IH : SE dep n) {c : Cf} (hd : c.dep = dep) (W : Wf c) {elt : Expr} {sc : Scope} (gs : List Comprehension) : All (lowCompE (lowE n) c.cx elt sc gs) (CompOk c elt gs sc) := by
  rcases gs with _ | ⟨⟨t, iter, ifs, ia⟩, _ | ⟨g2, gs⟩⟩
  · exact .no
  · refine .ite fun q => .bind fun tn ht => .bind fun cx' hi => .bind fun e he => .bind fun cs hc => ?_
    have q := Bool.and_eq_true_iff.mp q
    rw [beq_iff_eq.mp q.1]
    have B : Blk c cx' ifs elt cs e := fun c' d' e' W' => by
      subst e'
      have h' := IH c' (d'.trans hd) W'
      exact ⟨lowL_ok h' cs hc, h' elt e he⟩
    unfold lowSrc
    exact .map fun src hs => comp_any W (IH c hd W iter src hs) (folded_ok iter src hs) ht hi (of_decide_eq_true q.2) B
  · exact .no
theorem new_off {c : Cf} (W : WfC c) {s : Shared} (a : AtC c s) : (s.heap.objs.size == sysModules) = false := by
  obtain ⟨o, es, ep, ho, _⟩ := W.ok.top.g
  have := Heap.lt_size (a.stk.base _ _ ho)
  exact beq_false_of_ne fun e => by rw [e] at this; exact absurd this (by decide)
theorem dic0_case {c : Cf} (W : Wf c) {pos : Pos} : OkE c (.Dict [] [] pos) .dic0 := fun s K Q a w k =>
  wpAny_Dict_empty (W.ret a k w _ { s with heap := _ } (Ext.of (keep_push _ _)) ⟨rfl, rfl⟩ ⟨_, rfl, a.ext.gone (size_none _), #[], 0, Heap.get?_push_size _ rfl, .nil, .nil, .nil (new_off W.toWfC a.toAtC)⟩)
theorem dic1_case {c : Cf} (W : Wf c) {kx : Expr} {k' : TC.E} {i : Nat} {p pos : Pos} (hk : OkE c kx k') : OkE c (.Dict [some kx] [.Constant (.bool true) i p] pos) (.dic1 k') := fun s K Q a w k => by
  have new := size_none s.heap
  have off := new_off W.toWfC a.toAtC
  generalize hd : s.heap.objs.size = d at new off
  refine wpAny_Dict_walk (knd := intKind c.G.prog c.G.w) rfl rfl (by simp) (by simp) (pairTrees_cons_walk ?_)
  rw [hd]
  have x0 : Ext c.fr s.heap (s.heap.push { cls := .type "dict", data := .dict #[] }) := Ext.of (keep_push _ _)
  have hD : (s.heap.push { cls := .type "dict", data := .dict #[] }).get? d = some (dictObj #[] 0) := hd ▸ Heap.get?_push_size _ rfl
  refine hk { s with heap := s.heap.push { cls := .type "dict", data := .dict #[] } } _ _ (W.go a (s' := { s with heap := s.heap.push { cls := .type "dict", data := .dict #[] } }) x0 ⟨rfl, rfl⟩) w fun v s₁ u a₁ x₁ r w₁ => got_elim w₁ fun j e w => ?_
  obtain ⟨t, rfl⟩ := r.int e
  have nf : ¬ c.fr d := W.new_fr (a.ext.gone new)
  have hD1 := (x₁ d _ hD).1 nf
  refine wpAny_Constant_bool (pairTrees_nil_walk ⟨[(j, .bool true)], ⟨intKind_is _ _ j t, rfl, trivial⟩, ⟨_, #[], 0, hD1, ⟨rfl, rfl, rfl⟩, rfl, (fun _ h => absurd h (by simp)), .nil, .nil⟩, fun h' hm sb => ?_⟩)
  have x2 : Ext c.fr s.heap h' := (x0.trans x₁).on (P := (· = d)) (fun b o n e => (sb.2 b n).trans e) fun b q => q ▸ new
  exact W.ret a k w _ { s₁ with heap := h', toks := _ } x2 (Same.mk' a.same a₁.same) ⟨d, rfl, a.ext.gone new, own_tab hm (fun p hp => by rw [List.mem_singleton.mp hp]) off⟩
theorem dict_cases {c : Cf} {n : Nat} (W : Wf c) (h : ∀ pe, All (lowE n c.cx pe) (Ok c pe)) {pos : Pos} (ks : List (Option Expr)) (vs : List Expr) : All (lowDict (lowE n c.cx) ks vs) (OkE c (.Dict ks vs pos)) := by
  rcases ks with _ | ⟨_ | k, _ | ⟨k2, ks⟩⟩ <;> rcases vs with _ | ⟨v, _ | ⟨v2, vs⟩⟩ <;> try exact .no
  · exact .so (dic0_case W)
  · refine .ite fun q => .map fun k' hk => ?_
    obtain ⟨y, i, p, rfl, hy⟩ := isC_eq q
    cases y with
    | bool b => cases (show b = true from hy); exact dic1_case W (h k k' hk).ev
    | _ => exact nomatch hy
theorem se_succ {dep n : Nat} (IC : ∀ c, c.dep = dep → WfC c → Calls c) (IH : SE dep n) : SE dep (n + 1) := fun c hd W pe => by
  have h := IH c hd W
  have ve := view_eq pe
  show All (lowV (lowE n) c.cx (view pe)) _
  revert ve
  cases view pe with
  | name x p => intro ve; replace ve : Expr.Name x p = pe := ve; subst ve; exact (name_case W x).imp fun e h => .of h rfl (fun _ _ => rfl) fun _ _ => rfl
  | const x i p => intro ve; replace ve : Expr.Constant x i p = pe := ve; subst ve; exact .map ((const_case W x).imp fun e h => .of h rfl (fun _ _ => rfl) fun _ _ => rfl)
  | unary o e p =>
    intro ve; replace ve : Expr.UnaryOp o e p = pe := ve; subst ve
    cases o with
    | Not => exact .map fun a h1 => ⟨not_case (h e a h1), not_test (h e a h1), fun _ _ => rfl, fun _ _ => rfl⟩
    | USub => exact (usub_case W).imp fun e h => .of h rfl (fun _ _ => rfl) fun _ _ => rfl
    | _ => exact .no
  | bin l o r p => intro ve; replace ve : Expr.BinOp l o r p = pe := ve; subst ve; exact (bin_cases W h o).imp fun e h => .of h rfl (fun _ _ => rfl) fun _ _ => rfl
  | bool o es p =>
    intro ve; replace ve : Expr.BoolOp o es p = pe := ve; subst ve
    cases o with
    | And => exact .map fun a h1 => ⟨and_case W (lowL_ok h a h1), fun s K Q A w _ k => and_test (lowL_ok h a h1) s K Q A w k, fun _ _ => rfl, fun _ _ => rfl⟩
    | Or => exact .map fun a h1 => ⟨or_case W (lowL_ok h a h1), fun s K Q A w _ k => or_test (lowL_ok h a h1) s K Q A w k, fun _ _ => rfl, fun _ _ => rfl⟩
  | cmp l os rs p => intro ve; replace ve : Expr.Compare l os rs p = pe := ve; subst ve; exact (compare_case W h os rs).imp fun e h => ⟨h.1, h.2, fun _ _ => rfl, fun _ _ => rfl⟩
  | tuple es i p => intro ve; replace ve : Expr.Tuple es i p = pe := ve; subst ve; exact .ite fun hz => .map fun a h1 => .of (tup_case W (lowL_ok h a h1) (of_decide_eq_true hz)) rfl (fun _ _ => rfl) fun _ _ => rfl
  | list es p => intro ve; replace ve : Expr.List es p = pe := ve; subst ve; exact .ite fun hz => .map fun a h1 => .of (lst_case W (lowL_ok h a h1) (of_decide_eq_true hz)) rfl (fun _ _ => rfl) fun _ _ => rfl
  | dict ks vs p =>
    intro ve; replace ve : Expr.Dict ks vs p = pe := ve; subst ve
    exact (dict_cases W h ks vs).imp fun e h => .of h rfl (fun _ _ => rfl) fun _ _ => rfl
  | sub l r p => intro ve; replace ve : Expr.Subscript l r p = pe := ve; subst ve; exact (sub_case W h).imp fun e h => .of h rfl (fun _ _ => rfl) fun _ _ => rfl
  | call g args kws p => intro ve; replace ve : Expr.Call g args kws p = pe := ve; subst ve; exact (calls_case W (IC c hd W.toWfC) h g args kws).imp fun e h => .of h rfl (fun _ _ => rfl) fun _ _ => rfl
  | comp e gs sc p => intro ve; replace ve : Expr.ListComp e gs sc p = pe := ve; subst ve; exact (comp_low IH hd W gs).imp fun e h => .of (comp_case W h) rfl (fun _ _ => rfl) fun _ _ => rfl
  | slice => exact fun _ => .no
  | attr => exact fun _ => .no
  | other => exact fun _ => .no
theorem se_all {dep : Nat} (IC : ∀ c, c.dep = dep → WfC c → Calls c) (n : Nat) : SE dep n := by
  induction n with
  | zero => exact fun _ _ _ _ => .no
  | succ n ih => exact se_succ IC ih
end TC

namespace TC
open PySem PySem.W PyProof.Rows

/-! The state of a def under way. -/
/-- what a def's frame stands on: the state at the call, what was hidden then, the frames then; the ends by an exception -/
structure Ff where
  G : Gl
  dep : Nat
  cx : Cx
  env : Env
  own : List (Str × Addr)
  s₀ : Shared
  hid0 : AP
  envs0 : List Env
  hm : Bool
  A : Around
  X : XS
  E : Value → Shared → Prop
/-- the own places, those that go with a slot, the slots -/
structure Sg where
  pl : AP
  op : Nat → AP
  ρ : Rho
noncomputable abbrev Ff.h₀ (f : Ff) : Heap := f.s₀.heap
noncomputable abbrev Ff.fr0 (f : Ff) : AP := frOf f.envs0
noncomputable abbrev Ff.fr (f : Ff) : AP := frOf (f.env :: f.envs0)
noncomputable abbrev Ff.pls (f : Ff) : AP := TC.pls f.env f.own
noncomputable abbrev Ff.hid (f : Ff) (σ : Sg) : AP := fun b => σ.pl b ∨ f.pls b ∨ f.hid0 b
noncomputable abbrev Ff.wp {α : Type} (f : Ff) (m : Sem α) (Q : α → Shared → Prop) (s : Shared) : Prop := wpAny (model f.G.prog f.G.w) f.A m Q f.E s
/-- no record lies there -/
noncomputable def NR (h : Heap) (b : Addr) : Prop := ∃ o, h.get? b = some o ∧ ∀ vs, o.data ≠ .fields vs
theorem NR.ext {fr : AP} {h h' : Heap} {b : Addr} (i : NR h b) (x : Ext fr h h') : NR h' b := by
  obtain ⟨o, e, n⟩ := i
  obtain ⟨_, q⟩ := (x b o e).2
  exact ⟨_, q, n⟩
theorem OwnAt.nr {P : AP} {h : Heap} {a : Addr} {x : PyData} (r : OwnAt P h a x) : NR h a := by
  cases x with
  | list xs => exact let ⟨_, _, e, _⟩ := r; ⟨_, e, nofun⟩
  | dict kvs => exact let ⟨_, _, e, _⟩ := r; ⟨_, e, nofun⟩
  | _ => exact r.elim
/-- what the name's slot holds -/
noncomputable def SlR (f : Ff) (P : AP) (h : Heap) (O : AP) (v : Value) : V → Prop
  | .d x => PR P h v x
  | .own x => ∃ a, v = .ref a ∧ O a ∧ (∀ b, O b → b = a) ∧ OwnAt P h a x
  | .brw x => PR f.fr0 f.h₀ v x
  | .exc k => ExcAt f.G.ca k h v
  | _ => False
theorem SlR.move {f : Ff} {P P' : AP} {h h' : Heap} {O : AP} {v : Value} {u : V} (r : SlR f P h O v u) (k : Mv P P' h h') (kO : ∀ a, O a → ∀ o, h.get? a = some o → h'.get? a = some o) (ke : ∀ j, ExcAt f.G.ca j h v → ExcAt f.G.ca j h' v) : SlR f P' h' O v u := by
  cases u with
  | d x => exact PR.move k r
  | own x => obtain ⟨a, e, h1, h2, r⟩ := r; exact ⟨a, e, h1, h2, r.move k (kO a h1)⟩
  | brw x => exact r
  | exc j => exact ke j r
  | _ => exact r.elim
structure StR (f : Ff) (σ : Sg) (s : Shared) : Prop where
  ext : Ext f.fr0 f.h₀ s.heap
  same : Same f.s₀ s
  fm : Fm f.env f.own s.heap
  hok : HOk f.hm f.A s.heap
  newl : ∀ b, σ.pl b → f.h₀.get? b = none
  dpl : ∀ b, σ.pl b → ¬ f.pls b ∧ Is s.heap b
  ops : ∀ i b, σ.op i b → σ.pl b ∧ NR s.heap b
  dis : ∀ i j, i ≠ j → ∀ b, σ.op i b → ¬ σ.op j b
  len : σ.ρ.length = f.cx.nx
  slots : ∀ x i, f.cx.tb.lookup x = some i → ∀ u, σ.ρ[i]? = some (some u) → ∃ v, varAt f.env s.heap x v ∧ SlR f (f.hid σ) s.heap (σ.op i) v u
/-- what stays as it was all the time -/
structure WfF (f : Ff) : Prop where
  ok : f.G.Ok
  depth : f.A.depth + f.dep ≤ 900
  units : f.A.units + 20 * f.dep ≤ 9000
  frames : f.A.frames = some (f.env :: f.envs0)
  frame : f.env.frame = some f.env.locals
  funs0 : f.h₀.FunFrames f.G.B f.envs0
  base0 : f.G.B.StaysIn f.h₀
  sub0 : ∀ b, f.fr0 b → f.hid0 b
  dom0 : ∀ b, f.hid0 b → Is f.h₀ b
  newp : ∀ b, f.pls b → f.h₀.get? b = none
  envok : EnvOk f.G f.cx f.env
  cells : ∀ x a, f.env.cells.lookup x = some a → f.own.lookup x = some a
  inj : ∀ x y i, f.cx.tb.lookup x = some i → f.cx.tb.lookup y = some i → x = y
  bnd : ∀ x i, f.cx.var x = some i → Bindable f.env f.own x
section
variable {f : Ff} {σ : Sg} {s s' : Shared} {v : Value} {u : V}
theorem fr_cons (W : WfF f) {b : Addr} : f.fr b ↔ b = f.env.locals ∨ f.fr0 b := by
  show b ∈ (f.env :: f.envs0).filterMap (·.frame) ↔ _
  rw [List.filterMap_cons]; simp only [W.frame, List.mem_cons]; rfl
theorem WfF.sub (W : WfF f) (b : Addr) (h : f.fr b) : f.hid σ b := ((fr_cons W).mp h).elim (fun q => .inr (.inl (.inl q))) fun q => .inr (.inr (W.sub0 b q))
theorem WfF.new0 (W : WfF f) {b : Addr} (n : f.h₀.get? b = none) : ¬ f.hid0 b ∧ ¬ f.fr0 b := ⟨fun q => (W.dom0 b q).not_none n, fun q => (W.dom0 b (W.sub0 b q)).not_none n⟩
theorem StR.dom (R : StR f σ s) (W : WfF f) (b : Addr) (h : f.hid σ b) : Is s.heap b := by
  rcases h with h | h | h
  · exact (R.dpl b h).2
  · exact R.fm.is h
  · exact (W.dom0 b h).ext R.ext
theorem StR.plfr (R : StR f σ s) (W : WfF f) {b : Addr} (h : σ.pl b) : ¬ f.fr b := fun q => ((fr_cons W).mp q).elim (fun q => (R.dpl b h).1 (.inl q)) (W.new0 (R.newl b h)).2
theorem StR.stk (R : StR f σ s) (W : WfF f) : s.heap.FunFrames f.G.B (f.env :: f.envs0) ∧ f.G.B.StaysIn s.heap := by
  obtain ⟨m, n⟩ := R.fm.ns
  refine ⟨Heap.FunFrames.cons (by rw [W.envok.kind]; decide) W.frame n ?_ (W.funs0.of_keeps fun b o q _ => let ⟨_, y⟩ := (R.ext b o q).2; ⟨_, y, rfl⟩), fun b o e => (R.ext b o (W.base0 b o e)).1 fun q => some_none e (W.funs0.mem q).1⟩
  exact none_of fun o e => some_none (W.base0 _ o e) (W.newp _ (.inl rfl))
/-- an expression of the def -/
noncomputable def Ff.ec (f : Ff) (σ : Sg) (s : Shared) : Cf := { G := f.G, dep := f.dep, cx := f.cx, env := f.env, hm := f.hm, A := f.A, envs := f.env :: f.envs0, hid := f.hid σ, ρ := σ.ρ, b := s, X := (f.X · σ.ρ), E := f.E }
/-- an exception on its way -/
noncomputable abbrev Thr (f : Ff) : Prop := ∀ e s' k C fl σ, StR f σ s' → f.G.ca[k]? = some C → (fl = .none ∨ fl = rawInt f.env.locals) → Fly f.h₀ e C fl s'.heap → f.X k σ.ρ → f.E (.ref e) s'
theorem Ext.down {fr fr0 : AP} {h h' h₀ : Heap} (x : Ext fr h h') (x0 : Ext fr0 h₀ h) (n : ∀ b, fr b → ¬ fr0 b → h₀.get? b = none) : Ext fr0 h₀ h' := fun b o e => by
  obtain ⟨y1, sl, y2⟩ := x0 b o e
  obtain ⟨z1, sl', z2⟩ := x b _ y2
  exact ⟨fun hb => (x b o (y1 hb)).1 fun q => some_none e (n b q hb), sl', z2⟩
/-- the heap grew, and its frames' slots may have changed; new own places -/
theorem StR.grow (R : StR f σ s) (W : WfF f) (x : Ext f.fr s.heap s'.heap) (m : Same s s') (N : AP) (hN : ∀ b, N b → s.heap.get? b = none ∧ Is s'.heap b) : StR f { σ with pl := fun b => N b ∨ σ.pl b } s' := by
  refine ⟨x.down R.ext fun b q n => ((fr_cons W).mp q).elim (fun q => W.newp b (.inl q)) fun q => absurd q n, R.same.trans m, R.fm.ext x, R.hok.ext x, fun b q => q.elim (fun q => R.ext.gone (hN b q).1) (R.newl b), fun b q => ?_, fun i b q => ⟨.inr (R.ops i b q).1, (R.ops i b q).2.ext x⟩, R.dis, R.len, fun y i hy u hu => ?_⟩
  · rcases q with q | q
    · exact ⟨fun z => (R.fm.is z).not_none (hN b q).1, (hN b q).2⟩
    · exact ⟨(R.dpl b q).1, (R.dpl b q).2.ext x⟩
  · obtain ⟨v, va, r⟩ := R.slots y i hy u hu
    exact ⟨v, va.ext x, r.move (fun b o n e => ⟨fun q => q.elim (fun q => q.elim (fun q => some_none e (hN b q).1) fun q => n (.inl q)) fun q => n (.inr q), (x b o e).1 fun q => n (W.sub b q)⟩) (fun a ha o e => (x a o e).1 (R.plfr W (R.ops i a ha).1)) fun j q => q.ext x⟩
theorem StR.step (R : StR f σ s) (W : WfF f) (x : Ext f.fr s.heap s'.heap) (m : Same s s') : StR f σ s' := by
  have := R.grow W x m (fun _ => False) (fun _ q => q.elim)
  simpa only [false_or] using this
theorem StR.at (R : StR f σ s) (W : WfF f) : At (f.ec σ s) s := by
  refine ⟨⟨⟨W.frames, (R.stk W).1, (R.stk W).2⟩, R.hok, R.dom W, Ext.refl _ _, Same.refl _⟩, fun x i hx u hu => ?_, fun x a e => ?_⟩
  · obtain ⟨v, va, r⟩ := R.slots x i hx u hu
    refine ⟨v, va, ?_⟩
    cases u with
    | d y => exact r
    | own y => obtain ⟨a, rfl, h1, h2, r⟩ := r; exact r.pr (R.plfr W (R.ops i a h1).1) W.sub
    | brw y =>
      refine low_R (c := f.ec σ s) ⟨⟨W.frames, (R.stk W).1, (R.stk W).2⟩, R.hok, R.dom W, Ext.refl _ _, Same.refl _⟩ (PR.move (fun b o n e => ⟨fun q => ?_, (R.ext b o e).1 n⟩) r)
      exact ((fr_cons W).mp q).elim (fun q => some_none e (W.newp b (.inl q))) n
    | exc j => exact r
    | _ => exact r.elim
  · obtain ⟨_, o, e, _⟩ := R.fm.cell x a (W.cells x a e)
    exact ⟨o, e⟩
theorem StR.wf (R : StR f σ s) (W : WfF f) (T : Thr f) : Wf (f.ec σ s) :=
  ⟨⟨W.ok, W.depth, W.units, W.sub, R.dom W, fun e s' k h m hx => by
    obtain ⟨C, h1, h2, h3⟩ := h
    exact T e s' k C _ σ (R.step W h3 m) h1 (.inl rfl) (h2.back R.ext) hx⟩, W.envok, R.len⟩
/-- changes at places of the frame itself, one slot written anew -/
theorem StR.put (R : StR f σ s) (W : WfF f) {x : Str} {i : Nat} (hx : f.cx.tb.lookup x = some i) {Z P : AP} (kz : ∀ b o, ¬ Z b → s.heap.get? b = some o → s'.heap.get? b = some o) (m : Same s s') (hZ : ∀ b, Z b → f.hid σ b ∧ f.h₀.get? b = none ∧ NR s.heap b) (fm : Fm f.env f.own s'.heap)
    (isZ : ∀ b, σ.pl b → Z b → Is s'.heap b ∧ NR s'.heap b) (hP : ∀ b, P b → σ.pl b ∧ NR s'.heap b) (hd : ∀ j, j ≠ i → ∀ b, P b → ¬ σ.op j b) (hO : ∀ j, j ≠ i → ∀ b, σ.op j b → ¬ Z b) (va : varAt f.env s'.heap x v) (vo : ∀ y w, y ≠ x → varAt f.env s.heap y w → varAt f.env s'.heap y w)
    (sl : SlR f (f.hid σ) s'.heap P v u) : StR f ⟨σ.pl, fun j b => (j = i ∧ P b) ∨ (j ≠ i ∧ σ.op j b), σ.ρ.set i (some u)⟩ s' := by
  have keep : ∀ b, σ.pl b → Is s'.heap b := fun b q => by
    by_cases z : Z b
    · exact (isZ b q z).1
    · obtain ⟨o, e, n⟩ := (R.dpl b q).2; exact ⟨o, kz b o z e, n⟩
  have ke : ∀ j w, ExcAt f.G.ca j s.heap w → ExcAt f.G.ca j s'.heap w := fun j w q => by
    obtain ⟨e, o, vs, C, h1, h2, h3, h4, h5, h6⟩ := q
    refine ⟨e, o, vs, C, h1, h2, kz e o (fun z => ?_) h3, h4, h5, h6⟩
    obtain ⟨o', e1, e2⟩ := (hZ e z).2.2
    rw [h3] at e1; cases e1; exact e2 vs h6
  refine ⟨R.ext.on kz fun b q => (hZ b q).2.1, R.same.trans m, fm, R.hok.at fun b hb o e => kz b o (fun z => ?_) e, R.newl, fun b q => ⟨(R.dpl b q).1, keep b q⟩, fun j b q => ?_, fun j l ne b q z => ?_, by rw [List.length_set]; exact R.len, fun y j hy w hw => ?_⟩
  · obtain ⟨o', vs, e1, e2⟩ := R.hok.rec b hb
    obtain ⟨o2, e3, e4⟩ := (hZ b z).2.2
    rw [e1] at e3; cases e3; exact e4 vs e2
  · rcases q with ⟨_, q⟩ | ⟨ne, q⟩
    · exact hP b q
    · obtain ⟨h1, o, h2, h3⟩ := R.ops j b q; exact ⟨h1, o, kz b o (hO j ne b q) h2, h3⟩
  · rcases q with ⟨rfl, q⟩ | ⟨n1, q⟩ <;> rcases z with ⟨rfl, z⟩ | ⟨n2, z⟩
    · exact ne rfl
    · exact hd l n2 b q z
    · exact hd j n1 b z q
    · exact R.dis j l ne b q z
  · by_cases q : j = i
    · subst q
      obtain rfl := W.inj y x j hy hx
      by_cases lt : j < σ.ρ.length
      · rw [List.getElem?_set_self lt] at hw
        cases hw
        have e : (fun b => (j = j ∧ P b) ∨ (j ≠ j ∧ σ.op j b)) = P := funext fun b => propext ⟨fun q => q.elim (·.2) fun q => absurd rfl q.1, fun q => .inl ⟨rfl, q⟩⟩
        exact ⟨v, va, by show SlR f (f.hid σ) s'.heap (fun b => (j = j ∧ P b) ∨ (j ≠ j ∧ σ.op j b)) v u; rw [e]; exact sl⟩
      · rw [List.set_eq_of_length_le (Nat.le_of_not_lt lt), List.getElem?_eq_none (Nat.le_of_not_lt lt)] at hw; cases hw
    · rw [List.getElem?_set_ne (Ne.symm q)] at hw
      obtain ⟨w', va', r'⟩ := R.slots y j hy w hw
      refine ⟨w', vo y w' (fun z => ?_) va', ?_⟩
      · subst z; rw [hx] at hy; cases hy; exact q rfl
      · have e : (fun b => (j = i ∧ P b) ∨ (j ≠ i ∧ σ.op j b)) = σ.op j := funext fun b => propext ⟨fun z => z.elim (fun z => absurd z.1 q) (·.2), fun z => .inr ⟨q, z⟩⟩
        show SlR f (f.hid σ) s'.heap (fun b => (j = i ∧ P b) ∨ (j ≠ i ∧ σ.op j b)) w' w
        rw [e]
        exact r'.move (fun b o n e => ⟨n, kz b o (fun z => n (hZ b z).1) e⟩) (fun a ha o e => kz a o (hO j q a ha) e) fun k => ke k w'
end
end TC

namespace TC
open PySem PySem.W PyProof.Rows

/-- what a run leaves as it was: all but the frame's own -/
structure Adv (f : Ff) (σ : Sg) (h : Heap) (σ' : Sg) (h' : Heap) : Prop where
  keep : ∀ b o, ¬ f.fr b → ¬ f.pls b → (∀ i, ¬ σ.op i b) → h.get? b = some o → h'.get? b = some o ∧ ∀ i, ¬ σ'.op i b
  out : ∀ b o, ¬ f.hid σ b → h.get? b = some o → ¬ f.hid σ' b
  junk : ∀ b, σ.pl b → (∀ i, ¬ σ.op i b) → σ'.pl b
/-- the ends of a statement -/
structure Out (f : Ff) (σ : Sg) (s : Shared) (K : KS) (Q : PySem.Flow → Shared → Prop) : Prop where
  nxt : ∀ s' σ', StR f σ' s' → Adv f σ s.heap σ' s'.heap → K .nxt σ'.ρ → Q .next s'
  ret : ∀ s' v u σ' ρ, StR f σ' s' → VR f.G.ca f.h₀ (fun b => f.pls b ∨ f.hid0 b) f.fr0 s'.heap v u → K (.ret u) ρ → Q (.ret v) s'
noncomputable abbrev ΦF (f : Ff) : Call := wpCall f.G.tab f.dep
noncomputable def OkS (f : Ff) (st : Stmt) (t : TC.S) : Prop := ∀ σ s K Q, StR f σ s → wpS (ΦF f) f.hm t σ.ρ K f.X → Out f σ s K Q → f.wp (exec st f.env) Q s
/-- an expression, wherever the def stands -/
noncomputable def OkF (f : Ff) (pe : Expr) (e : TC.E) : Prop := ∀ σ s, StR f σ s → Ok (f.ec σ s) pe e
noncomputable def Sg.put (σ : Sg) (i : Nat) (P : AP) (u : V) : Sg := ⟨σ.pl, fun j b => (j = i ∧ P b) ∨ (j ≠ i ∧ σ.op j b), σ.ρ.set i (some u)⟩
noncomputable def Sg.more (σ : Sg) (N : AP) : Sg := { σ with pl := fun b => N b ∨ σ.pl b }
section
variable {f : Ff} {σ σ' σ'' : Sg} {s s₁ s' : Shared} {h h' h'' : Heap} {v : Value} {u : V} {K : KS} {Q : PySem.Flow → Shared → Prop} {x : Str} {i : Nat} {pos p : Pos}
theorem Adv.refl (f : Ff) (σ : Sg) (h : Heap) : Adv f σ h σ h := ⟨fun _ _ _ _ z e => ⟨e, z⟩, fun _ _ q _ => q, fun _ q _ => q⟩
theorem StR.adv (R : StR f σ s) (W : WfF f) (a : Adv f σ s.heap σ' h') (b : Adv f σ' h' σ'' h'') : Adv f σ s.heap σ'' h'' := by
  refine ⟨fun b' o q1 q2 q3 e => ?_, fun b' o q e => ?_, fun b' q z => ?_⟩
  · obtain ⟨e1, z1⟩ := a.keep b' o q1 q2 q3 e
    exact b.keep b' o q1 q2 z1 e1
  · exact b.out b' o (a.out b' o q e) (a.keep b' o (fun z => q (W.sub b' z)) (fun z => q (.inr (.inl z))) (fun i z => q (.inl (R.ops i b' z).1)) e).1
  · obtain ⟨n, o, e, _⟩ := R.dpl b' q
    exact b.junk b' (a.junk b' q z) (a.keep b' o (R.plfr W q) n z e).2
theorem StR.advGrow (R : StR f σ s) (x : Ext f.fr s.heap h') {N : AP} (hN : ∀ b, N b → s.heap.get? b = none) : Adv f σ s.heap (σ.more N) h' :=
  ⟨fun b o q1 _ q3 e => ⟨(x b o e).1 q1, q3⟩, fun b o q e z => q (z.elim (fun z => z.elim (fun z => some_none e (hN b z)) .inl) .inr), fun b q _ => .inr q⟩
theorem StR.advStep (R : StR f σ s) (x : Ext f.fr s.heap h') : Adv f σ s.heap σ h' := ⟨fun b o q1 _ q3 e => ⟨(x b o e).1 q1, q3⟩, fun b o q e z => q z, fun b q _ => q⟩
/-- a slot written anew; the places that go with it are new, or were the slot's -/
theorem Adv.put (a : Adv f σ h σ' h') {Z P : AP} (kz : ∀ b o, ¬ Z b → h'.get? b = some o → h''.get? b = some o) (hZ : ∀ b, Z b → f.pls b ∨ σ.op i b) (hP : ∀ b, P b → h.get? b = none ∨ σ.op i b) : Adv f σ h (σ'.put i P u) h'' := by
  refine ⟨fun b o q1 q2 q3 e => ?_, a.out, a.junk⟩
  obtain ⟨e1, z1⟩ := a.keep b o q1 q2 q3 e
  exact ⟨kz b o (fun z => (hZ b z).elim q2 (q3 i)) e1, fun j z => z.elim (fun z => (hP b z.2).elim (some_none e) (q3 i)) fun z => z1 j z.2⟩
theorem Out.from (o : Out f σ s K Q) (R : StR f σ s) (W : WfF f) (a : Adv f σ s.heap σ' s₁.heap) : Out f σ' s₁ K Q := ⟨fun s' σ'' R' a' k => o.nxt s' σ'' R' (R.adv W a a') k, o.ret⟩
/-- a name bound -/
theorem StR.store (R : StR f σ s) (W : WfF f) (hv : f.cx.var x = some i) {P : AP} (sl : SlR f (f.hid σ) s.heap P v u) (hP : ∀ b, P b → σ.pl b ∧ NR s.heap b) (hd : ∀ j, j ≠ i → ∀ b, P b → ¬ σ.op j b) {M : Model} {A : Around} {E : Value → Shared → Prop} {Q : Unit → Shared → Prop}
    (h : ∀ s', StR f (σ.put i P u) s' → (∀ b o, ¬ f.pls b → s.heap.get? b = some o → s'.heap.get? b = some o) → Q () s') : wpAny M A (storeName f.env x v) Q E s := by
  obtain ⟨v1, v2, v3⟩ := var_inv hv
  refine store_ok R.fm (W.bnd x i hv) fun h' tk fm k a o => h { s with heap := h', toks := tk } ?_ k
  have off : ∀ b, σ.pl b → ∀ o, s.heap.get? b = some o → h'.get? b = some o := fun b q o e => k b o (R.dpl b q).1 e
  refine R.put W v2 (s' := { s with heap := h', toks := tk }) (Z := f.pls) k ⟨rfl, rfl⟩ (fun b q => ⟨.inr (.inl q), W.newp b q, ?_⟩) fm (fun b q z => absurd z (R.dpl b q).1) (fun b q => ⟨(hP b q).1, ?_⟩) hd (fun j ne b q => (R.dpl b (R.ops j b q).1).1) a o (sl.move (fun b o n e => ⟨n, k b o (fun z => n (.inr (.inl z))) e⟩) (fun b q => off b (hP b q).1) fun j q => ?_)
  · obtain ⟨o, e, _, n⟩ := R.fm.data q; exact ⟨o, e, n⟩
  · obtain ⟨o, e, n⟩ := (hP b q).2; exact ⟨o, off b (hP b q).1 o e, n⟩
  · obtain ⟨e, o, vs, C, h1, h2, h3, h4, h5, h6⟩ := q
    refine ⟨e, o, vs, C, h1, h2, k e o (fun z => ?_) h3, h4, h5, h6⟩
    obtain ⟨o', e1, _, e2⟩ := R.fm.data z
    rw [h3] at e1; cases e1; exact e2 vs h6
/-- a value kept in a slot -/
theorem keep_slot (R : StR f σ s) (W : WfF f) (T : Thr f) (a : At (f.ec σ s) s₁) (r : (f.ec σ s).R s₁ v u) (o : Bool) : All (keepV o u) fun u' => ∃ N : AP, (∀ b, N b → s.heap.get? b = none ∧ Is s₁.heap b ∧ NR s₁.heap b) ∧ SlR f (f.hid (σ.more N)) s₁.heap N v u' := by
  have Wc := R.wf W T
  have plain : All ((kp u).map V.d) fun u' => ∃ N : AP, (∀ b, N b → s.heap.get? b = none ∧ Is s₁.heap b ∧ NR s₁.heap b) ∧ SlR f (f.hid (σ.more N)) s₁.heap N v u' := .map fun y e =>
    ⟨fun _ => False, fun _ q => q.elim, (Wc.keep a.toAtC r y e).anti fun b q => q.elim (fun q => .inl (q.resolve_left id)) .inr⟩
  cases o with
  | false => exact plain
  | true =>
    cases u with
    | own y =>
      refine .so ?_
      obtain ⟨z, rfl, n, q⟩ := r
      exact ⟨fun b => b = z, fun b e => e ▸ ⟨n, q.is, q.nr⟩, z, rfl, rfl, fun b e => e, q.move (fun b o n e => ⟨fun q => n (q.elim (fun q => q.elim .inl fun q => .inr (.inl q)) fun q => .inr (.inr q)), e⟩) fun o e => e⟩
    | ot y z => exact .no
    | _ => exact plain
theorem asg_store (R : StR f σ s) (W : WfF f) (T : Thr f) (hv : f.cx.var x = some i) {o : Bool} (a : At (f.ec σ s) s₁) (x₁ : Ext f.fr s.heap s₁.heap) (r : (f.ec σ s).R s₁ v u) (w : got (keepV o u) fun u => K .nxt (σ.ρ.set i (some u))) (out : Out f σ s K Q) : f.wp (storeName f.env x v) (fun _ => Q .next) s₁ := by
  refine got_elim w fun u' e w => ?_
  obtain ⟨N, hN, sl⟩ := keep_slot R W T a r o u' e
  exact (R.grow W x₁ a.same N fun b q => ⟨(hN b q).1, (hN b q).2.1⟩).store W hv sl (fun b q => ⟨.inl q, (hN b q).2.2⟩) (fun j _ b q z => (R.dpl b (R.ops j b z).1).2.not_none (hN b q).1) fun s' R' k =>
    out.nxt s' _ R' ((R.advGrow x₁ fun b q => (hN b q).1).put k (fun b q => .inl q) fun b q => .inl (hN b q).1) w
theorem asg_plain (W : WfF f) (T : Thr f) {val : Expr} {e : TC.E} {o : Bool} (hv : f.cx.var x = some i) (h : OkF f val e) (hs : swapsWith val (some (.Name x p)) pos.line f.env = pure false) : OkS f (.Assign [.Name x p] val pos) (.asg o i e) := fun σ s K Q R w out =>
  wpAny_Assign_Name ((h σ s R).ev s _ _ (R.at W) w fun v s₁ u a₁ x₁ r w₁ => asg_store R W T hv a₁ x₁ r w₁ out) hs
/-- a place of the frame's own that no slot holds, changed or gone -/
theorem StR.junk (R : StR f σ s) (W : WfF f) {Z pl' : AP} (kz : ∀ b o, ¬ Z b → s.heap.get? b = some o → s'.heap.get? b = some o) (m : Same s s') (hZ : ∀ b, Z b → σ.pl b ∧ ∀ i, ¬ σ.op i b) (hH : ∀ b ∈ hAddr f.A, ¬ Z b) (hE : ∀ b, Z b → ∀ o vs C, s.heap.get? b = some o → o.cls = .ref C → o.data ≠ .fields vs)
    (sub : ∀ b, pl' b → σ.pl b ∧ (Z b → Is s'.heap b)) (ops : ∀ i b, σ.op i b → pl' b) : StR f { σ with pl := pl' } s' := by
  have pz : ∀ b, f.pls b → ¬ Z b := fun b q z => (R.dpl b (hZ b z).1).1 q
  have vk : ∀ y w, varAt f.env s.heap y w → varAt f.env s'.heap y w := fun y w va => va.imp (fun ⟨q, mm, nn, hv⟩ => ⟨q, mm, nn.at' fun o e => kz _ o (pz _ (.inl rfl)) e, hv⟩) fun ⟨q, a, ha, o, q1, q2⟩ => ⟨q, a, ha, o, kz a o (pz a (.inr ⟨y, W.cells y a ha⟩)) q1, q2⟩
  refine ⟨R.ext.on kz fun b q => R.newl b (hZ b q).1, R.same.trans m, R.fm.on fun b o q e => kz b o (pz b q) e, R.hok.at fun b hb o e => kz b o (hH b hb) e, fun b q => R.newl b (sub b q).1, fun b q => ⟨(R.dpl b (sub b q).1).1, ?_⟩, fun i b q => ⟨ops i b q, ?_⟩, R.dis, R.len, fun y i hy u hu => ?_⟩
  · by_cases z : Z b
    · exact (sub b q).2 z
    · obtain ⟨o, e, n⟩ := (R.dpl b (sub b q).1).2; exact ⟨o, kz b o z e, n⟩
  · obtain ⟨_, o, e, n⟩ := R.ops i b q; exact ⟨o, kz b o (fun z => (hZ b z).2 i q) e, n⟩
  · obtain ⟨v, va, r⟩ := R.slots y i hy u hu
    refine ⟨v, vk y v va, r.move (fun b o n e => ⟨fun q => n (q.elim (fun q => .inl (sub b q).1) .inr), kz b o (fun z => n (.inl (hZ b z).1)) e⟩) (fun b q o e => kz b o (fun z => (hZ b z).2 i q) e) fun j q => ?_⟩
    obtain ⟨e, o, vs, C, h1, h2, h3, h4, h5, h6⟩ := q
    exact ⟨e, o, vs, C, h1, h2, kz e o (fun z => hE e z o vs C h3 h4 h6) h3, h4, h5, h6⟩
end
end TC

namespace TC
open PySem PySem.W PyProof.Rows

section
variable {f : Ff} {σ : Sg} {s s₁ s' : Shared} {v : Value} {u : V} {K : KS} {Q : PySem.Flow → Shared → Prop} {x : Str} {i : Nat} {pos p : Pos}
/-! a comprehension's value, given to a name before its block is left -/
theorem asg_used (W : WfF f) (T : Thr f) {elt : Expr} {gs : List Comprehension} {sc : Scope} {p0 : Pos} {e : TC.E} {o : Bool} (hv : f.cx.var x = some i) (hc : ∀ σ s, StR f σ s → CompOk (f.ec σ s) elt gs sc e) (hsw : swapsWith (.ListComp elt gs sc p0) (some (.Name x p)) pos.line f.env = pure true) :
    OkS f (.Assign [.Name x p] (.ListComp elt gs sc p0) pos) (.asg o i e) := fun σ s K Q R w out => by
  rw [exec_Assign_Name_used _ _ _ _ hsw]
  refine wpAny_bind (wpAny_standAt (wpAny_bind ?_))
  obtain ⟨tg, iter, ifs, xs, cx', rfl, hcc⟩ := hc σ s R
  rw [arm_evalThenUse_ListComp]
  refine wpAny_bind (hcc s _ _ _ (some (assign (.Name x p) f.env)) _ (R.at W) w fun s₁ cl D t ys x₁ h L hk => ?_)
  obtain ⟨_, ws, nn, eD, hD, rD⟩ := L.acc
  cases eD
  have nD : s.heap.get? D = none := x₁.gone (h.new (.inr (.inl rfl)))
  have nC : s.heap.get? (D + 1) = none := x₁.gone (h.new (.inr (.inr (.inl rfl))))
  have CD : D + 1 ≠ D := Nat.ne_of_gt (Nat.lt_succ_self D)
  have m : Same s t := h.A.same.trans L.m
  obtain ⟨mC, nsC⟩ := L.fm.ns
  obtain ⟨oC, eC, ntC, nrC⟩ := L.fm.data (.inl rfl)
  refine got_elim hk fun u e1 hk => ?_
  -- the slot
  have key : ∃ N : AP, (∀ b, N b → b = D) ∧ SlR f (f.hid (σ.more fun b => N b ∨ b = D + 1)) t.heap N (.ref D) u := by
    have sub : ∀ {N : AP}, (∀ b, N b → b = D) → ∀ b, f.hid (σ.more fun b => N b ∨ b = D + 1) b → Cb.nw ⟨f.ec σ s, s₁, sc, xs, cx', cl, D⟩ b ∨ f.hid σ b := fun hN b q => by
      rcases q with ((q | q) | q) | q
      · exact .inl (.inr (.inl (hN b q)))
      · exact .inl (.inr (.inr (.inl q)))
      · exact .inr (.inl q)
      · exact .inr (.inr q)
    cases o with
    | true => cases e1; exact ⟨fun b => b = D, fun b q => q, D, rfl, rfl, fun b q => q, ws, nn, hD, rD.anti (sub fun b q => q)⟩
    | false =>
      cases e1
      refine ⟨fun _ => False, fun _ q => q.elim, PR.list (fun q => ?_) hD (rD.anti (sub fun _ q => q.elim))⟩
      rcases q with ((q | q) | q) | q | q
      · exact q
      · exact CD q.symm
      · exact (R.dpl D q).2.not_none nD
      · exact (R.fm.is q).not_none nD
      · exact ((W.dom0 D q).ext R.ext).not_none nD
  obtain ⟨N, hN, sl⟩ := key
  have x2 : Ext f.fr s.heap t.heap := x₁.trans L.x
  have new : ∀ b, N b ∨ b = D + 1 → s.heap.get? b = none := fun b q => q.elim (fun q => hN b q ▸ nD) fun q => q ▸ nC
  have R1 := R.grow W x2 m (fun b => N b ∨ b = D + 1) fun b q => ⟨new b q, q.elim (fun q => hN b q ▸ ⟨_, hD, .list _ _⟩) fun q => q ▸ ⟨oC, eC, ntC⟩⟩
  have ad := R.advGrow x2 new
  show f.wp (do standAt p; bindName f.env x (.ref D)) _ t
  refine wpAny_bind (wpAny_standAt (wpAny_bindName (R1.store W hv sl (fun b q => ⟨.inl (.inl q), hN b q ▸ ⟨_, hD, nofun⟩⟩) (fun j _ b q z => (R.dpl b (R.ops j b z).1).2.not_none (new b (.inl q))) fun s2 R2 k2 => ?_)))
  have Cp : ¬ f.pls (D + 1) := (R1.dpl (D + 1) (.inl (.inr rfl))).1
  refine ⟨mC, nsC.at' fun o e => k2 _ o Cp e, fun h3 sb => wpAny_pure (wpAny_pure ?_)⟩
  have k3 : ∀ b o, ¬ b = D + 1 → s2.heap.get? b = some o → h3.get? b = some o := fun b o hb e => (sb.2 b hb).trans e
  have CN : ¬ N (D + 1) := fun q => CD (hN _ q)
  have opC : ∀ j, ¬ ((σ.more fun b => N b ∨ b = D + 1).put i N u).op j (D + 1) := fun j z => z.elim (fun z => CN z.2) fun z => (R.dpl _ (R.ops j _ z.2).1).2.not_none nC
  have opN : ∀ j b, ((σ.more fun b => N b ∨ b = D + 1).put i N u).op j b → N b ∨ σ.pl b := fun j b z => z.elim (fun z => .inl z.2) fun z => .inr (R.ops j b z.2).1
  have dC := k2 _ _ Cp eC
  refine out.nxt { s2 with heap := h3 } _ (R2.junk W (s' := { s2 with heap := h3 }) (Z := (· = D + 1)) (pl' := fun b => N b ∨ σ.pl b) k3 ⟨rfl, rfl⟩ (fun b q => ⟨.inl (.inr q), fun j z => opC j (q ▸ z)⟩) (fun b hb q => ?_) (fun b q o vs C e _ d => ?_) (fun b q => ⟨q.elim (fun q => .inl (.inl q)) .inr, fun z => ?_⟩) opN) ⟨fun b o q1 q2 q3 e => ?_, fun b o q e z => ?_, fun b q _ => .inr q⟩ hk
  · obtain ⟨o, vs, e1, e2⟩ := R2.hok.rec b hb
    rw [q, dC] at e1; cases e1; exact nrC vs e2
  · rw [q, dC] at e; cases e; exact nrC vs d
  · exact q.elim (fun q => absurd (z ▸ q) CN) fun q => (R.dpl b q).2.not_none (z ▸ nC)
  · obtain ⟨e1, z1⟩ := ad.keep b o q1 q2 q3 e
    exact ⟨k3 b o (fun z => some_none (z ▸ e) nC) (k2 b o q2 e1), fun j z => z.elim (fun z => some_none e (new b (.inl z.2))) fun z => q3 j z.2⟩
  · exact q (z.elim (fun z => z.elim (fun z => some_none e (new b (.inl z))) .inl) .inr)
theorem asg_case {dep n : Nat} (IC : ∀ c, c.dep = dep → WfC c → Calls c) (hd : f.dep = dep) (W : WfF f) (T : Thr f) {val : Expr} (hv : f.cx.var x = some i) {o : Bool} : All (lowE n f.cx val) fun e => OkS f (.Assign [.Name x p] val pos) (.asg o i e) := fun e he => by
  have IE := se_all IC n
  have hF : ∀ {m : Nat} {pe : Expr} {e : TC.E}, lowE m f.cx pe = some e → OkF f pe e := fun {m pe e} he σ s R => se_all IC m (f.ec σ s) hd (R.wf W T) pe e he
  have ve := view_eq val
  obtain ⟨b, hb⟩ : ∃ b, swapsWith val (some (.Name x p)) pos.line f.env = pure b := by cases val <;> exact ⟨_, rfl⟩
  cases b with
  | false => exact asg_plain W T hv (hF he) hb
  | true =>
    cases n with
    | zero => exact nomatch he
    | succ n =>
      replace he : lowV (lowE n) f.cx (view val) = some e := he
      revert ve he hb
      cases view val with
      | comp elt gs sc p0 =>
        intro ve hb he
        replace ve : Expr.ListComp elt gs sc p0 = val := ve
        subst ve
        exact asg_used W T hv (fun σ s R => comp_low (se_all IC n) (c := f.ec σ s) hd (R.wf W T) gs e he) hb
      | other => exact fun _ _ he => nomatch he
      | slice => exact fun _ _ he => nomatch he
      | attr => exact fun _ _ he => nomatch he
      | _ => intro ve hb _; rw [← ve] at hb; exact nomatch hb
end
end TC

namespace TC
open PySem PySem.W PyProof.Rows

section
variable {A : Around} {s : Shared} {E : Value → Shared → Prop}
/-- an item of a list written anew -/
theorem setitem_ok {prog : Program} {w : World} {l : Addr} {vs : Array Value} {n : Nat} {k : Int} {t : Tok} {v : Value} {Q : Unit → Shared → Prop} (ho : s.heap.get? l = some (listObj vs n)) (h0 : 0 ≤ k) (hj : k < vs.size) (hf : k < 2 ^ 63)
    (h : ∀ h' n', h'.get? l = some (listObj (vs.setIfInBounds k.toNat v) n') → (∀ b o, b ≠ l → s.heap.get? b = some o → h'.get? b = some o) → Q () { s with heap := h' }) : wpAny (model prog w) A (setItem (.ref l) (.int k t) v) Q E s := by
  have hl : s.heap.IsList l vs := ⟨_, ho, rfl, n, rfl⟩
  unfold setItem
  try with_reducible refine wpAny_holding ?_
  first | refine wpAny_bind (wpAny_pure ?_) | skip
  refine wpAny_bind (wpAny_sequenceKey hl.typeIs (by decide) ?_)
  refine wpAny_bind (wpAny_callSpecial?_slot (name := Str.ofString "__setitem__") hl.typeIs slot_list_setitem
    (wpAny_call_entry slot_list_setitem hl.typeIs entry_list_setitem ?_ (args_list_setitem _ _ _)))
  show wpAny _ _ (Builtin.List.listSubscript? (.int k t) >>= _) _ _ s
  refine wpAny_bind (wpAny_listSubscript_int (fitsIndex_of h0 hf) ?_)
  clear hf
  obtain ⟨j, rfl⟩ := Int.eq_ofNat_of_zero_le h0
  have hj : j < vs.size := by omega
  have hx' : vs[j]? = some vs[j] := Array.getElem?_eq_getElem hj
  show wpAny _ _ ((seqItemAt l j >>= fun r => pure (r.map (j, ·))) >>= _) _ _ s
  refine wpAny_bind (wpAny_bind (wpAny_seqItemAt ho rfl (wpAny_pure ?_)))
  rw [hx']
  show wpAny _ _ (setSeqItemAt l j v >>= _) _ _ s
  obtain ⟨n', hd'⟩ := Obj.data_mapSeq (o := listObj vs n) rfl (·.setIfInBounds j v)
  have e := Heap.get?_update_self (Obj.mapSeq (·.setIfInBounds j v)) ho (Obj.isFreed_of_seq hd')
  have eo : Obj.mapSeq (·.setIfInBounds j v) (listObj vs n) = listObj (vs.setIfInBounds j v) n' := by
    unfold Obj.mapSeq at hd' ⊢
    simp only at hd' ⊢
    injection hd' with _ q
    rw [← q]
  rw [eo] at e
  have fin := h _ n' e fun b o hb e => (Heap.get?_update_other _ _ (Ne.symm hb)).trans e
  refine wpAny_bind (wpAny_setSeqItemAt ho rfl ?_)
  first
    | exact wpAny_bind (wpAny_pure (wpAny_pure ⟨.none, rfl, wpAny_pure fin⟩))
    | exact wpAny_pure ⟨.none, rfl, wpAny_pure fin⟩
end
section
variable {f : Ff} {σ : Sg} {s s₁ s' : Shared} {v : Value} {u : V} {K : KS} {Q : PySem.Flow → Shared → Prop} {x : Str} {i : Nat} {pos p : Pos}
/-! return -/
theorem ret_VR (R : StR f σ s) (W : WfF f) (T : Thr f) (a : At (f.ec σ s) s₁) (r : (f.ec σ s).R s₁ v u) : All (retO u) (VR f.G.ca f.h₀ (fun b => f.pls b ∨ f.hid0 b) f.fr0 s₁.heap v) := by
  have Wc := R.wf W T
  have plain : All ((kp u).map V.d) (VR f.G.ca f.h₀ (fun b => f.pls b ∨ f.hid0 b) f.fr0 s₁.heap v) := .map fun y e => (Wc.keep a.toAtC r y e).anti fun b q => .inr q
  cases u with
  | own y => obtain ⟨z, e, n, r⟩ := r; exact .so ⟨z, e, R.ext.gone n, r.move (fun b o n e => ⟨fun q => n (q.imp_right .inr), e⟩) fun o e => e⟩
  | ot y z => exact .so (OtV.move r (fun _ q => R.ext.gone q) (fun _ _ _ e => e) fun b o n e => ⟨fun q => n (.inr q), e⟩)
  | _ => exact plain
theorem ret_case (W : WfF f) (T : Thr f) {val : Expr} {e : TC.E} (h : OkF f val e) : OkS f (.Return (some val) pos) (.ret e) := fun σ s K Q R w out =>
  wpAny_Return_some ((h σ s R).ev s _ _ (R.at W) w fun v s₁ u a₁ x₁ r w₁ => got_elim w₁ fun u' e1 hk => out.ret s₁ v u' σ σ.ρ (R.step W x₁ a₁.same) (ret_VR R W T a₁ r u' e1) hk)
theorem retm_case (W : WfF f) (hv : f.cx.var x = some i) : OkS f (.Return (some (.Name x p)) pos) (.retm i) := fun σ s K Q R w out => by
  obtain ⟨h1, h2, h3⟩ := var_inv hv
  refine got_elim w fun su e1 w => got_elim w fun u e2 w => got_elim w fun u' e3 w => ?_
  obtain ⟨v, va, r⟩ := R.slots x i h2 u (e2 ▸ e1)
  refine wpAny_Return_some (load_var (c := f.ec σ s) W.envok h1 va (out.ret s v u' σ σ.ρ R ?_ w))
  have sub : ∀ b, f.pls b ∨ f.hid0 b → f.hid σ b := fun b q => .inr q
  cases u with
  | d y => cases e3; exact PR.anti r sub
  | own y =>
    cases e3
    obtain ⟨a, e, h1, h2, r⟩ := r
    exact ⟨a, e, R.newl a (R.ops i a h1).1, r.move (fun b o n e => ⟨fun q => n (q.elim (fun q => .inl (q ▸ (R.ops i a h1).1)) .inr), e⟩) fun o e => e⟩
  | brw y =>
    obtain ⟨z, e4, rfl⟩ := Option.map_eq_some_iff.mp e3
    obtain ⟨fl, rfl⟩ := guardO_inv e4
    exact flat_move (fun b q => R.dom W b (sub b q)) (PR.move (mv_ext R.ext fun _ q => q) r) fl
  | exc j => exact nomatch e3
  | _ => exact r.elim
/-! a value dropped; a choice; statements one after another -/
theorem quiet_env (W : WfF f) : interactive f.env = false := by unfold interactive; rw [W.envok.kind]; rfl
theorem drop_case (W : WfF f) {g : Str} {args : List Expr} {kws : List Keyword} {e : TC.E} {p2 : Pos} (h : OkF f (.Call (.Name g p) args kws p2) e) : OkS f (.Expr (.Call (.Name g p) args kws p2) pos) (.drop e) := fun σ s K Q R w out =>
  wpAny_Expr_any ((h σ s R).ev s _ _ (R.at W) w fun v s₁ u a₁ x₁ r w₁ => out.nxt s₁ σ (R.step W x₁ a₁.same) (R.advStep x₁) w₁) (quiet_env W) rfl
noncomputable def OkSs (f : Ff) (sts : List Stmt) (ts : Ss) : Prop := ∀ σ s K Q, StR f σ s → wpSs (ΦF f) f.hm ts σ.ρ K f.X → Out f σ s K Q → f.wp (execs sts f.env) Q s
theorem seq_ok (W : WfF f) {ls : Stmt → Option TC.S} (h : ∀ st, All (ls st) (OkS f st)) {sts : List Stmt} : All (lowSs ls sts) (OkSs f sts) := by
  induction sts with
  | nil => exact .so fun σ s K Q R w out => wpAny_execs_nil (out.nxt s σ R (Adv.refl _ _ _) w)
  | cons st sts ih => exact .bind fun a h1 => .map fun b h2 σ s K Q R w out => wpAny_execs_cons (h st a h1 σ s _ _ R w ⟨fun s' σ' R' ad w' => ih b h2 σ' s' K Q R' w' (out.from R W ad), fun s' v u σ' ρ R' r w' => out.ret s' v u σ' ρ R' r w'⟩)
theorem ite_case (W : WfF f) {t : Expr} {a b : List Stmt} {c : TC.E} {a' b' : Ss} (ht : OkF f t c) (ha : OkSs f a a') (hb : OkSs f b b') : OkS f (.If t a b pos) (.ite c a' b') := fun σ s K Q R w out =>
  wpAny_If ((ht σ s R).ts s _ _ (R.at W) w (fun u => bool_of) fun b s₁ a₁ x₁ w₁ => by
    have R₁ := R.step W x₁ a₁.same
    have out₁ := out.from R W (s₁ := s₁) (R.advStep x₁)
    cases b with
    | true => exact ha σ s₁ K Q R₁ w₁ out₁
    | false => exact hb σ s₁ K Q R₁ w₁ out₁)

/-! lists of the frame's own changed -/
/-- the list of a slot -/
inductive OwnL (f : Ff) (σ : Sg) (s : Shared) (x : Str) (i : Nat) (xs : List PyData) : Prop
  | mk (a : Addr) (vs : Array Value) (m : Nat) : varAt f.env s.heap x (.ref a) → σ.op i a → (∀ b, σ.op i b → b = a) → s.heap.get? a = some (listObj vs m) → PRs (f.hid σ) s.heap vs.toList xs → OwnL f σ s x i xs
theorem own_elim (R : StR f σ s) (hv : f.cx.var x = some i) {k : List PyData → Prop} {P : Prop} (w : ownS σ.ρ i k) (h : ∀ xs, (∀ s', StR f σ s' → OwnL f σ s' x i xs) → k xs → P) : P := by
  refine got_elim w fun su e1 w => got_elim w fun u e2 w => ?_
  cases u with
  | own y =>
    refine got_elim w fun xs e3 w => h xs (fun s' R' => ?_) w
    obtain ⟨v, va, a, rfl, h1, h2, r⟩ := R'.slots x i (var_inv hv).2.1 _ (e2 ▸ e1)
    rw [listOf_eq y xs e3] at r
    obtain ⟨vs, m, ho, r⟩ := r
    exact ⟨a, vs, m, va, h1, h2, ho, r⟩
  | _ => exact w.elim
theorem ns_uniq {h : Heap} {a : Addr} {m m' : Str → Option Value} (n : h.Ns a m) (n' : h.Ns a m') : m = m' := by
  obtain ⟨o1, es1, ep1, a1, a2, _, a3⟩ := n
  obtain ⟨o2, es2, ep2, b1, b2, _, b3⟩ := n'
  rw [a1] at b1; cases b1
  rw [a2] at b2; cases b2
  exact funext fun x => (a3 x).symm.trans (b3 x)
theorem varAt.uniq {env : Env} {h : Heap} {v v' : Value} (a : varAt env h x v) (b : varAt env h x v') : v = v' := by
  rcases a with ⟨k, m, n, q⟩ | ⟨k, z, e, o, q1, q2⟩ <;> rcases b with ⟨k', m', n', q'⟩ | ⟨k', z', e', o', q1', q2'⟩
  · rw [ns_uniq n n'] at q; exact Option.some.inj (q.symm.trans q')
  · rcases k' with k' | k' <;> rw [k] at k' <;> cases k'
  · rcases k with k | k <;> rw [k] at k' <;> cases k'
  · rw [e] at e'; cases e'
    rw [q1] at q1'; cases q1'
    rw [q2] at q2'; cases q2'; rfl
/-- the list of a slot changed -/
theorem StR.mut (R : StR f σ s) (W : WfF f) (hv : f.cx.var x = some i) {a : Addr} {vs ws : Array Value} {m m' : Nat} {ys : List PyData} (va : varAt f.env s.heap x (.ref a)) (h1 : σ.op i a) (h2 : ∀ b, σ.op i b → b = a) (ho : s.heap.get? a = some (listObj vs m)) (ho' : s'.heap.get? a = some (listObj ws m'))
    (k : ∀ b o, b ≠ a → s.heap.get? b = some o → s'.heap.get? b = some o) (sm : Same s s') (r : PRs (f.hid σ) s.heap ws.toList ys) : StR f (σ.put i (σ.op i) (.own (.list ys))) s' := by
  have hpl := (R.ops i a h1).1
  have ap : ∀ b, f.pls b → b ≠ a := fun b q z => (R.dpl a hpl).1 (z ▸ q)
  have vk : ∀ y w, varAt f.env s.heap y w → varAt f.env s'.heap y w := fun y w va => va.imp (fun ⟨q, mm, nn, hv⟩ => ⟨q, mm, nn.at' fun o e => k _ o (ap _ (.inl rfl)) e, hv⟩) fun ⟨q, b, hb, o, q1, q2⟩ => ⟨q, b, hb, o, k b o (ap b (.inr ⟨y, W.cells y b hb⟩)) q1, q2⟩
  refine R.put W (var_inv hv).2.1 (Z := (· = a)) k sm (fun b q => q ▸ ⟨.inl hpl, R.newl a hpl, _, ho, nofun⟩) (R.fm.on fun b o q e => k b o (ap b q) e) (fun b _ q => q ▸ ⟨⟨_, ho', .list _ _⟩, _, ho', nofun⟩) (fun b q => ⟨(R.ops i b q).1, h2 b q ▸ ⟨_, ho', nofun⟩⟩) (fun j ne b q => R.dis i j (Ne.symm ne) b q) (fun j ne b q z => R.dis j i ne b q (z ▸ h1)) (vk x _ va) (fun y w _ => vk y w)
    ⟨a, rfl, h1, h2, ws, m', ho', r.move fun b o n e => ⟨n, k b o (fun z => n (.inl (z ▸ hpl))) e⟩⟩
theorem Adv.mut (R : StR f σ s) (x₁ : Ext f.fr s.heap s₁.heap) {a : Addr} {h' : Heap} (h1 : σ.op i a) (k : ∀ b o, b ≠ a → s₁.heap.get? b = some o → h'.get? b = some o) : Adv f σ s.heap (σ.put i (σ.op i) u) h' :=
  (R.advStep x₁).put (Z := (· = a)) k (fun b q => .inr (q ▸ h1)) fun b q => .inr q
/-- a method of the list of a name's own, of one argument -/
theorem meth_ok (W : WfF f) {name : Str} {id : String} {arg : Expr} {e : TC.E} {apos np pos' : Pos} {Q' : V → Prop} {xs : List PyData} (hline : (apos.endLine == pos.line) = true) (hv : f.cx.var x = some i) (he : OkF f arg e) (sl : Slot "list" name id) (hty : typeOf (.builtin id) = pure (.type "method_descriptor")) (R : StR f σ s)
    (ol : ∀ s', StR f σ s' → OwnL f σ s' x i xs) (w : wpE (ΦF f) f.hm (f.X · σ.ρ) e σ.ρ Q')
    (k : ∀ a vs m v s' u, At (f.ec σ s) s' → Ext f.fr s.heap s'.heap → (f.ec σ s).R s' v u → Q' u → varAt f.env s'.heap x (.ref a) → σ.op i a → (∀ b, σ.op i b → b = a) → s'.heap.get? a = some (listObj vs m) → PRs (f.hid σ) s'.heap vs.toList xs → f.wp (call (.builtin id) [.ref a, v]) (fun _ => Q .next) s') :
    f.wp (exec (.Expr (.Call (.Attribute (.Name x np) name apos) [arg] [] pos) pos') f.env) Q s := by
  obtain ⟨h1, h2, h3⟩ := var_inv hv
  obtain ⟨a, vs, m, va, o1, o2, ho, r⟩ := ol s R
  refine wpAny_Expr_any ?_ (quiet_env W) rfl
  have hl : s.heap.IsList a vs := ⟨_, ho, rfl, m, rfl⟩
  refine Call_method1 rfl ((he σ s R).pl _ _) hline (load_var (c := f.ec σ s) W.envok h1 va ⟨"list", id, PySem.F.plainAttrs_list, sl, hty, hl.typeIs, fun b e => ?_, ?_⟩)
  · cases e; exact ⟨_, ho, rfl⟩
  · refine Calls.callWith_builtin rfl (Calls.evalArgs_plain (Calls.spliced_cons ((he σ s R).ev s _ _ (R.at W) w fun v s' u a' x' r w => Calls.spliced_nil ?_)))
    obtain ⟨b, vs', m', vb, p1, p2, hb, r'⟩ := ol s' (R.step W x' a'.same)
    cases vb.uniq (va.ext x')
    exact k a vs' m' v s' u a' x' ‹_› w vb p1 p2 hb r'
theorem app_case (W : WfF f) (T : Thr f) {arg : Expr} {e : TC.E} {apos np pos' : Pos} (hline : (apos.endLine == pos.line) = true) (hv : f.cx.var x = some i) (he : OkF f arg e) : OkS f (.Expr (.Call (.Attribute (.Name x np) "append" apos) [arg] [] pos) pos') (.app i e) := fun σ s K Q R w out =>
  own_elim R hv w fun xs ol w => meth_ok W hline hv he PySem.slot_list_append PySem.F.type_list_append R ol w fun a vs m v s' u a' x' r w va o1 o2 ho rs => got_elim w fun y e1 w => by
    refine append_ok ho (by rw [rs.size]; exact lim_nat w.1 (by rw [sizeLine_eq]; decide)) fun h2 n2 e2 k2 => ?_
    refine out.nxt { s' with heap := h2 } _ ((R.step W x' a'.same).mut W hv (s' := { s' with heap := h2 }) va o1 o2 ho e2 k2 ⟨rfl, rfl⟩ ?_) (Adv.mut R x' o1 k2) w.2
    rw [Array.toList_push]
    exact PRs.append (.cons ((R.wf W T).keep a'.toAtC r y e1) .nil) rs
theorem PRs.set {P : AP} {h : Heap} {vs : List Value} {xs : List PyData} (r : PRs P h vs xs) {v : Value} {y : PyData} (q : PR P h v y) (j : Nat) : PRs P h (vs.set j v) (xs.set j y) :=
  PRs.of (by rw [List.length_set, List.length_set, r.length]) fun k w z e1 e2 => by
    rw [List.getElem?_set] at e1 e2
    by_cases c : j = k
    · rw [if_pos c] at e1 e2
      split at e1
      · rw [if_pos (r.length ▸ ‹_›)] at e2; cases e1; cases e2; exact q
      · cases e1
    · rw [if_neg c] at e1 e2; exact r.at k w z e1 e2
theorem set_case (W : WfF f) (T : Thr f) {kx val : Expr} {k' v' : TC.E} {np sp : Pos} (hv : f.cx.var x = some i) (hk : OkF f kx k') (he : OkF f val v') (hs : swapsWith val (some (.Subscript (.Name x np) kx sp)) pos.line f.env = pure false) : OkS f (.Assign [.Subscript (.Name x np) kx sp] val pos) (.set i k' v') := fun σ s K Q R w out =>
  own_elim R hv w fun xs ol w => wpAny_Assign_Subscript ((he σ s R).ev s _ _ (R.at W) w fun v s₁ u a₁ x₁ r w₁ => by
    have R₁ := R.step W x₁ a₁.same
    obtain ⟨a, vs, m, va, o1, o2, ho, rs⟩ := ol s₁ R₁
    refine load_var (c := f.ec σ s) W.envok (var_inv hv).1 va ((hk σ s₁ R₁).ev s₁ _ _ (R₁.at W) w₁ fun vk s₂ uk a₂ x₂ rk w₂ => got_elim w₂ fun y e1 w => got_elim w fun j e2 w => ?_)
    obtain ⟨t, rfl⟩ := rk.int e2
    have R₂ := R₁.step W x₂ a₂.same
    obtain ⟨b, vs', m', vb, p1, p2, hb, rs'⟩ := ol s₂ R₂
    cases vb.uniq (va.ext x₂)
    have Wc := R.wf W T
    have A2 := Wc.go a₁ x₂ a₂.same
    have hj := w.1.2.2
    rw [lim_eq] at hj
    refine setitem_ok hb w.1.1 (by rw [rs'.size]; exact w.1.2.1) (by omega) fun h3 n3 e3 k3 => ?_
    refine out.nxt { s₂ with heap := h3 } _ (R₂.mut W hv (s' := { s₂ with heap := h3 }) vb p1 p2 hb e3 k3 ⟨rfl, rfl⟩ ?_) (Adv.mut R (x₁.trans x₂) p1 k3) w.2
    rw [Array.toList_setIfInBounds]
    exact rs'.set (Wc.keep A2.toAtC (Wc.R r x₂) y e1) _) hs
theorem ret2_case (W : WfF f) (T : Thr f) {e2 : Expr} {e : TC.E} {tn : Nat} {np tp : Pos} (hv : f.cx.var x = some i) (he : OkF f e2 e) : OkS f (.Return (some (.Tuple [.Name x np, e2] tn tp)) pos) (.ret2 i e) := fun σ s K Q R w out =>
  own_elim R hv w fun xs ol w => wpAny_Return_some (Tuple_ (by
    obtain ⟨a, vs, m, va, o1, o2, ho, r⟩ := ol s R
    refine args_cons (load_var (c := f.ec σ s) W.envok (var_inv hv).1 va (args_cons ((he σ s R).ev s _ _ (R.at W) w fun v s₁ u a₁ x₁ r₁ w₁ => args_nil (got_elim w₁ fun y e1 w => ?_)) ((he σ s R).pl _ _))) rfl
    have R₁ := R.step W x₁ a₁.same
    obtain ⟨b, vs', m', vb, p1, p2, hb, r'⟩ := ol s₁ R₁
    cases vb.uniq (va.ext x₁)
    refine wpAny_newObj_type ?_ (fits [.ref a, v] (show 2 < 1000 by decide))
    have nt := size_none s₁.heap
    refine out.ret { s₁ with heap := _ } _ (.ot (.list xs) y) σ σ.ρ (R₁.step W (Ext.of (keep_push _ _)) ⟨rfl, rfl⟩) ⟨_, a, v, 0, rfl, R₁.ext.gone nt, R.newl a (R.ops i a o1).1, Heap.get?_push_size _ rfl, vs', m', keep_push _ _ a _ hb, r'.move fun b o n e => ⟨fun q => n (q.elim (fun q => .inl (q ▸ (R.ops i a o1).1)) .inr), keep_push _ _ b o e⟩⟩ w))
theorem insert_ok {prog : Program} {w : World} {A : Around} {E : Value → Shared → Prop} {l : Addr} {vs : Array Value} {n : Nat} {k : Int} {t : Tok} {y : Value} {Q : Value → Shared → Prop} (ho : s.heap.get? l = some (listObj vs n)) (h0 : 0 ≤ k) (hk : k < lim) (hz : vs.size < lim)
    (h : ∀ h' ws n', h'.get? l = some (listObj ws n') → ws.toList = (vs.toList.take k.toNat ++ [y]) ++ vs.toList.drop k.toNat → (∀ b o, b ≠ l → s.heap.get? b = some o → h'.get? b = some o) → Q .none { s with heap := h' }) : wpAny (model prog w) A (call (.builtin "list.insert") [.ref l, .int k t, y]) Q E s := by
  rw [lim_eq] at hk hz
  refine call_meets PySem.F.slot_list_insert ⟨_, ho, rfl⟩ PySem.F.entry_list_insert (PySem.F.args_list_insert_3 _ _ _) (PySem.AutoSeq1.list_insert_list_int_val_1 l vs n k t y (by rw [fitsIndex_of h0 (by omega)]; decide) (by rw [sizeLine_eq]; omega)) ⟨ho, ?_⟩
  let g : Array Value → Array Value := fun xs => have k := if k < 0 then (k + (xs.size : Int)).toNat else min k.toNat xs.size; (xs.extract 0 k).push y ++ xs.extract k
  obtain ⟨n', hd'⟩ := Obj.data_mapSeq (o := listObj vs n) rfl g
  have e := Heap.get?_update_self (Obj.mapSeq g) ho (Obj.isFreed_of_seq hd')
  have eo : Obj.mapSeq g (listObj vs n) = listObj (g vs) n' := by
    unfold Obj.mapSeq at hd' ⊢
    simp only at hd' ⊢
    injection hd' with _ q
    rw [← q]
  rw [eo] at e
  refine h _ _ n' e ?_ fun b o hb e => (Heap.get?_update_other _ _ (Ne.symm hb)).trans e
  have k' : (if k < 0 then (k + (vs.size : Int)).toNat else min k.toNat vs.size) = min k.toNat vs.size := if_neg (by omega)
  show ((vs.extract 0 (if k < 0 then (k + (vs.size : Int)).toNat else min k.toNat vs.size)).push y ++ vs.extract (if k < 0 then (k + (vs.size : Int)).toNat else min k.toNat vs.size)).toList = _
  rw [k', Array.toList_append, Array.toList_push, Array.toList_extract, Array.toList_extract]
  simp only [List.extract_eq_take_drop, List.drop_zero, Nat.sub_zero]
  by_cases c : k.toNat ≤ vs.size
  · rw [Nat.min_eq_left c, List.take_of_length_le (l := vs.toList.drop _) (by rw [List.length_drop, Array.length_toList]; exact Nat.le_refl _)]
  · rw [Nat.min_eq_right (by omega), List.take_of_length_le (by rw [Array.length_toList]; exact Nat.le_refl _), List.take_of_length_le (i := k.toNat) (by rw [Array.length_toList]; omega), List.drop_of_length_le (i := vs.size) (by rw [Array.length_toList]; exact Nat.le_refl _), List.drop_of_length_le (i := k.toNat) (by rw [Array.length_toList]; omega), List.take_nil]
theorem ins_case (W : WfF f) (T : Thr f) {kx arg : Expr} {k' e : TC.E} {apos np pos' : Pos} (hline : (apos.endLine == pos.line) = true) (hv : f.cx.var x = some i) (hk : OkF f kx k') (he : OkF f arg e) : OkS f (.Expr (.Call (.Attribute (.Name x np) "insert" apos) [kx, arg] [] pos) pos') (.ins i k' e) := fun σ s K Q R w out =>
  own_elim R hv w fun xs ol w => by
    obtain ⟨a, vs, m, va, o1, o2, ho, r⟩ := ol s R
    have hl : s.heap.IsList a vs := ⟨_, ho, rfl, m, rfl⟩
    refine wpAny_Expr_any ?_ (quiet_env W) rfl
    refine Call_method2 rfl (by rw [(hk σ s R).pl, (he σ s R).pl]; rfl) hline (load_var (c := f.ec σ s) W.envok (var_inv hv).1 va ⟨"list", "list.insert", PySem.F.plainAttrs_list, PySem.F.slot_list_insert, PySem.F.type_list_insert, hl.typeIs, fun b e => ?_, ?_⟩)
    · cases e; exact ⟨_, ho, rfl⟩
    · refine Calls.callWith_builtin rfl (Calls.evalArgs_plain (Calls.spliced_cons ((hk σ s R).ev s _ _ (R.at W) w fun vk s₁ uk a₁ x₁ rk w₁ => Calls.spliced_cons ?_)))
      have R₁ := R.step W x₁ a₁.same
      refine (he σ s₁ R₁).ev s₁ _ _ (R₁.at W) w₁ fun v s₂ u a₂ x₂ rv w₂ => Calls.spliced_nil (got_elim w₂ fun j e1 w => got_elim w fun y e2 w => ?_)
      obtain ⟨t, rfl⟩ := rk.int e1
      have R₂ := R₁.step W x₂ a₂.same
      obtain ⟨b, vs', m', vb, p1, p2, hb, rs⟩ := ol s₂ R₂
      cases vb.uniq (va.ext (x₁.trans x₂))
      refine insert_ok hb w.1.1 w.1.2.1 (by rw [rs.size]; exact w.1.2.2) fun h3 ws n3 e3 ew k3 => ?_
      refine out.nxt { s₂ with heap := h3 } _ (R₂.mut W hv (s' := { s₂ with heap := h3 }) vb p1 p2 hb e3 k3 ⟨rfl, rfl⟩ ?_) (Adv.mut R (x₁.trans x₂) p1 k3) w.2
      rw [ew]
      exact PRs.append (rs.drop _) (PRs.append (.cons ((R₁.wf W T).keep a₂.toAtC rv y e2) .nil) (rs.take _))
end
end TC

namespace TC
open PySem PySem.W PyProof.Rows

/-! Exceptions on their way. -/
structure Sk (B : Heap) (A : Around) (h : Heap) (envs : List Env) : Prop where
  frames : A.frames = some envs
  funs : h.FunFrames B envs
section
variable {B : Heap} {A : Around} {E : Value → Shared → Prop} {s : Shared} {fr : AP} {outer : List Env} {env : Env} {L e C : Addr} {h₀ : Heap} {fl : Value} {M : Model}
theorem Sk.slots {envs : List Env} {h h' : Heap} (k : Heap.SlotsOnly (envs.filterMap (·.frame)) h h') : Ext (frOf envs) h h' := fun b o q => ⟨fun hb => (k.2.1 b hb).trans q, let ⟨sl, z⟩ := k.2.2 b o q; ⟨sl, z⟩⟩
theorem Sk.notFields {envs : List Env} {h : Heap} (S : Sk B A h envs) {b : Addr} {o : Obj} {vs : Array Value} (q : h.get? b = some o) (d : o.data = .fields vs) : ¬ frOf envs b := fun hb => by
  obtain ⟨_, o', ho, hnf⟩ := S.funs.mem hb
  rw [q] at ho; cases ho; exact hnf vs d
/-- records may have changed in their fields, frames in their slots -/
noncomputable def Nt (fr : AP) (h h' : Heap) : Prop := ∀ b o, h.get? b = some o → ((∀ vs, o.data ≠ .fields vs) → (¬ fr b → h'.get? b = some o) ∧ ∃ sl, h'.get? b = some { o with slots := sl }) ∧
  ∀ vs, o.data = .fields vs → ∃ o' vs', h'.get? b = some o' ∧ o'.cls = o.cls ∧ o'.dict = o.dict ∧ o'.data = .fields vs' ∧ vs'[2]? = vs[2]?
theorem Nt.refl (fr : AP) (h : Heap) : Nt fr h h := fun b o e => ⟨fun _ => ⟨fun _ => e, o.slots, e⟩, fun vs d => ⟨o, vs, e, rfl, rfl, d, rfl⟩⟩
theorem Nt.trans {fr : AP} {h₁ h₂ h₃ : Heap} (x : Nt fr h₁ h₂) (y : Nt fr h₂ h₃) : Nt fr h₁ h₃ := fun b o e => by
  refine ⟨fun nf => ?_, fun vs d => ?_⟩
  · obtain ⟨x1, sl, x2⟩ := (x b o e).1 nf
    obtain ⟨y1, sl', y2⟩ := (y b _ x2).1 nf
    exact ⟨fun hb => ((y b o (x1 hb)).1 nf).1 hb, sl', y2⟩
  · obtain ⟨o1, vs1, e1, c1, d1, f1, g1⟩ := (x b o e).2 vs d
    obtain ⟨o2, vs2, e2, c2, d2, f2, g2⟩ := (y b o1 e1).2 vs1 f1
    exact ⟨o2, vs2, e2, c2.trans c1, d2.trans d1, f2, g2.trans g1⟩
theorem Nt.ext {fr : AP} {h h' : Heap} (x : Ext fr h h') : Nt fr h h' := fun b o e => ⟨fun _ => ⟨(x b o e).1, (x b o e).2⟩, fun vs d => let ⟨sl, q⟩ := (x b o e).2; ⟨_, vs, q, rfl, rfl, d, rfl⟩⟩
theorem Nt.field {fr : AP} {h : Heap} {e : Addr} {oe : Obj} {vs : Array Value} {k : Nat} {w : Value} (he : h.get? e = some oe) (hd : oe.data = .fields vs) (hk : k ≠ 2) : Nt fr h (h.update e (Obj.mapFields (·.setIfInBounds k w))) := fun b o q => by
  by_cases z : b = e
  · subst z
    rw [he] at q; cases q
    refine ⟨fun nf => absurd hd (nf vs), fun vs' d => ?_⟩
    rw [hd] at d; cases d
    have hd₃ := Obj.data_mapFields hd (·.setIfInBounds k w)
    refine ⟨_, _, Heap.get?_update_self _ he (Obj.isFreed_of_fields hd₃), Obj.cls_mapFields _ _, ?_, hd₃, by rw [Array.getElem?_setIfInBounds_ne hk]⟩
    unfold Obj.mapFields; split <;> rfl
  · have e1 := (Heap.get?_update_other h (Obj.mapFields (·.setIfInBounds k w)) (Ne.symm z)).trans q
    exact ⟨fun _ => ⟨fun _ => e1, o.slots, e1⟩, fun vs d => ⟨o, vs, e1, rfl, rfl, d, rfl⟩⟩

theorem entry_ok {oe : Obj} {vs : Array Value} {head : Value} {hadNext : Bool} {Q : Unit → Shared → Prop} (S : Sk B A s.heap (env :: outer)) (hfr : frOf (env :: outer) = fr) (hf : env.frame = some L) (x : Ext fr h₀ s.heap) (n : h₀.get? e = none)
    (he : s.heap.get? e = some oe) (hc : oe.cls = .ref C) (hdi : oe.dict = none) (hd : oe.data = .fields vs) (hsz : 1 < vs.size) (h2 : vs[2]? = some .none) (h : ∀ h', Ext fr h₀ h' → Fly h₀ e C (rawInt L) h' → Nt fr s.heap h' → Q () { s with heap := h' }) :
    wpAny M A (do let a ← frameOf env; let pl ← entryPlaceOf L hadNext; let b ← EntryCells.newEntry head a .none (rawInt L) .none pl; setField (.ref e) 1 b) Q E s := by
  refine wpAny_bind (wpAny_frameOf_fun S.frames S.funs hf fun h₁ hs₁ => ?_)
  have X1 : Ext fr s.heap h₁ := hfr ▸ Sk.slots hs₁
  refine wpAny_bind (wpAny_entryPlaceOf fun pl hpl => ?_)
  unfold EntryCells.newEntry newFields
  refine wpAny_bind (wpAny_newObj_type ?_ (hpl.sizeOk5 _ _ _ _ _))
  have he₁ : h₁.get? e = some oe := (X1 e oe he).1 (hfr ▸ S.notFields he hd)
  have he₂ := Heap.get?_push_of_some (h := h₁) { cls := .type "traceback", dict := none, data := .fields ([head, .ref L, .none, rawInt L, .none] ++ (if pl.isEmpty then List.replicate 6 Value.none else pl)).toArray } he₁
  refine wpAny_setField he₂ hd hsz (h _ ?_ ?_ (((Nt.ext X1).trans (Nt.ext (Ext.of (keep_push _ _)))).trans (Nt.field he₂ hd (by decide))))
  · intro b o q
    have hbe : b ≠ e := fun z => by rw [z, n] at q; cases q
    have go : ∀ o', h₁.get? b = some o' → ((h₁.push { cls := .type "traceback", dict := none, data := .fields ([head, .ref L, .none, rawInt L, .none] ++ (if pl.isEmpty then List.replicate 6 Value.none else pl)).toArray }).update e (Obj.mapFields (·.setIfInBounds 1 (Value.ref h₁.objs.size)))).get? b = some o' := fun o' z => by
      rw [Heap.get?_update_other _ _ (Ne.symm hbe)]
      exact Heap.get?_push_of_some _ z
    obtain ⟨y1, sl, y2⟩ := (x.trans X1) b o q
    exact ⟨fun hb => go _ (y1 hb), sl, go _ y2⟩
  · have hTe : h₁.objs.size ≠ e := Nat.ne_of_gt (Heap.lt_size he₁)
    have hd₃ := Obj.data_mapFields hd (·.setIfInBounds 1 (Value.ref h₁.objs.size))
    have he₃ := Heap.get?_update_self (Obj.mapFields (·.setIfInBounds 1 (Value.ref h₁.objs.size))) he₂ (Obj.isFreed_of_fields hd₃)
    have hT₃ := (Heap.get?_update_other (h₁.push { cls := .type "traceback", dict := none, data := .fields ([head, .ref L, .none, rawInt L, .none] ++ (if pl.isEmpty then List.replicate 6 Value.none else pl)).toArray })
      (Obj.mapFields (·.setIfInBounds 1 (Value.ref h₁.objs.size))) (Ne.symm hTe)).trans (Heap.get?_push_size h₁ rfl)
    refine ⟨_, _, n, he₃, (Obj.cls_mapFields _ _).trans hc, ?_, hd₃, by rw [Array.getElem?_setIfInBounds_ne (by decide)]; exact h2, .at h₁.objs.size _ _ (by simp [hsz]) ((x.trans X1).gone (size_none h₁)) hTe hT₃ rfl (by first | (simp; done) | (rcases hpl with rfl | ⟨_, _, _, _, _, _, _, rfl⟩ <;> simp))⟩
    · unfold Obj.mapFields; split <;> exact hdi

theorem note_ok {Q : Unit → Shared → Prop} (S : Sk B A s.heap (env :: outer)) (hfr : frOf (env :: outer) = fr) (hf : env.frame = some L) (x : Ext fr h₀ s.heap) (F : Fly h₀ e C .none s.heap) (h : ∀ h', Ext fr h₀ h' → Fly h₀ e C (rawInt L) h' → Nt fr s.heap h' → Q () { s with heap := h' }) :
    wpAny M A (noteFrame (.ref e) env) Q E s := by
  obtain ⟨oe, vs, n, he, hc, hdi, hd, h2, F⟩ := F
  have hsz : 1 < vs.size := Nat.lt_of_succ_lt (Array.getElem?_eq_some_iff.mp h2).1
  unfold noteFrame
  simp only [hf]
  rcases F with ⟨_, h1⟩ | ⟨T, oT, ts, h1, hnT, hTe, hT, hdT, h3⟩
  · refine wpAny_bind (wpAny_field he hd h1 ?_)
    rw [if_neg (by decide)]
    exact entry_ok S hfr hf x n he hc hdi hd hsz h2 h
  · refine wpAny_bind (wpAny_field he hd h1 ?_)
    rw [if_pos (show (Value.ref T != Value.none) = true from by simp)]
    refine wpAny_bind (wpAny_field hT hdT h3 ?_)
    rw [if_neg (show ¬ ((Value.none == rawInt L) = true) from by simp [rawInt])]
    refine wpAny_bind (wpAny_setField hT hdT (Array.getElem?_eq_some_iff.mp h3).1 ?_)
    have other : ∀ b, b ≠ T → (s.heap.update T (Obj.mapFields (·.setIfInBounds 3 Value.none))).get? b = s.heap.get? b := fun b hb => Heap.get?_update_other _ _ (Ne.symm hb)
    have X : Ext fr h₀ (s.heap.update T (Obj.mapFields (·.setIfInBounds 3 Value.none))) := fun b o q => by
      have hb : b ≠ T := fun z => by rw [z, hnT] at q; cases q
      rw [other b hb]
      exact x b o q
    have S' : Sk B A (s.heap.update T (Obj.mapFields (·.setIfInBounds 3 Value.none))) (env :: outer) :=
      ⟨S.frames, S.funs.of_keeps fun b o q hnf => ⟨o, (other b fun z => by rw [z, hT] at q; cases q; exact hnf ts hdT).trans q, rfl⟩⟩
    exact entry_ok (s := { s with heap := s.heap.update T (Obj.mapFields (·.setIfInBounds 3 Value.none)) }) S' hfr hf X n ((other e (Ne.symm hTe)).trans he) hc hdi hd hsz h2 fun h' x1 x2 x3 => h h' x1 x2 ((Nt.field hT hdT (by decide)).trans x3)

theorem note_again {Q : Unit → Shared → Prop} (hf : env.frame = some L) (F : Fly h₀ e C (rawInt L) s.heap) (h : Q () s) : wpAny M A (noteFrame (.ref e) env) Q E s := by
  obtain ⟨oe, vs, n, he, hc, hdi, hd, h2, ⟨q, _⟩ | ⟨T, oT, ts, h1, hnT, hTe, hT, hdT, h3⟩⟩ := F
  · cases q
  · exact wpAny_noteFrame_inFlight hf he hd h1 hT hdT h3 h
theorem flight_ok {Q : Unit → Shared → Prop} {fo : Option Addr} (x : Ext fr h₀ s.heap) (F : Fly h₀ e C fl s.heap) (hf : fl = .none → fo = none) (h : ∀ h', Ext fr h₀ h' → Fly h₀ e C (fo.elim .none fun f => rawInt f) h' → Nt fr s.heap h' → Q () { s with heap := h' }) : wpAny M A (setFlight (.ref e) fo) Q E s := by
  obtain ⟨oe, vs, n, he, hc, hdi, hd, h2, F⟩ := F
  rcases F with ⟨z, h1⟩ | ⟨T, oT, ts, h1, hnT, hTe, hT, hdT, h3⟩
  · have := hf z; subst this
    unfold setFlight
    refine wpAny_bind (wpAny_field he hd h1 ?_)
    rw [if_neg (by decide)]
    exact wpAny_pure (h s.heap x ⟨oe, vs, n, he, hc, hdi, hd, h2, .no rfl h1⟩ (Nt.refl _ _))
  · have hsz : 3 < ts.size := (Array.getElem?_eq_some_iff.mp h3).1
    unfold setFlight
    refine wpAny_bind (wpAny_field he hd h1 ?_)
    rw [if_pos (show (Value.ref T != Value.none) = true from by simp)]
    refine wpAny_setField hT hdT hsz (h _ (fun b o q => ?_) ⟨oe, vs, n, (Heap.get?_update_other _ _ hTe).trans he, hc, hdi, hd, h2, .at T _ _ h1 hnT hTe (Heap.get?_update_self _ hT (Obj.isFreed_of_fields (Obj.data_mapFields hdT _))) (Obj.data_mapFields hdT _) (by simp [hsz])⟩ (Nt.field hT hdT (by decide)))
    have hb : b ≠ T := fun z => by rw [z, hnT] at q; cases q
    rw [Heap.get?_update_other _ _ (Ne.symm hb)]
    exact x b o q
theorem note_any {Q : Unit → Shared → Prop} (S : Sk B A s.heap (env :: outer)) (hfr : frOf (env :: outer) = fr) (hf : env.frame = some L) (x : Ext fr h₀ s.heap) (hl : fl = .none ∨ fl = rawInt L) (F : Fly h₀ e C fl s.heap) (h : ∀ h', Ext fr h₀ h' → Fly h₀ e C (rawInt L) h' → Nt fr s.heap h' → Q () { s with heap := h' }) :
    wpAny M A (noteFrame (.ref e) env) Q E s := by
  rcases hl with rfl | rfl
  · exact note_ok S hfr hf x F h
  · exact note_again hf F (h s.heap x F (Nt.refl _ _))
/-- an exception that comes back out of a loop -/
theorem back_ok {Q : Unit → Shared → Prop} (hf : env.frame = some L) (x : Ext fr h₀ s.heap) (F : Fly h₀ e C (rawInt L) s.heap) (h : ∀ h', Ext fr h₀ h' → Fly h₀ e C (rawInt L) h' → Nt fr s.heap h' → Q () { s with heap := h' }) :
    wpAny M A (do
      if (← field (.ref e) 1) == .none then unsupported "frame.own-activation:exception-without-traceback"
      setFlight (.ref e) env.frame) Q E s := by
  have F' := F
  obtain ⟨oe, vs, n, he, hc, hdi, hd, h2, ⟨z, h1⟩ | ⟨T, oT, ts, h1, hnT, hTe, hT, hdT, h3⟩⟩ := F
  · cases z
  · refine wpAny_bind (wpAny_field he hd h1 ?_)
    rw [if_neg (by simp)]
    rw [hf]
    exact flight_ok x F' (fun q => by cases q) h
theorem leave_ok {Q : Unit → Shared → Prop} (S : Sk B A s.heap (env :: outer)) (hfr : frOf (env :: outer) = fr) (hf : env.frame = some L) (x : Ext fr h₀ s.heap) (hl : fl = .none ∨ fl = rawInt L) (F : Fly h₀ e C fl s.heap) (h : ∀ h', Ext fr h₀ h' → Fly h₀ e C .none h' → Q () { s with heap := h' }) :
    wpAny M A (leaving env (.ref e)) Q E s := by
  unfold leaving
  exact wpAny_bind (note_any S hfr hf x hl F fun h' x' F' _ => flight_ok (fo := none) (s := { s with heap := h' }) x' F' (fun _ => rfl) fun h'' x'' F'' _ => h h'' x'' F'')

theorem made_fly {h h' : Heap} {args : List Value} (m : Heap.MadeExcOf h h' e (.ref C) args) : Fly h e C .none h' ∧ Ext fr h h' := by
  obtain ⟨k, n, t, h1, h2, h3⟩ := m
  exact ⟨⟨_, _, n, h1, rfl, rfl, rfl, rfl, .no rfl rfl⟩, Ext.of k⟩

end
section
variable {f : Ff} {σ : Sg} {s s' : Shared} {e C : Addr} {fl : Value}
theorem Nt.pr {P fr : AP} {h h' : Heap} (x : Nt fr h h') (sub : ∀ b, fr b → P b) {v : Value} {y : PyData} (r : PR P h v y) : PR P h' v y :=
  PR.rec (motive_1 := fun v x _ => PR P h' v x) (motive_2 := fun vs xs _ => PRs P h' vs xs) .non .bool .int .str
    (fun n e _ r => .list n (((x _ _ e).1 nofun).1 fun q => n (sub _ q)) r) (fun n e _ r => .tuple n (((x _ _ e).1 nofun).1 fun q => n (sub _ q)) r) (fun n e _ _ d r q => .dict n (((x _ _ e).1 nofun).1 fun q => n (sub _ q)) r q d) .nil (fun _ _ a b => .cons a b) r
theorem Nt.prs {P fr : AP} {h h' : Heap} (x : Nt fr h h') (sub : ∀ b, fr b → P b) {vs : List Value} {xs : List PyData} (r : PRs P h vs xs) : PRs P h' vs xs :=
  PRs.of r.length.symm.symm (fun k v y e1 e2 => x.pr sub (r.at k v y e1 e2))
theorem Nt.is {fr : AP} {h h' : Heap} (x : Nt fr h h') {b : Addr} (i : Is h b) : Is h' b := by
  obtain ⟨o, e, n⟩ := i
  by_cases q : ∀ vs, o.data ≠ .fields vs
  · obtain ⟨_, sl, e'⟩ := (x b o e).1 q
    exact ⟨_, e', n⟩
  · obtain ⟨vs, q⟩ := Classical.not_forall.mp q
    obtain ⟨o', vs', e', _, _, d, _⟩ := (x b o e).2 vs (Classical.not_not.mp q)
    exact ⟨o', e', .of d⟩
theorem Nt.nr {fr : AP} {h h' : Heap} (x : Nt fr h h') {b : Addr} (i : NR h b) : NR h' b := by
  obtain ⟨o, e, n⟩ := i
  obtain ⟨_, sl, e'⟩ := (x b o e).1 n
  exact ⟨_, e', n⟩
/-- records noted, all else as it was -/
theorem StR.noted (R : StR f σ s) (W : WfF f) (x0 : Ext f.fr f.h₀ s'.heap) (m : Same s s') (x : Nt f.fr s.heap s'.heap) : StR f σ s' := by
  have ns : ∀ {a : Addr} {m : Str → Option Value}, s.heap.Ns a m → s'.heap.Ns a m := fun n => by
    obtain ⟨o, es, ep, ho, hd, r⟩ := n
    obtain ⟨_, sl, e'⟩ := (x _ o ho).1 fun vs q => by rw [hd] at q; cases q
    exact ⟨_, es, ep, e', hd, r⟩
  have cell : ∀ {a : Addr} {v : Option Value}, s.heap.IsCell a v → s'.heap.IsCell a v := fun n => by
    obtain ⟨o, ho, hd⟩ := n
    obtain ⟨_, sl, e'⟩ := (x _ o ho).1 fun vs q => by rw [hd] at q; cases q
    exact ⟨_, e', hd⟩
  obtain ⟨mm, nn⟩ := R.fm.ns
  refine ⟨x0.down (Ext.refl _ _) (fun b q n => ((fr_cons W).mp q).elim (fun q => W.newp b (.inl q)) fun q => absurd q n), R.same.trans m, ⟨R.fm.kf, ⟨mm, ns nn⟩, fun y a e => let ⟨w, z⟩ := R.fm.cell y a e; ⟨w, cell z⟩, R.fm.look, R.fm.inj⟩, ?_, R.newl, fun b q => ⟨(R.dpl b q).1, x.is (R.dpl b q).2⟩, fun i b q => ⟨(R.ops i b q).1, x.nr (R.ops i b q).2⟩, R.dis, R.len, fun y i hy u hu => ?_⟩
  · rcases R.hok with q | ⟨q, a, e1, o, vs, q1, q2, q3⟩
    · exact .inl q
    · obtain ⟨o', vs', p1, _, _, p4, p5⟩ := (x a o q1).2 vs q2
      exact .inr ⟨q, a, e1, o', vs', p1, p4, p5.trans q3⟩
  · obtain ⟨v, va, r⟩ := R.slots y i hy u hu
    refine ⟨v, va.imp (fun ⟨q, m, n, hv⟩ => ⟨q, m, ns n, hv⟩) fun ⟨q, b, hb, z⟩ => ⟨q, b, hb, cell z⟩, ?_⟩
    cases u with
    | d y => exact x.pr W.sub r
    | own y =>
      obtain ⟨a, e, h1, h2, r⟩ := r
      have af := R.plfr W (R.ops i a h1).1
      refine ⟨a, e, h1, h2, ?_⟩
      cases y with
      | list xs => obtain ⟨vs, n, e, q⟩ := r; exact ⟨vs, n, ((x a _ e).1 nofun).1 af, x.prs W.sub q⟩
      | dict kvs => obtain ⟨vs, n, e, q1, q2, q3⟩ := r; exact ⟨vs, n, ((x a _ e).1 nofun).1 af, x.prs W.sub q1, x.prs W.sub q2, q3⟩
      | _ => exact r.elim
    | brw y => exact r
    | exc j =>
      obtain ⟨a, o, vs, C, h1, h2, h3, h4, h5, h6⟩ := r
      obtain ⟨o', vs', p1, p2, p3, p4, p5⟩ := (x a o h3).2 vs h6
      exact ⟨a, o', vs', C, h1, h2, p1, p2.trans h4, p3.trans h5, p4⟩
    | _ => exact r.elim
theorem StR.sk (R : StR f σ s) (W : WfF f) : Sk f.G.B f.A s.heap (f.env :: f.envs0) := ⟨W.frames, (R.stk W).1⟩
theorem StR.extF (R : StR f σ s) (W : WfF f) : Ext f.fr f.h₀ s.heap := R.ext.mono fun b q => (fr_cons W).mpr (.inr q)
/-- an exception goes out of the body of a loop -/
theorem loopExc (W : WfF f) (T : Thr f) {k : Nat} (R : StR f σ s) (hC : f.G.ca[k]? = some C) (hl : fl = .none ∨ fl = rawInt f.env.locals) (F : Fly f.h₀ e C fl s.heap) (hx : f.X k σ.ρ) : notedBy (model f.G.prog f.G.w) f.A f.env (fun e s' => cameBackBy (model f.G.prog f.G.w) f.A f.env f.E e s') (.ref e) s := by
  unfold notedBy
  refine note_any (R.sk W) rfl W.frame (R.extF W) hl F fun h1 x1 F1 n1 => ?_
  unfold cameBackBy
  refine back_ok (s := { s with heap := h1 }) W.frame x1 F1 fun h2 x2 F2 n2 => ?_
  exact T e { s with heap := h2 } k C _ σ (R.noted W (s' := { s with heap := h2 }) x2 ⟨rfl, rfl⟩ (n1.trans n2)) hC (.inr rfl) F2 hx
end
end TC

namespace TC
open PySem PySem.W PyProof.Rows

/-! Many names bound at once. -/
/-- if the value may be kept, it is the datum that is kept -/
noncomputable def Kp (P : AP) (h : Heap) (v : Value) (u : V) : Prop := ∀ x, kp u = some x → PR P h v x
theorem vars_each {cx : Cx} {env : Env} {es : List Expr} : All (lowVars cx es) fun is => assignEach es env = es.map (fun e => (false, assign e env)) ∧ is.length = es.length := by
  induction es with
  | nil => exact .so ⟨rfl, rfl⟩
  | cons e es ih =>
    refine .bind fun x h1 => .bind fun i _ => .map fun is h2 => ?_
    obtain ⟨p, rfl⟩ := name_eq e x h1
    exact ⟨congrArg ((false, assign (.Name x p) env) :: ·) (ih is h2).1, congrArg Nat.succ (ih is h2).2⟩
theorem each_no_star {α : Type} (es : List Expr) (g : Expr → α) : (es.map fun e => (false, g e)).findIdx? (·.1) = none := by
  induction es with
  | nil => rfl
  | cons p l ih => rw [List.map_cons, List.findIdx?_cons, ih]; rfl
section
variable {f : Ff} {σ σ' σ₁ : Sg} {s s₁ s' : Shared} {h' : Heap} {v : Value} {u : V} {K : KS} {Q : PySem.Flow → Shared → Prop} {x : Str} {i : Nat} {pos p : Pos}
theorem StR.kp (R : StR f σ s) (W : WfF f) (T : Thr f) (a : At (f.ec σ s) s₁) (r : (f.ec σ s).R s₁ v u) : Kp (f.hid σ) s₁.heap v u := fun x e => (R.wf W T).keep a.toAtC r x e
theorem StR.mv (R : StR f σ s) (W : WfF f) (a : Adv f σ s.heap σ' h') : Mv (f.hid σ) (f.hid σ') s.heap h' := fun b o n e =>
  ⟨a.out b o n e, (a.keep b o (fun z => n (W.sub b z)) (fun z => n (.inr (.inl z))) (fun i z => n (.inl (R.ops i b z).1)) e).1⟩
theorem Kp.move {P P' : AP} {h h' : Heap} (r : Kp P h v u) (k : Mv P P' h h') : Kp P' h' v u := fun x e => PR.move k (r x e)
/-- a datum stored -/
theorem StR.storeD (R : StR f σ s) (W : WfF f) (hv : f.cx.var x = some i) {y : PyData} (r : PR (f.hid σ) s.heap v y) {M : Model} {A : Around} {E : Value → Shared → Prop} {Q : Unit → Shared → Prop}
    (h : ∀ s', StR f (σ.put i (fun _ => False) (.d y)) s' → Adv f σ s.heap (σ.put i (fun _ => False) (.d y)) s'.heap → Q () s') : wpAny M A (storeName f.env x v) Q E s :=
  R.store W hv (P := fun _ => False) (u := .d y) r (fun _ q => q.elim) (fun _ _ _ q => q.elim) fun s' R' k => h s' R' ((Adv.refl f σ s.heap).put k (fun b q => .inl q) fun _ q => q.elim)
theorem stores_ok (W : WfF f) {M : Model} {A : Around} {E : Value → Shared → Prop} {Q : Unit → Shared → Prop} {k : Rho → Prop} {es : List Expr} : ∀ {is : List Nat} {us : List V} {vs : List Value} {σ : Sg} {s : Shared}, lowVars f.cx es = some is → StR f σ s → Rs (Kp (f.hid σ) s.heap) vs us → setAll σ.ρ k is us →
    (∀ s' σ', StR f σ' s' → Adv f σ s.heap σ' s'.heap → k σ'.ρ → Q () s') → wpAny M A (assignInOrder (es.map fun e => assign e f.env) vs) Q E s := by
  induction es with
  | nil =>
    intro is us vs σ s e R r w h
    cases e
    cases r with
    | nil => exact wpAny_pure (h s σ R (Adv.refl _ _ _) w)
    | cons => exact w.elim
  | cons e es ih =>
    intro is us vs σ s he R r w h
    suffices key : All (lowVars f.cx (e :: es)) fun is => setAll σ.ρ k is us → wpAny M A (assignInOrder ((e :: es).map fun e => assign e f.env) vs) Q E s from key is he w
    refine .bind fun x h1 => .bind fun i h2 => .map fun is h3 w => ?_
    obtain ⟨p, rfl⟩ := name_eq e x h1
    cases r with
    | nil => exact w.elim
    | cons a b =>
      refine got_elim w fun y e1 w => ?_
      refine wpAny_bind (wpAny_holding (wpAny_bind (wpAny_standAt (wpAny_bindName (R.storeD W h2 (a y e1) fun s' R' a' => ?_)))))
      exact ih h3 R' (b.imp fun v u q => q.move (R.mv W a')) w fun s2 σ2 R2 a2 hk => h s2 σ2 R2 (R.adv W a' a2) hk
theorem tuple_take (W : WfF f) (R : StR f σ s) {es : List Expr} {is : List Nat} (lv : lowVars f.cx es = some is) {t : Addr} {items : Array Value} {m n : Nat} {us : List V} (ho : s.heap.get? t = some (tupObj items m)) (r : Rs (Kp (f.hid σ) s.heap) items.toList us) (hl : us.length = is.length)
    {k : Rho → Prop} (w : setAll σ.ρ k is us) {E : Value → Shared → Prop} {Q : Unit → Shared → Prop} (h : ∀ s' σ', StR f σ' s' → Adv f σ s.heap σ' s'.heap → k σ'.ρ → Q () s') : wpAny (model f.G.prog f.G.w) f.A (assign (.Tuple es n p) f.env (.ref t)) Q E s := by
  obtain ⟨h1, h2⟩ := vars_each (env := f.env) is lv
  rw [arm_assign_Tuple, h1]
  have l3 : (es.map fun e => (false, assign e f.env)).length = items.size := by
    rw [List.length_map, ← h2, ← hl, ← r.length, Array.length_toList]
  refine wpAny_bind (wpAny_standAt (unpack_ok R.hok ho l3 (each_no_star _ _) fun h2 k2 => ?_))
  rw [List.map_map]
  have x2 : Ext f.fr s.heap h2 := Ext.of k2
  have R2 := R.step W (s' := { s with heap := h2 }) x2 ⟨rfl, rfl⟩
  exact stores_ok W lv R2 (r.imp fun v u q => q.move fun b o n e => ⟨n, k2 b o e⟩) w fun s' σ' R' a' hk => h s' σ' R' (R.adv W (R.advStep x2) a') hk
theorem unp_case (W : WfF f) (T : Thr f) {ts : List Expr} {n : Nat} {tp : Pos} {val : Expr} {is : List Nat} {e : TC.E} (lv : lowVars f.cx ts = some is) (he : OkF f val e) (hs : swapsWithSole [.Tuple ts n tp] val pos.line f.env = pure false) (hw : swappedStores [.Tuple ts n tp] val f.env = pure none) : OkS f (.Assign [.Tuple ts n tp] val pos) (.unp is e) := fun σ s K Q R w out =>
  wpAny_Assign_stores ((he σ s R).ev s _ _ (R.at W) w fun v s₁ u a₁ x₁ r w₁ => got_elim w₁ fun us e1 w => by
    obtain ⟨t, items, m, rfl, ho, nf, rs⟩ := parts_ok (R.wf W T).toWfC a₁.toAtC r is.length us e1
    show f.wp (assign (.Tuple ts n tp) f.env (.ref t)) _ s₁
    exact tuple_take W (R.step W x₁ a₁.same) lv ho (rs.imp fun v u q => R.kp W T a₁ q) (parts_length us e1) w fun s' σ' R' a' hk => out.nxt s' σ' R' (R.adv W (R.advStep x₁) a') hk) hs hw
/-- a loop's target takes an item -/
theorem item_bind (W : WfF f) (T : Thr f) (R₁ : StR f σ₁ s₁) (a : Adv f σ₁ s₁.heap σ s.heap) (R : StR f σ s) (r : (f.ec σ₁ s₁).R s₁ v u) {target : Expr} {tgt : Tgt} (lt : lowTgt f.cx (view target) = some tgt) {k : Rho → Prop} (w : bindF tgt u σ.ρ k) {E : Value → Shared → Prop} {Q : Unit → Shared → Prop}
    (h : ∀ s' σ', StR f σ' s' → Adv f σ s.heap σ' s'.heap → k σ'.ρ → Q () s') : wpAny (model f.G.prog f.G.w) f.A (assign target f.env v) Q E s := by
  have ve := view_eq target
  revert ve lt
  cases view target with
  | name x p =>
    intro lt ve
    obtain ⟨i, h1, rfl⟩ := Option.map_eq_some_iff.mp lt
    replace ve : Expr.Name x p = target := ve
    subst ve
    refine got_elim w fun y e1 w => wpAny_bind (wpAny_standAt (wpAny_bindName (R.storeD W h1 (R₁.kp W T (R₁.at W) r |>.move (R₁.mv W a) y e1) fun s' R' a' => h s' _ R' a' w)))
  | tuple es n p =>
    intro lt ve
    obtain ⟨is, h1, rfl⟩ := Option.map_eq_some_iff.mp lt
    replace ve : Expr.Tuple es n p = target := ve
    subst ve
    refine got_elim w fun us e1 w => ?_
    obtain ⟨t, items, m, rfl, ho, nf, rs⟩ := parts_ok (R₁.wf W T).toWfC (R₁.at W).toAtC r is.length us e1
    have nt : ∀ {b : Addr}, Is s₁.heap b → b ≠ t := fun i z => by
      obtain ⟨o, e, q⟩ := i
      rw [z] at e
      exact absurd ((show s₁.heap.get? t = _ from ho).symm.trans e) (fun e => by cases e; exact q rfl _ _ rfl)
    refine tuple_take W R h1 (a.keep t _ nf (fun q => nt (R₁.fm.is q) rfl) (fun i q => nt (R₁.dpl t (R₁.ops i t q).1).2 rfl) ho).1 (rs.imp fun v u q => (R₁.kp W T (R₁.at W) q).move (R₁.mv W a)) (parts_length us e1) w h
  | _ => exact fun lt => nomatch lt
/-- a slot own no more -/
noncomputable def Sg.frz (σ : Sg) (i : Nat) : Sg := ⟨fun b => σ.pl b ∧ ¬ σ.op i b, fun j b => j ≠ i ∧ σ.op j b, TC.frz i σ.ρ⟩
theorem StR.frz (R : StR f σ s) (W : WfF f) (i : Nat) : StR f (σ.frz i) s := by
  have sub : ∀ b, f.hid (σ.frz i) b → f.hid σ b := fun b q => q.imp_left And.left
  refine ⟨R.ext, R.same, R.fm, R.hok, fun b q => R.newl b q.1, fun b q => R.dpl b q.1, fun j b q => ⟨⟨(R.ops j b q.2).1, fun z => R.dis j i q.1 b q.2 z⟩, (R.ops j b q.2).2⟩, fun j l ne b q z => R.dis j l ne b q.2 z.2, ?_, fun y j hy w hw => ?_⟩
  · show (σ.ρ.modify i _).length = _
    rw [List.length_modify]; exact R.len
  · replace hw : (σ.ρ.modify i (·.map frzV))[j]? = some (some w) := hw
    by_cases q : i = j
    · subst q
      rw [List.getElem?_modify_eq] at hw
      obtain ⟨o, e1, e2⟩ := Option.map_eq_some_iff.mp hw
      obtain ⟨u, rfl, rfl⟩ := Option.map_eq_some_iff.mp e2
      obtain ⟨v, va, r⟩ := R.slots y i hy u e1
      refine ⟨v, va, ?_⟩
      cases u with
      | d x => exact PR.anti r sub
      | own x =>
        obtain ⟨a, rfl, h1, h2, r⟩ := r
        exact r.pr (fun z => z.elim (fun z => z.2 h1) fun z => z.elim (R.dpl a (R.ops i a h1).1).1 (W.new0 (R.newl a (R.ops i a h1).1)).1) sub
      | brw x => exact r
      | exc k => exact r
      | _ => exact r.elim
    · rw [List.getElem?_modify_ne _ _ q] at hw
      obtain ⟨v, va, r⟩ := R.slots y j hy w hw
      refine ⟨v, va, ?_⟩
      have e : (fun b => j ≠ i ∧ σ.op j b) = σ.op j := funext fun b => propext ⟨And.right, fun z => ⟨Ne.symm q, z⟩⟩
      show SlR f (f.hid (σ.frz i)) s.heap (fun b => j ≠ i ∧ σ.op j b) v w
      rw [e]
      exact r.move (fun b o n e => ⟨fun z => n (sub b z), e⟩) (fun a _ o e => e) fun k q => q
end
end TC

namespace TC
open PySem PySem.W PyProof.Rows

/-! Loops. -/
section
variable {f : Ff} {σ σ' : Sg} {s s₁ s' : Shared} {h h' : Heap} {v : Value} {u : V} {K : KS} {Q : PySem.Flow → Shared → Prop} {x : Str} {i : Nat} {pos p : Pos} {b : Addr}
noncomputable abbrev Ff.to (f : Ff) (E : Value → Shared → Prop) : Ff := { f with E := E }
theorem StR.to (E : Value → Shared → Prop) (R : StR f σ s) : StR (f.to E) σ s := ⟨R.ext, R.same, R.fm, R.hok, R.newl, R.dpl, R.ops, R.dis, R.len, R.slots⟩
theorem StR.fro {E : Value → Shared → Prop} (R : StR (f.to E) σ s) : StR f σ s := ⟨R.ext, R.same, R.fm, R.hok, R.newl, R.dpl, R.ops, R.dis, R.len, R.slots⟩
theorem WfF.to (E : Value → Shared → Prop) (W : WfF f) : WfF (f.to E) := ⟨W.ok, W.depth, W.units, W.frames, W.frame, W.funs0, W.base0, W.sub0, W.dom0, W.newp, W.envok, W.cells, W.inj, W.bnd⟩
theorem Adv.fro {E : Value → Shared → Prop} (a : Adv (f.to E) σ h σ' h') : Adv f σ h σ' h' := ⟨a.keep, a.out, a.junk⟩
/-- a suite, wherever it stands -/
noncomputable def OkB (f : Ff) (sts : List Stmt) (ts : Ss) : Prop := ∀ f' : Ff, f'.dep = f.dep → f'.cx = f.cx → WfF f' → Thr f' → OkSs f' sts ts
/-- where an exception goes out of a loop's body -/
noncomputable abbrev Ff.lE (f : Ff) : Value → Shared → Prop := notedBy (model f.G.prog f.G.w) f.A f.env fun e s' => cameBackBy (model f.G.prog f.G.w) f.A f.env f.E e s'
theorem Thr.loop (T : Thr f) (W : WfF f) : Thr (f.to f.lE) := fun e s' k C fl σ R hC hl F hx => loopExc W T R.fro hC hl F hx

/-- not the frame's to change -/
structure Off (f : Ff) (σ : Sg) (b : Addr) : Prop where
  fr : ¬ f.fr b
  pls : ¬ f.pls b
  op : ∀ i, ¬ σ.op i b
theorem StR.off_new (R : StR f σ s) (W : WfF f) (n : s.heap.get? b = none) : Off f σ b := ⟨fun q => (R.dom W b (W.sub b q)).not_none n, fun q => (R.fm.is q).not_none n, fun i q => (R.dpl b (R.ops i b q).1).2.not_none n⟩
theorem StR.off_rec (R : StR f σ s) (W : WfF f) {o : Obj} {vs : Array Value} (e : s.heap.get? b = some o) (d : o.data = .fields vs) : Off f σ b :=
  ⟨(R.sk W).notFields e d, fun q => by obtain ⟨o', e', _, n⟩ := R.fm.data q; rw [e] at e'; cases e'; exact n vs d, fun i q => by obtain ⟨o', e', n⟩ := (R.ops i b q).2; rw [e] at e'; cases e'; exact n vs d⟩
theorem StR.off_vis (R : StR f σ s) (W : WfF f) (n : ¬ f.hid σ b) : Off f σ b := ⟨fun q => n (W.sub b q), fun q => n (.inr (.inl q)), fun i q => n (.inl (R.ops i b q).1)⟩
theorem StR.off_old (R : StR f σ s) (W : WfF f) (nf : ¬ f.fr b) {o : Obj} (e : f.h₀.get? b = some o) : Off f σ b := ⟨nf, fun q => some_none e (W.newp b q), fun i q => some_none e (R.newl b (R.ops i b q).1)⟩

/-- a loop between two turns -/
inductive Lv (f : Ff) (σ₀ : Sg) (h₁ : Heap) (I : Addr) (fp : List Addr) (St : Nat → Heap → Prop) (us : List V) (w : List V → Rho → Prop) (j : Nat) (s' : Shared) : Prop
  | mk (i : Nat) (σ' : Sg) : i + j = us.length → St i s'.heap → StR f σ' s' → Adv f σ₀ h₁ σ' s'.heap → σ'.pl I → (∀ b ∈ fp, (∃ o, s'.heap.get? b = some o) ∧ ∀ i, ¬ σ'.op i b) → w (us.drop i) σ'.ρ → Lv f σ₀ h₁ I fp St us w j s'
theorem loop_run (W : WfF f) (T : Thr f) {t : Expr} {body : List Stmt} {tgt : Tgt} {b : Ss} (ht : lowTgt f.cx (view t) = some tgt) (hb : OkB f body b) (R : StR f σ s) {s₀ : Shared} {v₀ : Value} {us : List V} (kh : Keep s.heap h') (sr : Src (f.ec σ s₀) s v₀ h' us) (hv : ∀ b, v₀ = .ref b → ¬ f.fr b → Off f σ b)
    (w : forW (fun x ρ' k => bindF tgt x ρ' fun ρ'' => wpSs (ΦF f) f.hm b ρ'' k f.X) K us σ.ρ) (out : Out f σ s K Q) :
    codeAny (model f.G.prog f.G.w) f.A (.forLoop t (.ref s.heap.objs.size) body [] f.env) (fun r s' => match r with | .ok fl => Q fl s' | .error e => cameBackBy (model f.G.prog f.G.w) f.A f.env f.E e s') { s with heap := h' } := by
  obtain ⟨It, src, ⟨fp, St, Wk, st0, hfp, hIt⟩, hsrc, hR, hP⟩ := sr
  have nI : s.heap.get? s.heap.objs.size = none := size_none s.heap
  generalize s.heap.objs.size = I at *
  have xI : Ext f.fr s.heap h' := Ext.of kh
  have off : ∀ b ∈ fp, Off f σ b ∧ ∃ o, h'.get? b = some o := fun b hb => by
    rcases (hfp b hb).2 with rfl | q | q
    · obtain ⟨o, _, e, _⟩ := hIt 0 h' st0; exact ⟨R.off_new W nI, o, e⟩
    · obtain ⟨o, vs, e, d⟩ := R.hok.rec b q; exact ⟨R.off_rec W e d, o, kh b o e⟩
    · obtain ⟨e0, nf, o, e, _⟩ := hsrc b q; exact ⟨hv b (e0.trans q) nf, o, kh b o e⟩
  have Ifp : I ∈ fp := Wk.sub I (.head _)
  have nI' : ∀ b o, s.heap.get? b = some o → b ≠ I := fun b o e z => some_none (z ▸ e) nI
  have hH : ∀ b ∈ hAddr f.A, ¬ b = I := fun b hb => let ⟨o, _, e, _⟩ := R.hok.rec b hb; nI' b o e
  have cls : ∀ {i h}, St i h → ∀ b, b = I → ∀ o vs C, h.get? b = some o → o.cls = .ref C → o.data ≠ .fields vs := fun st b z o vs C e c => by
    obtain ⟨o', _, e', c', _⟩ := hIt _ _ st
    rw [z, e'] at e; cases e; rw [c'] at c; cases c
  have inv0 : Lv f σ s.heap I fp St us (forW (fun x ρ' k => bindF tgt x ρ' fun ρ'' => wpSs (ΦF f) f.hm b ρ'' k f.X) K) us.length { s with heap := h' } := by
    obtain ⟨oI, _, eI, _, _, ntI⟩ := hIt 0 h' st0
    exact ⟨0, _, Nat.zero_add _, st0, R.grow W (s' := { s with heap := h' }) xI ⟨rfl, rfl⟩ (· = I) fun b q => q ▸ ⟨nI, oI, eI, ntI⟩, R.advGrow xI fun b q => q ▸ nI, .inl rfl, fun b hb => ⟨(off b hb).2, (off b hb).1.op⟩, w⟩
  refine codeAny_forLoop_any (Lv f σ s.heap I fp St us (forW (fun x ρ' k => bindF tgt x ρ' fun ρ'' => wpSs (ΦF f) f.hm b ρ'' k f.X) K)) (fun j s' inv => ?_) us.length inv0
  obtain ⟨i, σ', e1, st, R', a', hI', hf', w'⟩ := inv
  have opI := (hf' I Ifp).2
  have adv : ∀ {h5 : Heap} {pl' : AP}, (∀ b o, b ∉ [I] → s'.heap.get? b = some o → h5.get? b = some o) → (∀ b, pl' b → σ'.pl b) → (∀ b, σ'.pl b → b ≠ I → pl' b) → Adv f σ s.heap { σ' with pl := pl' } h5 := fun k5 s1 s2 =>
    ⟨fun b o q1 q2 q3 e => let ⟨y1, y2⟩ := a'.keep b o q1 q2 q3 e; ⟨k5 b o (fun z => nI' b o e (List.mem_singleton.mp z)) y1, y2⟩, fun b o q e z => a'.out b o q e (z.imp_left (s1 b)), fun b q z => let ⟨o, e, _⟩ := (R.dpl b q).2; s2 b (a'.junk b q z) (nI' b o e)⟩
  by_cases lt : i < us.length
  · refine Wk.item i s' _ _ lt st fun v h5 tk p st5 k5 => ?_
    obtain ⟨oJ, nJ, q1, q2, q3, q4⟩ := hIt (i + 1) h5 st5
    have R5 := R'.junk W (s' := { s' with heap := h5, toks := tk }) (Z := (· = I)) (pl' := σ'.pl) (fun b o n e => k5 b o (fun z => n (List.mem_singleton.mp z)) e) ⟨rfl, rfl⟩ (fun b q => q ▸ ⟨hI', opI⟩) hH (cls st) (fun b q => ⟨q, fun z => z ▸ ⟨oJ, q1, q4⟩⟩) fun i b q => (R'.ops i b q).1
    have a5 := adv k5 (fun b q => q) (fun b q _ => q)
    refine letOwned_ok (s := { s' with heap := h5, toks := tk }) q1 q2 q3 ?_
    rw [List.drop_eq_getElem_cons lt] at w'
    have gi := List.getElem?_eq_getElem lt
    have ri : (f.ec σ s).R s v us[i] := by
      have r := hR i v us[i] p gi
      rcases hP us[i] (List.getElem_mem lt) with ⟨y, z⟩ | ⟨y, z⟩ <;> rw [z] at r ⊢ <;> exact r
    refine item_bind W T R a5 R5 ri ht w' fun s6 σ6 R6 a6 w6 => ?_
    have hf6 : ∀ b ∈ fp, (∀ o, h5.get? b = some o → s6.heap.get? b = some o) ∧ (∃ o, s6.heap.get? b = some o) ∧ ∀ i, ¬ σ6.op i b := fun b hb => by
      have ⟨o, e⟩ : ∃ o, h5.get? b = some o := by
        by_cases z : b = I
        · exact z ▸ ⟨oJ, q1⟩
        · obtain ⟨o, e⟩ := (hf' b hb).1; exact ⟨o, k5 b o (fun q => z (List.mem_singleton.mp q)) e⟩
      obtain ⟨y1, y2⟩ := a6.keep b o (off b hb).1.fr (off b hb).1.pls (hf' b hb).2 e
      exact ⟨fun o' e' => by rw [e] at e'; cases e'; exact y1, ⟨o, y1⟩, y2⟩
    refine hb (f.to f.lE) rfl rfl (W.to _) (T.loop W) σ6 s6 _ _ (R6.to _) w6 ⟨fun s7 σ7 R7 a7 w7 => ?_, fun s7 v7 u7 σ7 ρ7 R7 r7 w7 => out.ret s7 v7 u7 σ7 ρ7 R7.fro r7 w7⟩
    have hf7 : ∀ b ∈ fp, (∀ o, h5.get? b = some o → s7.heap.get? b = some o) ∧ (∃ o, s7.heap.get? b = some o) ∧ ∀ i, ¬ σ7.op i b := fun b hb => by
      obtain ⟨y0, ⟨o, e⟩, y3⟩ := hf6 b hb
      obtain ⟨y1, y2⟩ := a7.keep b o (off b hb).1.fr (off b hb).1.pls y3 e
      exact ⟨fun o' e' => by have z := y0 o' e'; rw [e] at z; cases z; exact y1, ⟨o, y1⟩, y2⟩
    exact ⟨j - 1, by omega, i + 1, σ7, by omega, Wk.frame (i + 1) h5 _ st5 fun b hb o e => (hf7 b hb).1 o e, R7.fro, R.adv W a5 (R5.adv W a6 a7.fro), a7.junk I (a6.junk I hI' opI) (hf6 I Ifp).2.2, fun b hb => (hf7 b hb).2, w7⟩
  · obtain rfl : i = us.length := by omega
    refine Wk.done s' _ _ st fun h5 tk k5 => ?_
    rw [List.drop_length] at w'
    exact wpAny_execs_nil (out.nxt { s' with heap := h5, toks := tk } _ (R'.junk W (s' := { s' with heap := h5, toks := tk }) (Z := (· = I)) (pl' := fun b => σ'.pl b ∧ b ≠ I) (fun b o n e => k5 b o (fun z => n (List.mem_singleton.mp z)) e) ⟨rfl, rfl⟩ (fun b q => q ▸ ⟨hI', opI⟩) hH (cls st) (fun b q => ⟨q.1, fun z => absurd z q.2⟩) fun i b q => ⟨(R'.ops i b q).1, fun z => opI i (z ▸ q)⟩) (adv k5 (fun b q => q.1) fun b q z => ⟨q, z⟩) w')
end
end TC

namespace TC
open PySem PySem.W PyProof.Rows

theorem PR.vis {P : AP} {h : Heap} {z : Addr} {x : PyData} (r : PR P h (.ref z) x) : ¬ P z ∧ ∃ o, h.get? z = some o := by
  cases r with
  | list n e _ => exact ⟨n, _, e⟩
  | tuple n e _ => exact ⟨n, _, e⟩
  | dict n e _ _ _ => exact ⟨n, _, e⟩
section
variable {f : Ff} {σ σ' : Sg} {s s₁ s' : Shared} {h h' : Heap} {v : Value} {u : V} {K : KS} {Q : PySem.Flow → Shared → Prop} {x : Str} {i j : Nat} {pos p : Pos} {t iter : Expr} {body : List Stmt} {tgt : Tgt} {src : TC.E} {b : Ss}
theorem itemsL_eq {hm : Bool} : All (itemsL hm u) fun us => itemsV hm u = some us ∧ ∀ y, u ≠ .brw y := by
  cases u with
  | brw y => exact .no
  | _ => exact fun us e => ⟨e, fun y q => nomatch q⟩
theorem loop_case (W : WfF f) (T : Thr f) (ht : lowTgt f.cx (view t) = some tgt) (hs : OkF f iter src) (hf : ∀ x, foldedSetIterable iter f.env x = pure x) (hb : OkB f body b) : OkS f (.For t iter body [] pos) (.loop tgt src b) := fun σ s K Q R w out =>
  wpAny_For ((hs σ s R).ev s _ _ (R.at W) w fun v s₁ u a₁ x₁ r w₁ => got_elim w₁ fun us e w => by
    have R₁ := R.step W x₁ a₁.same
    obtain ⟨e', nb⟩ := itemsL_eq us e
    refine items_ok (R.wf W T).toWfC a₁ r us e' _ fun h' kh sr => loop_run W T ht hb R₁ kh sr (fun z hz nf => ?_) w.2 (out.from R W (R.advStep x₁))
    subst hz
    cases u with
    | d y => exact R₁.off_vis W (PR.vis r).1
    | own y => obtain ⟨a, e, n, _⟩ := r; cases e; exact R.off_new W n
    | brw y => exact absurd rfl (nb y)
    | rg n => obtain ⟨r, t1, t2, t3, e, nr, l, ir⟩ := r; cases e; exact R₁.off_rec W ir rfl
    | _ => exact nomatch e') hf
theorem frz_adv : Adv f σ h (σ.frz i) h := ⟨fun b o q1 q2 q3 e => ⟨e, fun j z => q3 j z.2⟩, fun b o q e z => q (z.imp_left And.left), fun b q z => ⟨q, z i⟩⟩
theorem fzs_case (W : WfF f) {st : Stmt} {t : TC.S} (h : OkS f st t) (l : List Nat) : OkS f st (fzs l t) := by
  induction l with
  | nil => exact h
  | cons i l ih => exact fun σ s K Q R w out => ih (σ.frz i) s K Q (R.frz W i) w (out.from R W frz_adv)
theorem loopn_case (W : WfF f) (T : Thr f) (ht : lowTgt f.cx (view t) = some tgt) (hv : f.cx.var x = some i) (hb : OkB f body b) : OkS f (.For t (.Name x p) body [] pos) (.loopn tgt i b) := fun σ s K Q R w out => by
  have R0 := R.frz W i
  refine got_elim w fun su e1 w => got_elim w fun u e2 w => got_elim w fun us e3 w => ?_
  obtain ⟨h1, h2, h3⟩ := var_inv hv
  obtain ⟨v, va, r⟩ := R0.slots x i h2 u (e2 ▸ e1)
  have key : (f.ec (σ.frz i) s).R s v u ∧ ∀ z, v = .ref z → ¬ f.fr z → Off f (σ.frz i) z := by
    cases u with
    | d y => exact ⟨r, fun z e _ => R0.off_vis W (PR.vis (e ▸ r)).1⟩
    | own y => obtain ⟨a, _, q, _⟩ := r; exact absurd rfl q.1
    | brw y =>
      refine ⟨PR.move (fun b o n e => ⟨fun q => ?_, (R.ext b o e).1 n⟩) r, fun z e nf => ?_⟩
      · exact ((fr_cons W).mp q).elim (fun q => some_none e (W.newp b (.inl q))) n
      · obtain ⟨_, o, e'⟩ := PR.vis (e ▸ r); exact R0.off_old W nf e'
    | exc k => exact nomatch e3
    | _ => exact r.elim
  exact wpAny_For (load_var (c := f.ec (σ.frz i) s) W.envok h1 va (items_ok (R0.wf W T).toWfC (R0.at W) key.1 us e3 _ fun h' kh sr => loop_run W T ht hb R0 kh sr key.2 w.2 (out.from R W frz_adv)))
/-- a while loop between two turns -/
inductive Wv (f : Ff) (σ₀ : Sg) (h₁ : Heap) (w : Nat → Rho → Prop) (n : Nat) (s' : Shared) : Prop
  | mk (σ' : Sg) : StR f σ' s' → Adv f σ₀ h₁ σ' s'.heap → w n σ'.ρ → Wv f σ₀ h₁ w n s'
theorem whl_case (W : WfF f) (T : Thr f) {c : Expr} {c' : TC.E} (hc : ∀ f' : Ff, f'.dep = f.dep → f'.cx = f.cx → WfF f' → Thr f' → OkF f' c c') (hb : OkB f body b) : OkS f (.While c body [] pos) (.whl c' b) := fun σ s K Q R w out => by
  obtain ⟨n, w⟩ := w
  refine wpAny_While (codeAny_whileLoop (Wv f σ s.heap (whlW (fun ρ' => wpE (ΦF f) f.hm (f.X · ρ') c' ρ') (fun ρ' k => wpSs (ΦF f) f.hm b ρ' k f.X) K)) (fun n s' inv => ?_) n ⟨σ, R, Adv.refl _ _ _, w⟩)
  obtain ⟨σ', R', a', w'⟩ := inv
  cases n with
  | zero => exact w'.elim
  | succ n =>
    refine ((hc (f.to f.lE) rfl rfl (W.to _) (T.loop W)) σ' s' (R'.to _)).ts s' _ _ ((R'.to _).at (W.to _)) w' (fun u => bool_of) fun b s₁ a₁ x₁ w₁ => ?_
    have R₁ := R'.step W x₁ a₁.same
    cases b with
    | true => exact hb (f.to f.lE) rfl rfl (W.to _) (T.loop W) σ' s₁ _ _ (R₁.to _) w₁ ⟨fun s7 σ7 R7 a7 w7 => ⟨n, Nat.lt_succ_self n, σ7, R7.fro, R.adv W a' (R'.adv W (R'.advStep x₁) a7.fro), w7⟩, fun s7 v7 u7 σ7 ρ7 R7 r7 w7 => out.ret s7 v7 u7 σ7 ρ7 R7.fro r7 w7⟩
    | false => exact wpAny_execs_nil (out.nxt s₁ σ' R₁ (R.adv W a' (R'.advStep x₁)) w₁)
theorem erase_last {α : Type} (l : List α) : l.eraseIdx (l.length - 1) = l.take (l.length - 1) := by rw [List.eraseIdx_eq_take_drop_succ, List.drop_of_length_le (by omega), List.append_nil]
theorem pop_ok {prog : Program} {w : World} {A : Around} {E : Value → Shared → Prop} {l : Addr} {vs : Array Value} {n : Nat} {y : Value} {Q : Value → Shared → Prop} (ho : s.heap.get? l = some (listObj vs n)) (hy : vs[vs.size - 1]? = some y) (hz : vs.size ≤ sizeLine)
    (h : ∀ h' n', h'.get? l = some (listObj (vs.eraseIdxIfInBounds (vs.size - 1)) n') → (∀ b o, b ≠ l → s.heap.get? b = some o → h'.get? b = some o) → Q y { s with heap := h' }) : wpAny (model prog w) A (call (.builtin "list.pop") [.ref l]) Q E s := by
  refine call_meets PySem.F.slot_list_pop ⟨_, ho, rfl⟩ PySem.F.entry_list_pop (PySem.F.args_list_pop_1 _) (MeetsSeq.list_pop_last l vs n y hy hz) ⟨ho, ?_⟩
  obtain ⟨n', hd'⟩ := Obj.data_mapSeq (o := listObj vs n) rfl (fun xs => xs.eraseIdxIfInBounds (vs.size - 1))
  have e := Heap.get?_update_self (Obj.mapSeq (fun xs => xs.eraseIdxIfInBounds (vs.size - 1))) ho (Obj.isFreed_of_seq hd')
  have eo : Obj.mapSeq (fun xs => xs.eraseIdxIfInBounds (vs.size - 1)) (listObj vs n) = listObj (vs.eraseIdxIfInBounds (vs.size - 1)) n' := by
    unfold Obj.mapSeq at hd' ⊢
    simp only at hd' ⊢
    injection hd' with _ q
    rw [← q]
  rw [eo] at e
  exact h _ n' e fun b o hb e => (Heap.get?_update_other _ _ (Ne.symm hb)).trans e
theorem pop_case (W : WfF f) {y : Str} {np apos cp : Pos} (hline : (apos.endLine == cp.line) = true) (hj : f.cx.var y = some j) (hv : f.cx.var x = some i) : OkS f (.Assign [.Name x p] (.Call (.Attribute (.Name y np) "pop" apos) [] [] cp) pos) (.pop i j) := fun σ s K Q R w out =>
  own_elim R hj w fun xs ol w => got_elim w fun z e1 w => by
    obtain ⟨a, vs, m, va, o1, o2, ho, r⟩ := ol s R
    refine wpAny_Assign_Name ?_ rfl
    have hl : s.heap.IsList a vs := ⟨_, ho, rfl, m, rfl⟩
    refine Call_method0 rfl hline (load_var (c := f.ec σ s) W.envok (var_inv hj).1 va ⟨"list", _, PySem.F.plainAttrs_list, PySem.F.slot_list_pop, PySem.F.type_list_pop, hl.typeIs, fun b e => ?_, ?_⟩)
    · cases e; exact ⟨_, ho, rfl⟩
    have ln := r.length
    rw [Array.length_toList] at ln
    rw [List.getLast?_eq_getElem?, ← ln] at e1
    obtain ⟨y, e2, q⟩ := r.get e1
    rw [Array.getElem?_toList] at e2
    refine Calls.callWith_builtin rfl (PySem.evalArgs_none (pop_ok ho e2 (ln ▸ lim_nat w.1 (by rw [sizeLine_eq]; decide)) fun h2 n2 e3 k2 => ?_))
    have R2 := R.mut W hj (s' := { s with heap := h2 }) (ys := xs.dropLast) va o1 o2 ho e3 k2 ⟨rfl, rfl⟩ (by
      rw [Array.toList_eraseIdxIfInBounds, ← Array.length_toList, erase_last, r.length, List.dropLast_eq_take]; exact r.take _)
    refine R2.storeD W hv (q.move fun b o n e => ⟨n, k2 b o (fun z => n (.inl (z ▸ (R.ops j a o1).1))) e⟩) fun s' R' a' => out.nxt s' _ R' (R.adv W (Adv.mut R (Ext.refl _ _) o1 k2) a') w.2
end
end TC

namespace TC
open PySem PySem.W PyProof.Rows

/-! Raise, try. -/
section
variable {f : Ff} {σ σ' : Sg} {s s₁ s' : Shared} {h h' : Heap} {v : Value} {u : V} {K : KS} {Q : PySem.Flow → Shared → Prop} {x : Str} {i j : Nat} {pos p : Pos} {body : List Stmt} {b : Ss} {G : Gl} {hm : Bool} {A : Around} {X : XS} {E : Value → Shared → Prop}
theorem cls_obj (O : G.Ok) {k : Nat} {C : Addr} (hC : G.ca[k]? = some C) (b : G.B.StaysIn h) : ∃ bm N nm q bs hdct sn sub ab col dd k0 k1 k2 k3 k5 mN, h.get? C = some (excClassObj nm q C N bs bm hdct sn sub ab col dd k0 k1 k2 k3 k5 "ValueError.__new__") ∧ h.Ns N mN ∧ mN "__init__" = none ∧ OwnTail h bmV bm :=
  let ⟨_, o⟩ := O.cown k C hC
  (o.keeps b).obj
theorem rais_case (W : WfF f) (T : Thr f) {c msg : Str} {k : Nat} {p1 p2 p3 : Pos} {kd : Nat} (hg : f.cx.glob c = true) (hc : f.cx.cls.lookup c = some k) : OkS f (.Raise (some (.Call (.Name c p1) [.Constant (.str msg) kd p2] [] p3)) none pos) (.rais k) := fun σ s K Q R w out => by
  have O := W.ok
  have hh : f.A.handled = none := (w.1 ▸ R.hok : HOk false f.A s.heap).none
  obtain ⟨C, hC, hns⟩ := O.cnm c k (by rw [← W.envok.cls]; exact hc)
  obtain ⟨bm, N, nm, q, bs, hdct, sn, sub, ab, col, dd, k0, k1, k2, k3, k5, mN, hCo, hN, hni, TL⟩ := cls_obj O hC (R.stk W).2
  refine wpAny_Raise_call_subT PySem.F.excBase_ValueError (C := C) (nm := nm) (q := q) (N := N) (bs := bs) (bm := bm) (hdct := hdct) (sn := sn) (sub := sub) (ab := ab) (col := col) (dd := dd) (k0 := k0) (k1 := k1) (k2 := k2) (k3 := k3) (k5 := k5) (mN := mN) (TL.hasType PySem.F.excBase_ValueError.hasBase) hh rfl hni (name_own (R.wf W T) (R.at W).toAtC hg hns ⟨rfl, ?_⟩)
  refine Calls.evalArgs_plain (args_cons (Calls.Constant_str (args_nil ⟨rfl, ?_, hCo, hN, TL, fun h' e m => ?_⟩)))
  · show 1 ≤ sizeLine; rw [sizeLine_eq]; decide
  · obtain ⟨fl, xt⟩ := made_fly (fr := f.fr) m
    exact T e { s with heap := h', toks := _ } k C .none σ (R.step W (s' := { s with heap := h', toks := _ }) xt ⟨rfl, rfl⟩) hC (.inl rfl) (fl.back (R.extF W)) w.2
theorem Fly.bare {h₀ h : Heap} {e C : Addr} {fl : Value} (x : Fly h₀ e C fl h) : Bare h e := let ⟨oe, vs, _, h1, _, _, h4, h5, _⟩ := x; ⟨oe, vs, h1, h4, h5⟩
theorem Fly.exc {h₀ h : Heap} {e C : Addr} {fl : Value} {ca : List Addr} {c : Nat} (hc : ca[c]? = some C) (x : Fly h₀ e C fl h) : ExcAt ca c h (.ref e) := let ⟨oe, vs, _, h1, h2, h3, h4, _, _⟩ := x; ⟨e, oe, vs, C, rfl, hc, h1, h2, h3, h4⟩
/-- asked whether a clause takes an exception -/
theorem match_ok (O : G.Ok) {c c' : Nat} {C C' e : Addr} {oe : Obj} (hC : G.ca[c]? = some C) (hC' : G.ca[c']? = some C') (st : G.B.StaysIn s.heap) (he : s.heap.get? e = some oe) (hcls : oe.cls = .ref C) (hs : (c' == 0 || c == c') = true)
    {Q : Bool → Shared → Prop} (h : Q true s) : wpAny (model G.prog G.w) A (excMatches (.ref e) (.ref C')) Q E s := by
  obtain ⟨bm, N, nm, q, bs, hdct, sn, sub, ab, col, dd, k0, k1, k2, k3, k5, mN, hCo, hN, hni, TL⟩ := cls_obj O hC' st
  have hbase : bm.contains (.type "BaseException") = true := TL.hasType PySem.F.excBase_ValueError.hasBase
  have hcB : (Value.ref C' :: bm).contains (.type "BaseException") = true := by rw [List.contains_cons, hbase, Bool.or_true]
  have f := tc_notTuple
  have kx := O.csub c C c' C' hC hC'
  rw [hs] at kx
  have X : G.K.In s.heap := O.inK.keeps st
  have L : ∀ {Q : Bool → Shared → Prop}, Q true s → wpAny (model G.prog G.w) A (isSubtype (.ref C) (.ref C')) Q E s := fun {Q} hq => (looks_mroIn X kx).at hq
  obtain ⟨hp, g, d, tk, os⟩ := s
  unfold excMatches
  repeat (first | (with_reducible refine wpAny_loadPart_at he ?_; rw [hcls]) | with_reducible refine wpAny_loadPart_at hCo ?_ | (with_reducible refine wpAny_isSubtype_exc hCo ?_; rw [hcB]) | with_reducible refine L ?_ | wp_step)
  exact h
noncomputable abbrev Ff.re (f : Ff) (hm : Bool) (A : Around) (X : XS) (E : Value → Shared → Prop) : Ff := { f with hm := hm, A := A, X := X, E := E }
theorem StR.re (R : StR f σ s) (k : HOk hm A s.heap) : StR (f.re hm A X E) σ s := ⟨R.ext, R.same, R.fm, k, R.newl, R.dpl, R.ops, R.dis, R.len, R.slots⟩
theorem StR.un (R : StR (f.re hm A X E) σ s) (k : HOk f.hm f.A s.heap) : StR f σ s := ⟨R.ext, R.same, R.fm, k, R.newl, R.dpl, R.ops, R.dis, R.len, R.slots⟩
theorem WfF.re (W : WfF f) (h1 : A.frames = f.A.frames) (h2 : A.depth = f.A.depth) (h3 : A.units = f.A.units) : WfF (f.re hm A X E) := ⟨W.ok, h2 ▸ W.depth, h3 ▸ W.units, h1.trans W.frames, W.frame, W.funs0, W.base0, W.sub0, W.dom0, W.newp, W.envok, W.cells, W.inj, W.bnd⟩
theorem OkB.re (h : OkB f body b) (W : WfF (f.re hm A X E)) (T : Thr (f.re hm A X E)) : OkSs (f.re hm A X E) body b := h _ rfl rfl W T
/-- the handler's name is gone -/
theorem StR.unname (R : StR f σ s) (W : WfF f) {m' : Str → Option Value} (n : s'.heap.Ns f.env.locals m') (sb : Heap.SameBut f.env.locals s.heap s'.heap) (sm : Same s s') : StR f ⟨fun _ => False, fun _ _ => False, List.replicate f.cx.nx none⟩ s' := by
  have k : ∀ b o, ¬ b = f.env.locals → s.heap.get? b = some o → s'.heap.get? b = some o := fun b o hb e => (sb.2 b hb).trans e
  obtain ⟨m, n0⟩ := R.fm.ns
  refine ⟨R.ext.on k fun b q => W.newp b (.inl q), R.same.trans sm, ⟨R.fm.kf, ⟨m', n⟩, fun y a e => let ⟨w, q⟩ := R.fm.cell y a e; ⟨w, q.sameBut sb (ns_off_cell n0 q)⟩, R.fm.look, R.fm.inj⟩, R.hok.at fun b hb o e => k b o (fun z => ?_) e, fun _ q => q.elim, fun _ q => q.elim, fun _ _ q => q.elim, fun _ _ _ _ q => q.elim, List.length_replicate, fun y j hy u hu => ?_⟩
  · obtain ⟨o', vs, e1, e2⟩ := R.hok.rec b hb
    obtain ⟨o2, e3, _, e4⟩ := R.fm.data (.inl z)
    rw [e1] at e3; cases e3; exact e4 vs e2
  · replace hu : (List.replicate f.cx.nx none)[j]? = some (some u) := hu
    rw [List.getElem?_replicate] at hu
    split at hu <;> cases hu
theorem okRet_VR (R : StR f σ s) (sb : Heap.SameBut f.env.locals s.heap h') (r : VR f.G.ca f.h₀ (fun b => f.pls b ∨ f.hid0 b) f.fr0 s.heap v u) (ok : okRet u) : VR f.G.ca f.h₀ (fun b => f.pls b ∨ f.hid0 b) f.fr0 h' v u := by
  have k : ∀ b o, b ≠ f.env.locals → s.heap.get? b = some o → h'.get? b = some o := fun b o hb e => (sb.2 b hb).trans e
  cases u with
  | d y => exact PR.move (fun b o n e => ⟨n, k b o (fun z => n (.inl (.inl z))) e⟩) r
  | own y =>
    cases y with
    | list xs =>
      obtain ⟨a, e, na, q⟩ := r
      refine ⟨a, e, na, q.move (fun b o n e => ⟨n, k b o (fun z => n (.inr (.inl (.inl z)))) e⟩) fun o e => k a o (fun z => ?_) e⟩
      obtain ⟨vs, nn, e1, _⟩ := q
      obtain ⟨m, n0⟩ := R.fm.ns
      obtain ⟨o0, es0, ep0, ho0, hd0⟩ := ns_data n0
      rw [z, ho0] at e1; cases e1; cases hd0
    | _ => exact ok.elim
  | _ => exact ok.elim
theorem try_case (W : WfF f) (T : Thr f) {c : Str} {hb : List Stmt} {h0 : Stmt} {k : Nat} {b' h1 : Ss} {p1 p2 : Pos} (hg : f.cx.glob c = true) (hl : f.cx.kd.lookup x = some .local) (hc : f.cx.cls.lookup c = some k) (hv : f.cx.var x = some i) (lb : OkB f body b') (lh : OkB f (h0 :: hb) h1) :
    OkS f (.Try body [.ExceptHandler (some (.Name c p1)) (some x) (h0 :: hb) p2] [] [] pos) (.tryx b' k i h1) := fun σ s K Q R w out => by
  have O := W.ok
  refine wpAny_Try_except ?_
  refine lb.re (hm := f.hm) (A := f.A) (X := fun c' ρ' => (k = 0 ∨ k = c') ∧ f.hm = false ∧ wpSs (ΦF f) true h1 (ρ'.set i (some (.exc c'))) (fun fl ρ'' => match fl with
      | .nxt => False
      | .ret v => okRet v ∧ K (.ret v) ρ'') (fun _ _ => False)) (W.re rfl rfl rfl) ?_ σ s K _ (R.re R.hok) w ?_
  rotate_left
  · exact ⟨fun s' σ' R' a hk => wpAny_execs_nil (out.nxt s' σ' (R'.un R'.hok) ⟨a.keep, a.out, a.junk⟩ hk), fun s' v u σ' ρ R' r hk => out.ret s' v u σ' ρ (R'.un R'.hok) r hk⟩
  intro e s' c' C fl σ' R' hC hfl Fl w'
  replace R' := R'.un R'.hok
  obtain ⟨hk0, hmf, w'⟩ := w'
  have hA : f.A.handled = none := (hmf ▸ R.hok : HOk false f.A s.heap).none
  refine note_any (R'.sk W) rfl W.frame (R'.extF W) hfl Fl fun h2 x2 F2 n2 => ?_
  refine flight_ok (fo := none) (s := { s' with heap := h2 }) x2 F2 (fun _ => rfl) fun h3 x3 F3 n3 => ?_
  have R3 := R'.noted W (s' := { s' with heap := h3 }) x3 ⟨rfl, rfl⟩ (n2.trans n3)
  obtain ⟨C', hC', hns⟩ := O.cnm c k (by rw [← W.envok.cls]; exact hc)
  have R4 : ∀ E, StR (f.re true (f.A.mark (some (.ref e))) (fun _ _ => False) E) σ' { s' with heap := h3 } := fun E => R3.re (.inr ⟨rfl, e, rfl, F3.bare⟩)
  have W4 : ∀ E, WfF (f.re true (f.A.mark (some (.ref e))) (fun _ _ => False) E) := fun E => W.re rfl rfl rfl
  have T4 : ∀ E, Thr (f.re true (f.A.mark (some (.ref e))) (fun _ _ => False) E) := fun E _ _ _ _ _ _ _ _ _ _ q => q.elim
  refine wpAny_handleBy_cons (codeAny_handlers_test ?_) (by intro q; cases q)
  refine name_own (c := (f.re true (f.A.mark (some (.ref e))) (fun _ _ => False) _).ec σ' { s' with heap := h3 }) ((R4 _).wf (W4 _) (T4 _)) ((R4 _).at (W4 _)).toAtC hg hns ?_
  have F3' := F3
  obtain ⟨oe, vs, ne, e1, e2, e3, e4, e5, _⟩ := F3
  refine match_ok (s := { s' with heap := h3 }) O hC hC' (R3.stk W).2 e1 e2 ?_ (codeAny_handlers_suite_as ?_)
  · rcases hk0 with rfl | rfl <;> simp
  refine flight_ok (fo := none) (s := { s' with heap := h3 }) x3 F3' (fun _ => rfl) fun h4 x4 F4 n4 => ?_
  have R5 := fun E => (R4 E).noted (W4 E) (s' := { s' with heap := h4 }) x4 ⟨rfl, rfl⟩ n4
  refine (R5 f.E).store (W4 f.E) (P := fun _ => False) hv (u := .exc c') (F4.exc hC) (fun a ha => ha.elim) (fun j _ a ha => ha.elim) fun s6 R6 k6 => ?_
  refine lh.re (W4 _) (T4 _) _ s6 _ _ (R6.re R6.hok) w' ?_
  refine ⟨fun s7 σ7 R7 a7 hk => hk.elim, fun s7 v7 u7 σ7 ρ7 R7 r7 hk => ?_⟩
  obtain ⟨m0, n0⟩ := R7.fm.ns
  have R8 : StR f σ7 s7 := R7.un (.inl ⟨hmf, hA⟩)
  refine wpAny_nameGoes (by unfold Env.kindOf; rw [W.envok.names]; exact hl) n0 (by rw [W.envok.kind]; rfl) fun h8 m8 n8 sb8 => ?_
  exact out.ret { s7 with heap := h8, toks := _ } v7 u7 _ ρ7 (R8.unname W (s' := { s7 with heap := h8, toks := _ }) n8 sb8 ⟨rfl, rfl⟩) (okRet_VR R8 sb8 r7 hk.1) hk.2
end
end TC

namespace TC
open PySem PySem.W PyProof.Rows

/-! A key more in a table of the frame's own. -/
section
variable {P : AP} {h : Heap} {a : Addr} {es : Array DictEntry} {kvs : List (PyData × PyData)} {prog : Program} {w : World}
theorem DictOk.shape {g : List PyData} (d : DictOk a es kvs) (e : kvs.map (·.1) = g) : kvs = g.map fun k => (k, PyData.bool true) := by
  subst e
  rw [List.map_map]
  exact (List.map_id' kvs).symm.trans (List.map_congr_left fun p hp => by rw [Function.comp, ← d.vals p hp])
theorem stored_fst {ks : List Int} {k : Int} : (stored (ks.map fun k => (k, Value.bool true)) k (.bool true)).map (·.1) = cond (ks.contains k) ks (ks ++ [k]) := by
  have e : ((ks.map fun k => (k, Value.bool true)).any fun kv => kv.1 = k) = ks.contains k := by
    rw [List.any_map, List.contains_eq_any_beq]
    refine congrArg ks.any (funext fun x => ?_)
    show decide (x = k) = (k == x)
    by_cases q : x = k
    · rw [decide_eq_true q, q, beq_self_eq_true]
    · rw [decide_eq_false q, beq_false_of_ne (Ne.symm q)]
  have id1 : (ks.map fun k => (k, Value.bool true)).map (·.1) = ks := by rw [List.map_map]; exact List.map_id ks
  unfold stored
  rw [e]
  cases ks.contains k with
  | true =>
    rw [if_pos rfl, List.map_map]
    refine (List.map_congr_left fun p _ => ?_).trans id1
    show (if p.1 = k then (p.1, Value.bool true) else p).1 = p.1
    split <;> rfl
  | false => rw [if_neg (by decide), List.map_append, id1]; rfl
theorem stored_all {ks : List Int} {k : Int} : ∀ p ∈ stored (ks.map fun k => (k, Value.bool true)) k (.bool true), p.2 = Value.bool true := fun p hp => by
  unfold stored at hp
  have old : ∀ q ∈ ks.map fun k => (k, Value.bool true), q.2 = Value.bool true := fun q hq => by obtain ⟨x, _, rfl⟩ := List.mem_map.mp hq; rfl
  split at hp
  · obtain ⟨q, hq, rfl⟩ := List.mem_map.mp hp
    split
    · rfl
    · exact old q hq
  · rcases List.mem_append.mp hp with hp | hp
    · exact old p hp
    · rw [List.mem_singleton.mp hp]
theorem own_tups {d : Addr} {xs : List (List Int × Addr × Value)} (hm : h.DictOfH (tupleKind (intKind prog w)) d xs) (ht : ∀ x ∈ xs, PR P h (.ref x.2.1) (.tuple (ofInts x.1)) ∧ x.2.2 = .bool true) (off : (d == sysModules) = false) : OwnAt P h d (.dict ((ofTups (xs.map (·.1))).map fun k => (k, .bool true))) := by
  obtain ⟨o, es, n, ho, ⟨c1, c2, c3⟩, hd, he, _, nd⟩ := hm
  obtain ⟨cls, dct, data, slots⟩ := o
  cases c1; cases c2; cases c3; cases hd
  have e1 : (((ofTups (xs.map (·.1))).map fun k => (k, PyData.bool true)).map (·.1)) = ofTups (xs.map (·.1)) := by rw [List.map_map]; exact List.map_id _
  refine ⟨es, n, ho, ?_, ?_, off, fun p hp => ?_, .inr ⟨xs.map (·.1), e1, ?_, nd⟩⟩
  · rw [e1, he, List.map_map, ofTups, List.map_map]
    refine PRs.of (by rw [List.length_map, List.length_map]) fun k v x e2 e3 => ?_
    rw [List.getElem?_map] at e2 e3
    obtain ⟨y, q1, rfl⟩ := Option.map_eq_some_iff.mp e2
    rw [q1] at e3
    cases e3
    exact (ht y (List.mem_of_getElem? q1)).1
  · rw [he, List.map_map, List.map_map, ofTups, List.map_map, List.map_map]
    refine PRs.of (by rw [List.length_map, List.length_map]) fun k v x e2 e3 => ?_
    rw [List.getElem?_map] at e2 e3
    obtain ⟨y, q1, rfl⟩ := Option.map_eq_some_iff.mp e2
    rw [q1] at e3
    cases e3
    show PR P h y.2.2 (.bool true)
    rw [(ht y (List.mem_of_getElem? q1)).2]; exact .bool _
  · obtain ⟨k, _, rfl⟩ := List.mem_map.mp hp; rfl
  · rw [he, List.map_map, List.map_map]; rfl
theorem storedH_fst {xs : List (List Int × Addr × Value)} {k : List Int} {z : Addr} {v : Value} : (storedH xs k z v).map (·.1) = cond ((xs.map (·.1)).contains k) (xs.map (·.1)) (xs.map (·.1) ++ [k]) := by
  unfold storedH
  rw [atKey_set]
  cases (xs.map (·.1)).contains k with
  | true => rw [if_pos rfl, keys_map_putAt]; rfl
  | false => rw [if_neg (by decide), List.map_append]; rfl
theorem storedH_all {xs : List (List Int × Addr × Value)} {k : List Int} {z : Addr} {R : List Int → Addr → Prop} (h : ∀ x ∈ xs, R x.1 x.2.1 ∧ x.2.2 = Value.bool true) (hk : R k z) : ∀ x ∈ storedH xs k z (.bool true), R x.1 x.2.1 ∧ x.2.2 = Value.bool true := fun x hx => by
  unfold storedH at hx
  split at hx
  · obtain ⟨y, hy, rfl⟩ := List.mem_map.mp hx
    unfold putAt
    split
    · exact ⟨(h y hy).1, rfl⟩
    · exact h y hy
  · rcases List.mem_append.mp hx with hx | hx
    · exact h x hx
    · rw [List.mem_singleton.mp hx]; exact ⟨hk, rfl⟩
end
section
variable {f : Ff} {σ : Sg} {s s₁ s' : Shared} {v : Value} {u : V} {x : Str} {i : Nat} {pos p : Pos}
/-- an own place of a slot changed -/
theorem StR.mutO (R : StR f σ s) (W : WfF f) (hv : f.cx.var x = some i) {a : Addr} {y : PyData} (va : varAt f.env s.heap x (.ref a)) (h1 : σ.op i a) (h2 : ∀ b, σ.op i b → b = a) (k : ∀ b o, b ≠ a → s.heap.get? b = some o → s'.heap.get? b = some o) (sm : Same s s') (r : OwnAt (f.hid σ) s'.heap a y) : StR f (σ.put i (σ.op i) (.own y)) s' := by
  have hpl := (R.ops i a h1).1
  have ap : ∀ b, f.pls b → b ≠ a := fun b q z => (R.dpl a hpl).1 (z ▸ q)
  have vk : ∀ y w, varAt f.env s.heap y w → varAt f.env s'.heap y w := fun y w va => va.imp (fun ⟨q, mm, nn, hv⟩ => ⟨q, mm, nn.at' fun o e => k _ o (ap _ (.inl rfl)) e, hv⟩) fun ⟨q, b, hb, o, q1, q2⟩ => ⟨q, b, hb, o, k b o (ap b (.inr ⟨y, W.cells y b hb⟩)) q1, q2⟩
  exact R.put W (var_inv hv).2.1 (Z := (· = a)) k sm (fun b q => q ▸ ⟨.inl hpl, R.newl a hpl, (R.ops i a h1).2⟩) (R.fm.on fun b o q e => k b o (ap b q) e) (fun b _ q => q ▸ ⟨r.is, r.nr⟩) (fun b q => ⟨(R.ops i b q).1, h2 b q ▸ r.nr⟩) (fun j ne b q => R.dis i j (Ne.symm ne) b q) (fun j ne b q z => R.dis j i ne b q (z ▸ h1)) (vk x _ va) (fun y w _ => vk y w) ⟨a, rfl, h1, h2, r⟩
/-- the key is set -/
theorem key_set (W : WfF f) {d : Addr} {kvs : List (PyData × PyData)} {y : PyData} {Q : Unit → Shared → Prop} (hd : f.hid σ d) (ro : OwnAt (f.hid σ) s.heap d (.dict kvs)) (rk : PR (f.hid σ) s.heap v y) (hz : kvs.length < lim) : All (addKey y kvs) fun kvs' => (∀ h' tk, OwnAt (f.hid σ) h' d (.dict kvs') → (∀ b o, b ≠ d → s.heap.get? b = some o → h'.get? b = some o) → Q () { s with heap := h', toks := tk }) → f.wp (setItem (.ref d) v (.bool true)) Q s := by
  obtain ⟨es, n, ho, r1, r2, ok⟩ := ro
  refine .map fun b e k => ?_
  have lz : ∀ {m : Nat}, m = kvs.length → m ≤ sizeLine := fun q => q ▸ lim_nat hz (by rw [sizeLine_eq]; decide)
  cases y with
  | int j =>
    obtain ⟨ks, e1, rfl⟩ := Option.map_eq_some_iff.mp e
    obtain ⟨t, rfl⟩ := rk.inv
    have hk := ok.shape (ok.ints e1).1
    refine wpAny_setItem_pairs (intKind_is f.G.prog f.G.w j t) (tab_of ho r1 r2 ok e1) (fun h' hm sb => ?_) (lz (by rw [hk, List.length_map, List.length_map, ofInts, List.length_map]))
    have := own_tab (P := f.hid σ) hm stored_all ok.off
    rw [stored_fst] at this
    refine k h' _ ?_ fun b o n e => (sb.2 b n).trans e
    revert this
    cases ks.contains j with
    | true => intro this; rw [hk, ofInts, List.map_map]; exact this
    | false => intro this; rw [hk, ofInts, List.map_map]; rw [show (cond false ks (ks ++ [j])) = ks ++ [j] from rfl, List.map_append] at this; exact this
  | tuple l =>
    obtain ⟨t, e0, e⟩ := Option.bind_eq_some_iff.mp e
    obtain ⟨ks, e1, rfl⟩ := Option.map_eq_some_iff.mp e
    obtain ⟨z, _, _, rfl, _⟩ := id rk.inv
    have el := allInts_eq t e0
    subst el
    obtain ⟨h1, h2, h3⟩ := ok.tups e1
    have hk := ok.shape h1
    rw [ok.snd, h1] at r2
    rw [h1] at r1
    obtain ⟨xs, p1, p2, p3⟩ := tab_tups (prog := f.G.prog) (w := f.G.w) r1 r2 h2
    subst p1
    have hu : (tupleKind (intKind f.G.prog f.G.w)).room f.A.in1 := show f.A.units + 1 < cLine from by have := W.units; show f.A.units + 1 < 9900; omega
    refine wpAny_setItem_heap hu (key_at rk) ⟨_, es, n, ho, ⟨rfl, rfl, rfl⟩, rfl, p2, fun x hx => (p3 x hx).1, h3⟩ (fun h' hm sb => ?_) (lz (by rw [hk, List.length_map, ofTups, List.length_map, List.length_map]))
    have mv : Mv (f.hid σ) (f.hid σ) s.heap h' := fun b o n e => ⟨n, (sb.2 b fun q => n (q ▸ hd)).trans e⟩
    have := own_tups (P := f.hid σ) hm (storedH_all (R := fun k z => PR (f.hid σ) h' (.ref z) (.tuple (ofInts k))) (fun x hx => ⟨(p3 x hx).2.1.move mv, (p3 x hx).2.2⟩) (rk.move mv)) ok.off
    rw [storedH_fst] at this
    refine k h' _ ?_ fun b o n e => (sb.2 b n).trans e
    revert this
    cases (xs.map (·.1)).contains t with
    | true => intro this; rw [hk]; exact this
    | false => intro this; rw [hk]; rw [show (cond false (xs.map (·.1)) (xs.map (·.1) ++ [t])) = xs.map (·.1) ++ [t] from rfl, ofTups, List.map_append, List.map_append] at this; exact this
  | _ => exact nomatch e
theorem key_case (W : WfF f) (T : Thr f) {kx : Expr} {k' : TC.E} {np sp cp : Pos} {ci : Nat} (hv : f.cx.var x = some i) (hk : OkF f kx k') : OkS f (.Assign [.Subscript (.Name x np) kx sp] (.Constant (.bool true) ci cp) pos) (.key i k') := fun σ s K Q R w out => by
  refine got_elim w fun su e1 w => got_elim w fun u e2 w => ?_
  cases u with
  | own y =>
    cases y with
    | dict kvs =>
      have ol : ∀ {s'}, StR f σ s' → ∃ d, varAt f.env s'.heap x (.ref d) ∧ σ.op i d ∧ (∀ b, σ.op i b → b = d) ∧ OwnAt (f.hid σ) s'.heap d (.dict kvs) := fun R' => by
        obtain ⟨v, va, d, rfl, h1, h2, r⟩ := R'.slots x i (var_inv hv).2.1 _ (e2 ▸ e1)
        exact ⟨d, va, h1, h2, r⟩
      refine wpAny_Assign_Subscript (wpAny_Constant_bool ?_) rfl
      obtain ⟨d, va, _⟩ := ol R
      refine load_var (c := f.ec σ s) W.envok (var_inv hv).1 va ((hk σ s R).ev s _ _ (R.at W) w fun vk s₂ uk a₂ x₂ rk w₂ => got_elim w₂ fun y e3 w => got_elim w fun kvs' e4 w => ?_)
      have R₂ := R.step W x₂ a₂.same
      obtain ⟨d', vb, p1, p2, ro⟩ := ol R₂
      cases vb.uniq (va.ext x₂)
      refine key_set W (.inl (R.ops i _ p1).1) ro ((R.wf W T).keep a₂.toAtC rk y e3) w.1 kvs' e4 fun h3 tk ro3 k3 => ?_
      exact out.nxt { s₂ with heap := h3, toks := tk } _ (R₂.mutO W hv (s' := { s₂ with heap := h3, toks := tk }) vb p1 p2 k3 ⟨rfl, rfl⟩ ro3) (Adv.mut R x₂ p1 k3) w.2
    | _ => exact w.elim
  | _ => exact w.elim
end
end TC

namespace TC
open PySem PySem.W PyProof.Rows

end TC

namespace TC
open PySem PySem.W PyProof.Rows

/-! Every statement. -/
noncomputable def SS (dep n : Nat) : Prop := ∀ f : Ff, f.dep = dep → WfF f → Thr f → ∀ st, All (lowS n f.cx st) (OkS f st)
theorem swaps_no {v : Expr} {ts : List Expr} {n line : Nat} {p : Pos} {env : Env} : swapsWithSole [.Tuple ts n p] v line env = pure false := by
  show swapsWith v (some (.Tuple ts n p)) line env = pure false
  unfold swapsWith
  dsimp only
  split <;> rfl
theorem swaps_sub {v a k : Expr} {line : Nat} {p : Pos} {env : Env} : swapsWith v (some (.Subscript a k p)) line env = pure false := by
  unfold swapsWith
  dsimp only
  split <;> rfl
section
variable {f : Ff} {x : Str} {i j : Nat} {pos p : Pos} {dep n : Nat} {e v t : Expr}
inductive IsPop (cx : Cx) (v : Expr) (j : Nat) : Prop
  | mk (y : Str) (np ap cp : Pos) : v = .Call (.Attribute (.Name y np) "pop" ap) [] [] cp → (ap.endLine == cp.line) = true → cx.var y = some j → IsPop cx v j
theorem pop_eq {cx : Cx} (v : Expr) : All (lowPop cx (view v)) (IsPop cx v) := by
  have vv := view_eq v
  revert vv
  cases view v with
  | call g as kws cp =>
    intro vv
    cases as with
    | cons => exact .no
    | nil =>
      cases kws with
      | cons => exact .no
      | nil =>
        have vg := view_eq g
        show All (popAttr cx cp (view g)) _
        revert vg
        cases view g with
        | attr a m ap =>
          intro vg
          refine .ite fun c => .bind fun y hy j hj => ?_
          obtain ⟨np, rfl⟩ := name_eq a y hy
          have c := Bool.and_eq_true_iff.mp c
          obtain rfl := beq_iff_eq.mp c.1
          exact ⟨y, np, ap, cp, vv.symm.trans (congrArg (Expr.Call · [] [] cp) vg.symm), c.2, hj⟩
        | _ => exact fun _ => .no
  | _ => exact fun _ => .no
theorem asgn_ok (IC : ∀ c, c.dep = dep → WfC c → Calls c) (hd : f.dep = dep) (W : WfF f) (T : Thr f) (hE : ∀ pe, All (lowE n f.cx pe) (OkF f pe)) : All (lowAsg (lowE n f.cx) f.cx v (view t)) (OkS f (.Assign [t] v pos)) := by
  have ve := view_eq t
  revert ve
  cases view t with
  | name x p =>
    intro ve
    replace ve : Expr.Name x p = t := ve
    subst ve
    refine .bind fun i hv => ?_
    cases q : lowPop f.cx (view v) with
    | none => exact .map fun e he => asg_case IC hd W T hv e he
    | some j =>
      obtain ⟨y, np, ap, cp, rfl, h1, h2⟩ := pop_eq v j q
      exact .so (pop_case W h1 h2 hv)
  | tuple ts k p =>
    intro ve
    replace ve : Expr.Tuple ts k p = t := ve
    subst ve
    refine .ite fun c => .bind fun is lv => .map fun e he => unp_case W T lv (hE v e he) swaps_no ?_
    have vv := view_eq v
    revert vv c
    cases view v with
    | call => exact fun _ vv => vv ▸ rfl
    | name => exact fun _ vv => vv ▸ rfl
    | sub => exact fun _ vv => vv ▸ rfl
    | _ => exact fun c => nomatch c
  | sub a k p =>
    intro ve
    replace ve : Expr.Subscript a k p = t := ve
    subst ve
    refine .bind fun x hx => .bind fun i hv => .bind fun k' hk => .cond (fun q => .so ?_) fun _ => .map fun v' hv' => ?_
    · obtain ⟨np, rfl⟩ := name_eq a x hx
      obtain ⟨y, ci, cp, rfl, hy⟩ := isC_eq q
      cases y with
      | bool b => cases (show b = true from hy); exact key_case W T hv (hE k k' hk)
      | _ => exact nomatch hy
    · obtain ⟨np, rfl⟩ := name_eq a x hx
      exact set_case W T hv (hE k k' hk) (hE v v' hv') swaps_sub
  | _ => exact fun _ => .no
theorem app_ok {a : Expr} {ap np : Pos} (W : WfF f) (T : Thr f) (hl : (ap.endLine == p.line) = true) (hv : f.cx.var x = some i) (hE : ∀ pe, All (lowE n f.cx pe) (OkF f pe)) : All (lowApp (lowE n f.cx) f.cx i a) (OkS f (.Expr (.Call (.Attribute (.Name x np) "append" ap) [a] [] p) pos)) := by
  exact .map fun a' ha => fzs_case W (app_case W T hl hv (hE a a' ha)) _
theorem recv_ok {a : Expr} {as : List Expr} {m : Str} {ap : Pos} (W : WfF f) (T : Thr f) (hl : (ap.endLine == p.line) = true) (hE : ∀ pe, All (lowE n f.cx pe) (OkF f pe)) : All (lowRecv (lowE n f.cx) f.cx m as (view a)) (OkS f (.Expr (.Call (.Attribute a m ap) as [] p) pos)) := by
  have va := view_eq a
  revert va
  cases view a with
  | name x np =>
    intro va
    replace va : Expr.Name x np = a := va
    subst va
    rcases as with _ | ⟨a, _ | ⟨a2, as⟩⟩
    · exact .no
    · refine .bind fun i hv => .ite fun q => ?_
      rw [beq_iff_eq.mp q]; exact app_ok W T hl hv hE
    · rcases as with _ | ⟨a3, as⟩
      · refine .bind fun i hv => .ite fun q => .bind fun k hk => .map fun a' ha => ?_
        rw [beq_iff_eq.mp q]; exact ins_case W T hl hv (hE _ k hk) (hE _ a' ha)
      · exact .no
  | _ => exact fun _ => .no
theorem expr_ok (W : WfF f) (T : Thr f) (hE : ∀ pe, All (lowE n f.cx pe) (OkF f pe)) : All (lowExpr (lowE n f.cx) f.cx e (view e)) (OkS f (.Expr e pos)) := by
  have ve := view_eq e
  revert ve
  cases view e with
  | call g as kws p =>
    intro ve
    replace ve : Expr.Call g as kws p = e := ve
    have vg := view_eq g
    show All (lowExpr2 (lowE n f.cx) f.cx e as kws p (view g)) _
    revert vg
    cases view g with
    | attr a m ap =>
      intro vg
      replace vg : Expr.Attribute a m ap = g := vg
      subst vg
      subst ve
      refine .ite fun c => ?_
      have c := Bool.and_eq_true_iff.mp c
      cases kws with
      | cons => exact nomatch c.1
      | nil => exact recv_ok W T c.2 hE
    | name g' gp =>
      intro vg
      replace vg : Expr.Name g' gp = g := vg
      subst vg
      subst ve
      exact .map fun e he => drop_case W (hE _ e he)
    | _ => exact fun _ => .no
  | _ => exact fun _ => .no
theorem retn_ok (W : WfF f) (T : Thr f) (hE : ∀ pe, All (lowE n f.cx pe) (OkF f pe)) : All (lowRet (lowE n f.cx) f.cx e (view e)) (OkS f (.Return (some e) pos)) := by
  have ve := view_eq e
  have plain : All ((lowE n f.cx e).map TC.S.ret) (OkS f (.Return (some e) pos)) := .map fun e' he => ret_case W T (hE e e' he)
  revert ve
  cases view e with
  | name x p =>
    intro ve
    replace ve : Expr.Name x p = e := ve
    show All ((f.cx.var x).elim ((lowE n f.cx e).map TC.S.ret) fun i => some (TC.S.retm i)) _
    cases q : f.cx.var x with
    | none => exact plain
    | some i => exact .so (ve ▸ retm_case W q)
  | tuple es tn tp =>
    intro ve
    replace ve : Expr.Tuple es tn tp = e := ve
    have plain : All ((lowE n f.cx e).map fun e' => fzs (ownsIn f.cx (view e)) (TC.S.ret e')) (OkS f (.Return (some e) pos)) := .map fun e' he => fzs_case W (ret_case W T (hE e e' he)) _
    rcases es with _ | ⟨a, _ | ⟨b, _ | ⟨d, es⟩⟩⟩
    · exact plain
    · exact plain
    · show All ((ownNm f.cx (view a)).elim ((lowE n f.cx e).map fun e' => fzs (ownsIn f.cx (view e)) (TC.S.ret e')) fun j => (lowE n f.cx b).map (TC.S.ret2 j)) _
      have va := view_eq a
      cases q : ownNm f.cx (view a) with
      | none => exact plain
      | some j =>
        subst ve
        refine .map fun e' he => ?_
        revert q va
        cases view a with
        | name y yp =>
          intro va q
          replace va : Expr.Name y yp = a := va
          subst va
          obtain ⟨j', h1, h2⟩ := Option.bind_eq_some_iff.mp q
          cases z : f.cx.ow.contains j' with
          | false => rw [z] at h2; exact nomatch h2
          | true => rw [z] at h2; cases h2; exact ret2_case W T h1 (hE b e' he)
        | _ => exact fun _ q => nomatch q
    · exact plain
  | _ => exact fun _ => plain
theorem raise_ok (W : WfF f) (T : Thr f) : All (lowRaise f.cx (view e)) (OkS f (.Raise (some e) none pos)) := by
  have ve := view_eq e
  revert ve
  cases view e with
  | call g as kws p =>
    intro ve
    replace ve : Expr.Call g as kws p = e := ve
    subst ve
    rcases as with _ | ⟨a, _ | ⟨a2, as⟩⟩
    · exact .no
    · cases kws with
      | cons => exact .no
      | nil =>
        refine .ite fun c => .bind fun x hx => .ite fun hg => .map fun k hc => ?_
        obtain ⟨np, rfl⟩ := name_eq g x hx
        obtain ⟨y, k, q, rfl, hy⟩ := isC_eq c
        cases y with
        | str msg => exact rais_case W T hg hc
        | _ => exact nomatch hy
    · exact .no
  | _ => exact fun _ => .no
theorem tryx_ok {hs : List ExceptHandler} {body : List Stmt} (W : WfF f) (T : Thr f) (hB : ∀ sts, All (lowSs (lowS n f.cx) sts) (OkB f sts)) : All (lowTry (lowS n f.cx) f.cx body hs) (OkS f (.Try body hs [] [] pos)) := by
  rcases hs with _ | ⟨⟨t, x, h, p⟩, _ | ⟨h2, hs⟩⟩
  · exact .no
  · cases t with
    | none => exact .no
    | some t =>
      cases x with
      | none => exact .no
      | some x =>
        refine .ite fun c => .bind fun y hy => .ite fun hg => .bind fun k hc => .bind fun i hv => .bind fun b hb => .map fun h' hh => ?_
        have c := Bool.and_eq_true_iff.mp c
        obtain ⟨tp, rfl⟩ := name_eq t y hy
        cases h with
        | nil => exact nomatch c.2
        | cons h0 h => exact try_case W T hg (beq_iff_eq.mp c.1) hc hv (hB _ b hb) (hB _ h' hh)
  · cases t <;> cases x <;> exact .no
theorem for_ok {tgt : Tgt} {b : Ss} {body : List Stmt} (W : WfF f) (T : Thr f) (hE : ∀ pe, All (lowE n f.cx pe) (OkF f pe)) (ht : lowTgt f.cx (view t) = some tgt) (hb : OkB f body b) : All (lowFor (lowE n f.cx) f.cx e tgt b (view e)) (OkS f (.For t e body [] pos)) := by
  have ve := view_eq e
  have plain : All ((lowE n f.cx e).map fun src => TC.S.loop tgt src b) (OkS f (.For t e body [] pos)) := .map fun e' he => loop_case W T ht (hE e e' he) (folded_ok e e' he) hb
  revert ve
  cases view e with
  | name x p =>
    intro ve
    replace ve : Expr.Name x p = e := ve
    exact .map fun i hv => ve ▸ loopn_case W T ht hv hb
  | _ => exact fun _ => plain
theorem ss_succ (IC : ∀ c, c.dep = dep → WfC c → Calls c) (IS : SS dep n) : SS dep (n + 1) := fun f hd W T st => by
  have hE' : ∀ f' : Ff, f'.dep = f.dep → f'.cx = f.cx → WfF f' → Thr f' → ∀ pe, All (lowE n f.cx pe) (OkF f' pe) := fun f' d c W' T' pe e he σ s R => se_all IC n (f'.ec σ s) (d.trans hd) (R.wf W' T') pe e (by show lowE n f'.cx pe = some e; rw [c]; exact he)
  have hE := hE' f rfl rfl W T
  have hB : ∀ sts, All (lowSs (lowS n f.cx) sts) (OkB f sts) := fun sts ts h f' d c W' T' => seq_ok W' (fun st => IS f' (d.trans hd) W' T' st) ts (c ▸ h)
  have hS : ∀ sts, All (lowSs (lowS n f.cx) sts) (OkSs f sts) := fun sts ts h => hB sts ts h f rfl rfl W T
  show All (lowSV (lowE n f.cx) (lowS n f.cx) f.cx st) (OkS f st)
  cases st with
  | Assign ts v pos =>
    rcases ts with _ | ⟨t, _ | ⟨t2, ts⟩⟩
    · exact .no
    · exact asgn_ok IC hd W T hE
    · exact .no
  | Expr e pos => exact expr_ok W T hE
  | If t a b pos => exact .bind fun c h1 => .bind fun a' h2 => .map fun b' h3 => ite_case W (hE t c h1) (hS a a' h2) (hS b b' h3)
  | For t iter body orelse pos =>
    cases orelse with
    | nil => exact .bind fun tgt ht => .bind fun b hb => for_ok W T hE ht (hB body b hb)
    | cons => exact .no
  | While c body orelse pos =>
    cases orelse with
    | nil => exact .bind fun c' hc => .map fun b hb => whl_case W T (fun f' d e W' T' => hE' f' d e W' T' c c' hc) (hB body b hb)
    | cons => exact .no
  | Return e pos =>
    cases e with
    | none => exact .no
    | some e => exact retn_ok W T hE
  | Raise e c pos =>
    cases e with
    | none => exact .no
    | some e =>
      cases c with
      | none => exact raise_ok W T
      | some => exact .no
  | Try body hs orelse fin pos =>
    cases orelse with
    | nil =>
      cases fin with
      | nil => exact tryx_ok W T hB
      | cons => exact .no
    | cons => exact .no
  | _ => exact .no
theorem ss_all (IC : ∀ c, c.dep = dep → WfC c → Calls c) (n : Nat) : SS dep n := by
  induction n with
  | zero => exact fun f _ _ _ st => .no
  | succ n ih => exact ss_succ IC ih
end
end TC

namespace TC
open PySem PySem.W PyProof.Rows

/-! Calls. -/
theorem slots_mem {names : List (Str × NameKind)} : ∀ {n : Nat} {x : Str} {i : Nat}, (x, i) ∈ slotsOf names n → n ≤ i ∧ ((x, NameKind.local) ∈ names ∨ (x, NameKind.cell) ∈ names) := by
  induction names with
  | nil => intro n x i h; cases h
  | cons p r ih =>
    intro n x i h
    unfold slotsOf at h
    cases q : (p.2 == NameKind.local || p.2 == NameKind.cell) with
    | true =>
      rw [q] at h
      rcases List.mem_cons.mp h with e | h
      · cases e
        simp only [Bool.or_eq_true, beq_iff_eq] at q
        exact ⟨Nat.le_refl _, q.imp (fun e => by rw [← e]; exact .head _) fun e => by rw [← e]; exact .head _⟩
      · exact ⟨Nat.le_of_succ_le (ih h).1, (ih h).2.imp (.tail _) (.tail _)⟩
    | false => rw [q] at h; exact ⟨(ih h).1, (ih h).2.imp (.tail _) (.tail _)⟩
theorem slots_inj {names : List (Str × NameKind)} : ∀ {n : Nat} {x y : Str} {i : Nat}, (x, i) ∈ slotsOf names n → (y, i) ∈ slotsOf names n → x = y := by
  induction names with
  | nil => intro n x y i h; cases h
  | cons p r ih =>
    intro n x y i h h'
    unfold slotsOf at h h'
    cases q : (p.2 == NameKind.local || p.2 == NameKind.cell) with
    | true =>
      rw [q] at h h'
      rcases List.mem_cons.mp h with e | h <;> rcases List.mem_cons.mp h' with e' | h'
      · cases e; cases e'; rfl
      · cases e; exact absurd (slots_mem h').1 (Nat.lt_irrefl _)
      · cases e'; exact absurd (slots_mem h).1 (Nat.lt_irrefl _)
      · exact ih h h'
    | false => rw [q] at h h'; exact ih h h'
theorem bindL_other {kd : Str → Option NameKind} {b : List (Str × Value)} : ∀ {m : Str → Option Value} {x : Str}, (∀ p ∈ b, p.1 ≠ x) → bindL kd b m x = m x := by
  induction b with
  | nil => exact fun _ => rfl
  | cons p r ih =>
    intro m x h
    unfold bindL
    rw [ih fun p hp => h p (.tail _ hp)]
    split
    · exact if_neg fun e => h p (.head _) e.symm
    · rfl
theorem bindL_at {kd : Str → Option NameKind} {b : List (Str × Value)} : ∀ {m : Str → Option Value} {x : Str} {v : Value}, (b.map (·.1)).Nodup → (x, v) ∈ b → kd x = some .local → bindL kd b m x = some v := by
  induction b with
  | nil => exact fun _ h => nomatch h
  | cons p r ih =>
    intro m x v nd h hk
    obtain ⟨n1, n2⟩ := List.nodup_cons.mp nd
    unfold bindL
    rcases List.mem_cons.mp h with e | h
    · cases e
      rw [bindL_other fun p hp e => n1 (List.mem_map.mpr ⟨p, hp, e⟩), if_pos hk]
      exact if_pos rfl
    · exact ih n2 h hk
theorem bindC_other {kd : Str → Option NameKind} {b : List (Str × Value)} : ∀ {m : Str → Option Value} {x : Str}, (∀ p ∈ b, p.1 ≠ x) → bindC kd b m x = m x := by
  induction b with
  | nil => exact fun _ => rfl
  | cons p r ih =>
    intro m x h
    unfold bindC
    rw [ih fun p hp => h p (.tail _ hp)]
    split
    · rfl
    · exact if_neg fun e => h p (.head _) e.symm
theorem bindC_at {kd : Str → Option NameKind} {b : List (Str × Value)} : ∀ {m : Str → Option Value} {x : Str} {v : Value}, (b.map (·.1)).Nodup → (x, v) ∈ b → kd x ≠ some .local → bindC kd b m x = some v := by
  induction b with
  | nil => exact fun _ h => nomatch h
  | cons p r ih =>
    intro m x v nd h hk
    obtain ⟨n1, n2⟩ := List.nodup_cons.mp nd
    unfold bindC
    rcases List.mem_cons.mp h with e | h
    · cases e
      rw [bindC_other fun p hp e => n1 (List.mem_map.mpr ⟨p, hp, e⟩), if_neg hk]
      exact if_pos rfl
    · exact ih n2 h hk
theorem cells_nd {names : List (Str × NameKind)} {n : Nat} (nd : (names.map (·.1)).Nodup) : ((cellsFrom n names []).map (·.1)).Nodup := by
  rw [cellsFrom_names]
  unfold List.Nodup
  rw [List.pairwise_reverse]
  exact (nd.sublist (List.filter_sublist.map _)).imp Ne.symm
theorem cell_at {names : List (Str × NameKind)} {n : Nat} (nd : (names.map (·.1)).Nodup) {x : Str} (h : names.lookup x = some .cell) : ∃ c, (cellsFrom n names []).lookup x = some c := by
  obtain ⟨c, hc⟩ := cellsFrom_some names n x (mem_of_lookup h)
  exact ⟨c, lookup_mem_nodup (cells_nd nd) hc⟩
/-- what a match of a def says -/
structure Fits (fns cls : List (Str × Nat)) (cst : List (Str × Int)) (fn : Fn) (ow : List Nat) (params : Arguments) (scope : Scope) (body : List Stmt) (b : Ss) : Prop where
  kind : scope.kind = .function
  gen : scope.isGenerator = false
  co : scope.isCoroutine = false
  nd : (scope.names.map (·.1)).Nodup
  free : ∀ p ∈ scope.names, p.2 ≠ .free
  args : (params.args.map fun a => (slotsOf scope.names 0).lookup a.arg) = (List.range fn.np).map some
  ns : (slotsOf scope.names 0).length = fn.ns
  low : lowSs (lowS 40 { kd := scope.names, tb := slotsOf scope.names 0, nx := fn.ns, fns := fns, cls := cls, cst := cst, ow := ow }) body = some b
theorem fn_fits {fns cls : List (Str × Nat)} {cst : List (Str × Int)} {fn : Fn} {ow : List Nat} {params : Arguments} {scope : Scope} {body : List Stmt} : All (fnMatch fns cls cst fn ow params scope body) (Fits fns cls cst fn ow params scope body) := .ite fun q b h => by
  simp only [Bool.and_eq_true, beq_iff_eq, Bool.not_eq_true', decide_eq_true_eq, List.all_eq_true, bne_iff_ne] at q
  obtain ⟨⟨⟨⟨⟨⟨⟨⟨⟨⟨⟨q1, q2⟩, q3⟩, q4⟩, q5⟩, q6⟩, q7⟩, q8⟩, q9⟩, q10⟩, q11⟩, q12⟩ := q
  exact ⟨q1, q2, q3, q4, q5, q11, q12, h⟩
/-- the arguments' names -/
theorem args_at {names : List (Str × NameKind)} {args : List Arg} {np : Nat} (h : (args.map fun a => (slotsOf names 0).lookup a.arg) = (List.range np).map some) :
    (args.map (·.arg)).length = np ∧ (args.map (·.arg)).Nodup ∧ ∀ i nm, (args.map (·.arg))[i]? = some nm → (slotsOf names 0).lookup nm = some i := by
  have l : args.length = np := by have := congrArg List.length h; rwa [List.length_map, List.length_map, List.length_range] at this
  have e : (args.map (·.arg)).map ((slotsOf names 0).lookup ·) = (List.range np).map some := by rw [List.map_map]; exact h
  refine ⟨by rw [List.length_map, l], ?_, fun i nm q => ?_⟩
  · have nd : List.Nodup ((List.range np).map some) := List.Pairwise.map some (fun a b ne e => ne (Option.some.inj e)) List.nodup_range
    rw [← e] at nd
    exact List.Pairwise.of_map _ (fun a b ne e => ne (by rw [e])) nd
  · have lt : i < np := by have := (List.getElem?_eq_some_iff.mp q).1; rwa [List.length_map, l] at this
    have := congrArg (·[i]?) e
    rw [List.getElem?_map] at this q
    rw [List.getElem?_map, q, List.getElem?_map, List.getElem?_range lt] at this
    exact Option.some.inj this
theorem zip_at {α β : Type} {a : List α} : ∀ {b : List β} {p : α × β}, p ∈ a.zip b → ∃ i : Nat, a[i]? = some p.1 ∧ b[i]? = some p.2 := by
  induction a with
  | nil => exact fun h => nomatch h
  | cons x a ih =>
    intro b p h
    cases b with
    | nil => exact nomatch h
    | cons y b =>
      rcases List.mem_cons.mp h with rfl | h
      · exact ⟨0, rfl, rfl⟩
      · obtain ⟨i, h1, h2⟩ := ih h; exact ⟨i + 1, h1, h2⟩
theorem zip_mem {α β : Type} {a : List α} : ∀ {b : List β} {i : Nat} {x : α} {y : β}, a[i]? = some x → b[i]? = some y → (x, y) ∈ a.zip b := by
  induction a with
  | nil => exact fun h => nomatch h
  | cons x a ih =>
    intro b i x y h1 h2
    cases b with
    | nil => exact nomatch h2
    | cons y b =>
      cases i with
      | zero => cases h1; cases h2; exact .head _
      | succ i => exact .tail _ (ih (i := i) h1 h2)
theorem kind_of {names : List (Str × NameKind)} (nd : (names.map (·.1)).Nodup) {x : Str} {i : Nat} (h : (slotsOf names 0).lookup x = some i) : names.lookup x = some .local ∨ names.lookup x = some .cell :=
  (slots_mem (mem_of_lookup h)).2.imp (lookup_mem_nodup nd) (lookup_mem_nodup nd)
/-- what a def hands back, seen from outside -/
theorem VR.outer {ca : List Addr} {h₁ : Heap} {pls hid fr : AP} {h : Heap} {v : Value} {u : V} (r : VR ca h₁ (fun b => pls b ∨ hid b) fr h v u) : VR ca h₁ hid fr h v u := by
  cases u with
  | d x => exact PR.anti r fun b q => .inr q
  | own x => obtain ⟨a, e, n, q⟩ := r; exact ⟨a, e, n, q.move (fun b o n e => ⟨fun q => n (q.imp_right .inr), e⟩) fun o e => e⟩
  | ot y z => exact OtV.move r (fun _ q => q) (fun _ _ _ e => e) fun b o n e => ⟨fun q => n (.inr q), e⟩
  | _ => exact r
end TC

namespace TC
open PySem PySem.W PyProof.Rows

/-- a def entered: its frame -/
noncomputable abbrev Cf.enter (c : Cf) (m : Nat) (cx : Cx) (env : Env) (s : Shared) (E : Value → Shared → Prop) : Ff := { G := c.G, dep := m, cx := cx, env := env, own := env.cells, s₀ := s, hid0 := c.hid, envs0 := c.envs, hm := c.hm, A := c.A.deeper env, X := fun k _ => c.X k, E := E }
noncomputable abbrev cxOf (G : Gl) (fn : Fn) (ow : List Nat) (names : List (Str × NameKind)) : Cx := { kd := names, tb := slotsOf names 0, nx := fn.ns, fns := G.fns, cls := G.cls, cst := G.cst, ow := ow }
noncomputable abbrev envOf (d : DefRec) (pm code doc : Value) (L z : Addr) : Env := callEnvC (Calls.docDef d.name d.params d.body d.scope pm code doc) L z
section
variable {c : Cf} {s s₁ : Shared} {m : Nat} {fn : Fn} {ow : List Nat} {d : DefRec} {pm code doc : Value} {z : Addr} {vs : List Value} {us : List V} {E : Value → Shared → Prop}
theorem enter_wf (W : WfC c) (a : AtC c s) (hd : c.dep = m + 1) (F : Fits c.G.fns c.G.cls c.G.cst fn ow d.params d.scope d.body fn.body) (newp : ∀ b, pls (envOf d pm code doc s.heap.objs.size z) (envOf d pm code doc s.heap.objs.size z).cells b → s.heap.get? b = none) : WfF (c.enter m (cxOf c.G fn ow d.scope.names) (envOf d pm code doc s.heap.objs.size z) s E) := by
  have h1 := W.depth
  have h2 := W.units
  rw [hd] at h1 h2
  have cl : ∀ x, d.scope.names.lookup x = some .cell → ∃ b, (envOf d pm code doc s.heap.objs.size z).cells.lookup x = some b := fun x q => cell_at F.nd q
  have nf : ∀ x, d.scope.names.lookup x ≠ some .free := fun x q => F.free _ (mem_of_lookup q) rfl
  refine ⟨W.ok, ?_, ?_, Around.frames_deeper a.stk.frames, rfl, a.stk.funs, a.stk.base, W.sub, a.dom, newp, ⟨F.kind, rfl, rfl, rfl, rfl, rfl, rfl, fun x q => q.elim (cl x) fun q => absurd q (nf x), fun x q => absurd q (nf x)⟩, fun x b e => e, fun x y i h1 h2 => slots_inj (mem_of_lookup h1) (mem_of_lookup h2), fun x i hv => ?_⟩
  · show c.A.depth + 1 + m ≤ 900; omega
  · show c.A.units + 3 + 20 * m ≤ 9000; omega
  · exact (kind_of F.nd (var_inv hv).2.1).imp_right fun z => ⟨z, cl x z⟩
theorem pad_at {n i : Nat} {u : V} (h : (us.map some ++ List.replicate n none)[i]? = some (some u)) : us[i]? = some u := by
  by_cases lt : i < us.length
  · rw [List.getElem?_append_left (by rw [List.length_map]; exact lt), List.getElem?_map] at h
    obtain ⟨u', h', e⟩ := Option.map_eq_some_iff.mp h
    cases e; exact h'
  · rw [List.getElem?_append_right (by rw [List.length_map]; exact Nat.le_of_not_lt lt), List.getElem?_replicate] at h
    split at h <;> cases h
theorem enter_st (W : WfC c) (a : AtC c s) (F : Fits c.G.fns c.G.cls c.G.cst fn ow d.params d.scope d.body fn.body) (lu : us.length = fn.np) (lp : fn.np ≤ fn.ns) (r : Rs (fun v u => VR c.G.ca s.heap c.hid c.fr s.heap v u ∧ argV u = some u) vs us)
    (x : InCallC s (envOf d pm code doc s.heap.objs.size z).locals (bindL (envOf d pm code doc s.heap.objs.size z).kindOf ((d.params.args.map (·.arg)).zip vs) fun _ => none) (envOf d pm code doc s.heap.objs.size z).cells (bindC (envOf d pm code doc s.heap.objs.size z).kindOf ((d.params.args.map (·.arg)).zip vs) fun _ => none) s₁)
    (newp : ∀ b, pls (envOf d pm code doc s.heap.objs.size z) (envOf d pm code doc s.heap.objs.size z).cells b → s.heap.get? b = none) :
    StR (c.enter m (cxOf c.G fn ow d.scope.names) (envOf d pm code doc s.heap.objs.size z) s E) ⟨fun _ => False, fun _ _ => False, us.map some ++ List.replicate (fn.ns - fn.np) none⟩ s₁ := by
  have keep := x.toInCall.keep
  have sm : Same s s₁ := by obtain ⟨h1, tk1, es⟩ := x.toInCall.same; rw [es]; exact ⟨rfl, rfl⟩
  refine ⟨Ext.of keep, sm, ⟨F.kind, ⟨_, x.toInCall.ns⟩, fun y b e => ⟨_, x.cell y b e⟩, fun y b e => e, fun y b e w e' => name_of_addr x.apart (mem_of_lookup e') (mem_of_lookup e)⟩, a.hok.at fun b _ o e => keep b o e, fun _ q => q.elim, fun _ q => q.elim, fun _ _ q => q.elim, fun _ _ _ _ q => q.elim, ?_, fun y i hy u hu => ?_⟩
  · show (us.map some ++ List.replicate (fn.ns - fn.np) none).length = fn.ns
    rw [List.length_append, List.length_map, List.length_replicate]; omega
  · have hi := pad_at hu
    obtain ⟨a1, a2, a3⟩ := args_at F.args
    obtain ⟨v, hv, rv, au⟩ := r.at hi
    have li : i < (d.params.args.map (·.arg)).length := by rw [a1, ← lu]; exact (List.getElem?_eq_some_iff.mp hi).1
    have hn := List.getElem?_eq_getElem li
    have ey : y = (d.params.args.map (·.arg))[i] := slots_inj (mem_of_lookup hy) (mem_of_lookup (a3 i _ hn))
    rw [← ey] at hn
    have mem := zip_mem hn hv
    have nd : (((d.params.args.map (·.arg)).zip vs).map (·.1)).Nodup := by
      rw [List.map_fst_zip (Nat.le_of_eq (by rw [a1, ← lu, r.length]))]; exact a2
    refine ⟨v, ?_, ?_⟩
    · rcases kind_of F.nd hy with q | q
      · exact .inl ⟨q, _, x.toInCall.ns, bindL_at nd mem q⟩
      · obtain ⟨b, hb⟩ := cell_at (n := s.heap.objs.size + 1) F.nd q
        refine .inr ⟨.inl q, b, hb, ?_⟩
        have := x.cell y b hb
        rw [bindC_at nd mem (fun w => by have := q.symm.trans w; cases this)] at this
        exact this
    · cases u with
      | d w => exact PR.move (fun b o n e => ⟨fun q => q.elim id fun q => q.elim (fun q => some_none e (newp b q)) n, keep b o e⟩) rv
      | brw w => exact rv
      | exc k => exact ExcAt.ext rv (Ext.of (fr := c.fr) keep)
      | own w => exact nomatch au
      | ot y z => exact nomatch au
      | rg n => exact nomatch au
/-- a call, one level up -/
theorem sc_step (IC : ∀ c : Cf, c.dep = m → WfC c → Calls c) (hd : c.dep = m + 1) (W : WfC c) {f : Nat} {K : V → Prop} {Q : Value → Shared → Prop} (hf : c.G.fa[f]? = some z) (a : AtC c s) (r : Rs (fun v u => VR c.G.ca s.heap c.hid c.fr s.heap v u ∧ argV u = some u) vs us) (w : Φ c c.hm f us K c.X)
    (k : ∀ v s' u, AtC c s' → Ext c.fr s.heap s'.heap → VR c.G.ca s.heap c.hid c.fr s'.heap v u → K u → Q v s') : codeAny c.M c.A (.call (.ref z) ⟨vs, []⟩) (fun r s' => match r with | .ok (.ret v) => Q v s' | .ok _ => False | .error e => c.E e s') s := by
  obtain ⟨d, fn, ow, hdd, hns, htab, hmt, hbind⟩ := W.ok.fok f z hf
  have F := fn_fits fn.body hmt
  have w : got (c.G.tab[f]?) fun fn => (us.length = fn.np ∧ fn.np ≤ fn.ns) ∧ wpSs (wpCall c.G.tab m) c.hm fn.body (us.map some ++ List.replicate (fn.ns - fn.np) none) (outK K) (fun k _ => c.X k) := by
    have w := w; unfold Φ at w; rw [hd] at w; exact w
  rw [htab] at w
  obtain ⟨⟨lu, lp⟩, w⟩ := w
  obtain ⟨z', o, pm, code, doc, e1, e2, e3, e4⟩ := W.ok.top.fn d hdd
  have ez : z' = z := by
    have := mg_of W.ok.inK W.ok.top.g hns
    rw [this] at e1; cases e1; rfl
  subst ez
  have b := a.stk.base
  have lv : vs.length = fn.np := by rw [r.length, lu]
  refine codeAny_call_cells (fd := Calls.docDef d.name d.params d.body d.scope pm code doc) ?_ (b _ _ e2) e3 (W.ok.top.nolimit.keeps b) (e4.keeps b) rfl (hbind pm code doc vs lv) rfl ?_ (fun s₁ x => ?_) F.co F.gen F.kind
  · have := W.depth; have : recursionLimit = 1000 := rfl; omega
  · intro p hp
    obtain ⟨i, h1, h2⟩ := zip_at hp
    refine (kind_of F.nd ((args_at F.args).2.2 i p.1 h1)).imp_right fun q => ⟨q, ?_⟩
    obtain ⟨b, hb⟩ := cell_at (n := s.heap.objs.size + 1) F.nd q
    exact Option.isSome_iff_exists.mpr ⟨b, hb⟩
  · have newp : ∀ b, pls (envOf d pm code doc s.heap.objs.size z') (envOf d pm code doc s.heap.objs.size z').cells b → s.heap.get? b = none := fun b q => by
      rcases q with rfl | ⟨y, q⟩
      · exact size_none _
      · exact Heap.get?_none_of_le (Nat.le_of_lt (x.above y b (mem_of_lookup q)))
    have ext : ∀ {f : Ff} {h' : Heap}, f.fr0 = c.fr → f.h₀ = s.heap → WfF f → Ext f.fr f.h₀ h' → Ext c.fr s.heap h' := fun e1 e2 W' q => by
      rw [← e1, ← e2]
      exact q.down (Ext.refl _ _) fun b q n => ((fr_cons W').mp q).elim (fun q => W'.newp b (.inl q)) fun q => absurd q n
    have Wf' := fun E => enter_wf (E := E) (pm := pm) (code := code) (doc := doc) W a hd F newp
    have R0 := fun E => enter_st (m := m) (E := E) W a F lu lp r x newp
    refine seq_ok (Wf' _) (fun st => ss_all IC 40 _ rfl (Wf' _) ?_ st) fn.body F.low _ s₁ _ _ (R0 _) w ⟨fun s' σ' R' ad hk => k .none s' (.d .none) (a.go R'.ext R'.same) R'.ext (PR.non ..) hk, fun s' v u σ' ρ R' rv hk => k v s' u (a.go R'.ext R'.same) R'.ext rv.outer hk⟩
    intro e s' j C fl σ' R' hC hl Fl hx
    refine leave_ok (R'.sk (Wf' _)) rfl rfl (R'.extF (Wf' _)) hl Fl fun h2 x2 F2 => ?_
    have x3 := ext rfl rfl (Wf' _) x2
    exact W.thr e { s' with heap := h2 } j ⟨C, hC, F2.back a.ext, a.ext.trans x3⟩ (a.same.trans R'.same) hx
theorem sc_all (m : Nat) : ∀ c : Cf, c.dep = m → WfC c → Calls c := by
  induction m with
  | zero => intro c hd W s f z vs us K Q hf a r w k; unfold Φ at w; rw [hd] at w; exact w.elim
  | succ m ih => exact fun c hd W s f z vs us K Q hf a r w k => wpAny_call (sc_step ih hd W hf a r w k)
end
end TC

namespace TC
open PySem PySem.W PyProof.Rows

/-! From the head of a row to the small language. -/

noncomputable def recAt (p : Program) (k : Nat) : DefRec := ((recsOf p)[k]?).getD ⟨Str.empty, default, [], default, default⟩
/-- what is asked of the def k -/
structure FnOk (p : Program) (fns cls : List (Str × Nat)) (cst : List (Str × Int)) (k : Nat) (name : Str) (fn : Fn) (ow : List Nat) : Prop where
  there : ((recsOf p)[k]?).isSome = true
  name : (recAt p k).name = name
  low : fnMatch fns cls cst fn ow (recAt p k).params (recAt p k).scope (recAt p k).body = some fn.body
  bind : ∀ (pm code doc : Value) (vals : List Value), vals.length = fn.np → bindArgs (Calls.docDef (recAt p k).name (recAt p k).params (recAt p k).body (recAt p k).scope pm code doc) ⟨vals, []⟩ = pure (((recAt p k).params.args.map (·.arg)).zip vals)
theorem FnOk.mem {p : Program} {fns cls : List (Str × Nat)} {cst : List (Str × Int)} {k : Nat} {name : Str} {fn : Fn} {ow : List Nat} (x : FnOk p fns cls cst k name fn ow) : recAt p k ∈ recsOf p := by
  obtain ⟨d, hd⟩ := Option.isSome_iff_exists.mp x.there
  unfold recAt; rw [hd]; exact List.mem_of_getElem? hd

noncomputable def isIntO (i : Int) : Option (Option Value) → Bool
  | some (some (.int j _)) => j == i
  | _ => false
/-- the names of the top, looked up -/
noncomputable def checkK (K : Frag) (fn : List Str) (fa : List Addr) (cn : List Str) (ca : List Addr) (cst : List (Str × Int)) : Bool :=
  (fn.zip fa).all (fun q => nsIn K mainGlobals q.1 == some (some (.ref q.2))) && (cn.zip ca).all (fun q => nsIn K mainGlobals q.1 == some (some (.ref q.2)))
    && cst.all (fun q => isIntO q.2 (nsIn K mainGlobals q.1)) && usedNames.all (fun x => nsIn K mainGlobals x == some none) && ca.all (ownOk1 K)
    && (List.range ca.length).all fun c => (List.range ca.length).all fun c' => mroIn K (ca.getD c 0) (.ref (ca.getD c' 0)) == some (c' == 0 || c == c')

/-- the own classes, as the top tells them -/
noncomputable def checkO (p : Program) (cn : List Str) : Bool := cn.all fun x => (ownsOf p).any fun o => o.name == x && o.bm == bmV && o.newId == "ValueError.__new__"
theorem zipIdx_lookup {l : List Str} {x : Str} {k : Nat} (h : l.zipIdx.lookup x = some k) : l[k]? = some x := by
  have := mem_of_lookup h
  exact List.mk_mem_zipIdx_iff_getElem?.mp this
theorem zip_get {α β : Type} {a : List α} {b : List β} {k : Nat} {x : α} (l : a.length = b.length) (h : a[k]? = some x) : ∃ y, b[k]? = some y ∧ (x, y) ∈ a.zip b := by
  have lt := (List.getElem?_eq_some_iff.mp h).1
  have hb : b[k]? = some b[k] := List.getElem?_eq_getElem (l ▸ lt)
  exact ⟨_, hb, zip_mem h hb⟩

theorem gl_ok {prog : Program} {w : World} {K : Frag} {B : Heap} {p : Program} {loose : List Str} {mean : ExcName → Option Value} {mg mb : Str → Option Value} (fn : List Str) (fa : List Addr) (cn : List Str) (ca : List Addr) (cst : List (Str × Int)) (tab : List Fn) (ows : List (List Nat))
    (KX : K.In B) (T : Top p loose mean mg mb B) (ck : checkK K fn fa cn ca cst = true) (co : checkO p cn = true) (l1 : fn.length = fa.length) (l2 : cn.length = ca.length) (l3 : tab.length = fa.length)
    (fo : ∀ k x f, fn[k]? = some x → tab[k]? = some f → ∃ ow, FnOk p fn.zipIdx cn.zipIdx cst k x f ow) : (Gl.mk prog w K B p loose mean mg mb fn.zipIdx fa cn.zipIdx ca cst tab).Ok := by
  unfold checkK at ck
  simp only [Bool.and_eq_true, List.all_eq_true, beq_iff_eq] at ck
  obtain ⟨⟨⟨⟨⟨c1, c2⟩, c3⟩, c4⟩, c5⟩, c6⟩ := ck
  refine ⟨KX, T, fun x k h => ?_, fun x k h => ?_, fun x i h => ?_, c4, fun k a h => ?_, fun c C h => c5 C (List.mem_of_getElem? h), fun c C c' C' h h' => ?_, fun c C h => ?_⟩
  · obtain ⟨a, h1, h2⟩ := zip_get l1 (zipIdx_lookup h)
    exact ⟨a, h1, c1 _ h2⟩
  · obtain ⟨a, h1, h2⟩ := zip_get l2 (zipIdx_lookup h)
    exact ⟨a, h1, c2 _ h2⟩
  · have := c3 _ (mem_of_lookup h)
    unfold isIntO at this
    split at this
    · rename_i j t e
      rw [beq_iff_eq.mp this] at e
      exact ⟨t, e⟩
    · cases this
  · obtain ⟨x, h1, h2⟩ := zip_get l1.symm h
    have lt := (List.getElem?_eq_some_iff.mp h).1
    obtain ⟨ow, q⟩ := fo k x _ h1 (List.getElem?_eq_getElem (l3 ▸ lt))
    refine ⟨recAt p k, _, ow, q.mem, ?_, List.getElem?_eq_getElem (l3 ▸ lt), q.low, q.bind⟩
    rw [q.name]
    exact c1 _ (zip_mem h1 h)
  · have e1 := List.getElem?_eq_some_iff.mp h
    have e2 := List.getElem?_eq_some_iff.mp h'
    have := c6 c (List.mem_range.mpr e1.1) c' (List.mem_range.mpr e2.1)
    rw [List.getD_eq_getElem?_getD, List.getD_eq_getElem?_getD, show ca[c]? = some C from h, show ca[c']? = some C' from h'] at this
    exact this
  · obtain ⟨x, h1, h2⟩ := zip_get l2.symm h
    have mx : x ∈ cn := List.mem_of_getElem? h1
    unfold checkO at co
    obtain ⟨o, ho, q⟩ := List.any_eq_true.mp (List.all_eq_true.mp co x mx)
    simp only [Bool.and_eq_true, beq_iff_eq] at q
    obtain ⟨⟨q1, q2⟩, q3⟩ := q
    obtain ⟨C', w, _⟩ := T.own o ho
    have e1 := w.bound
    have e2 := mg_of KX T.g (c2 _ (zip_mem h1 h))
    rw [q1] at e1
    have e3 : C' = C := by
      have := e1.symm.trans e2
      cases this; rfl
    subst e3
    rw [q2, q3] at w
    exact ⟨_, w.own⟩

theorem well_ints {P : Params} {h : Heap} {hid : AP} {sc : List Int} : ∀ {vs : List Value}, WellAll P h vs (ofPys (sc.map .int)) → PRs hid h vs (ofInts sc) := by
  induction sc with
  | nil => intro vs x; cases x; exact .nil
  | cons i sc ih =>
    intro vs x
    cases x with
    | cons a b =>
      cases a with
      | int _ t => exact .cons (.int i t) (ih b)
theorem law_ends {G : Gl} (O : G.Ok) {s₁ : Shared} (hB : G.B = s₁.heap) {P : Params} {fa l : Addr} {f : Nat} {sc : List Int} (hf : G.fa[f]? = some fa) (W : Well P s₁.heap (.ref l) (ofPy (.list (sc.map .int)))) (hg : s₁.gens = #[])
    (w : wpCall G.tab 20 false f [.d (.list (ofInts sc))] (fun u => u = .d (.bool true)) (fun _ => False)) {c : ClaimW} {cl : Str → Option Addr} {mean : ExcName → Option Value} {args : List WData} (hn : ∀ cls, c.raises args cls = false) (hp : c.post args (.bool true) args = true) :
    codeAny (model G.prog G.w) callerA (.call (.ref fa) ⟨[.ref l], []⟩) (GoodWG c cl mean args s₁) s₁ := by
  have r : PR (fun _ => False) s₁.heap (.ref l) (.list (ofInts sc)) := by
    cases W with
    | list e r => exact .list id e (well_ints r)
  refine codeAny_mono (sc_step (c := { G := G, dep := 20, cx := ⟨[], [], 0, [], [], [], []⟩, env := envOf (recAt G.p 0) .none .none .none 0 0, hm := false, A := callerA, envs := [], hid := fun _ => False, ρ := [], b := s₁, X := fun _ => False, E := fun e s' => GoodWG c cl mean args s₁ (.error e) s' }) (us := [.d (.list (ofInts sc))]) (sc_all 19) rfl
    ⟨O, (by show callerA.depth + 20 ≤ 900; decide), (by show callerA.units + 20 * 20 ≤ 9000; decide), (fun b q => nomatch q), (fun b q => q.elim), fun e s' k _ _ q => q.elim⟩ (Q := fun v s' => GoodWG c cl mean args s₁ (.ok (.ret v)) s') hf
    ⟨⟨rfl, trivial, fun b o e => hB ▸ e⟩, .inl ⟨rfl, rfl⟩, (fun b q => q.elim), Ext.refl _ _, Same.refl _⟩ (.cons ⟨r, rfl⟩ .nil) w fun v s' u a x r k => ?_) fun r s' h => ?_
  · subst k
    rw [show v = .bool true from PR.inv r]
    exact GoodW.toG ⟨.inl ⟨.bool true, .bool true, [], rfl, hn, .bool true, hp, unshared_nil⟩, fun b o e => (x b o e).1 (fun q => nomatch q), a.same.2, a.same.1.trans hg⟩
  · split at h
    · exact h
    · exact h.elim
    · exact h
end TC

namespace TC
open PySem

/-! Plain laws of the predicate transformers. -/
theorem lim_lt {k : Nat} (h : k < 1000) : k < lim := by rw [lim_eq]; omega
theorem lim_lti {k : Int} (h : k < 1000) : k < (lim : Int) := by rw [lim_eq]; omega
theorem lim_gti {k : Int} (h : -1000 < k) : -(lim : Int) < k := by rw [lim_eq]; omega
theorem forW_idx {body : V → Rho → KS → Prop} {K : KS} (xs : List V) (I : Nat → Rho → Prop) (h0 : ∀ ρ, I xs.length ρ → K .nxt ρ)
    (hs : ∀ i (hi : i < xs.length) ρ (k : KS), I i ρ → (∀ ρ', I (i + 1) ρ' → k .nxt ρ') → (∀ v ρ', K (.ret v) ρ' → k (.ret v) ρ') → body xs[i] ρ k) :
    ∀ ρ, I 0 ρ → forW body K xs ρ := by
  have key : ∀ m i ρ, xs.length - i = m → i ≤ xs.length → I i ρ → forW body K (xs.drop i) ρ := by
    intro m
    induction m with
    | zero =>
      intro i ρ e le hi
      have : i = xs.length := by omega
      subst this
      rw [List.drop_length]
      exact h0 ρ hi
    | succ m ih =>
      intro i ρ e le hi
      have lt : i < xs.length := by omega
      rw [List.drop_eq_getElem_cons lt]
      exact hs i lt ρ _ hi (fun ρ' h' => ih (i + 1) ρ' (by omega) (by omega) h') fun v ρ' h' => h'
  intro ρ h
  exact key xs.length 0 ρ (by omega) (by omega) h
theorem whlW_by {test : Rho → T} {body : Rho → KS → Prop} {K : KS} (I : Nat → Rho → Prop)
    (h : ∀ m ρ (k : KS), I m ρ → (∀ m' ρ', m' < m → I m' ρ' → k .nxt ρ') → (∀ v ρ', K (.ret v) ρ' → k (.ret v) ρ') → test ρ fun b => ifB b (body ρ k) (K .nxt ρ)) : ∀ n m ρ, m < n → I m ρ → whlW test body K n ρ := by
  intro n
  induction n with
  | zero => exact fun m ρ lt => absurd lt (Nat.not_lt_zero _)
  | succ n ih => exact fun m ρ lt hi => h m ρ _ hi (fun m' ρ' lt' hi' => ih m' ρ' (by omega) hi') fun v ρ' h' => h'
theorem compW_filter {step : Rho → (Option PyData → Prop) → Prop} {ρ : Rho} {K : V → Prop} (g : V → Option PyData) : ∀ (xs : List V) (acc : List PyData), (∀ x ∈ xs, ∀ k : Option PyData → Prop, k (g x) → step (ρ ++ [some x]) k) →
    (acc ++ xs.filterMap g).length < lim → K (.own (.list (acc ++ xs.filterMap g))) → compW step none ρ K xs acc := by
  intro xs
  induction xs with
  | nil => intro acc _ h1 h2; rw [List.filterMap_nil, List.append_nil] at h1 h2; exact ⟨h1, h2⟩
  | cons x xs ih =>
    intro acc h h1 h2
    refine h x (.head _) _ (ih _ (fun y hy => h y (.tail _ hy)) ?_ ?_) <;> rw [List.filterMap_cons] at h1 h2 <;> revert h1 h2 <;> cases g x with
    | none => intro h1 h2; first | exact h1 | exact h2
    | some y => intro h1 h2; rw [show acc ++ y :: List.filterMap g xs = (acc ++ [y]) ++ List.filterMap g xs by rw [List.append_assoc]; rfl] at h1 h2; first | exact h1 | exact h2
theorem ofInts_ints (l : List Int) : allOf intOf (ofInts l) = some l := by
  induction l with
  | nil => rfl
  | cons a l ih => show (allOf intOf (ofInts l)).map (a :: ·) = _; rw [ih]; rfl
theorem length_ofInts (l : List Int) : (ofInts l).length = l.length := List.length_map ..
theorem getElem?_ofInts (l : List Int) (i : Nat) : (ofInts l)[i]? = l[i]?.map .int := List.getElem?_map ..
theorem flats_ofInts (l : List Int) : flats (ofInts l) = true := by
  induction l with
  | nil => rfl
  | cons a l ih => exact ih
theorem ofInts_append (a b : List Int) : ofInts a ++ ofInts b = ofInts (a ++ b) := (List.map_append ..).symm
theorem ofInts_set (a : List Int) (n : Nat) (v : Int) : (ofInts a).set n (.int v) = ofInts (a.set n v) := (List.map_set ..).symm
theorem rngL_length (n : Int) : (rangeL n).length = n.toNat := by unfold rangeL; rw [List.length_map, List.length_range]
theorem rngL_nat (n : Nat) : rangeL n = (List.range n).map fun (i : Nat) => (i : Int) := rfl
theorem idxD_pos {xs : List PyData} {i : Int} (h : 0 ≤ i) (h2 : i < 1000) : idxD xs i = xs[i.toNat]? := by
  unfold idxD; rw [if_pos ⟨h, lim_lti h2⟩]
theorem r_idx_dl {xs : List PyData} {i : Int} (h : 0 ≤ i) (h2 : i < 1000) : idxV (.d (.list xs)) i = (xs[i.toNat]?).map .d := by
  show ((some xs).bind (idxD · i)).map V.d = _
  rw [Option.bind_some, idxD_pos h h2]
theorem r_idx_dt {xs : List PyData} {i : Int} (h : 0 ≤ i) (h2 : i < 1000) : idxV (.d (.tuple xs)) i = (xs[i.toNat]?).map .d := by
  show ((some xs).bind (idxD · i)).map V.d = _
  rw [Option.bind_some, idxD_pos h h2]
theorem r_idx_ownl {xs : List PyData} {i : Int} (h : 0 ≤ i) (h2 : i < 1000) : idxV (.own (.list xs)) i = (xs[i.toNat]?).map .d := by
  show ((some xs).bind (idxD · i)).map V.d = _
  rw [Option.bind_some, idxD_pos h h2]
theorem r_idx_brwl {xs : List PyData} {i : Int} (h : 0 ≤ i) (h2 : i < 1000) : idxV (.brw (.list xs)) i = (xs[i.toNat]?).map low := by
  show ((some xs).bind (idxD · i)).map low = _
  rw [Option.bind_some, idxD_pos h h2]
theorem guardO_yes {α : Type} {p : Prop} [Decidable p] {a : α} (h : p) : guardO p a = some a := if_pos h
theorem r_ls_brw {xs : List PyData} (h : flats xs = true) : lsV (.brw (.list xs)) = some xs := guardO_yes h
theorem r_pv_d {xs : List PyData} {n : Nat} (h : xs.length = n) : partsV (.d (.tuple xs)) n = some (xs.map .d) := guardO_yes h
theorem r_got {α : Type} (v : α) (K : α → Prop) : got (some v) K = K v := rfl
theorem r_rd_d (x : PyData) : rd (.d x) = some x := rfl
theorem r_rd_own (x : PyData) : rd (.own x) = some x := rfl
theorem r_rd_brw (x : PyData) : rd (.brw x) = some x := rfl
theorem r_nm_d (x : PyData) : nmV (.d x) = .d x := rfl
theorem r_nm_own (x : PyData) : nmV (.own x) = .brw x := rfl
theorem r_nm_brw (x : PyData) : nmV (.brw x) = low x := rfl
theorem r_nm_exc (c : Nat) : nmV (.exc c) = .exc c := rfl
theorem r_low_int (a : Int) : low (.int a) = .d (.int a) := rfl
theorem r_low_list (a : List PyData) : low (.list a) = .brw (.list a) := rfl
theorem r_arg_d (x : PyData) : argV (.d x) = some (.d x) := rfl
theorem r_arg_own (x : PyData) : argV (.own x) = some (.d x) := rfl
theorem r_arg_brw (x : PyData) : argV (.brw x) = some (.brw x) := rfl
theorem r_arg_exc (c : Nat) : argV (.exc c) = some (.exc c) := rfl
theorem r_kp_d (x : PyData) : kp (.d x) = some x := rfl
theorem r_kp_own (x : PyData) : kp (.own x) = some x := rfl
theorem r_keep_d (o : Bool) (x : PyData) : keepV o (.d x) = some (.d x) := by cases o <;> rfl
theorem r_keep_dt (x : PyData) : keepV true (.d x) = some (.d x) := rfl
theorem r_keep_df (x : PyData) : keepV false (.d x) = some (.d x) := rfl
theorem r_keep_ownt (x : PyData) : keepV true (.own x) = some (.own x) := rfl
theorem r_keep_ownf (x : PyData) : keepV false (.own x) = some (.d x) := rfl
theorem r_ret_d (x : PyData) : retV (.d x) = some (.d x) := rfl
theorem r_ret_own (x : PyData) : retV (.own x) = some (.own x) := rfl
theorem r_retm_d (x : PyData) : retmV (.d x) = some (.d x) := rfl
theorem r_retm_own (x : PyData) : retmV (.own x) = some (.own x) := rfl
theorem r_ifB (c : Bool) (a b : Prop) : ifB (.d (.bool c)) a b = cond c a b := rfl
theorem r_boolV (b : Bool) : boolV (.d (.bool b)) = some b := rfl
theorem r_intV (b : Int) : intV (.d (.int b)) = some b := rfl
theorem r_argAll0 : argAll [] = some [] := rfl
theorem r_argAll1 (v : V) (r : List V) : argAll (v :: r) = (argV v).bind fun x => (argAll r).map (x :: ·) := rfl
theorem r_keepAll0 : keepAll [] = some [] := rfl
theorem r_keepAll1 (v : V) (r : List V) : keepAll (v :: r) = (kp v).bind fun x => (keepAll r).map (x :: ·) := rfl
theorem r_seqOf_l (xs : List PyData) : seqOf (.list xs) = some xs := rfl
theorem r_seqOf_t (xs : List PyData) : seqOf (.tuple xs) = some xs := rfl
theorem r_listOf (xs : List PyData) : listOf (.list xs) = some xs := rfl
theorem r_ls_d (xs : List PyData) : lsV (.d (.list xs)) = some xs := rfl
theorem r_ls_own (xs : List PyData) : lsV (.own (.list xs)) = some xs := rfl
theorem r_keys_d (xs : List PyData) : keysV (.d (.list xs)) = some xs := rfl
theorem r_keys_own (xs : List PyData) : keysV (.own (.list xs)) = some xs := rfl
theorem r_keys_rg (n : Int) : keysV (.rg n) = some (ofInts (rangeL n)) := rfl
theorem r_it_dl (hm : Bool) (xs : List PyData) : itemsV hm (.d (.list xs)) = some (xs.map .d) := rfl
theorem r_it_dt (hm : Bool) (xs : List PyData) : itemsV hm (.d (.tuple xs)) = some (xs.map .d) := rfl
theorem r_it_own (hm : Bool) (xs : List PyData) : itemsV hm (.own (.list xs)) = some (xs.map .d) := rfl
theorem r_it_brw (hm : Bool) (xs : List PyData) : itemsV hm (.brw (.list xs)) = some (xs.map low) := rfl
theorem r_it_rg (n : Int) : itemsV false (.rg n) = some ((rangeL n).map fun i => .d (.int i)) := rfl
theorem r_itL_d (hm : Bool) (x : PyData) : itemsL hm (.d x) = itemsV hm (.d x) := rfl
theorem r_itL_own (hm : Bool) (x : PyData) : itemsL hm (.own x) = itemsV hm (.own x) := rfl
theorem r_itL_rg (hm : Bool) (n : Int) : itemsL hm (.rg n) = itemsV hm (.rg n) := rfl
theorem r_frz_d (x : PyData) : frzV (.d x) = .d x := rfl
theorem r_frz_own (x : PyData) : frzV (.own x) = .d x := rfl
theorem r_isi_d (t : Ty) (x : PyData) (h : ∀ c, t ≠ .exc c) (h2 : t ≠ .valueError) : isiV t (.d x) = some (t.has x) := by
  cases t <;> first | rfl | exact absurd rfl (h _) | exact absurd rfl h2
theorem r_isi_int_d (x : PyData) : isiV .int (.d x) = some (Ty.has .int x) := rfl
theorem r_isi_bool_d (x : PyData) : isiV .bool (.d x) = some (Ty.has .bool x) := rfl
theorem r_isi_list_d (x : PyData) : isiV .list (.d x) = some (Ty.has .list x) := rfl
theorem r_isi_tuple_d (x : PyData) : isiV .tuple (.d x) = some (Ty.has .tuple x) := rfl
theorem r_isi_list_brw (x : PyData) : isiV .list (.brw x) = some (Ty.has .list x) := rfl
theorem r_isi_list_own (x : PyData) : isiV .list (.own x) = some (Ty.has .list x) := rfl
theorem r_isi_exc (t : Ty) (c : Nat) : isiV t (.exc c) = excIs t c := rfl
theorem d_op {o : Op} {a b : Int} {K : V → Prop} : opW o (.d (.int a)) (.d (.int b)) K = numW o a b K := rfl
theorem r_op_dl {o : Op} {xs : List PyData} {w : V} {K : V → Prop} : opW o (.d (.list xs)) w K = objW o (.d (.list xs)) w K := rfl
theorem r_op_dt {o : Op} {xs : List PyData} {w : V} {K : V → Prop} : opW o (.d (.tuple xs)) w K = objW o (.d (.tuple xs)) w K := rfl
theorem r_op_own {o : Op} {x : PyData} {w : V} {K : V → Prop} : opW o (.own x) w K = objW o (.own x) w K := rfl
theorem r_op_brw {o : Op} {x : PyData} {w : V} {K : V → Prop} : opW o (.brw x) w K = objW o (.brw x) w K := rfl
theorem r_op_ib {o : Op} {a : Int} {x : PyData} {K : V → Prop} : opW o (.d (.int a)) (.brw x) K = objW o (.d (.int a)) (.brw x) K := rfl
theorem r_op_it {o : Op} {a : Int} {xs : List PyData} {K : V → Prop} : opW o (.d (.int a)) (.d (.tuple xs)) K = objW o (.d (.int a)) (.d (.tuple xs)) K := rfl
/-- a call of the text's def -/
theorem wpCall_in {tab : List Fn} {n f : Nat} {hm : Bool} {vs : List V} {K : V → Prop} {X : Nat → Prop} {fn : Fn} (h : tab[f]? = some fn) (l1 : vs.length = fn.np) (l2 : fn.np ≤ fn.ns)
    (w : wpSs (wpCall tab n) hm fn.body (vs.map some ++ List.replicate (fn.ns - fn.np) none) (outK K) (fun c _ => X c)) : wpCall tab (n + 1) hm f vs K X := by
  show got (tab[f]?) _
  rw [h]; exact ⟨⟨l1, l2⟩, w⟩
theorem ifB_by {p : Prop} [d : Decidable p] {a b : Prop} (h1 : p → a) (h2 : ¬ p → b) : cond (decide p) a b := by
  by_cases h : p
  · rw [decide_eq_true h]; exact h1 h
  · rw [decide_eq_false h]; exact h2 h
theorem ifB_yes {p : Prop} [d : Decidable p] {a b : Prop} (h : p) (h1 : a) : cond (decide p) a b := by rw [decide_eq_true h]; exact h1
theorem ifB_no {p : Prop} [d : Decidable p] {a b : Prop} (h : ¬ p) (h1 : b) : cond (decide p) a b := by rw [decide_eq_false h]; exact h1
theorem cond_by {c : Bool} {a b : Prop} (h1 : c = true → a) (h2 : c = false → b) : cond c a b := by
  cases c with
  | true => exact h1 rfl
  | false => exact h2 rfl
theorem d_map0 {α β : Type} (f : α → β) : List.map f [] = [] := rfl
theorem d_map1 {α β : Type} (f : α → β) (a : α) (l : List α) : List.map f (a :: l) = f a :: List.map f l := rfl
theorem d_app0 {α : Type} (l : List α) : [] ++ l = l := rfl
theorem d_app1 {α : Type} (a : α) (k l : List α) : (a :: k) ++ l = a :: (k ++ l) := rfl
theorem d_get0 {α : Type} (a : α) (l : List α) : (a :: l)[0]? = some a := rfl
theorem d_get1 {α : Type} (a : α) (l : List α) (n : Nat) : (a :: l)[n + 1]? = l[n]? := rfl
theorem d_set0 {α : Type} (a b : α) (l : List α) : (a :: l).set 0 b = b :: l := rfl
theorem d_set1 {α : Type} (a b : α) (l : List α) (n : Nat) : (a :: l).set (n + 1) b = a :: l.set n b := rfl
theorem d_mod0 {α : Type} (f : α → α) (a : α) (l : List α) : (a :: l).modify 0 f = f a :: l := rfl
theorem d_mod1 {α : Type} (f : α → α) (a : α) (l : List α) (n : Nat) : (a :: l).modify (n + 1) f = a :: l.modify n f := rfl
theorem d_rep0 {α : Type} (a : α) : List.replicate 0 a = [] := rfl
theorem d_rep1 {α : Type} (a : α) (n : Nat) : List.replicate (n + 1) a = a :: List.replicate n a := rfl
theorem d_len0 {α : Type} : ([] : List α).length = 0 := rfl
theorem d_len1 {α : Type} (a : α) (l : List α) : (a :: l).length = l.length + 1 := rfl
theorem d_omap {α β : Type} (f : α → β) (a : α) : Option.map f (some a) = some (f a) := rfl
theorem d_obind {α β : Type} (f : α → Option β) (a : α) : Option.bind (some a) f = f a := rfl
theorem d_oelim {α : Type} (f : α → Prop) (b : Prop) (a : α) : Option.elim (some a) b f = f a := rfl
theorem d_ct (a b : Prop) : cond true a b = a := rfl
theorem d_cf (a b : Prop) : cond false a b = b := rfl
theorem d_nt : (!true) = false := rfl
theorem d_nf : (!false) = true := rfl
theorem d_fand (b : Bool) : (false && b) = false := rfl
theorem d_tand (b : Bool) : (true && b) = b := rfl
theorem d_outn (K : V → Prop) (ρ : Rho) : outK K .nxt ρ = K (.d .none) := rfl
theorem d_outr (K : V → Prop) (v : V) (ρ : Rho) : outK K (.ret v) ρ = K v := rfl
theorem d_cmp1 {o : Op} {t : T} {v : V} {K : V → Prop} : cmpW [o] [t] v K = t fun w => opW o v w K := rfl
theorem d_cmp2 {o o2 : Op} {os : List Op} {t t2 : T} {ts : List T} {v : V} {K : V → Prop} : cmpW (o :: o2 :: os) (t :: t2 :: ts) v K = t fun w => opW o v w fun r => ifB r (cmpW (o2 :: os) (t2 :: ts) w K) (K (.d (.bool false))) := rfl
theorem d_and1 {t : T} {K : V → Prop} : andW [t] K = t fun v => ifB v (K (.d (.bool true))) (K (.d (.bool false))) := rfl
theorem d_and2 {t t2 : T} {ts : List T} {K : V → Prop} : andW (t :: t2 :: ts) K = t fun v => ifB v (andW (t2 :: ts) K) (K (.d (.bool false))) := rfl
theorem d_or1 {t : T} {K : V → Prop} : orW [t] K = t fun v => ifB v (K (.d (.bool true))) (K (.d (.bool false))) := rfl
theorem d_or2 {t t2 : T} {ts : List T} {K : V → Prop} : orW (t :: t2 :: ts) K = t fun v => ifB v (K (.d (.bool true))) (orW (t2 :: ts) K) := rfl
theorem d_seq0 {K : List V → Prop} : seqW [] K = K [] := rfl
theorem d_seq1 {t : T} {ts : List T} {K : List V → Prop} : seqW (t :: ts) K = t fun v => seqW ts fun vs => K (v :: vs) := rfl
theorem d_tst0 {a b : Prop} : tstW [] a b = a := rfl
theorem d_tst1 {t : T} {ts : List T} {a b : Prop} : tstW (t :: ts) a b = t fun v => ifB v (tstW ts a b) b := rfl
theorem d_qt {hm : Bool} {P : Prop} : qW true hm P = P := rfl
theorem d_qf {P : Prop} : qW false false P = P := rfl
theorem d_ownl {xs : List PyData} {k : List PyData → Prop} : ownL (.own (.list xs)) k = k xs := rfl
theorem d_ownd {kvs : List (PyData × PyData)} {k : List (PyData × PyData) → Prop} : ownD (.own (.dict kvs)) k = k kvs := rfl
theorem r_pv2 (a b : PyData) : partsV (.d (.tuple [a, b])) 2 = some [.d a, .d b] := rfl
theorem r_has_ll (xs : List PyData) : Ty.has .list (.list xs) = true := rfl
theorem r_retO_d (x : PyData) : retO (.d x) = some (.d x) := rfl
theorem r_retO_own (x : PyData) : retO (.own x) = some (.own x) := rfl
theorem r_pv4 (a b c d : PyData) : partsV (.d (.tuple [a, b, c, d])) 4 = some [.d a, .d b, .d c, .d d] := rfl
theorem r_op_bool {o : Op} {b : Bool} {w : V} {K : V → Prop} : opW o (.d (.bool b)) w K = objW o (.d (.bool b)) w K := rfl
theorem r_op_idl {o : Op} {a : Int} {xs : List PyData} {K : V → Prop} : opW o (.d (.int a)) (.d (.list xs)) K = objW o (.d (.int a)) (.d (.list xs)) K := rfl
end TC

namespace TC
open PySem
noncomputable def b_is_among : Ss := 
  (.cons (.ret (.and (.cons (.f1 (.isi .int) (.nm 0)) (.cons (.f1 .not (.f1 (.isi .bool) (.nm 0))) (.cons (.cmp (.nm 1) [.le, .le] (.cons (.nm 0) (.cons (.nm 2) .nil))) .nil))))) .nil)
noncomputable def f_is_among : Fn := ⟨3, 3, b_is_among⟩
noncomputable def b_is_tie : Ss := 
  (.cons (.ite (.or (.cons (.f1 .not (.f1 (.isi .tuple) (.nm 1))) (.cons (.cmp (.f1 .len (.nm 1)) [.ne] (.cons (.k (.int (2))) .nil)) .nil))) 
    (.cons (.ret (.k (.bool false))) .nil) .nil) 
  (.cons (.ite (.or (.cons (.f1 .not (.call 0 (.cons (.idx (.nm 1) (.k (.int (0)))) (.cons (.k (.int (0))) (.cons (.op .sub (.nm 0) (.k (.int (1)))) .nil))))) (.cons (.f1 .not (.call 0 (.cons (.idx (.nm 1) (.k (.int (1)))) (.cons (.k (.int (0))) (.cons (.op .sub (.nm 0) (.k (.int (1)))) .nil))))) .nil))) 
    (.cons (.ret (.k (.bool false))) .nil) .nil) 
  (.cons (.ret (.cmp (.idx (.nm 1) (.k (.int (0)))) [.lt] (.cons (.idx (.nm 1) (.k (.int (1)))) .nil))) .nil)))
noncomputable def f_is_tie : Fn := ⟨2, 2, b_is_tie⟩
noncomputable def b_need_web_1 : Ss := 
  (.cons (.ite (.or (.cons (.f1 .not (.call 1 (.cons (.nm 0) (.cons (.nm 3) .nil)))) (.cons (.cmp (.nm 3) [.isin] (.cons (.nm 2) .nil)) .nil))) 
    (.cons (.rais 3) .nil) .nil) 
  (.cons (.key 2 (.nm 3)) .nil))
noncomputable def b_need_web : Ss := 
  (.cons (.ite (.or (.cons (.f1 .not (.call 0 (.cons (.nm 0) (.cons (.k (.int (1))) (.cons (.k (.int (10))) .nil))))) (.cons (.f1 .not (.f1 (.isi .list) (.nm 1))) .nil))) 
    (.cons (.rais 3) .nil) .nil) 
  (.cons (.asg true 2 .dic0) 
  (.cons (.loopn (.one 3) 1 b_need_web_1) .nil)))
noncomputable def f_need_web : Fn := ⟨2, 4, b_need_web⟩
noncomputable def b_tie_of : Ss := 
  (.cons (.ret (.tup (.cons (.f2 .min (.nm 0) (.nm 1)) (.cons (.f2 .max (.nm 0) (.nm 1)) .nil)))) .nil)
noncomputable def f_tie_of : Fn := ⟨2, 2, b_tie_of⟩
noncomputable def b_counts_by_1 : Ss := 
  (.cons (.set 2 (.nm 3) (.op .add (.idx (.nm 2) (.nm 3)) (.k (.int (1))))) 
  (.cons (.set 2 (.nm 4) (.op .add (.idx (.nm 2) (.nm 4)) (.k (.int (1))))) .nil))
noncomputable def b_counts_by_2 : Ss := 
  (.cons (.retm 2) .nil)
noncomputable def b_counts_by : Ss := 
  (.cons (.asg true 2 (.op .mul (.lst (.cons (.k (.int (0))) .nil)) (.nm 0))) 
  (.cons (.loopn (.many [3, 4]) 1 b_counts_by_1) b_counts_by_2))
noncomputable def f_counts_by : Fn := ⟨2, 5, b_counts_by⟩
noncomputable def b_piece_from_1 : Ss := 
  (.cons (.ite (.and (.cons (.cmp (.nm 7) [.eq] (.cons (.nm 4) .nil)) (.cons (.cmp (.nm 8) [.notin] (.cons (.nm 2) .nil)) .nil))) 
    (.cons (.key 2 (.nm 8)) 
    (.cons (.app 3 (.nm 8)) .nil)) .nil) .nil)
noncomputable def b_piece_from_2 : Ss := 
  (.cons (.loop (.many [7, 8]) (.tup (.cons (.tup (.cons (.nm 5) (.cons (.nm 6) .nil))) (.cons (.tup (.cons (.nm 6) (.cons (.nm 5) .nil))) .nil))) b_piece_from_1) .nil)
noncomputable def b_piece_from_3 : Ss := 
  (.cons (.pop 4 3) 
  (.cons (.loopn (.many [5, 6]) 0 b_piece_from_2) .nil))
noncomputable def b_piece_from_4 : Ss := 
  (.cons (.ret (.f1 .sorted (.f1 .list (.nm 2)))) .nil)
noncomputable def b_piece_from : Ss := 
  (.cons (.asg true 2 (.dic1 (.nm 1))) 
  (.cons (.asg true 3 (.lst (.cons (.nm 1) .nil))) 
  (.cons (.whl (.cmp (.nm 3) [.ne] (.cons (.lst .nil) .nil)) b_piece_from_3) b_piece_from_4)))
noncomputable def f_piece_from : Fn := ⟨2, 9, b_piece_from⟩
noncomputable def b_pieces_by_1 : Ss := 
  (.cons (.key 3 (.nm 6)) .nil)
noncomputable def b_pieces_by_2 : Ss := 
  (.cons (.ite (.cmp (.nm 4) [.notin] (.cons (.nm 3) .nil)) 
    (.cons (.asg false 5 (.call 5 (.cons (.nm 1) (.cons (.nm 4) .nil)))) 
    (.cons (.app 2 (.nm 5)) 
    (.cons (.loopn (.one 6) 5 b_pieces_by_1) .nil))) .nil) .nil)
noncomputable def b_pieces_by_3 : Ss := 
  (.cons (.retm 2) .nil)
noncomputable def b_pieces_by : Ss := 
  (.cons (.asg true 2 (.lst .nil)) 
  (.cons (.asg true 3 .dic0) 
  (.cons (.loop (.one 4) (.f1 .range (.nm 0)) b_pieces_by_2) b_pieces_by_3)))
noncomputable def f_pieces_by : Fn := ⟨2, 7, b_pieces_by⟩
noncomputable def b_done_by : Ss := 
  (.cons (.unp [2, 3, 4, 5] (.nm 1)) 
  (.cons (.asg false 6 (.comp none (.nm 0) (.cons (.and (.cons (.cmp (.nm 7) [.ne] (.cons (.call 3 (.cons (.nm 2) (.cons (.nm 3) .nil))) .nil)) (.cons (.cmp (.nm 7) [.ne] (.cons (.call 3 (.cons (.nm 4) (.cons (.nm 5) .nil))) .nil)) .nil))) .nil) (.nm 7))) 
  (.cons (.ret (.f1 .sorted (.op .add (.nm 6) (.lst (.cons (.call 3 (.cons (.nm 2) (.cons (.nm 4) .nil))) (.cons (.call 3 (.cons (.nm 3) (.cons (.nm 5) .nil))) .nil)))))) .nil)))
noncomputable def f_done_by : Fn := ⟨2, 7, b_done_by⟩
noncomputable def b_hindered : Ss := 
  (.cons (.ite (.and (.cons (.cmp (.f1 .len (.nm 0)) [.gt] (.cons (.k (.int (1))) .nil)) (.cons (.cmp (.k (.int (0))) [.isin] (.cons (.nm 0) .nil)) .nil))) 
    (.cons (.ret (.tup (.cons (.k (.str "alone")) (.cons (.index (.nm 0) (.k (.int (0)))) .nil)))) .nil) .nil) 
  (.cons (.ite (.cmp (.f1 .sum (.nm 0)) [.lt] (.cons (.op .mul (.k (.int (2))) (.op .sub (.f1 .len (.nm 0)) (.k (.int (1))))) .nil)) 
    (.cons (.ret (.tup (.cons (.k (.str "few")) .nil))) .nil) .nil) 
  (.cons (.ret (.k .none)) .nil)))
noncomputable def f_hindered : Fn := ⟨1, 1, b_hindered⟩
noncomputable def b_spare_tie_1 : Ss := 
  (.cons (.ite (.cmp (.f1 .len (.call 6 (.cons (.nm 0) (.cons (.comp none (.nm 1) (.cons (.cmp (.nm 4) [.ne] (.cons (.nm 3) .nil)) .nil) (.nm 4)) .nil)))) [.eq] (.cons (.nm 2) .nil)) 
    (.cons (.retm 3) .nil) .nil) .nil)
noncomputable def b_spare_tie_2 : Ss := 
  (.cons (.ret (.k .none)) .nil)
noncomputable def b_spare_tie : Ss := 
  (.cons (.asg false 2 (.f1 .len (.call 6 (.cons (.nm 0) (.cons (.nm 1) .nil))))) 
  (.cons (.loopn (.one 3) 1 b_spare_tie_1) b_spare_tie_2))
noncomputable def f_spare_tie : Fn := ⟨2, 4, b_spare_tie⟩
noncomputable def b_joined_up_1 : Ss := 
  (.cons (.unp [4, 5] (.call 9 (.cons (.nm 0) (.cons (.nm 2) .nil)))) 
  (.cons (.asg false 6 (.idx (.comp none (.call 6 (.cons (.nm 0) (.cons (.nm 2) .nil))) (.cons (.cmp (.nm 4) [.isin] (.cons (.nm 9) .nil)) .nil) (.nm 9)) (.k (.int (0))))) 
  (.cons (.unp [7, 8] (.idx (.comp none (.nm 2) (.cons (.cmp (.idx (.nm 9) (.k (.int (0)))) [.notin] (.cons (.nm 6) .nil)) .nil) (.nm 9)) (.k (.int (0))))) 
  (.cons (.app 3 (.tup (.cons (.nm 4) (.cons (.nm 5) (.cons (.nm 7) (.cons (.nm 8) .nil)))))) 
  (.cons (.asg false 2 (.call 7 (.cons (.nm 2) (.cons (.tup (.cons (.nm 4) (.cons (.nm 5) (.cons (.nm 7) (.cons (.nm 8) .nil))))) .nil)))) .nil)))))
noncomputable def b_joined_up_2 : Ss := 
  (.cons (.ret2 3 (.nm 2)) .nil)
noncomputable def b_joined_up : Ss := 
  (.cons (.asg false 2 (.f1 .sorted (.nm 1))) 
  (.cons (.asg true 3 (.lst .nil)) 
  (.cons (.whl (.cmp (.f1 .len (.call 6 (.cons (.nm 0) (.cons (.nm 2) .nil)))) [.gt] (.cons (.k (.int (1))) .nil)) b_joined_up_1) b_joined_up_2)))
noncomputable def f_joined_up : Fn := ⟨2, 9, b_joined_up⟩
noncomputable def b_joining : Ss := 
  (.cons (.drop (.call 2 (.cons (.nm 0) (.cons (.nm 1) .nil)))) 
  (.cons (.ite (.f1 .notNone (.call 8 (.cons (.call 4 (.cons (.nm 0) (.cons (.nm 1) .nil))) .nil))) 
    (.cons (.rais 6) .nil) .nil) 
  (.cons (.ret (.idx (.call 10 (.cons (.nm 0) (.cons (.nm 1) .nil))) (.k (.int (0))))) .nil)))
noncomputable def f_joining : Fn := ⟨2, 2, b_joining⟩
noncomputable def b__law_cell : Ss := 
  (.cons (.ite (.cmp (.nm 1) [.lt] (.cons (.f1 .len (.nm 0)) .nil)) 
    (.cons (.ret (.idx (.nm 0) (.nm 1))) .nil) .nil) 
  (.cons (.ret (.k (.int (0)))) .nil))
noncomputable def f__law_cell : Fn := ⟨2, 2, b__law_cell⟩
noncomputable def b__law_mixed : Ss := 
  (.cons (.asg false 2 (.op .add (.op .add (.nm 0) (.op .mul (.k (.int (7919))) (.nm 1))) (.k (.int (13))))) 
  (.cons (.ret (.op .fdiv (.op .mod (.op .mul (.op .mod (.op .mul (.nm 2) (.nm 2)) (.k (.int (1000000007)))) (.k (.int (48271)))) (.k (.int (998244353)))) (.k (.int (11))))) .nil))
noncomputable def f__law_mixed : Fn := ⟨2, 3, b__law_mixed⟩
noncomputable def b__law_whole : Ss := 
  (.cons (.ret (.and (.cons (.f1 (.isi .int) (.nm 0)) (.cons (.f1 .not (.f1 (.isi .bool) (.nm 0))) .nil)))) .nil)
noncomputable def f__law_whole : Fn := ⟨1, 1, b__law_whole⟩
noncomputable def b__law_web_1 : Ss := 
  (.cons (.asg false 8 (.call 13 (.cons (.call 12 (.cons (.nm 0) (.cons (.op .add (.op .add (.nm 1) (.k (.int (1)))) (.op .mod (.op .add (.nm 7) (.op .mul (.k (.int (3))) (.nm 6))) (.k (.int (6))))) .nil))) (.cons (.op .add (.op .add (.nm 7) (.op .mul (.k (.int (11))) (.nm 6))) (.op .fdiv (.nm 3) (.k (.int (64))))) .nil)))) 
  (.cons (.asg false 9 (.op .mod (.op .fdiv (.nm 3) (.k (.int (10)))) (.k (.int (6))))) 
  (.cons (.ite (.or (.cons (.and (.cons (.cmp (.nm 9) [.lt] (.cons (.k (.int (4))) .nil)) (.cons (.cmp (.op .mod (.nm 8) (.idx (.lst (.cons (.k (.int (2))) (.cons (.k (.int (3))) (.cons (.k (.int (5))) (.cons (.k (.int (4))) .nil))))) (.nm 9))) [.eq] (.cons (.k (.int (0))) .nil)) .nil))) (.cons (.and (.cons (.cmp (.nm 9) [.eq] (.cons (.k (.int (4))) .nil)) (.cons (.cmp (.op .mod (.nm 8) (.k (.int (4)))) [.gt] (.cons (.k (.int (0))) .nil)) .nil))) .nil))) 
    (.cons (.app 5 (.tup (.cons (.nm 7) (.cons (.nm 6) .nil)))) .nil) 
    (.cons (.ite (.and (.cons (.cmp (.nm 9) [.eq] (.cons (.k (.int (5))) .nil)) (.cons (.or (.cons (.cmp (.nm 6) [.eq] (.cons (.op .add (.nm 7) (.k (.int (1)))) .nil)) (.cons (.cmp (.op .mod (.nm 8) (.k (.int (6)))) [.eq] (.cons (.k (.int (0))) .nil)) .nil))) .nil))) 
      (.cons (.app 5 (.tup (.cons (.nm 7) (.cons (.nm 6) .nil)))) .nil) .nil) .nil)) .nil)))
noncomputable def b__law_web_2 : Ss := 
  (.cons (.loop (.one 7) (.f1 .range (.nm 6)) b__law_web_1) .nil)
noncomputable def b__law_web_3 : Ss := 
  (.cons (.asg false 10 (.op .mod (.op .fdiv (.nm 3) (.k (.int (60)))) (.op .add (.k (.int (1))) (.f1 .len (.nm 5))))) 
  (.cons (.ret (.tup (.cons (.nm 4) (.cons (.op .add (.sfrom (.nm 5) (.nm 10)) (.sto (.nm 5) (.nm 10))) .nil)))) .nil))
noncomputable def b__law_web : Ss := 
  (.cons (.asg false 3 (.call 12 (.cons (.nm 0) (.cons (.nm 1) .nil)))) 
  (.cons (.asg false 4 (.op .add (.k (.int (1))) (.op .mod (.nm 3) (.nm 2)))) 
  (.cons (.asg true 5 (.lst .nil)) 
  (.cons (.loop (.one 6) (.f1 .range (.nm 4)) b__law_web_2) b__law_web_3))))
noncomputable def f__law_web : Fn := ⟨3, 11, b__law_web⟩
noncomputable def b__law_tied : Ss := 
  (.cons (.ite (.cmp (.nm 0) [.lt] (.cons (.nm 1) .nil)) 
    (.cons (.ret (.tup (.cons (.nm 0) (.cons (.nm 1) .nil)))) .nil) .nil) 
  (.cons (.ret (.tup (.cons (.nm 1) (.cons (.nm 0) .nil)))) .nil))
noncomputable def f__law_tied : Fn := ⟨2, 2, b__law_tied⟩
noncomputable def b__law_counts : Ss := 
  (.cons (.ret (.comp none (.f1 .range (.nm 0)) .nil (.f1 .len (.comp none (.nm 1) (.cons (.cmp (.nm 2) [.isin] (.cons (.nm 3) .nil)) .nil) (.k (.int (1))))))) .nil)
noncomputable def f__law_counts : Fn := ⟨2, 2, b__law_counts⟩
noncomputable def b__law_pieces_1 : Ss := 
  (.cons (.asg false 6 (.f2 .min (.idx (.nm 2) (.nm 4)) (.idx (.nm 2) (.nm 5)))) 
  (.cons (.set 2 (.nm 4) (.nm 6)) 
  (.cons (.set 2 (.nm 5) (.nm 6)) .nil)))
noncomputable def b__law_pieces_2 : Ss := 
  (.cons (.loopn (.many [4, 5]) 1 b__law_pieces_1) .nil)
noncomputable def b__law_pieces_3 : Ss := 
  (.cons (.asg false 9 (.comp none (.f1 .range (.nm 0)) (.cons (.cmp (.idx (.nm 2) (.nm 10)) [.eq] (.cons (.nm 8) .nil)) .nil) (.nm 10))) 
  (.cons (.ite (.cmp (.nm 9) [.ne] (.cons (.lst .nil) .nil)) 
    (.cons (.app 7 (.nm 9)) .nil) .nil) .nil))
noncomputable def b__law_pieces_4 : Ss := 
  (.cons (.retm 7) .nil)
noncomputable def b__law_pieces_5 : Ss := 
  (.cons (.asg true 7 (.lst .nil)) 
  (.cons (.loop (.one 8) (.f1 .range (.nm 0)) b__law_pieces_3) b__law_pieces_4))
noncomputable def b__law_pieces : Ss := 
  (.cons (.asg true 2 (.f1 .list (.f1 .range (.nm 0)))) 
  (.cons (.loop (.one 3) (.f1 .range (.nm 0)) b__law_pieces_2) b__law_pieces_5))
noncomputable def f__law_pieces : Fn := ⟨2, 10, b__law_pieces⟩
noncomputable def b__law_fits : Ss := 
  (.cons (.unp [2, 3, 4, 5] (.nm 1)) 
  (.cons (.asg false 6 (.and (.cons (.cmp (.call 16 (.cons (.nm 2) (.cons (.nm 3) .nil))) [.isin] (.cons (.nm 0) .nil)) (.cons (.cmp (.call 16 (.cons (.nm 4) (.cons (.nm 5) .nil))) [.isin] (.cons (.nm 0) .nil)) .nil)))) 
  (.cons (.ret (.and (.cons (.nm 6) (.cons (.cmp (.call 16 (.cons (.nm 2) (.cons (.nm 4) .nil))) [.notin] (.cons (.nm 0) .nil)) (.cons (.cmp (.call 16 (.cons (.nm 3) (.cons (.nm 5) .nil))) [.notin] (.cons (.nm 0) .nil)) .nil))))) .nil)))
noncomputable def f__law_fits : Fn := ⟨2, 7, b__law_fits⟩
noncomputable def b__law_left : Ss := 
  (.cons (.unp [2, 3, 4, 5] (.nm 1)) 
  (.cons (.asg false 6 (.comp none (.nm 0) (.cons (.cmp (.nm 7) [.notin] (.cons (.lst (.cons (.call 16 (.cons (.nm 2) (.cons (.nm 3) .nil))) (.cons (.call 16 (.cons (.nm 4) (.cons (.nm 5) .nil))) .nil))) .nil)) .nil) (.nm 7))) 
  (.cons (.ret (.f1 .sorted (.op .add (.nm 6) (.lst (.cons (.call 16 (.cons (.nm 2) (.cons (.nm 4) .nil))) (.cons (.call 16 (.cons (.nm 3) (.cons (.nm 5) .nil))) .nil)))))) .nil)))
noncomputable def f__law_left : Fn := ⟨2, 7, b__law_left⟩
noncomputable def b__law_is_row : Ss := 
  (.cons (.ite (.or (.cons (.f1 .not (.f1 (.isi .tuple) (.nm 0))) (.cons (.cmp (.f1 .len (.nm 0)) [.ne] (.cons (.k (.int (4))) .nil)) (.cons (.f1 .not (.f1 .all (.comp none (.nm 0) .nil (.call 14 (.cons (.nm 2) .nil))))) .nil)))) 
    (.cons (.ret (.k (.bool false))) .nil) .nil) 
  (.cons (.ret (.and (.cons (.cmp (.f1 .dist (.nm 0)) [.eq] (.cons (.k (.int (4))) .nil)) (.cons (.cmp (.f1 .min (.nm 0)) [.ge] (.cons (.k (.int (0))) .nil)) (.cons (.cmp (.f1 .max (.nm 0)) [.lt] (.cons (.nm 1) .nil)) .nil))))) .nil))
noncomputable def f__law_is_row : Fn := ⟨2, 2, b__law_is_row⟩
noncomputable def b__law_kind : Ss := 
  (.cons (.asg false 1 (.lst (.cons (.tup (.cons (.k (.str "counts")) (.cons (.f1 (.isi (.exc 1)) (.nm 0)) .nil))) (.cons (.tup (.cons (.k (.str "many")) (.cons (.f1 (.isi (.exc 2)) (.nm 0)) .nil))) .nil)))) 
  (.cons (.asg false 1 (.op .add (.nm 1) (.lst (.cons (.tup (.cons (.k (.str "web")) (.cons (.f1 (.isi (.exc 3)) (.nm 0)) .nil))) (.cons (.tup (.cons (.k (.str "exchange")) (.cons (.f1 (.isi (.exc 4)) (.nm 0)) .nil))) .nil))))) 
  (.cons (.asg false 1 (.op .add (.nm 1) (.lst (.cons (.tup (.cons (.k (.str "unlike")) (.cons (.f1 (.isi (.exc 5)) (.nm 0)) .nil))) (.cons (.tup (.cons (.k (.str "none")) (.cons (.f1 (.isi (.exc 6)) (.nm 0)) .nil))) .nil))))) 
  (.cons (.asg false 1 (.comp (some 2) (.nm 1) (.cons (.nm 3) .nil) (.nm 2))) 
  (.cons (.ret (.op .mul (.nm 1) (.f1 .int (.and (.cons (.cmp (.f1 .len (.nm 1)) [.eq] (.cons (.k (.int (1))) .nil)) (.cons (.f1 (.isi .valueError) (.nm 0)) .nil)))))) .nil)))))
noncomputable def f__law_kind : Fn := ⟨1, 2, b__law_kind⟩
noncomputable def b__law_side_by_side_1 : Ss := 
  (.cons (.ite (.and (.cons (.cmp (.op .mod (.op .fdiv (.nm 0) (.op .add (.k (.int (4))) (.op .mul (.k (.int (3))) (.nm 3)))) (.k (.int (2)))) [.eq] (.cons (.k (.int (0))) .nil)) (.cons (.cmp (.nm 2) [.lt] (.cons (.k (.int (8))) .nil)) .nil))) 
    (.cons (.asg true 1 (.op .add (.nm 1) (.lst (.cons (.tup (.cons (.nm 2) (.cons (.op .add (.nm 2) (.k (.int (1)))) .nil))) (.cons (.tup (.cons (.op .add (.nm 2) (.k (.int (1)))) (.cons (.op .add (.nm 2) (.k (.int (2)))) .nil))) (.cons (.tup (.cons (.nm 2) (.cons (.op .add (.nm 2) (.k (.int (2)))) .nil))) .nil)))))) 
    (.cons (.asg false 2 (.op .add (.nm 2) (.k (.int (3))))) .nil)) 
    (.cons (.ite (.cmp (.nm 2) [.lt] (.cons (.k (.int (9))) .nil)) 
      (.cons (.app 1 (.tup (.cons (.nm 2) (.cons (.op .add (.nm 2) (.k (.int (1)))) .nil)))) 
      (.cons (.asg false 2 (.op .add (.nm 2) (.k (.int (2))))) .nil)) .nil) .nil)) .nil)
noncomputable def b__law_side_by_side_2 : Ss := 
  (.cons (.asg false 4 (.call 13 (.cons (.nm 0) (.cons (.nm 3) .nil)))) 
  (.cons (.asg false 5 (.call 16 (.cons (.op .mod (.nm 4) (.nm 2)) (.cons (.op .mod (.op .fdiv (.nm 4) (.k (.int (16)))) (.nm 2)) .nil)))) 
  (.cons (.ite (.and (.cons (.cmp (.idx (.nm 5) (.k (.int (0)))) [.ne] (.cons (.idx (.nm 5) (.k (.int (1)))) .nil)) (.cons (.cmp (.nm 5) [.notin] (.cons (.nm 1) .nil)) .nil))) 
    (.cons (.ins 1 (.op .mod (.op .fdiv (.nm 4) (.k (.int (256)))) (.f1 .len (.nm 1))) (.nm 5)) .nil) .nil) .nil)))
noncomputable def b__law_side_by_side_3 : Ss := 
  (.cons (.fz 1 (.ret (.tup (.cons (.nm 2) (.cons (.nm 1) .nil))))) .nil)
noncomputable def b__law_side_by_side_4 : Ss := 
  (.cons (.loop (.one 3) (.f1 .range (.op .mod (.op .fdiv (.nm 0) (.k (.int (64)))) (.k (.int (4))))) b__law_side_by_side_2) b__law_side_by_side_3)
noncomputable def b__law_side_by_side : Ss := 
  (.cons (.asg true 1 (.lst .nil)) 
  (.cons (.asg false 2 (.k (.int (0)))) 
  (.cons (.loop (.one 3) (.f1 .range (.op .add (.k (.int (2))) (.op .mod (.nm 0) (.k (.int (4)))))) b__law_side_by_side_1) b__law_side_by_side_4)))
noncomputable def f__law_side_by_side : Fn := ⟨1, 6, b__law_side_by_side⟩
noncomputable def b__law_told : Ss := 
  (.cons (.tryx 
    (.cons (.ret (.call 11 (.cons (.nm 0) (.cons (.nm 1) .nil)))) .nil) 0 2 
    (.cons (.ret (.tup (.cons (.k (.str "refused")) (.cons (.call 22 (.cons (.nm 2) .nil)) .nil)))) .nil)) .nil)
noncomputable def f__law_told : Fn := ⟨2, 3, b__law_told⟩
noncomputable def b__law_joined_1 : Ss := 
  (.cons (.ite (.or (.cons (.f1 .not (.call 21 (.cons (.nm 5) (.cons (.nm 0) .nil)))) (.cons (.f1 .not (.call 19 (.cons (.nm 3) (.cons (.nm 5) .nil)))) .nil))) 
    (.cons (.ret (.k (.bool false))) .nil) .nil) 
  (.cons (.asg false 3 (.call 20 (.cons (.nm 3) (.cons (.nm 5) .nil)))) 
  (.cons (.ite (.cmp (.f1 .len (.call 18 (.cons (.nm 0) (.cons (.nm 3) .nil)))) [.ne] (.cons (.op .sub (.nm 4) (.k (.int (1)))) .nil)) 
    (.cons (.ret (.k (.bool false))) .nil) .nil) 
  (.cons (.asg false 4 (.op .sub (.nm 4) (.k (.int (1))))) .nil))))
noncomputable def b__law_joined_2 : Ss := 
  (.cons (.ret (.cmp (.nm 4) [.eq] (.cons (.k (.int (1))) .nil))) .nil)
noncomputable def b__law_joined : Ss := 
  (.cons (.ite (.f1 .not (.f1 (.isi .list) (.nm 2))) 
    (.cons (.ret (.k (.bool false))) .nil) .nil) 
  (.cons (.asg false 3 (.f1 .sorted (.nm 1))) 
  (.cons (.asg false 4 (.f1 .len (.call 18 (.cons (.nm 0) (.cons (.nm 3) .nil))))) 
  (.cons (.loopn (.one 5) 2 b__law_joined_1) b__law_joined_2))))
noncomputable def f__law_joined : Fn := ⟨3, 6, b__law_joined⟩
noncomputable def b_law_1 : Ss := 
  (.cons (.ite (.cmp (.call 24 (.cons (.nm 10) (.cons (.nm 11) .nil))) [.ne] (.cons (.tup (.cons (.k (.str "refused")) (.cons (.lst (.cons (.k (.str "web")) .nil)) .nil))) .nil)) 
    (.cons (.ret (.k (.bool false))) .nil) .nil) .nil)
noncomputable def b_law_2 : Ss := 
  (.cons (.ret (.cmp (.nm 3) [.eq] (.cons (.nm 2) .nil))) .nil)
noncomputable def b_law_a : Ss := 
    (.cons (.ite (.cmp (.nm 4) [.ne] (.cons (.tup (.cons (.k (.str "refused")) (.cons (.lst (.cons (.k (.str "none")) .nil)) .nil))) .nil)) 
      (.cons (.ret (.k (.bool false))) .nil) .nil) .nil)
noncomputable def b_law_b : Ss := 
    (.cons (.ite (.f1 .not (.call 25 (.cons (.nm 1) (.cons (.nm 2) (.cons (.nm 4) .nil))))) 
      (.cons (.ret (.k (.bool false))) .nil) .nil) 
    (.cons (.asg false 6 (.f1 .list (.nm 4))) 
    (.cons (.app 4 (.tup .nil)) 
    (.cons (.ite (.or (.cons (.f1 .not (.call 25 (.cons (.nm 1) (.cons (.nm 2) (.cons (.call 24 (.cons (.nm 1) (.cons (.nm 3) .nil))) .nil))))) (.cons (.cmp (.nm 4) [.ne] (.cons (.op .add (.nm 6) (.lst (.cons (.tup .nil) .nil))) .nil)) .nil))) 
      (.cons (.ret (.k (.bool false))) .nil) .nil) .nil))))
noncomputable def b_law_u : Ss := 
  (.cons (.asg false 7 (.call 13 (.cons (.call 12 (.cons (.nm 0) (.cons (.k (.int (0))) .nil))) (.cons (.k (.int (2))) .nil)))) 
  (.cons (.asg false 8 (.idx (.lst (.cons (.lst (.cons (.tup (.cons (.k (.int (0))) (.cons (.k (.int (0))) .nil))) .nil)) (.cons (.k .none) (.cons (.op .add (.nm 3) (.lst (.cons (.tup (.cons (.k (.int (0))) (.cons (.nm 1) .nil))) .nil))) (.cons (.f1 .tuple (.nm 3)) (.cons (.op .add (.nm 3) (.lst (.cons (.tup (.cons (.k (.int (0))) (.cons (.k (.bool true)) .nil))) .nil))) (.cons (.k (.str "01")) .nil))))))) (.op .mod (.nm 7) (.k (.int (6)))))) 
  (.cons (.asg false 9 (.idx (.lst (.cons (.k (.int (0))) (.cons (.k (.int (11))) (.cons (.k (.bool true)) (.cons (.k .none) (.cons (.k (.str "3")) (.cons (.op .add (.k (.int (11))) (.op .mod (.op .fdiv (.nm 7) (.k (.int (36)))) (.k (.int (1000000000))))) .nil))))))) (.op .mod (.op .fdiv (.nm 7) (.k (.int (6)))) (.k (.int (6)))))) 
  (.cons (.loop (.many [10, 11]) (.tup (.cons (.tup (.cons (.nm 9) (.cons (.nm 3) .nil))) (.cons (.tup (.cons (.nm 1) (.cons (.nm 8) .nil))) (.cons (.tup (.cons (.nm 1) (.cons (.op .add (.op .add (.nm 2) (.sto (.nm 2) (.k (.int (1))))) (.sfrom (.lst (.cons (.tup (.cons (.k (.int (0))) (.cons (.k (.int (0))) .nil))) .nil)) (.f1 .len (.nm 2)))) .nil))) .nil)))) b_law_1) b_law_2))))
noncomputable def b_law_t : Ss := 
  (.cons (.asg false 3 (.f1 .list (.nm 2))) 
  (.cons (.asg true 4 (.call 24 (.cons (.nm 1) (.cons (.nm 3) .nil)))) 
  (.cons (.asg false 5 (.call 17 (.cons (.nm 1) (.cons (.nm 2) .nil)))) 
  (.cons (.ite (.or (.cons (.and (.cons (.cmp (.nm 1) [.gt] (.cons (.k (.int (1))) .nil)) (.cons (.cmp (.k (.int (0))) [.isin] (.cons (.nm 5) .nil)) .nil))) (.cons (.cmp (.f1 .len (.nm 2)) [.lt] (.cons (.op .sub (.nm 1) (.k (.int (1)))) .nil)) .nil))) 
    b_law_a b_law_b) b_law_u))))
noncomputable def b_law : Ss := 
  (.cons (.unp [1, 2] (.call 15 (.cons (.nm 0) (.cons (.k (.int (1))) (.cons (.k (.int (10))) .nil))))) 
  (.cons (.ite (.cmp (.op .mod (.call 12 (.cons (.nm 0) (.cons (.k (.int (0))) .nil))) (.k (.int (3)))) [.eq] (.cons (.k (.int (1))) .nil)) 
    (.cons (.unp [1, 2] (.call 23 (.cons (.call 13 (.cons (.call 12 (.cons (.nm 0) (.cons (.k (.int (8))) .nil))) (.cons (.k (.int (3))) .nil))) .nil))) .nil) .nil) b_law_t))
noncomputable def f_law : Fn := ⟨1, 12, b_law⟩

/-- the text -/
noncomputable def T07 : List Fn := [f_is_among, f_is_tie, f_need_web, f_tie_of, f_counts_by, f_piece_from, f_pieces_by, f_done_by, f_hindered, f_spare_tie, f_joined_up, f_joining, f__law_cell, f__law_mixed, f__law_whole, f__law_web, f__law_tied, f__law_counts, f__law_pieces, f__law_fits, f__law_left, f__law_is_row, f__law_kind, f__law_side_by_side, f__law_told, f__law_joined, f_law]
end TC

namespace TC
open PySem
section
variable {n : Nat} {hm : Bool} {K : V → Prop} {X : Nat → Prop}
noncomputable def amongB : PyData → Int → Int → Bool
  | .int i, a, b => decide (a ≤ i) && decide (i ≤ b)
  | _, _, _ => false
theorem cond2 {c d : Bool} {K : V → Prop} (k : K (.d (.bool (c && d)))) : cond c (cond d (K (.d (.bool true))) (K (.d (.bool false)))) (K (.d (.bool false))) := by
  cases c <;> cases d <;> exact k
theorem among_spec (x : PyData) (a b : Int) (k : K (.d (.bool (amongB x a b)))) : wpCall T07 (n + 1) hm 0 [.d x, .d (.int a), .d (.int b)] K X := by
  refine wpCall_in (fn := f_is_among) rfl rfl (by decide) ?_
  dsimp only [f_is_among, b_is_among, wpSs, wpS, wpE, wpL, slotW, ownS, Rho.putL, frz, bindF, setD, setAll, bindT, F1.W, F2.W, F1.quiet, seqV, numW, isNon, r_got, r_rd_d, r_rd_own, r_rd_brw, r_nm_d, r_nm_own, r_nm_brw, r_nm_exc, r_low_int, r_low_list, r_arg_d, r_arg_own, r_arg_brw, r_arg_exc, r_kp_d, r_kp_own, r_keep_dt, r_keep_df, r_keep_ownt, r_keep_ownf, r_ret_d, r_ret_own, r_retm_d, r_retm_own, r_ifB, r_boolV, r_intV, r_argAll0, r_argAll1, r_keepAll0, r_keepAll1, r_seqOf_l, r_seqOf_t, r_listOf, r_ls_d, r_ls_own, r_keys_d, r_keys_own, r_keys_rg, r_it_dl, r_it_dt, r_it_own, r_it_brw, r_it_rg, r_itL_d, r_itL_own, r_itL_rg, r_has_ll, r_pv2, r_frz_d, r_frz_own, r_isi_int_d, r_isi_bool_d, r_isi_list_d, r_isi_tuple_d, r_isi_list_brw, r_isi_list_own, r_isi_exc, excIs, d_op, r_op_dl, r_op_dt, r_op_own, r_op_brw, r_op_ib, r_op_it, d_map0, d_map1, d_app0, d_app1, d_get0, d_get1, d_set0, d_set1, d_mod0, d_mod1, d_rep0, d_rep1, d_len0, d_len1, d_omap, d_obind, d_oelim, d_ct, d_cf, d_nt, d_nf, d_fand, d_tand, d_outn, d_outr, d_cmp1, d_cmp2, d_and1, d_and2, d_or1, d_or2, d_seq0, d_seq1, d_tst0, d_tst1, d_qt, d_qf, d_ownl, d_ownd, Nat.reduceSub, Nat.reduceAdd, r_retO_d, r_retO_own, r_pv4, r_op_bool, r_op_idl]
  cases x with
  | int i => exact cond2 k
  | _ => exact k
noncomputable def cellAt (sc : List Int) (k : Int) : Int := sc.getD k.toNat 0
theorem cell_spec (sc : List Int) (k : Int) (hs : sc.length < 64) (hk0 : 0 ≤ k) (hk : k < 1000) (q : K (.d (.int (cellAt sc k)))) : wpCall T07 (n + 1) hm 12 [.d (.list (ofInts sc)), .d (.int k)] K X := by
  have l : (ofInts sc).length < lim := by rw [length_ofInts]; exact lim_lt (by omega)
  refine wpCall_in (fn := f__law_cell) rfl rfl (by decide) ?_
  dsimp only [f__law_cell, b__law_cell, wpSs, wpS, wpE, wpL, slotW, ownS, Rho.putL, frz, bindF, setD, setAll, bindT, F1.W, F2.W, F1.quiet, seqV, numW, isNon, r_got, r_rd_d, r_rd_own, r_rd_brw, r_nm_d, r_nm_own, r_nm_brw, r_nm_exc, r_low_int, r_low_list, r_arg_d, r_arg_own, r_arg_brw, r_arg_exc, r_kp_d, r_kp_own, r_keep_dt, r_keep_df, r_keep_ownt, r_keep_ownf, r_ret_d, r_ret_own, r_retm_d, r_retm_own, r_ifB, r_boolV, r_intV, r_argAll0, r_argAll1, r_keepAll0, r_keepAll1, r_seqOf_l, r_seqOf_t, r_listOf, r_ls_d, r_ls_own, r_keys_d, r_keys_own, r_keys_rg, r_it_dl, r_it_dt, r_it_own, r_it_brw, r_it_rg, r_itL_d, r_itL_own, r_itL_rg, r_has_ll, r_pv2, r_frz_d, r_frz_own, r_isi_int_d, r_isi_bool_d, r_isi_list_d, r_isi_tuple_d, r_isi_list_brw, r_isi_list_own, r_isi_exc, excIs, d_op, r_op_dl, r_op_dt, r_op_own, r_op_brw, r_op_ib, r_op_it, d_map0, d_map1, d_app0, d_app1, d_get0, d_get1, d_set0, d_set1, d_mod0, d_mod1, d_rep0, d_rep1, d_len0, d_len1, d_omap, d_obind, d_oelim, d_ct, d_cf, d_nt, d_nf, d_fand, d_tand, d_outn, d_outr, d_cmp1, d_cmp2, d_and1, d_and2, d_or1, d_or2, d_seq0, d_seq1, d_tst0, d_tst1, d_qt, d_qf, d_ownl, d_ownd, Nat.reduceSub, Nat.reduceAdd, r_retO_d, r_retO_own, r_pv4, r_op_bool, r_op_idl]
  refine ⟨l, ifB_by (fun lt => ?_) (fun lt => ?_)⟩ <;> rw [length_ofInts] at lt
  · have lt' : k.toNat < sc.length := by omega
    have e2 : cellAt sc k = sc[k.toNat] := by unfold cellAt; rw [List.getD_eq_getElem?_getD, List.getElem?_eq_getElem lt']; rfl
    rw [r_idx_dl hk0 hk, getElem?_ofInts, List.getElem?_eq_getElem lt', ← e2]
    exact q
  · have e2 : cellAt sc k = 0 := by unfold cellAt; rw [List.getD_eq_getElem?_getD, List.getElem?_eq_none (by omega)]; rfl
    rw [e2] at q
    exact q
noncomputable def mixed (c k : Int) : Int := ((((c + 7919 * k + 13) * (c + 7919 * k + 13)).fmod 1000000007 * 48271).fmod 998244353).fdiv 11
theorem mixed_spec (c k : Int) (ok : IntMulOk (c + 7919 * k + 13) (c + 7919 * k + 13)) (q : K (.d (.int (mixed c k)))) : wpCall T07 (n + 1) hm 13 [.d (.int c), .d (.int k)] K X := by
  refine wpCall_in (fn := f__law_mixed) rfl rfl (by decide) ?_
  dsimp only [f__law_mixed, b__law_mixed, wpSs, wpS, wpE, wpL, slotW, ownS, Rho.putL, frz, bindF, setD, setAll, bindT, F1.W, F2.W, F1.quiet, seqV, numW, isNon, r_got, r_rd_d, r_rd_own, r_rd_brw, r_nm_d, r_nm_own, r_nm_brw, r_nm_exc, r_low_int, r_low_list, r_arg_d, r_arg_own, r_arg_brw, r_arg_exc, r_kp_d, r_kp_own, r_keep_dt, r_keep_df, r_keep_ownt, r_keep_ownf, r_ret_d, r_ret_own, r_retm_d, r_retm_own, r_ifB, r_boolV, r_intV, r_argAll0, r_argAll1, r_keepAll0, r_keepAll1, r_seqOf_l, r_seqOf_t, r_listOf, r_ls_d, r_ls_own, r_keys_d, r_keys_own, r_keys_rg, r_it_dl, r_it_dt, r_it_own, r_it_brw, r_it_rg, r_itL_d, r_itL_own, r_itL_rg, r_has_ll, r_pv2, r_frz_d, r_frz_own, r_isi_int_d, r_isi_bool_d, r_isi_list_d, r_isi_tuple_d, r_isi_list_brw, r_isi_list_own, r_isi_exc, excIs, d_op, r_op_dl, r_op_dt, r_op_own, r_op_brw, r_op_ib, r_op_it, d_map0, d_map1, d_app0, d_app1, d_get0, d_get1, d_set0, d_set1, d_mod0, d_mod1, d_rep0, d_rep1, d_len0, d_len1, d_omap, d_obind, d_oelim, d_ct, d_cf, d_nt, d_nf, d_fand, d_tand, d_outn, d_outr, d_cmp1, d_cmp2, d_and1, d_and2, d_or1, d_or2, d_seq0, d_seq1, d_tst0, d_tst1, d_qt, d_qf, d_ownl, d_ownd, Nat.reduceSub, Nat.reduceAdd, r_retO_d, r_retO_own, r_pv4, r_op_bool, r_op_idl]
  exact ⟨IntMulOk.of_left (by decide), ok, by decide, IntMulOk.of_right (by decide), by decide, ⟨by decide, by decide⟩, q⟩
noncomputable def wholeB : PyData → Bool
  | .int _ => true
  | _ => false
theorem whole_spec (x : PyData) (k : K (.d (.bool (wholeB x)))) : wpCall T07 (n + 1) hm 14 [.d x] K X := by
  refine wpCall_in (fn := f__law_whole) rfl rfl (by decide) ?_
  dsimp only [f__law_whole, b__law_whole, wpSs, wpS, wpE, wpL, slotW, ownS, Rho.putL, frz, bindF, setD, setAll, bindT, F1.W, F2.W, F1.quiet, seqV, numW, isNon, r_got, r_rd_d, r_rd_own, r_rd_brw, r_nm_d, r_nm_own, r_nm_brw, r_nm_exc, r_low_int, r_low_list, r_arg_d, r_arg_own, r_arg_brw, r_arg_exc, r_kp_d, r_kp_own, r_keep_dt, r_keep_df, r_keep_ownt, r_keep_ownf, r_ret_d, r_ret_own, r_retm_d, r_retm_own, r_ifB, r_boolV, r_intV, r_argAll0, r_argAll1, r_keepAll0, r_keepAll1, r_seqOf_l, r_seqOf_t, r_listOf, r_ls_d, r_ls_own, r_keys_d, r_keys_own, r_keys_rg, r_it_dl, r_it_dt, r_it_own, r_it_brw, r_it_rg, r_itL_d, r_itL_own, r_itL_rg, r_has_ll, r_pv2, r_frz_d, r_frz_own, r_isi_int_d, r_isi_bool_d, r_isi_list_d, r_isi_tuple_d, r_isi_list_brw, r_isi_list_own, r_isi_exc, excIs, d_op, r_op_dl, r_op_dt, r_op_own, r_op_brw, r_op_ib, r_op_it, d_map0, d_map1, d_app0, d_app1, d_get0, d_get1, d_set0, d_set1, d_mod0, d_mod1, d_rep0, d_rep1, d_len0, d_len1, d_omap, d_obind, d_oelim, d_ct, d_cf, d_nt, d_nf, d_fand, d_tand, d_outn, d_outr, d_cmp1, d_cmp2, d_and1, d_and2, d_or1, d_or2, d_seq0, d_seq1, d_tst0, d_tst1, d_qt, d_qf, d_ownl, d_ownd, Nat.reduceSub, Nat.reduceAdd, r_retO_d, r_retO_own, r_pv4, r_op_bool, r_op_idl]
  cases x <;> exact k
/-- a tie of sz points -/
noncomputable def tieB (sz : Int) : PyData → Bool
  | .tuple [.int a, .int b] => decide (0 ≤ a) && decide (a ≤ sz - 1) && (decide (0 ≤ b) && decide (b ≤ sz - 1)) && decide (a < b)
  | _ => false
/-- tuples are short -/
noncomputable def Short : PyData → Prop
  | .tuple xs => xs.length < 1000
  | _ => True
theorem idx_t0 {a : PyData} {r : List PyData} {K : V → Prop} (k : K (.d a)) : got (idxV (.d (.tuple (a :: r))) 0) K := by rw [r_idx_dt (by decide) (by decide)]; exact k
theorem idx_t1 {a b : PyData} {r : List PyData} {K : V → Prop} (k : K (.d b)) : got (idxV (.d (.tuple (a :: b :: r))) 1) K := by rw [r_idx_dt (by decide) (by decide)]; exact k
theorem among_int {x : PyData} {a b : Int} (h : amongB x a b = true) : ∃ i, x = .int i := by
  cases x <;> first | exact ⟨_, rfl⟩ | exact nomatch h
theorem tie_spec (sz : Int) (x : PyData) (hx : Short x) (k : K (.d (.bool (tieB sz x)))) : wpCall T07 (n + 2) hm 1 [.d (.int sz), .d x] K X := by
  refine wpCall_in (fn := f_is_tie) rfl rfl (by decide) ?_
  dsimp only [f_is_tie, b_is_tie, wpSs, wpS, wpE, wpL, slotW, ownS, Rho.putL, frz, bindF, setD, setAll, bindT, F1.W, F2.W, F1.quiet, seqV, numW, isNon, r_got, r_rd_d, r_rd_own, r_rd_brw, r_nm_d, r_nm_own, r_nm_brw, r_nm_exc, r_low_int, r_low_list, r_arg_d, r_arg_own, r_arg_brw, r_arg_exc, r_kp_d, r_kp_own, r_keep_dt, r_keep_df, r_keep_ownt, r_keep_ownf, r_ret_d, r_ret_own, r_retm_d, r_retm_own, r_ifB, r_boolV, r_intV, r_argAll0, r_argAll1, r_keepAll0, r_keepAll1, r_seqOf_l, r_seqOf_t, r_listOf, r_ls_d, r_ls_own, r_keys_d, r_keys_own, r_keys_rg, r_it_dl, r_it_dt, r_it_own, r_it_brw, r_it_rg, r_itL_d, r_itL_own, r_itL_rg, r_has_ll, r_pv2, r_frz_d, r_frz_own, r_isi_int_d, r_isi_bool_d, r_isi_list_d, r_isi_tuple_d, r_isi_list_brw, r_isi_list_own, r_isi_exc, excIs, d_op, r_op_dl, r_op_dt, r_op_own, r_op_brw, r_op_ib, r_op_it, d_map0, d_map1, d_app0, d_app1, d_get0, d_get1, d_set0, d_set1, d_mod0, d_mod1, d_rep0, d_rep1, d_len0, d_len1, d_omap, d_obind, d_oelim, d_ct, d_cf, d_nt, d_nf, d_fand, d_tand, d_outn, d_outr, d_cmp1, d_cmp2, d_and1, d_and2, d_or1, d_or2, d_seq0, d_seq1, d_tst0, d_tst1, d_qt, d_qf, d_ownl, d_ownd, Nat.reduceSub, Nat.reduceAdd, r_retO_d, r_retO_own, r_pv4, r_op_bool, r_op_idl]
  cases x with
  | tuple xs =>
    show xs.length < lim ∧ _
    refine ⟨lim_lt hx, ?_⟩
    have no : ∀ {c : Prop}, xs.length ≠ 2 → tieB sz (.tuple xs) = false → cond (!decide ((xs.length : Int) = 2)) (K (.d (.bool false))) c := fun h e => by rw [decide_eq_false (by omega)]; rw [e] at k; exact k
    rcases xs with _ | ⟨a, _ | ⟨b, _ | ⟨c, xs⟩⟩⟩
    · exact no nofun rfl
    · exact no nofun (by cases a <;> rfl)
    · have bad : ∀ {P : Prop} {x : PyData}, (amongB x 0 (sz - 1) = false → tieB sz (.tuple [a, b]) = false) → (amongB x 0 (sz - 1) = true → P) → cond (!amongB x 0 (sz - 1)) (K (.d (.bool false))) P := fun {P x} h1 h2 => by
        cases e : amongB x 0 (sz - 1) with
        | true => exact h2 e
        | false => rw [h1 e] at k; exact k
      refine idx_t0 (among_spec a 0 (sz - 1) (bad (fun e => ?_) fun ha => idx_t1 (among_spec b 0 (sz - 1) (bad (fun e => ?_) fun hb => idx_t0 (idx_t1 ?_)))))
      · cases a with
        | int i =>
          cases b with
          | int j => show (amongB (.int i) 0 (sz - 1) && _ && _) = false; rw [e]; rfl
          | _ => rfl
        | _ => rfl
      · cases a with
        | int i =>
          cases b with
          | int j => show (_ && amongB (.int j) 0 (sz - 1) && _) = false; rw [e, Bool.and_false]; rfl
          | _ => rfl
        | _ => rfl
      · obtain ⟨i, rfl⟩ := among_int ha
        obtain ⟨j, rfl⟩ := among_int hb
        have e : tieB sz (.tuple [.int i, .int j]) = decide (i < j) := by show (amongB (.int i) 0 (sz - 1) && amongB (.int j) 0 (sz - 1) && _) = _; rw [ha, hb]; rfl
        rw [e] at k; exact k
    · exact no (by simp only [List.length_cons]; omega) (by cases a <;> first | rfl | (cases b <;> rfl))
  | _ => exact k
end
end TC

namespace TC
open PySem
section
variable {n : Nat} {hm : Bool} {K : V → Prop} {X : Nat → Prop}
/-- a table with these tuples -/
noncomputable def mets (met : List (List Int)) : List (PyData × PyData) := met.map fun k => (.tuple (ofInts k), .bool true)
theorem tabT_mets (met : List (List Int)) : tabT (mets met) = some met := by
  induction met with
  | nil => rfl
  | cons k met ih =>
    show ((allOf intOf (ofInts k)).bind fun a => (tabT (mets met)).map (a :: ·)) = _
    rw [ofInts_ints, ih]; rfl
theorem hasKey_mets (a b : Int) (met : List (List Int)) : hasKey (.tuple [.int a, .int b]) (mets met) = some (met.contains [a, b]) := by
  show (tabT (mets met)).map _ = _
  rw [tabT_mets]; rfl
noncomputable def okW (sz : Int) : List PyData → List (List Int) → Bool
  | [], _ => true
  | .tuple [.int a, .int b] :: ys, met => tieB sz (.tuple [.int a, .int b]) && (!met.contains [a, b] && okW sz ys (met ++ [[a, b]]))
  | _, _ => false
theorem tie_pair {sz : Int} {y : PyData} (h : tieB sz y = true) : ∃ a b, y = .tuple [.int a, .int b] := by
  unfold tieB at h
  split at h
  · exact ⟨_, _, rfl⟩
  · exact nomatch h
theorem okW_no {sz : Int} {y : PyData} {ys : List PyData} {met : List (List Int)} (h : tieB sz y = false) : okW sz (y :: ys) met = false := by
  unfold okW
  split
  · rename_i e; cases e
  · rename_i e; cases e; rw [h]; rfl
  · rfl
theorem need_loop (sz : Int) {Ko : KS} {l : Option V} {ys : List PyData} : ∀ {met : List (List Int)} {s3 : Option V}, (∀ y ∈ ys, Short y) → met.length + ys.length < 1000 → (okW sz ys met = true → ∀ ρ, Ko .nxt ρ) → (okW sz ys met = false → X 3) →
    forW (fun x ρ' k => bindF (.one 3) x ρ' fun ρ'' => wpSs (wpCall T07 (n + 2)) false b_need_web_1 ρ'' k (fun c _ => X c)) Ko (ys.map .d) [some (.d (.int sz)), l, some (.own (.dict (mets met))), s3] := by
  induction ys with
  | nil => exact fun _ _ h _ => h rfl _
  | cons y ys ih =>
    intro met s3 hs hl h1 h2
    dsimp only [forW, b_need_web_1, wpSs, wpS, wpE, wpL, slotW, ownS, Rho.putL, frz, bindF, setD, setAll, bindT, F1.W, F2.W, F1.quiet, seqV, numW, isNon, r_got, r_rd_d, r_rd_own, r_rd_brw, r_nm_d, r_nm_own, r_nm_brw, r_nm_exc, r_low_int, r_low_list, r_arg_d, r_arg_own, r_arg_brw, r_arg_exc, r_kp_d, r_kp_own, r_keep_dt, r_keep_df, r_keep_ownt, r_keep_ownf, r_ret_d, r_ret_own, r_retm_d, r_retm_own, r_ifB, r_boolV, r_intV, r_argAll0, r_argAll1, r_keepAll0, r_keepAll1, r_seqOf_l, r_seqOf_t, r_listOf, r_ls_d, r_ls_own, r_keys_d, r_keys_own, r_keys_rg, r_it_dl, r_it_dt, r_it_own, r_it_brw, r_it_rg, r_itL_d, r_itL_own, r_itL_rg, r_has_ll, r_pv2, r_frz_d, r_frz_own, r_isi_int_d, r_isi_bool_d, r_isi_list_d, r_isi_tuple_d, r_isi_list_brw, r_isi_list_own, r_isi_exc, excIs, d_op, r_op_dl, r_op_dt, r_op_own, r_op_brw, r_op_ib, r_op_it, d_map0, d_map1, d_app0, d_app1, d_get0, d_get1, d_set0, d_set1, d_mod0, d_mod1, d_rep0, d_rep1, d_len0, d_len1, d_omap, d_obind, d_oelim, d_ct, d_cf, d_nt, d_nf, d_fand, d_tand, d_outn, d_outr, d_cmp1, d_cmp2, d_and1, d_and2, d_or1, d_or2, d_seq0, d_seq1, d_tst0, d_tst1, d_qt, d_qf, d_ownl, d_ownd, Nat.reduceSub, Nat.reduceAdd, r_retO_d, r_retO_own, r_pv4, r_op_bool, r_op_idl]
    refine tie_spec sz y (hs y (.head _)) ?_
    cases e : tieB sz y with
    | false => exact ⟨rfl, h2 (okW_no e)⟩
    | true =>
      obtain ⟨a, b, rfl⟩ := tie_pair e
      show got (hasKey (.tuple [.int a, .int b]) (mets met)) _
      rw [hasKey_mets]
      have ok : okW sz (.tuple [.int a, .int b] :: ys) met = (!met.contains [a, b] && okW sz ys (met ++ [[a, b]])) := by
        show (tieB sz (.tuple [.int a, .int b]) && _) = _; rw [e]; rfl
      rw [ok] at h1 h2
      cases c : met.contains [a, b] with
      | true => rw [c] at h2; exact ⟨rfl, h2 rfl⟩
      | false =>
        rw [c] at h1 h2
        show got (addKey (.tuple [.int a, .int b]) (mets met)) _
        unfold addKey
        rw [hasKey_mets, c]
        refine ⟨lim_lt (by unfold mets; rw [List.length_map]; simp only [List.length_cons] at hl; omega), ?_⟩
        have e2 : mets met ++ [(.tuple [.int a, .int b], .bool true)] = mets (met ++ [[a, b]]) := by unfold mets; rw [List.map_append]; rfl
        show forW _ _ _ [some (.d (.int sz)), l, some (.own (.dict (mets met ++ [(.tuple [.int a, .int b], .bool true)]))), _]
        rw [e2]
        exact ih (fun y hy => hs y (.tail _ hy)) (by rw [List.length_append]; simp only [List.length_cons, List.length_nil] at hl ⊢; omega) h1 h2
/-- what need_web takes -/
noncomputable def webB (x y : PyData) : Bool :=
  match x, y with
  | .int sz, .list ys => decide (1 ≤ sz) && decide (sz ≤ 10) && okW sz ys []
  | _, _ => false
noncomputable def ShortL : PyData → Prop
  | .list ys => ys.length < 1000 ∧ ∀ y ∈ ys, Short y
  | _ => True
theorem need_spec (x y : PyData) (hy : ShortL y) (h1 : webB x y = true → K (.d .none)) (h2 : webB x y = false → X 3) : wpCall T07 (n + 3) false 2 [.d x, .d y] K X := by
  refine wpCall_in (fn := f_need_web) rfl rfl (by decide) ?_
  dsimp only [f_need_web, b_need_web, wpSs, wpS, wpE, wpL, slotW, ownS, Rho.putL, frz, bindF, setD, setAll, bindT, F1.W, F2.W, F1.quiet, seqV, numW, isNon, r_got, r_rd_d, r_rd_own, r_rd_brw, r_nm_d, r_nm_own, r_nm_brw, r_nm_exc, r_low_int, r_low_list, r_arg_d, r_arg_own, r_arg_brw, r_arg_exc, r_kp_d, r_kp_own, r_keep_dt, r_keep_df, r_keep_ownt, r_keep_ownf, r_ret_d, r_ret_own, r_retm_d, r_retm_own, r_ifB, r_boolV, r_intV, r_argAll0, r_argAll1, r_keepAll0, r_keepAll1, r_seqOf_l, r_seqOf_t, r_listOf, r_ls_d, r_ls_own, r_keys_d, r_keys_own, r_keys_rg, r_it_dl, r_it_dt, r_it_own, r_it_brw, r_it_rg, r_itL_d, r_itL_own, r_itL_rg, r_has_ll, r_pv2, r_frz_d, r_frz_own, r_isi_int_d, r_isi_bool_d, r_isi_list_d, r_isi_tuple_d, r_isi_list_brw, r_isi_list_own, r_isi_exc, excIs, d_op, r_op_dl, r_op_dt, r_op_own, r_op_brw, r_op_ib, r_op_it, d_map0, d_map1, d_app0, d_app1, d_get0, d_get1, d_set0, d_set1, d_mod0, d_mod1, d_rep0, d_rep1, d_len0, d_len1, d_omap, d_obind, d_oelim, d_ct, d_cf, d_nt, d_nf, d_fand, d_tand, d_outn, d_outr, d_cmp1, d_cmp2, d_and1, d_and2, d_or1, d_or2, d_seq0, d_seq1, d_tst0, d_tst1, d_qt, d_qf, d_ownl, d_ownd, Nat.reduceSub, Nat.reduceAdd, r_retO_d, r_retO_own, r_pv4, r_op_bool, r_op_idl]
  refine among_spec x 1 10 ?_
  cases e : amongB x 1 10 with
  | false =>
    refine ⟨rfl, h2 ?_⟩
    cases x with
    | int i => cases y with
      | list ys => show (amongB (.int i) 1 10 && _) = false; rw [e]; rfl
      | _ => rfl
    | _ => rfl
  | true =>
    obtain ⟨sz, rfl⟩ := among_int e
    cases y with
    | list ys =>
      have e2 : webB (.int sz) (.list ys) = okW sz ys [] := by show (amongB (.int sz) 1 10 && _) = _; rw [e]; rfl
      rw [e2] at h1 h2
      exact ⟨by rw [List.length_map]; exact lim_lt hy.1, need_loop sz (met := []) hy.2 (by rw [List.length_nil, Nat.zero_add]; exact hy.1) (fun q _ => h1 q) h2⟩
    | _ => exact ⟨rfl, h2 rfl⟩
end
end TC

namespace TC

/-! Webs: points that hang together. -/

noncomputable abbrev Ties := List (Nat × Nat)
noncomputable def Adj (ts : Ties) (a b : Nat) : Prop := (a, b) ∈ ts ∨ (b, a) ∈ ts
theorem Adj.symm {ts : Ties} {a b : Nat} (h : Adj ts a b) : Adj ts b a := Or.symm h
inductive Cn (ts : Ties) (a : Nat) : Nat → Prop
  | refl : Cn ts a a
  | step {b c : Nat} : Cn ts a b → Adj ts b c → Cn ts a c
theorem Cn.trans {ts : Ties} {a b c : Nat} (x : Cn ts a b) (y : Cn ts b c) : Cn ts a c := by
  induction y with
  | refl => exact x
  | step _ h ih => exact .step ih h
theorem Cn.one {ts : Ties} {a b : Nat} (h : Adj ts a b) : Cn ts a b := .step .refl h
theorem Cn.symm {ts : Ties} {a b : Nat} (x : Cn ts a b) : Cn ts b a := by
  induction x with
  | refl => exact .refl
  | step _ h ih => exact (Cn.one h.symm).trans ih
theorem Cn.mono {ts us : Ties} (s : ∀ t ∈ ts, t ∈ us) {a b : Nat} (x : Cn ts a b) : Cn us a b := by
  induction x with
  | refl => exact .refl
  | step _ h ih => exact .step ih (h.imp (s _) (s _))
theorem Cn.closed {ts : Ties} {P : Nat → Prop} (c : ∀ x y, P x → Adj ts x y → P y) {a b : Nat} (h : P a) (x : Cn ts a b) : P b := by
  induction x with
  | refl => exact h
  | step _ q ih => exact c _ _ ih q
/-- each tie is of two points, the less first -/
noncomputable def Web (n : Nat) (ts : Ties) : Prop := ts.Nodup ∧ ∀ t ∈ ts, t.1 < t.2 ∧ t.2 < n
theorem Web.lt {n : Nat} {ts : Ties} (w : Web n ts) {a b : Nat} (h : Adj ts a b) : a < n ∧ b < n := by
  rcases h with h | h <;> have := w.2 _ h <;> dsimp only at this <;> omega
theorem Cn.lt {n : Nat} {ts : Ties} (w : Web n ts) {a b : Nat} (h : a < n) (x : Cn ts a b) : b < n := Cn.closed (fun _ _ _ q => (w.lt q).2) h x

noncomputable def dec (p : Prop) : Bool := @decide p (Classical.propDecidable p)
theorem dec_iff {p : Prop} : dec p = true ↔ p := @decide_eq_true_iff p (Classical.propDecidable p)
theorem dec_true {p : Prop} (h : p) : dec p = true := dec_iff.mpr h
theorem dec_false {p : Prop} (h : ¬ p) : dec p = false := Bool.eq_false_iff.mpr fun q => h (dec_iff.mp q)
theorem dec_congr {p q : Prop} (h : p ↔ q) : dec p = dec q := by rw [propext h]
noncomputable def compOf (n : Nat) (ts : Ties) (p : Nat) : List Nat := (List.range n).filter fun q => dec (Cn ts p q)
noncomputable def Rep (ts : Ties) (p : Nat) : Prop := ∀ q, Cn ts q p → p ≤ q
noncomputable def reps (n : Nat) (ts : Ties) : List Nat := (List.range n).filter fun p => dec (Rep ts p)
noncomputable def comps (n : Nat) (ts : Ties) : List (List Nat) := (reps n ts).map (compOf n ts)

theorem mem_compOf {n : Nat} {ts : Ties} {p q : Nat} : q ∈ compOf n ts p ↔ q < n ∧ Cn ts p q := by
  unfold compOf; rw [List.mem_filter, List.mem_range, dec_iff]
theorem mem_reps {n : Nat} {ts : Ties} {p : Nat} : p ∈ reps n ts ↔ p < n ∧ Rep ts p := by
  unfold reps; rw [List.mem_filter, List.mem_range, dec_iff]
theorem compOf_sorted (n : Nat) (ts : Ties) (p : Nat) : (compOf n ts p).Pairwise (· < ·) := List.pairwise_lt_range.filter _
theorem sorted_ext {a b : List Nat} (ha : a.Pairwise (· < ·)) (hb : b.Pairwise (· < ·)) (h : ∀ x, x ∈ a ↔ x ∈ b) : a = b := by
  have na : a.Nodup := ha.imp fun h => Nat.ne_of_lt h
  have nb : b.Nodup := hb.imp fun h => Nat.ne_of_lt h
  exact List.Perm.eq_of_pairwise (fun x y _ _ p q => absurd (Nat.lt_trans p q) (Nat.lt_irrefl _)) ha hb ((List.perm_ext_iff_of_nodup na nb).mpr h)
theorem has_rep (ts : Ties) (p : Nat) : ∃ r, Rep ts r ∧ Cn ts r p := by
  induction p using Nat.strongRecOn with
  | ind p ih =>
    by_cases h : Rep ts p
    · exact ⟨p, h, .refl⟩
    · obtain ⟨q, hq⟩ := Classical.not_forall.mp h
      obtain ⟨h1, h2⟩ := Classical.not_imp.mp hq
      obtain ⟨r, h3, h4⟩ := ih q (Nat.lt_of_not_le h2)
      exact ⟨r, h3, h4.trans h1⟩
theorem Rep.uniq {ts : Ties} {r s : Nat} (h : Rep ts r) (k : Rep ts s) (c : Cn ts r s) : r = s := Nat.le_antisymm (h _ c.symm) (k _ c)

/-! The least mark, handed on along the ties. -/

noncomputable def mstep (m : List Nat) (t : Nat × Nat) : List Nat := (m.set t.1 (min (m.getD t.1 0) (m.getD t.2 0))).set t.2 (min (m.getD t.1 0) (m.getD t.2 0))
noncomputable def mround (ts : Ties) (m : List Nat) : List Nat := ts.foldl mstep m
theorem getD_set {m : List Nat} {i j v : Nat} : (m.set i v).getD j 0 = if i = j ∧ j < m.length then v else m.getD j 0 := by
  rw [List.getD_eq_getElem?_getD, List.getD_eq_getElem?_getD, List.getElem?_set]
  by_cases e : i = j
  · subst e
    by_cases l : i < m.length
    · rw [if_pos rfl, if_pos l, if_pos ⟨rfl, l⟩]; rfl
    · rw [if_pos rfl, if_neg l, if_neg fun h => l h.2, List.getElem?_eq_none (Nat.le_of_not_lt l)]
  · rw [if_neg e, if_neg fun h => e h.1]
theorem mstep_len (m : List Nat) (t : Nat × Nat) : (mstep m t).length = m.length := by unfold mstep; rw [List.length_set, List.length_set]
theorem mround_len (ts : Ties) : ∀ m, (mround ts m).length = m.length := by
  unfold mround
  induction ts with
  | nil => intro m; rfl
  | cons t ts ih => intro m; rw [List.foldl_cons, ih, mstep_len]
theorem mstep_get (m : List Nat) (t : Nat × Nat) (p : Nat) (h1 : t.1 < m.length) (h2 : t.2 < m.length) : (mstep m t).getD p 0 = if p = t.1 ∨ p = t.2 then min (m.getD t.1 0) (m.getD t.2 0) else m.getD p 0 := by
  unfold mstep
  rw [getD_set, getD_set, List.length_set]
  by_cases e2 : p = t.2
  · subst e2; rw [if_pos ⟨rfl, h2⟩, if_pos (.inr rfl)]
  · rw [if_neg fun h => e2 h.1.symm]
    by_cases e1 : p = t.1
    · subst e1; rw [if_pos ⟨rfl, h1⟩, if_pos (.inl rfl)]
    · rw [if_neg fun h => e1 h.1.symm, if_neg fun h => h.elim e1 e2]
theorem mstep_le (m : List Nat) (t : Nat × Nat) (p : Nat) (h1 : t.1 < m.length) (h2 : t.2 < m.length) : (mstep m t).getD p 0 ≤ m.getD p 0 := by
  rw [mstep_get m t p h1 h2]
  split
  · rename_i h; rcases h with rfl | rfl
    · exact Nat.min_le_left ..
    · exact Nat.min_le_right ..
  · exact Nat.le_refl _
theorem mround_le {n : Nat} : ∀ {ts : Ties} {m : List Nat}, (∀ t ∈ ts, t.1 < n ∧ t.2 < n) → m.length = n → (∀ p, (mround ts m).getD p 0 ≤ m.getD p 0) ∧ ∀ x y, Adj ts x y → (mround ts m).getD y 0 ≤ m.getD x 0
  | [], m, _, _ => ⟨fun p => Nat.le_refl _, fun x y h => by rcases h with h | h <;> cases h⟩
  | t :: ts, m, w, l => by
    have ht := w t (.head _)
    obtain ⟨a, b⟩ := mround_le (ts := ts) (m := mstep m t) (fun u hu => w u (.tail _ hu)) (by rw [mstep_len, l])
    have le := fun p => mstep_le m t p (by omega) (by omega)
    have gt := fun p => mstep_get m t p (by omega) (by omega)
    refine ⟨fun p => Nat.le_trans (a p) (le p), fun x y h => ?_⟩
    show (mround ts (mstep m t)).getD y 0 ≤ _
    by_cases e : (x = t.1 ∧ y = t.2) ∨ (x = t.2 ∧ y = t.1)
    · refine Nat.le_trans (a y) ?_
      rw [gt y]
      rcases e with ⟨rfl, rfl⟩ | ⟨rfl, rfl⟩
      · rw [if_pos (.inr rfl)]; exact Nat.min_le_left ..
      · rw [if_pos (.inl rfl)]; exact Nat.min_le_right ..
    · have h' : Adj ts x y := by
        rcases h with h | h
        · cases h with
          | head => exact absurd (.inl ⟨rfl, rfl⟩) e
          | tail _ h => exact .inl h
        · cases h with
          | head => exact absurd (.inr ⟨rfl, rfl⟩) e
          | tail _ h => exact .inr h
      exact Nat.le_trans (b x y h') (le x)
theorem mround_cn {n : Nat} {us : Ties} : ∀ {ts : Ties} {m : List Nat}, (∀ t ∈ ts, t ∈ us ∧ t.1 < n ∧ t.2 < n) → m.length = n → (∀ p, p < n → Cn us (m.getD p 0) p) → ∀ p, p < n → Cn us ((mround ts m).getD p 0) p
  | [], m, _, _, h => h
  | t :: ts, m, w, l, h => by
    have ht := w t (.head _)
    refine mround_cn (ts := ts) (m := mstep m t) (fun u hu => w u (.tail _ hu)) (by rw [mstep_len, l]) fun p hp => ?_
    rw [mstep_get m t p (by omega) (by omega)]
    have ab : Cn us t.1 t.2 := .one (.inl ht.1)
    have c1 : Cn us (min (m.getD t.1 0) (m.getD t.2 0)) t.1 := by
      rw [Nat.min_def]; split
      · exact h _ ht.2.1
      · exact (h _ ht.2.2).trans ab.symm
    split
    · rename_i e; rcases e with rfl | rfl
      · exact c1
      · exact c1.trans ab
    · exact h p hp
noncomputable def mrounds (ts : Ties) (n : Nat) : Nat → List Nat
  | 0 => List.range n
  | k + 1 => mround ts (mrounds ts n k)
theorem mrounds_len (ts : Ties) (n : Nat) : ∀ k, (mrounds ts n k).length = n
  | 0 => List.length_range
  | k + 1 => by rw [mrounds, mround_len, mrounds_len ts n k]
theorem countP_lt {l : List Nat} {P Q : Nat → Bool} (s : ∀ x ∈ l, P x = true → Q x = true) {y : Nat} (hy : y ∈ l) (q : Q y = true) (p : P y = false) : l.countP P < l.countP Q := by
  induction l with
  | nil => cases hy
  | cons a l ih =>
    rw [List.countP_cons, List.countP_cons]
    have le : l.countP P ≤ l.countP Q := List.countP_mono_left fun x hx => s x (.tail _ hx)
    have sa := s a (.head _)
    cases hy with
    | head => rw [q, p]; simp; omega
    | tail _ hy =>
      have := ih (fun x hx => s x (.tail _ hx)) hy
      cases pa : P a with
      | false => cases Q a <;> simp <;> omega
      | true => rw [sa pa]; simp; omega
theorem marks_done {n : Nat} {ts : Ties} (w : Web n ts) : (∀ p < n, Cn ts ((mrounds ts n n).getD p 0) p) ∧ ∀ p < n, Rep ts ((mrounds ts n n).getD p 0) := by
  have wl : ∀ t ∈ ts, t.1 < n ∧ t.2 < n := fun t h => by have := w.2 t h; omega
  have cn : ∀ k p, p < n → Cn ts ((mrounds ts n k).getD p 0) p := fun k => by
    induction k with
    | zero => intro p hp; rw [mrounds, List.getD_eq_getElem?_getD, List.getElem?_range hp]; exact .refl
    | succ k ih => exact mround_cn (fun t h => ⟨h, wl t h⟩) (mrounds_len ts n k) ih
  have le : ∀ k p, (mrounds ts n (k + 1)).getD p 0 ≤ (mrounds ts n k).getD p 0 := fun k => (mround_le wl (mrounds_len ts n k)).1
  have on : ∀ k x y, Adj ts x y → (mrounds ts n (k + 1)).getD y 0 ≤ (mrounds ts n k).getD x 0 := fun k => (mround_le wl (mrounds_len ts n k)).2
  have key : ∀ r, r < n → Rep ts r → ∀ k, (∀ p, Cn ts r p → (mrounds ts n k).getD p 0 = r) ∨ k < (List.range n).countP fun p => decide ((mrounds ts n k).getD p 0 = r) := fun r hr rr k => by
    have ge : ∀ k p, Cn ts r p → r ≤ (mrounds ts n k).getD p 0 := fun k p c => rr _ ((cn k p (c.lt w hr)).trans c.symm)
    have at_r : ∀ k, (mrounds ts n k).getD r 0 = r := fun k => by
      induction k with
      | zero => rw [mrounds, List.getD_eq_getElem?_getD, List.getElem?_range hr]; rfl
      | succ k ih => have := le k r; have := ge (k + 1) r .refl; omega
    induction k with
    | zero =>
      right
      exact Nat.lt_of_le_of_lt (Nat.zero_le _) (List.countP_pos_iff.mpr ⟨r, List.mem_range.mpr hr, decide_eq_true (at_r 0)⟩)
    | succ k ih =>
      by_cases all : ∀ p, Cn ts r p → (mrounds ts n k).getD p 0 = r
      · left; intro p c; have := all p c; have := le k p; have := ge (k + 1) p c; omega
      · right
        have ih := ih.resolve_left all
        have ex : ∃ x y, Cn ts r x ∧ (mrounds ts n k).getD x 0 = r ∧ Adj ts x y ∧ (mrounds ts n k).getD y 0 ≠ r := Classical.byContradiction fun no =>
          all fun p c => (Cn.closed (P := fun x => Cn ts r x ∧ (mrounds ts n k).getD x 0 = r) (fun x y hx a => ⟨hx.1.step a, Classical.byContradiction fun ne => no ⟨x, y, hx.1, hx.2, a, ne⟩⟩) ⟨.refl, at_r k⟩ c).2
        obtain ⟨x, y, c, e, a, ne⟩ := ex
        have cy := c.step a
        have hy := cy.lt w hr
        refine Nat.lt_of_le_of_lt ih (countP_lt (fun p hp q => ?_) (List.mem_range.mpr hy) ?_ (decide_eq_false ne))
        · have q := of_decide_eq_true q
          have c2 : Cn ts r p := by have := cn k p (List.mem_range.mp hp); rw [q] at this; exact this
          have := le k p; have := ge (k + 1) p c2
          exact decide_eq_true (by omega)
        · have := on k x y a; have := ge (k + 1) y cy
          exact decide_eq_true (by omega)
  refine ⟨cn n, fun p hp => ?_⟩
  obtain ⟨r, rr, c⟩ := has_rep ts p
  have hr : r < n := c.symm.lt w hp
  rcases key r hr rr n with h | h
  · rw [h p c]; exact rr
  · have := List.countP_le_length (p := fun p => decide ((mrounds ts n n).getD p 0 = r)) (l := List.range n)
    rw [List.length_range] at this; omega

/-- the points that bear one mark -/
theorem marked {n : Nat} {ts : Ties} (w : Web n ts) (k : Nat) : (List.range n).filter (fun p => decide ((mrounds ts n n).getD p 0 = k)) = if k ∈ reps n ts then compOf n ts k else [] := by
  obtain ⟨h1, h2⟩ := marks_done w
  split
  · rename_i hk
    have hk := mem_reps.mp hk
    refine List.filter_congr fun p hp => ?_
    have hp := List.mem_range.mp hp
    refine Bool.eq_iff_iff.mpr ?_
    rw [dec_iff, decide_eq_true_iff]
    exact ⟨fun e => e ▸ h1 p hp, fun c => (h2 p hp).uniq hk.2 ((h1 p hp).trans c.symm)⟩
  · rename_i hk
    refine List.filter_eq_nil_iff.mpr fun p hp e => hk ?_
    have hp := List.mem_range.mp hp
    have e := of_decide_eq_true e
    subst e
    exact mem_reps.mpr ⟨(h1 p hp).symm.lt w hp, h2 p hp⟩
theorem compOf_ne {n : Nat} {ts : Ties} {k : Nat} (h : k < n) : compOf n ts k ≠ [] := fun e => by
  have := mem_compOf.mpr ⟨h, Cn.refl (ts := ts)⟩
  rw [e] at this; cases this
/-- the pieces by marks -/
theorem pieces_marks {n : Nat} {ts : Ties} (w : Web n ts) : ((List.range n).map fun k => (List.range n).filter fun p => decide ((mrounds ts n n).getD p 0 = k)).filter (fun l => decide (l ≠ [])) = comps n ts := by
  have e : ((List.range n).map fun k => (List.range n).filter fun p => decide ((mrounds ts n n).getD p 0 = k)) = (List.range n).map fun k => if k ∈ reps n ts then compOf n ts k else [] := List.map_congr_left fun k _ => marked w k
  rw [e, List.filter_map]
  unfold comps
  have e2 : (List.range n).filter ((fun l => decide (l ≠ [])) ∘ fun k => if k ∈ reps n ts then compOf n ts k else []) = reps n ts := by
    refine List.filter_congr fun k hk => ?_
    have hk := List.mem_range.mp hk
    show decide ((if k ∈ reps n ts then compOf n ts k else []) ≠ []) = _
    by_cases r : Rep ts k
    · rw [if_pos (mem_reps.mpr ⟨hk, r⟩), decide_eq_true (compOf_ne hk), dec_true r]
    · rw [if_neg fun h => r (mem_reps.mp h).2, dec_false r]; rfl
  rw [e2]
  exact List.map_congr_left fun k hk => if_pos hk
/-- the pieces by first points not met -/
theorem compOf_cn {n : Nat} {ts : Ties} {p q : Nat} (c : Cn ts p q) : compOf n ts p = compOf n ts q :=
  List.filter_congr fun x _ => dec_congr ⟨fun h => c.symm.trans h, fun h => c.trans h⟩
theorem reps_succ {n k : Nat} {ts : Ties} : reps (k + 1) ts = reps k ts ++ (if dec (Rep ts k) then [k] else []) := by
  unfold reps
  rw [List.range_succ, List.filter_append]
  cases e : dec (Rep ts k) <;> simp [e]
theorem not_rep {n k : Nat} {ts : Ties} (w : Web n ts) : ¬ Rep ts k ↔ ∃ r ∈ reps k ts, Cn ts r k := by
  constructor
  · intro h
    obtain ⟨r, h1, h2⟩ := has_rep ts k
    refine ⟨r, mem_reps.mpr ⟨?_, h1⟩, h2⟩
    have := h1 k h2.symm
    rcases Nat.lt_or_eq_of_le this with h | rfl
    · exact h
    · exact absurd h1 h
  · rintro ⟨r, h1, h2⟩ h
    have := h _ h2; have := (mem_reps.mp h1).1; omega
end TC

namespace TC
open PySem
noncomputable def ofPairs (ts : List (Nat × Nat)) : List PyData := ts.map fun p => .tuple [.int p.1, .int p.2]
theorem ofPairs_append (a b : List (Nat × Nat)) : ofPairs a ++ ofPairs b = ofPairs (a ++ b) := (List.map_append ..).symm
theorem ofPairs_drop (a : List (Nat × Nat)) (n : Nat) : (ofPairs a).drop n = ofPairs (a.drop n) := (List.map_drop ..).symm
theorem ofPairs_take (a : List (Nat × Nat)) (n : Nat) : (ofPairs a).take n = ofPairs (a.take n) := (List.map_take ..).symm
theorem length_ofPairs (l : List (Nat × Nat)) : (ofPairs l).length = l.length := List.length_map ..
theorem flats_ofPairs (l : List (Nat × Nat)) : flats (ofPairs l) = true := by
  induction l with
  | nil => rfl
  | cons a l ih => exact ih
/-- all pairs of points, in the order of the law -/
noncomputable def pairsTo (n : Nat) : List (Nat × Nat) := (List.range n).flatMap fun o => (List.range o).map fun i => (i, o)
theorem pairsTo_succ (n : Nat) : pairsTo (n + 1) = pairsTo n ++ (List.range n).map fun i => (i, n) := by
  unfold pairsTo; rw [List.range_succ, List.flatMap_append]; simp
theorem pairsTo_length (n : Nat) : (pairsTo n).length ≤ n * n := by
  induction n with
  | zero => exact Nat.le_refl _
  | succ n this =>
    rw [pairsTo_succ, List.length_append, List.length_map, List.length_range, Nat.add_mul, Nat.mul_add]
    omega
theorem pairsTo_web (n : Nat) : Web n (pairsTo n) := by
  induction n with
  | zero => exact ⟨.nil, nofun⟩
  | succ n ih =>
    rw [pairsTo_succ]
    refine ⟨List.nodup_append.mpr ⟨ih.1, ?_, fun a ha b hb e => ?_⟩, fun t ht => ?_⟩
    · exact List.Pairwise.map _ (fun a b h e => h (congrArg Prod.fst e)) List.nodup_range
    · obtain ⟨i, _, rfl⟩ := List.mem_map.mp hb
      have := (ih.2 a ha).2; rw [e] at this; exact Nat.lt_irrefl _ this
    · rcases List.mem_append.mp ht with h | h
      · have := ih.2 t h; omega
      · obtain ⟨i, hi, rfl⟩ := List.mem_map.mp h
        have := List.mem_range.mp hi
        exact ⟨this, Nat.lt_succ_self _⟩
noncomputable def WebOk (sz : Nat) (ts : List (Nat × Nat)) : Prop := ∃ t0 k, List.Sublist t0 (pairsTo sz) ∧ ts = t0.drop k ++ t0.take k
theorem WebOk.perm {sz : Nat} {ts : List (Nat × Nat)} (h : WebOk sz ts) : ∃ t0, List.Sublist t0 (pairsTo sz) ∧ List.Perm ts t0 := by
  obtain ⟨t0, k, h, rfl⟩ := h
  exact ⟨t0, h, List.perm_append_comm.trans (by rw [List.take_append_drop])⟩
theorem WebOk.web {sz : Nat} {ts : List (Nat × Nat)} (h : WebOk sz ts) : Web sz ts := by
  obtain ⟨t0, h, p⟩ := h.perm
  have w := pairsTo_web sz
  exact ⟨p.nodup_iff.mpr (w.1.sublist h), fun t ht => w.2 t (h.subset (p.mem_iff.mp ht))⟩
theorem WebOk.length {sz : Nat} {ts : List (Nat × Nat)} (h : WebOk sz ts) (hz : sz ≤ 10) : ts.length ≤ 100 := by
  obtain ⟨t0, h, p⟩ := h.perm
  have := p.length_eq
  have := h.length_le
  have := pairsTo_length sz
  have : sz * sz ≤ 10 * 10 := Nat.mul_le_mul hz hz
  omega
noncomputable def Sml (x : Int) : Prop := Builtin.Int.intBits x ≤ 1048576
theorem mulOk_sml {c d : Int} {i j : Nat} (hc : Sml c) (hd : Sml d) (hi : i < 1000) (hj : j < 1000) : IntMulOk (c + 7919 * (i + 11 * j + d.fdiv 64) + 13) (c + 7919 * (i + 11 * j + d.fdiv 64) + 13) := by
  have h1 : Builtin.Int.intBits ((i : Int) + 11 * j) ≤ 64 := intBits_le_64 (by omega) (by omega)
  have h2 := intBits_add_le h1 (intBits_fdiv_le (y := 64) hd)
  have h3 := intBits_add_le (intBits_add_le hc (intBits_mul_le (show Builtin.Int.intBits 7919 ≤ 13 by decide) h2)) (show Builtin.Int.intBits 13 ≤ 4 by decide)
  exact IntMulOk.of_le h3 h3 (by decide)
theorem cell_sml {sc : List Int} (hb : ∀ x ∈ sc, Sml x) (k : Int) : Sml (cellAt sc k) := by
  unfold cellAt
  by_cases lt : k.toNat < sc.length
  · rw [List.getD_eq_getElem?_getD, List.getElem?_eq_getElem lt]; exact hb _ (List.getElem_mem lt)
  · rw [List.getD_eq_getElem?_getD, List.getElem?_eq_none (by omega)]; show Builtin.Int.intBits 0 ≤ _; decide
theorem fmod_nonneg' {a b : Int} (h : 0 < b) : 0 ≤ a.fmod b := Int.fmod_nonneg_of_pos a h
theorem fmod_lt' {a b : Int} (h : 0 < b) : a.fmod b < b := Int.fmod_lt_of_pos a h
theorem pick {PY PN : Prop} {kd nu : Int} {i j : Nat} (h0 : 0 ≤ kd) (h6 : kd < 6) (Y : PY) (N : PN) :
    bif decide (kd < 4) then
      got (idxV (V.own (PyData.list [PyData.int 2, PyData.int 3, PyData.int 5, PyData.int 4])) kd) fun w => opW Op.mod (V.d (PyData.int nu)) w fun v => opW Op.eq v (V.d (PyData.int 0)) fun r => ifB r PY
        (bif decide (kd = 4) then 4 ≠ (0 : Int) ∧ bif decide (0 < nu.fmod 4) then PY else bif decide (kd = 5) then bif decide ((i : Int) = (j : Int) + 1) then PY else 6 ≠ (0 : Int) ∧ bif decide (nu.fmod 6 = 0) then PY else PN else PN
          else bif decide (kd = 5) then bif decide ((i : Int) = (j : Int) + 1) then PY else 6 ≠ (0 : Int) ∧ bif decide (nu.fmod 6 = 0) then PY else PN else PN)
    else (bif decide (kd = 4) then 4 ≠ (0 : Int) ∧ bif decide (0 < nu.fmod 4) then PY else bif decide (kd = 5) then bif decide ((i : Int) = (j : Int) + 1) then PY else 6 ≠ (0 : Int) ∧ bif decide (nu.fmod 6 = 0) then PY else PN else PN
          else bif decide (kd = 5) then bif decide ((i : Int) = (j : Int) + 1) then PY else 6 ≠ (0 : Int) ∧ bif decide (nu.fmod 6 = 0) then PY else PN else PN) := by
  have R5 : bif decide (kd = 5) then bif decide ((i : Int) = (j : Int) + 1) then PY else 6 ≠ (0 : Int) ∧ bif decide (nu.fmod 6 = 0) then PY else PN else PN := ifB_by (fun _ => ifB_by (fun _ => Y) fun _ => ⟨by decide, ifB_by (fun _ => Y) fun _ => N⟩) fun _ => N
  have R4 : bif decide (kd = 4) then 4 ≠ (0 : Int) ∧ bif decide (0 < nu.fmod 4) then PY else bif decide (kd = 5) then bif decide ((i : Int) = (j : Int) + 1) then PY else 6 ≠ (0 : Int) ∧ bif decide (nu.fmod 6 = 0) then PY else PN else PN else bif decide (kd = 5) then bif decide ((i : Int) = (j : Int) + 1) then PY else 6 ≠ (0 : Int) ∧ bif decide (nu.fmod 6 = 0) then PY else PN else PN := ifB_by (fun _ => ⟨by decide, ifB_by (fun _ => Y) fun _ => R5⟩) fun _ => R5
  generalize (bif decide (kd = 4) then 4 ≠ (0 : Int) ∧ bif decide (0 < nu.fmod 4) then PY else bif decide (kd = 5) then bif decide ((i : Int) = (j : Int) + 1) then PY else 6 ≠ (0 : Int) ∧ bif decide (nu.fmod 6 = 0) then PY else PN else PN else bif decide (kd = 5) then bif decide ((i : Int) = (j : Int) + 1) then PY else 6 ≠ (0 : Int) ∧ bif decide (nu.fmod 6 = 0) then PY else PN else PN) = P4 at *
  refine ifB_by (fun h4 => ?_) fun _ => R4
  rw [r_idx_ownl h0 (by omega)]
  have kk : kd = 0 ∨ kd = 1 ∨ kd = 2 ∨ kd = 3 := by omega
  rcases kk with rfl | rfl | rfl | rfl <;> refine ⟨?_, ifB_by (fun _ => Y) fun _ => R4⟩
  · exact (by decide : (2 : Int) ≠ 0)
  · exact (by decide : (3 : Int) ≠ 0)
  · exact (by decide : (5 : Int) ≠ 0)
  · exact (by decide : (4 : Int) ≠ 0)
section
variable {n : Nat} {hm : Bool} {K : V → Prop} {X : Nat → Prop}
theorem rng_len (m : Nat) : ((rangeL m).map fun i => V.d (.int i)).length = m := by rw [List.length_map, rngL_length]; rfl
theorem rng_get {m i : Nat} (h : i < ((rangeL m).map fun i => V.d (.int i)).length) : ((rangeL m).map fun i => V.d (.int i))[i] = .d (.int i) := by
  rw [List.getElem_map]; unfold rangeL; rw [List.getElem_map, List.getElem_range]
theorem web_spec (sc : List Int) (hs : sc.length < 64) (hb : ∀ x ∈ sc, Sml x) (fi mo : Nat) (hfi : fi < 100) (hm0 : 0 < mo) (hm1 : mo ≤ 10)
    (q : ∀ (sz : Nat) (ts : List (Nat × Nat)), 0 < sz → sz ≤ mo → WebOk sz ts → K (.d (.tuple [.int sz, .list (ofPairs ts)]))) : wpCall T07 (n + 2) false 15 [.d (.list (ofInts sc)), .d (.int fi), .d (.int mo)] K X := by
  refine wpCall_in (fn := f__law_web) rfl rfl (by decide) ?_
  dsimp only [f__law_web, b__law_web, wpSs, wpS, wpE, wpL, slotW, ownS, Rho.putL, frz, bindF, setD, setAll, bindT, F1.W, F2.W, F1.quiet, seqV, numW, isNon, r_got, r_rd_d, r_rd_own, r_rd_brw, r_nm_d, r_nm_own, r_nm_brw, r_nm_exc, r_low_int, r_low_list, r_arg_d, r_arg_own, r_arg_brw, r_arg_exc, r_kp_d, r_kp_own, r_keep_dt, r_keep_df, r_keep_ownt, r_keep_ownf, r_ret_d, r_ret_own, r_retm_d, r_retm_own, r_ifB, r_boolV, r_intV, r_argAll0, r_argAll1, r_keepAll0, r_keepAll1, r_seqOf_l, r_seqOf_t, r_listOf, r_ls_d, r_ls_own, r_keys_d, r_keys_own, r_keys_rg, r_it_dl, r_it_dt, r_it_own, r_it_brw, r_it_rg, r_itL_d, r_itL_own, r_itL_rg, r_has_ll, r_pv2, r_frz_d, r_frz_own, r_isi_int_d, r_isi_bool_d, r_isi_list_d, r_isi_tuple_d, r_isi_list_brw, r_isi_list_own, r_isi_exc, excIs, d_op, r_op_dl, r_op_dt, r_op_own, r_op_brw, r_op_ib, r_op_it, d_map0, d_map1, d_app0, d_app1, d_get0, d_get1, d_set0, d_set1, d_mod0, d_mod1, d_rep0, d_rep1, d_len0, d_len1, d_omap, d_obind, d_oelim, d_ct, d_cf, d_nt, d_nf, d_fand, d_tand, d_outn, d_outr, d_cmp1, d_cmp2, d_and1, d_and2, d_or1, d_or2, d_seq0, d_seq1, d_tst0, d_tst1, d_qt, d_qf, d_ownl, d_ownd, Nat.reduceSub, Nat.reduceAdd, r_retO_d, r_retO_own, r_pv4, r_op_bool, r_op_idl]
  refine cell_spec sc fi hs (by omega) (by omega) ?_
  have hch := cell_sml hb (fi : Int)
  generalize cellAt sc (fi : Int) = ch at *
  have z0 := fmod_nonneg' (a := ch) (b := mo) (by omega)
  have z1 := fmod_lt' (a := ch) (b := mo) (by omega)
  obtain ⟨sz, hsz⟩ : ∃ sz : Nat, 1 + ch.fmod mo = sz := ⟨(1 + ch.fmod mo).toNat, by omega⟩
  have s0 : 0 < sz := by omega
  have s1 : sz ≤ mo := by omega
  dsimp only [wpSs, wpS, wpE, wpL, slotW, ownS, Rho.putL, frz, bindF, setD, setAll, bindT, F1.W, F2.W, F1.quiet, seqV, numW, isNon, r_got, r_rd_d, r_rd_own, r_rd_brw, r_nm_d, r_nm_own, r_nm_brw, r_nm_exc, r_low_int, r_low_list, r_arg_d, r_arg_own, r_arg_brw, r_arg_exc, r_kp_d, r_kp_own, r_keep_dt, r_keep_df, r_keep_ownt, r_keep_ownf, r_ret_d, r_ret_own, r_retm_d, r_retm_own, r_ifB, r_boolV, r_intV, r_argAll0, r_argAll1, r_keepAll0, r_keepAll1, r_seqOf_l, r_seqOf_t, r_listOf, r_ls_d, r_ls_own, r_keys_d, r_keys_own, r_keys_rg, r_it_dl, r_it_dt, r_it_own, r_it_brw, r_it_rg, r_itL_d, r_itL_own, r_itL_rg, r_has_ll, r_pv2, r_frz_d, r_frz_own, r_isi_int_d, r_isi_bool_d, r_isi_list_d, r_isi_tuple_d, r_isi_list_brw, r_isi_list_own, r_isi_exc, excIs, d_op, r_op_dl, r_op_dt, r_op_own, r_op_brw, r_op_ib, r_op_it, d_map0, d_map1, d_app0, d_app1, d_get0, d_get1, d_set0, d_set1, d_mod0, d_mod1, d_rep0, d_rep1, d_len0, d_len1, d_omap, d_obind, d_oelim, d_ct, d_cf, d_nt, d_nf, d_fand, d_tand, d_outn, d_outr, d_cmp1, d_cmp2, d_and1, d_and2, d_or1, d_or2, d_seq0, d_seq1, d_tst0, d_tst1, d_qt, d_qf, d_ownl, d_ownd, Nat.reduceSub, Nat.reduceAdd, r_retO_d, r_retO_own, r_pv4, r_op_bool, r_op_idl]
  rw [hsz]
  refine ⟨by omega, ⟨lim_gti (by omega), lim_lti (by omega)⟩, by rw [rng_len]; exact lim_lt (by omega), ?_⟩
  refine forW_idx _ (fun i ρ => ∃ ts a6 a7 a8 a9, ρ = [some (V.d (PyData.list (ofInts sc))), some (V.d (PyData.int fi)), some (V.d (PyData.int mo)), some (V.d (PyData.int ch)), some (V.d (PyData.int sz)), some (V.own (PyData.list (ofPairs ts))), a6, a7, a8, a9, none] ∧ List.Sublist ts (pairsTo i)) ?_ ?_ _ ⟨[], none, none, none, none, rfl, List.nil_sublist _⟩
  · rintro ρ ⟨ts, a6, a7, a8, a9, rfl, sub⟩
    rw [rng_len] at sub
    have len : ts.length ≤ 100 := by
      have := sub.length_le
      have := pairsTo_length sz
      have : sz * sz ≤ 10 * 10 := Nat.mul_le_mul (by omega) (by omega)
      omega
    have l1 : (ofPairs ts).length < lim := by rw [length_ofPairs]; exact lim_lt (by omega)
    have z0 := fmod_nonneg' (a := ch.fdiv 60) (b := 1 + (ts.length : Int)) (by omega)
    have z1 := fmod_lt' (a := ch.fdiv 60) (b := 1 + (ts.length : Int)) (by omega)
    dsimp only [b__law_web_3, wpSs, wpS, wpE, wpL, slotW, ownS, Rho.putL, frz, bindF, setD, setAll, bindT, F1.W, F2.W, F1.quiet, seqV, numW, isNon, r_got, r_rd_d, r_rd_own, r_rd_brw, r_nm_d, r_nm_own, r_nm_brw, r_nm_exc, r_low_int, r_low_list, r_arg_d, r_arg_own, r_arg_brw, r_arg_exc, r_kp_d, r_kp_own, r_keep_dt, r_keep_df, r_keep_ownt, r_keep_ownf, r_ret_d, r_ret_own, r_retm_d, r_retm_own, r_ifB, r_boolV, r_intV, r_argAll0, r_argAll1, r_keepAll0, r_keepAll1, r_seqOf_l, r_seqOf_t, r_listOf, r_ls_d, r_ls_own, r_keys_d, r_keys_own, r_keys_rg, r_it_dl, r_it_dt, r_it_own, r_it_brw, r_it_rg, r_itL_d, r_itL_own, r_itL_rg, r_has_ll, r_pv2, r_frz_d, r_frz_own, r_isi_int_d, r_isi_bool_d, r_isi_list_d, r_isi_tuple_d, r_isi_list_brw, r_isi_list_own, r_isi_exc, excIs, d_op, r_op_dl, r_op_dt, r_op_own, r_op_brw, r_op_ib, r_op_it, d_map0, d_map1, d_app0, d_app1, d_get0, d_get1, d_set0, d_set1, d_mod0, d_mod1, d_rep0, d_rep1, d_len0, d_len1, d_omap, d_obind, d_oelim, d_ct, d_cf, d_nt, d_nf, d_fand, d_tand, d_outn, d_outr, d_cmp1, d_cmp2, d_and1, d_and2, d_or1, d_or2, d_seq0, d_seq1, d_tst0, d_tst1, d_qt, d_qf, d_ownl, d_ownd, Nat.reduceSub, Nat.reduceAdd, r_retO_d, r_retO_own, r_pv4, r_op_bool, r_op_idl]
    rw [length_ofPairs]
    refine ⟨⟨by decide, by decide⟩, lim_lt (by omega), by omega, ?_⟩
    generalize (ch.fdiv 60).fmod (1 + (ts.length : Int)) = tu at *
    have tl : tu < (lim : Int) := lim_lti (by omega)
    show got (lsV (.brw (.list (ofPairs ts)))) _
    rw [r_ls_brw (flats_ofPairs ts)]
    refine ⟨⟨z0, tl, l1⟩, ?_⟩
    show got (lsV (.brw (.list (ofPairs ts)))) _
    rw [r_ls_brw (flats_ofPairs ts)]
    refine ⟨⟨z0, tl, l1⟩, ?_⟩
    rw [ofPairs_drop, ofPairs_take]
    refine ⟨by rw [length_ofPairs, length_ofPairs, List.length_drop, List.length_take]; exact lim_lt (by omega), ?_⟩
    rw [ofPairs_append]
    exact q sz _ s0 s1 ⟨ts, tu.toNat, sub, rfl⟩
  · rintro i hi ρ k ⟨ts, a6, a7, a8, a9, rfl, sub⟩ cont _
    have hi' : i < sz := by rw [rng_len] at hi; omega
    rw [rng_get]
    dsimp only [b__law_web_2, wpSs, wpS, wpE, wpL, slotW, ownS, Rho.putL, frz, bindF, setD, setAll, bindT, F1.W, F2.W, F1.quiet, seqV, numW, isNon, r_got, r_rd_d, r_rd_own, r_rd_brw, r_nm_d, r_nm_own, r_nm_brw, r_nm_exc, r_low_int, r_low_list, r_arg_d, r_arg_own, r_arg_brw, r_arg_exc, r_kp_d, r_kp_own, r_keep_dt, r_keep_df, r_keep_ownt, r_keep_ownf, r_ret_d, r_ret_own, r_retm_d, r_retm_own, r_ifB, r_boolV, r_intV, r_argAll0, r_argAll1, r_keepAll0, r_keepAll1, r_seqOf_l, r_seqOf_t, r_listOf, r_ls_d, r_ls_own, r_keys_d, r_keys_own, r_keys_rg, r_it_dl, r_it_dt, r_it_own, r_it_brw, r_it_rg, r_itL_d, r_itL_own, r_itL_rg, r_has_ll, r_pv2, r_frz_d, r_frz_own, r_isi_int_d, r_isi_bool_d, r_isi_list_d, r_isi_tuple_d, r_isi_list_brw, r_isi_list_own, r_isi_exc, excIs, d_op, r_op_dl, r_op_dt, r_op_own, r_op_brw, r_op_ib, r_op_it, d_map0, d_map1, d_app0, d_app1, d_get0, d_get1, d_set0, d_set1, d_mod0, d_mod1, d_rep0, d_rep1, d_len0, d_len1, d_omap, d_obind, d_oelim, d_ct, d_cf, d_nt, d_nf, d_fand, d_tand, d_outn, d_outr, d_cmp1, d_cmp2, d_and1, d_and2, d_or1, d_or2, d_seq0, d_seq1, d_tst0, d_tst1, d_qt, d_qf, d_ownl, d_ownd, Nat.reduceSub, Nat.reduceAdd, r_retO_d, r_retO_own, r_pv4, r_op_bool, r_op_idl]
    refine ⟨⟨lim_gti (by omega), lim_lti (by omega)⟩, by rw [rng_len]; exact lim_lt (by omega), ?_⟩
    refine forW_idx _ (fun j ρ => ∃ ts a7 a8 a9, ρ = [some (V.d (PyData.list (ofInts sc))), some (V.d (PyData.int fi)), some (V.d (PyData.int mo)), some (V.d (PyData.int ch)), some (V.d (PyData.int sz)), some (V.own (PyData.list (ofPairs ts))), some (V.d (PyData.int i)), a7, a8, a9, none] ∧ List.Sublist ts (pairsTo i ++ (List.range j).map fun k => (k, i))) ?_ ?_ _ ⟨ts, a7, a8, a9, rfl, by rw [show List.range 0 = [] from rfl, List.map_nil, List.append_nil]; exact sub⟩
    · rintro ρ ⟨ts, a7, a8, a9, rfl, sub⟩
      refine cont _ ⟨ts, _, a7, a8, a9, rfl, ?_⟩
      rw [rng_len] at sub
      rw [pairsTo_succ]; exact sub
    · rintro j hj ρ k2 ⟨ts, a7, a8, a9, rfl, sub⟩ cont2 _
      have hj' : j < i := by rw [rng_len] at hj; omega
      rw [rng_get]
      have no := fun a8 a9 => cont2 _ ⟨ts, some (V.d (.int j)), a8, a9, rfl, sub.trans (List.Sublist.append (List.Sublist.refl _) (by rw [List.range_succ, List.map_append]; exact List.sublist_append_left ..))⟩
      have yes := fun a8 a9 => cont2 _ ⟨ts ++ [(j, i)], some (V.d (.int j)), a8, a9, rfl, by rw [List.range_succ, List.map_append, ← List.append_assoc]; exact List.Sublist.append sub (List.Sublist.refl _)⟩
      have len : ts.length ≤ 200 := by
        have h1 := sub.length_le
        rw [List.length_append, List.length_map, List.length_range] at h1
        have := pairsTo_length i
        have : i * i ≤ 10 * 10 := Nat.mul_le_mul (by omega) (by omega)
        omega
      have l1 : (ofPairs ts).length < lim := by rw [length_ofPairs]; exact lim_lt (by omega)
      rw [← ofPairs_append] at yes
      have y0 := fmod_nonneg' (a := (j : Int) + 3 * i) (b := 6) (by omega)
      have y1 := fmod_lt' (a := (j : Int) + 3 * i) (b := 6) (by omega)
      dsimp only [b__law_web_1, wpSs, wpS, wpE, wpL, slotW, ownS, Rho.putL, frz, bindF, setD, setAll, bindT, F1.W, F2.W, F1.quiet, seqV, numW, isNon, r_got, r_rd_d, r_rd_own, r_rd_brw, r_nm_d, r_nm_own, r_nm_brw, r_nm_exc, r_low_int, r_low_list, r_arg_d, r_arg_own, r_arg_brw, r_arg_exc, r_kp_d, r_kp_own, r_keep_dt, r_keep_df, r_keep_ownt, r_keep_ownf, r_ret_d, r_ret_own, r_retm_d, r_retm_own, r_ifB, r_boolV, r_intV, r_argAll0, r_argAll1, r_keepAll0, r_keepAll1, r_seqOf_l, r_seqOf_t, r_listOf, r_ls_d, r_ls_own, r_keys_d, r_keys_own, r_keys_rg, r_it_dl, r_it_dt, r_it_own, r_it_brw, r_it_rg, r_itL_d, r_itL_own, r_itL_rg, r_has_ll, r_pv2, r_frz_d, r_frz_own, r_isi_int_d, r_isi_bool_d, r_isi_list_d, r_isi_tuple_d, r_isi_list_brw, r_isi_list_own, r_isi_exc, excIs, d_op, r_op_dl, r_op_dt, r_op_own, r_op_brw, r_op_ib, r_op_it, d_map0, d_map1, d_app0, d_app1, d_get0, d_get1, d_set0, d_set1, d_mod0, d_mod1, d_rep0, d_rep1, d_len0, d_len1, d_omap, d_obind, d_oelim, d_ct, d_cf, d_nt, d_nf, d_fand, d_tand, d_outn, d_outr, d_cmp1, d_cmp2, d_and1, d_and2, d_or1, d_or2, d_seq0, d_seq1, d_tst0, d_tst1, d_qt, d_qf, d_ownl, d_ownd, Nat.reduceSub, Nat.reduceAdd, r_retO_d, r_retO_own, r_pv4, r_op_bool, r_op_idl]
      refine ⟨IntMulOk.of_left (by decide), by decide, ?_⟩
      refine cell_spec sc _ hs (by omega) (by omega) ?_
      refine ⟨IntMulOk.of_left (by decide), ⟨by decide, by decide⟩, ?_⟩
      refine mixed_spec _ _ (mulOk_sml (cell_sml hb _) hch (by omega) (by omega)) ?_
      generalize mixed _ _ = nu
      have x0 := fmod_nonneg' (a := ch.fdiv 10) (b := 6) (by omega)
      have x1 := fmod_lt' (a := ch.fdiv 10) (b := 6) (by omega)
      dsimp only [wpSs, wpS, wpE, wpL, slotW, ownS, Rho.putL, frz, bindF, setD, setAll, bindT, F1.W, F2.W, F1.quiet, seqV, numW, isNon, r_got, r_rd_d, r_rd_own, r_rd_brw, r_nm_d, r_nm_own, r_nm_brw, r_nm_exc, r_low_int, r_low_list, r_arg_d, r_arg_own, r_arg_brw, r_arg_exc, r_kp_d, r_kp_own, r_keep_dt, r_keep_df, r_keep_ownt, r_keep_ownf, r_ret_d, r_ret_own, r_retm_d, r_retm_own, r_ifB, r_boolV, r_intV, r_argAll0, r_argAll1, r_keepAll0, r_keepAll1, r_seqOf_l, r_seqOf_t, r_listOf, r_ls_d, r_ls_own, r_keys_d, r_keys_own, r_keys_rg, r_it_dl, r_it_dt, r_it_own, r_it_brw, r_it_rg, r_itL_d, r_itL_own, r_itL_rg, r_has_ll, r_pv2, r_frz_d, r_frz_own, r_isi_int_d, r_isi_bool_d, r_isi_list_d, r_isi_tuple_d, r_isi_list_brw, r_isi_list_own, r_isi_exc, excIs, d_op, r_op_dl, r_op_dt, r_op_own, r_op_brw, r_op_ib, r_op_it, d_map0, d_map1, d_app0, d_app1, d_get0, d_get1, d_set0, d_set1, d_mod0, d_mod1, d_rep0, d_rep1, d_len0, d_len1, d_omap, d_obind, d_oelim, d_ct, d_cf, d_nt, d_nf, d_fand, d_tand, d_outn, d_outr, d_cmp1, d_cmp2, d_and1, d_and2, d_or1, d_or2, d_seq0, d_seq1, d_tst0, d_tst1, d_qt, d_qf, d_ownl, d_ownd, Nat.reduceSub, Nat.reduceAdd, r_retO_d, r_retO_own, r_pv4, r_op_bool, r_op_idl]
      refine ⟨⟨by decide, by decide⟩, by decide, ?_⟩
      generalize (ch.fdiv 10).fmod 6 = kd at *
      exact pick x0 x1 ⟨l1, yes _ _⟩ (no _ _)

theorem shp_int (p : Int) : shp (.int p) := by unfold shp SeqAt.shaped; rfl
theorem shp_pair (a b : Int) : shp (.tuple [.int a, .int b]) := by unfold shp SeqAt.shaped; simp [PyData.canLay0, PyData.canLayAll0, PyData.depth, PyData.depthAll]
theorem in_pair (p a b : Int) : ([PyData.int a, PyData.int b].any fun z => PyData.eqv z (.int p)) = (decide (a = p) || decide (b = p)) := by
  simp [PyData.eqv]; rfl
noncomputable def cnt (ts : List (Nat × Nat)) (p : Nat) : Nat := ts.countP fun t => decide (t.1 = p) || decide (t.2 = p)
noncomputable def ctL (sz : Nat) (ts : List (Nat × Nat)) : List Int := (List.range sz).map fun p => (cnt ts p : Int)
noncomputable def inP (p : Nat) : V → Option PyData
  | .d (.tuple [.int a, .int b]) => cond (decide (a = p) || decide (b = p)) (some (.int 1)) none
  | _ => none
theorem inP_len (p : Nat) (ts : List (Nat × Nat)) : (List.filterMap (inP p) ((ofPairs ts).map V.d)).length = cnt ts p := by
  induction ts with
  | nil => rfl
  | cons t ts ih =>
    have e : (ofPairs (t :: ts)).map V.d = V.d (.tuple [.int t.1, .int t.2]) :: (ofPairs ts).map V.d := rfl
    have i1 : ((t.1 : Int) = p) ↔ t.1 = p := Int.natCast_inj
    have i2 : ((t.2 : Int) = p) ↔ t.2 = p := Int.natCast_inj
    have ei : inP p (V.d (.tuple [.int t.1, .int t.2])) = cond (decide (t.1 = p) || decide (t.2 = p)) (some (.int 1)) none := by
      show cond (decide ((t.1 : Int) = p) || decide ((t.2 : Int) = p)) _ _ = _
      rw [decide_eq_decide.mpr i1, decide_eq_decide.mpr i2]
    unfold cnt at ih ⊢
    rw [e, List.filterMap_cons, ei, List.countP_cons]
    cases decide (t.1 = p) || decide (t.2 = p) with
    | true => exact congrArg (· + 1) ih
    | false => exact ih
theorem counts_spec (sz : Nat) (hz : sz ≤ 10) (ts : List (Nat × Nat)) (hl : ts.length < 1000) (q : K (.own (.list (ofInts (ctL sz ts))))) : wpCall T07 (n + 1) false 17 [.d (.int sz), .d (.list (ofPairs ts))] K X := by
  have l1 : (ofPairs ts).length < lim := by rw [length_ofPairs]; exact lim_lt hl
  refine wpCall_in (fn := f__law_counts) rfl rfl (by decide) ?_
  dsimp only [f__law_counts, b__law_counts, wpSs, wpS, wpE, wpL, slotW, ownS, Rho.putL, frz, bindF, setD, setAll, bindT, F1.W, F2.W, F1.quiet, seqV, numW, isNon, r_got, r_rd_d, r_rd_own, r_rd_brw, r_nm_d, r_nm_own, r_nm_brw, r_nm_exc, r_low_int, r_low_list, r_arg_d, r_arg_own, r_arg_brw, r_arg_exc, r_kp_d, r_kp_own, r_keep_dt, r_keep_df, r_keep_ownt, r_keep_ownf, r_ret_d, r_ret_own, r_retm_d, r_retm_own, r_ifB, r_boolV, r_intV, r_argAll0, r_argAll1, r_keepAll0, r_keepAll1, r_seqOf_l, r_seqOf_t, r_listOf, r_ls_d, r_ls_own, r_keys_d, r_keys_own, r_keys_rg, r_it_dl, r_it_dt, r_it_own, r_it_brw, r_it_rg, r_itL_d, r_itL_own, r_itL_rg, r_has_ll, r_pv2, r_frz_d, r_frz_own, r_isi_int_d, r_isi_bool_d, r_isi_list_d, r_isi_tuple_d, r_isi_list_brw, r_isi_list_own, r_isi_exc, excIs, d_op, r_op_dl, r_op_dt, r_op_own, r_op_brw, r_op_ib, r_op_it, d_map0, d_map1, d_app0, d_app1, d_get0, d_get1, d_set0, d_set1, d_mod0, d_mod1, d_rep0, d_rep1, d_len0, d_len1, d_omap, d_obind, d_oelim, d_ct, d_cf, d_nt, d_nf, d_fand, d_tand, d_outn, d_outr, d_cmp1, d_cmp2, d_and1, d_and2, d_or1, d_or2, d_seq0, d_seq1, d_tst0, d_tst1, d_qt, d_qf, d_ownl, d_ownd, Nat.reduceSub, Nat.reduceAdd, r_retO_d, r_retO_own, r_pv4, r_op_bool, r_op_idl]
  refine ⟨⟨lim_gti (by omega), lim_lti (by omega)⟩, by rw [rng_len]; exact lim_lt (by omega), ?_⟩
  have e : List.filterMap (fun v => match v with | V.d (PyData.int p) => some (PyData.int (cnt ts p.toNat)) | _ => none) (List.map (fun i => V.d (PyData.int i)) (rangeL (sz : Int))) = ofInts (ctL sz ts) := by
    unfold ofInts ctL
    rw [rngL_nat, List.map_map, List.filterMap_map, List.map_map]
    exact List.filterMap_eq_map (f := fun p : Nat => PyData.int (cnt ts p)) ▸ rfl
  refine compW_filter (fun v => match v with | .d (.int p) => some (.int (cnt ts p.toNat)) | _ => none) _ _ (fun x hx k hk => ?_) ?_ ?_
  · obtain ⟨p, hp, rfl⟩ := List.mem_map.mp hx
    obtain ⟨p, hp, rfl⟩ := List.mem_map.mp hp
    replace hk : k (some (.int (cnt ts p))) := hk
    dsimp only [wpSs, wpS, wpE, wpL, slotW, ownS, Rho.putL, frz, bindF, setD, setAll, bindT, F1.W, F2.W, F1.quiet, seqV, numW, isNon, r_got, r_rd_d, r_rd_own, r_rd_brw, r_nm_d, r_nm_own, r_nm_brw, r_nm_exc, r_low_int, r_low_list, r_arg_d, r_arg_own, r_arg_brw, r_arg_exc, r_kp_d, r_kp_own, r_keep_dt, r_keep_df, r_keep_ownt, r_keep_ownf, r_ret_d, r_ret_own, r_retm_d, r_retm_own, r_ifB, r_boolV, r_intV, r_argAll0, r_argAll1, r_keepAll0, r_keepAll1, r_seqOf_l, r_seqOf_t, r_listOf, r_ls_d, r_ls_own, r_keys_d, r_keys_own, r_keys_rg, r_it_dl, r_it_dt, r_it_own, r_it_brw, r_it_rg, r_itL_d, r_itL_own, r_itL_rg, r_has_ll, r_pv2, r_frz_d, r_frz_own, r_isi_int_d, r_isi_bool_d, r_isi_list_d, r_isi_tuple_d, r_isi_list_brw, r_isi_list_own, r_isi_exc, excIs, d_op, r_op_dl, r_op_dt, r_op_own, r_op_brw, r_op_ib, r_op_it, d_map0, d_map1, d_app0, d_app1, d_get0, d_get1, d_set0, d_set1, d_mod0, d_mod1, d_rep0, d_rep1, d_len0, d_len1, d_omap, d_obind, d_oelim, d_ct, d_cf, d_nt, d_nf, d_fand, d_tand, d_outn, d_outr, d_cmp1, d_cmp2, d_and1, d_and2, d_or1, d_or2, d_seq0, d_seq1, d_tst0, d_tst1, d_qt, d_qf, d_ownl, d_ownd, Nat.reduceSub, Nat.reduceAdd, r_retO_d, r_retO_own, r_pv4, r_op_bool, r_op_idl]
    refine ⟨by rw [List.length_map]; exact l1, ?_⟩
    refine compW_filter (inP p) _ _ (fun x hx k hk => ?_) ?_ ?_
    · obtain ⟨t, ht, rfl⟩ := List.mem_map.mp hx
      obtain ⟨t, ht, rfl⟩ := List.mem_map.mp ht
      refine ⟨shp_int p, shp_pair t.1 t.2, ?_⟩
      rw [in_pair]
      replace hk : k (cond (decide ((t.1 : Int) = p) || decide ((t.2 : Int) = p)) (some (.int 1)) none) := hk
      revert hk
      cases decide ((t.1 : Int) = p) || decide ((t.2 : Int) = p) <;> exact id
    · rw [List.nil_append]
      refine Nat.lt_of_le_of_lt (List.length_filterMap_le ..) ?_
      rw [List.length_map]; exact l1
    · rw [List.nil_append]
      refine ⟨by rw [inP_len]; exact lim_lt (Nat.lt_of_le_of_lt (List.countP_le_length) hl), ?_⟩
      rw [inP_len]
      exact hk
  · rw [List.nil_append, e, length_ofInts]; unfold ctL; rw [List.length_map, List.length_range]; exact lim_lt (by omega)
  · rw [List.nil_append, e]; exact q
/-! counts_by -/
noncomputable def bump1 (cs : List Int) (p : Nat) : List Int := cs.set p (cs.getD p 0 + 1)
noncomputable def bump (cs : List Int) (t : Nat × Nat) : List Int := bump1 (bump1 cs t.1) t.2
theorem bump1_len (cs : List Int) (p : Nat) : (bump1 cs p).length = cs.length := List.length_set ..
theorem getD_of {cs : List Int} {p : Nat} (h : p < cs.length) : cs[p]? = some (cs.getD p 0) := by rw [List.getD_eq_getElem?_getD, List.getElem?_eq_getElem h]; rfl
theorem low_idx {cs : List Int} {p : Nat} (h : p < cs.length) (h2 : p < 1000) {K : V → Prop} (k : K (.d (.int (cs.getD p 0)))) : got (idxV (.brw (.list (ofInts cs))) p) K := by
  rw [r_idx_brwl (Int.natCast_nonneg p) (by omega), Int.toNat_natCast, getElem?_ofInts, getD_of h]; exact k
theorem cby_loop {Ko : KS} {l s : Option V} {ts : List (Nat × Nat)} : ∀ {cs : List Int} {s3 s4 : Option V}, cs.length < 1000 → (∀ t ∈ ts, t.1 < cs.length ∧ t.2 < cs.length) → (∀ s3 s4, Ko .nxt [s, l, some (.own (.list (ofInts (ts.foldl bump cs)))), s3, s4]) →
    forW (fun x ρ' k => bindF (.many [3, 4]) x ρ' fun ρ'' => wpSs (wpCall T07 n) hm b_counts_by_1 ρ'' k (fun c _ => X c)) Ko ((ofPairs ts).map .d) [s, l, some (.own (.list (ofInts cs))), s3, s4] := by
  induction ts with
  | nil => exact fun _ _ h => h _ _
  | cons t ts ih =>
    intro cs s3 s4 hl ht h
    obtain ⟨a1, a2⟩ := ht t (.head _)
    have step : ∀ {cs : List Int} {p : Nat}, (ofInts cs).set (p : Int).toNat (.int (cs.getD p 0 + 1)) = ofInts (bump1 cs p) := fun {cs p} => by rw [Int.toNat_natCast, ofInts_set]; rfl
    dsimp only [forW, ofPairs, b_counts_by_1, wpSs, wpS, wpE, wpL, slotW, ownS, Rho.putL, frz, bindF, setD, setAll, bindT, F1.W, F2.W, F1.quiet, seqV, numW, isNon, r_got, r_rd_d, r_rd_own, r_rd_brw, r_nm_d, r_nm_own, r_nm_brw, r_nm_exc, r_low_int, r_low_list, r_arg_d, r_arg_own, r_arg_brw, r_arg_exc, r_kp_d, r_kp_own, r_keep_dt, r_keep_df, r_keep_ownt, r_keep_ownf, r_ret_d, r_ret_own, r_retm_d, r_retm_own, r_ifB, r_boolV, r_intV, r_argAll0, r_argAll1, r_keepAll0, r_keepAll1, r_seqOf_l, r_seqOf_t, r_listOf, r_ls_d, r_ls_own, r_keys_d, r_keys_own, r_keys_rg, r_it_dl, r_it_dt, r_it_own, r_it_brw, r_it_rg, r_itL_d, r_itL_own, r_itL_rg, r_has_ll, r_pv2, r_frz_d, r_frz_own, r_isi_int_d, r_isi_bool_d, r_isi_list_d, r_isi_tuple_d, r_isi_list_brw, r_isi_list_own, r_isi_exc, excIs, d_op, r_op_dl, r_op_dt, r_op_own, r_op_brw, r_op_ib, r_op_it, d_map0, d_map1, d_app0, d_app1, d_get0, d_get1, d_set0, d_set1, d_mod0, d_mod1, d_rep0, d_rep1, d_len0, d_len1, d_omap, d_obind, d_oelim, d_ct, d_cf, d_nt, d_nf, d_fand, d_tand, d_outn, d_outr, d_cmp1, d_cmp2, d_and1, d_and2, d_or1, d_or2, d_seq0, d_seq1, d_tst0, d_tst1, d_qt, d_qf, d_ownl, d_ownd, Nat.reduceSub, Nat.reduceAdd, r_retO_d, r_retO_own, r_pv4, r_op_bool, r_op_idl]
    refine low_idx a1 (by omega) ⟨⟨Int.natCast_nonneg _, by rw [length_ofInts]; omega, lim_lti (by omega)⟩, ?_⟩
    rw [step]
    refine low_idx (by rw [bump1_len]; exact a2) (by omega) ⟨⟨Int.natCast_nonneg _, by rw [length_ofInts, bump1_len]; omega, lim_lti (by omega)⟩, ?_⟩
    rw [step]
    have e : (bump1 (bump1 cs t.1) t.2).length = cs.length := by rw [bump1_len, bump1_len]
    exact ih (cs := bump cs t) (by rw [show (bump cs t).length = cs.length from e]; exact hl) (fun t ht' => by rw [show (bump cs _).length = cs.length from e]; exact ht t (.tail _ ht')) h
theorem bump1_get {cs : List Int} {p q : Nat} (h : p < cs.length) : (bump1 cs p).getD q 0 = cs.getD q 0 + (if p = q then 1 else 0) := by
  unfold bump1
  rw [List.getD_eq_getElem?_getD, List.getElem?_set]
  by_cases e : p = q
  · subst e; rw [if_pos rfl, if_pos h, if_pos rfl]; rfl
  · rw [if_neg e, if_neg e, List.getD_eq_getElem?_getD, Int.add_zero]
theorem bumps {sz : Nat} {ts : List (Nat × Nat)} : ∀ {cs : List Int}, cs.length = sz → (∀ t ∈ ts, t.1 < t.2 ∧ t.2 < sz) → (ts.foldl bump cs).length = sz ∧ ∀ p, (ts.foldl bump cs).getD p 0 = cs.getD p 0 + (cnt ts p : Int) := by
  induction ts with
  | nil => exact fun h _ => ⟨h, fun p => (Int.add_zero _).symm⟩
  | cons t ts ih =>
    intro cs hl ht
    obtain ⟨a1, a2⟩ := ht t (.head _)
    obtain ⟨h1, h2⟩ := ih (cs := bump cs t) (by unfold bump; rw [bump1_len, bump1_len]; exact hl) fun t ht' => ht t (.tail _ ht')
    refine ⟨h1, fun p => (h2 p).trans ?_⟩
    unfold bump cnt
    rw [bump1_get (by rw [bump1_len]; omega), bump1_get (by omega), List.countP_cons]
    by_cases c1 : t.1 = p <;> by_cases c2 : t.2 = p <;> simp only [c1, c2, decide_true, decide_false, Bool.or_true, Bool.or_false, if_true, if_false, Bool.false_eq_true] <;> omega
theorem bumps_ct {sz : Nat} {ts : List (Nat × Nat)} (w : Web sz ts) : ts.foldl bump (List.replicate sz 0) = ctL sz ts := by
  obtain ⟨h1, h2⟩ := bumps (cs := List.replicate sz (0 : Int)) List.length_replicate w.2
  refine List.ext_getElem (by rw [h1]; unfold ctL; rw [List.length_map, List.length_range]) fun p p1 p2 => ?_
  have e := h2 p
  rw [List.getD_eq_getElem?_getD, List.getElem?_eq_getElem p1, List.getD_eq_getElem?_getD, List.getElem?_replicate, if_pos (h1 ▸ p1)] at e
  have e3 : (ctL sz ts)[p]'p2 = (cnt ts p : Int) := by simp only [ctL, List.getElem_map, List.getElem_range]
  rw [e3]
  exact e.trans (Int.zero_add _)
theorem counts_by_spec (sz : Nat) (hz : sz ≤ 10) (ts : List (Nat × Nat)) (hl : ts.length < 1000) (w : Web sz ts) (q : K (.own (.list (ofInts (ctL sz ts))))) : wpCall T07 (n + 1) hm 4 [.d (.int sz), .d (.list (ofPairs ts))] K X := by
  refine wpCall_in (fn := f_counts_by) rfl rfl (by decide) ?_
  dsimp only [f_counts_by, b_counts_by, wpSs, wpS, wpE, wpL, slotW, ownS, Rho.putL, frz, bindF, setD, setAll, bindT, F1.W, F2.W, F1.quiet, seqV, numW, isNon, r_got, r_rd_d, r_rd_own, r_rd_brw, r_nm_d, r_nm_own, r_nm_brw, r_nm_exc, r_low_int, r_low_list, r_arg_d, r_arg_own, r_arg_brw, r_arg_exc, r_kp_d, r_kp_own, r_keep_dt, r_keep_df, r_keep_ownt, r_keep_ownf, r_ret_d, r_ret_own, r_retm_d, r_retm_own, r_ifB, r_boolV, r_intV, r_argAll0, r_argAll1, r_keepAll0, r_keepAll1, r_seqOf_l, r_seqOf_t, r_listOf, r_ls_d, r_ls_own, r_keys_d, r_keys_own, r_keys_rg, r_it_dl, r_it_dt, r_it_own, r_it_brw, r_it_rg, r_itL_d, r_itL_own, r_itL_rg, r_has_ll, r_pv2, r_frz_d, r_frz_own, r_isi_int_d, r_isi_bool_d, r_isi_list_d, r_isi_tuple_d, r_isi_list_brw, r_isi_list_own, r_isi_exc, excIs, d_op, r_op_dl, r_op_dt, r_op_own, r_op_brw, r_op_ib, r_op_it, d_map0, d_map1, d_app0, d_app1, d_get0, d_get1, d_set0, d_set1, d_mod0, d_mod1, d_rep0, d_rep1, d_len0, d_len1, d_omap, d_obind, d_oelim, d_ct, d_cf, d_nt, d_nf, d_fand, d_tand, d_outn, d_outr, d_cmp1, d_cmp2, d_and1, d_and2, d_or1, d_or2, d_seq0, d_seq1, d_tst0, d_tst1, d_qt, d_qf, d_ownl, d_ownd, Nat.reduceSub, Nat.reduceAdd, r_retO_d, r_retO_own, r_pv4, r_op_bool, r_op_idl]
  refine ⟨⟨Int.natCast_nonneg _, lim_lti (by omega), by rw [Int.toNat_natCast]; exact lim_lt (by simp only [List.length_cons, List.length_nil]; omega)⟩, ?_⟩
  have e : (List.replicate (sz : Int).toNat [PyData.int 0]).flatten = ofInts (List.replicate sz 0) := by
    rw [Int.toNat_natCast, List.flatten_replicate_singleton]; unfold ofInts; rw [List.map_replicate]
  rw [e]
  refine ⟨by rw [List.length_map, length_ofPairs]; exact lim_lt hl, cby_loop (by rw [List.length_replicate]; omega) (fun t ht => by rw [List.length_replicate]; have := w.2 t ht; omega) fun s3 s4 => ?_⟩
  rw [bumps_ct w]
  exact q
end
end TC

namespace TC

/-! The points that hang together with one, met one after another. -/
/-- the points met, and those that wait -/
noncomputable abbrev Mw := List Nat × List Nat
noncomputable def see (here : Nat) (st : Mw) (near far : Nat) : Mw := if near = here ∧ far ∉ st.1 then (st.1 ++ [far], st.2 ++ [far]) else st
noncomputable def seeT (here : Nat) (st : Mw) (t : Nat × Nat) : Mw := see here (see here st t.1 t.2) t.2 t.1
noncomputable def seeAll (here : Nat) (ts : Ties) (st : Mw) : Mw := ts.foldl (seeT here) st
theorem nodup_le : ∀ (n : Nat) (l : List Nat), l.Nodup → (∀ x ∈ l, x < n) → l.length ≤ n := by
  intro n l nd h
  have := List.Nodup.length_le_of_subset nd (l₂ := List.range n) fun x hx => List.mem_range.mpr (h x hx)
  rwa [List.length_range] at this
/-- what is so all the time -/
structure Mt (n : Nat) (ts : Ties) (s : Nat) (st : Mw) : Prop where
  cn : ∀ x ∈ st.1, Cn ts s x
  nd : st.1.Nodup
  has : s ∈ st.1
  sub : ∀ x ∈ st.2, x ∈ st.1
  nw : st.2.Nodup
/-- all that was met and waits no more is done, but for one -/
noncomputable def Done (ts : Ties) (but : Nat → Prop) (st : Mw) : Prop := ∀ x ∈ st.1, x ∉ st.2 → ¬ but x → ∀ y, Adj ts x y → y ∈ st.1
section
variable {n : Nat} {ts : Ties} {s here near far : Nat} {st : Mw} {but : Nat → Prop}
theorem Mt.lt (w : Web n ts) (h : s < n) (m : Mt n ts s st) : ∀ x ∈ st.1, x < n := fun x hx => Cn.lt w h (m.cn x hx)
theorem Mt.le (w : Web n ts) (h : s < n) (m : Mt n ts s st) : st.1.length ≤ n := nodup_le n _ m.nd (m.lt w h)
theorem see_ok (m : Mt n ts s st) (hh : here ∈ st.1) (ha : Adj ts near far) (d : Done ts but st) :
    Mt n ts s (see here st near far) ∧ Done ts but (see here st near far) ∧ (∀ x ∈ st.1, x ∈ (see here st near far).1) ∧ (near = here → far ∈ (see here st near far).1) ∧ (∀ x ∈ st.1, x ∉ st.2 → x ∉ (see here st near far).2) ∧ (see here st near far).2.length + st.1.length = st.2.length + (see here st near far).1.length := by
  unfold see
  by_cases c : near = here ∧ far ∉ st.1
  · rw [if_pos c]
    refine ⟨⟨fun x hx => ?_, ?_, List.mem_append_left _ m.has, fun x hx => ?_, ?_⟩, fun x hx nx nb y a => ?_, fun x hx => List.mem_append_left _ hx, fun _ => List.mem_append_right _ (.head _), fun x hx nx q => ?_, ?_⟩
    · rcases List.mem_append.mp hx with q | q
      · exact m.cn x q
      · rw [List.mem_singleton.mp q]; exact .step (m.cn near (c.1 ▸ hh)) ha
    · exact List.nodup_append.mpr ⟨m.nd, (List.pairwise_singleton _ _), fun a ha b hb e => c.2 (by rw [List.mem_singleton.mp hb] at e; exact e ▸ ha)⟩
    · exact (List.mem_append.mp hx).elim (fun q => List.mem_append_left _ (m.sub x q)) fun q => List.mem_append_right _ q
    · exact List.nodup_append.mpr ⟨m.nw, (List.pairwise_singleton _ _), fun a ha b hb e => c.2 (by rw [List.mem_singleton.mp hb] at e; exact e ▸ m.sub a ha)⟩
    · have n2 : x ∉ st.2 := fun q => nx (List.mem_append_left _ q)
      rcases List.mem_append.mp hx with q | q
      · exact List.mem_append_left _ (d x q n2 nb y a)
      · exact absurd (List.mem_append_right _ q) nx
    · rcases List.mem_append.mp q with q | q
      · exact nx q
      · exact c.2 (List.mem_singleton.mp q ▸ hx)
    · rw [List.length_append, List.length_append]; simp only [List.length_singleton]; omega
  · rw [if_neg c]
    exact ⟨m, d, fun _ q => q, fun e => Classical.byContradiction fun q => c ⟨e, q⟩, fun _ _ q => q, rfl⟩
theorem seeAll_ok {us : Ties} : ∀ {st : Mw}, (∀ t ∈ us, t ∈ ts) → Mt n ts s st → here ∈ st.1 → here ∉ st.2 → Done ts but st →
    Mt n ts s (seeAll here us st) ∧ Done ts but (seeAll here us st) ∧ (∀ x ∈ st.1, x ∈ (seeAll here us st).1) ∧ (∀ y, Adj us here y → y ∈ (seeAll here us st).1) ∧ here ∉ (seeAll here us st).2 ∧ (seeAll here us st).2.length + st.1.length = st.2.length + (seeAll here us st).1.length := by
  induction us with
  | nil => exact fun {st} _ m hh hn d => ⟨m, d, fun _ q => q, fun y a => a.elim (fun q => nomatch q) (fun q => nomatch q), hn, rfl⟩
  | cons t us ih =>
    intro st sub m hh hn d
    have ht : (t.1, t.2) ∈ ts := sub t (.head _)
    obtain ⟨m1, d1, k1, f1, n1, l1⟩ := see_ok (near := t.1) (far := t.2) m hh (.inl ht) d
    obtain ⟨m2, d2, k2, f2, n2, l2⟩ := see_ok (near := t.2) (far := t.1) m1 (k1 _ hh) (.inr ht) d1
    obtain ⟨m3, d3, k3, f3, n3, l3⟩ := ih (st := seeT here st t) (fun t h => sub t (.tail _ h)) m2 (k2 _ (k1 _ hh)) (n2 _ (k1 _ hh) (n1 _ hh hn)) d2
    refine ⟨m3, d3, fun x q => k3 x (k2 x (k1 x q)), fun y a => ?_, n3, ?_⟩
    · rcases a with a | a <;> rcases List.mem_cons.mp a with q | q
      · subst q; exact k3 _ (k2 _ (f1 rfl))
      · exact f3 y (.inl q)
      · subst q; exact k3 _ (f2 rfl)
      · exact f3 y (.inr q)
    · have e : seeAll here (t :: us) st = seeAll here us (seeT here st t) := rfl
      rw [e]
      have l2' : (seeT here st t).2.length + (see here st t.1 t.2).1.length = (see here st t.1 t.2).2.length + (seeT here st t).1.length := l2
      omega
/-- a turn: the last that waits is taken -/
noncomputable def turn (ts : Ties) (met wt : List Nat) (here : Nat) : Mw := seeAll here ts (met, wt)
theorem turn_ok' {met wt : List Nat} (m : Mt n ts s (met, wt ++ [here])) (d : Done ts (fun _ => False) (met, wt ++ [here])) :
    Mt n ts s (turn ts met wt here) ∧ Done ts (fun _ => False) (turn ts met wt here) ∧ (turn ts met wt here).2.length + met.length = wt.length + (turn ts met wt here).1.length := by
  obtain ⟨n1, n2, n3⟩ := List.nodup_append.mp m.nw
  have hn : here ∉ wt := fun q => n3 here q here (.head _) rfl
  have hm : here ∈ met := m.sub here (List.mem_append_right _ (.head _))
  have m' : Mt n ts s (met, wt) := ⟨m.cn, m.nd, m.has, fun x q => m.sub x (List.mem_append_left _ q), n1⟩
  have d' : Done ts (· = here) (met, wt) := fun x hx nx nb y a => d x hx (fun q => (List.mem_append.mp q).elim nx fun q => nb (List.mem_singleton.mp q)) id y a
  obtain ⟨m3, d3, k3, f3, h3, l3⟩ := seeAll_ok (us := ts) (fun _ q => q) m' hm hn d'
  refine ⟨m3, fun x hx nx _ y a => ?_, l3⟩
  by_cases e : x = here
  · exact f3 y (e ▸ a)
  · exact d3 x hx nx e y a
theorem met_all {met : List Nat} (w : Web n ts) (h : s < n) (m : Mt n ts s (met, [])) (d : Done ts (fun _ => False) (met, [])) (x : Nat) : x ∈ met ↔ x ∈ compOf n ts s :=
  ⟨fun q => mem_compOf.mpr ⟨m.lt w h x q, m.cn x q⟩, fun q => Cn.closed (P := (· ∈ met)) (fun x y hx a => d x hx nofun id y a) m.has (mem_compOf.mp q).2⟩
theorem Mt.start : Mt n ts s ([s], [s]) := ⟨fun x q => List.mem_singleton.mp q ▸ .refl, (List.pairwise_singleton _ _), .head _, fun _ q => q, (List.pairwise_singleton _ _)⟩
theorem Done.start : Done ts (fun _ => False) ([s], [s]) := fun x q nx => absurd q nx
/-- sorted -/
theorem sort_met {met : List Nat} (nd : met.Nodup) (p : Nat) (h : ∀ x, x ∈ met ↔ x ∈ compOf n ts p) : (met.map Int.ofNat).mergeSort (fun a b => decide (a ≤ b)) = (compOf n ts p).map Int.ofNat := by
  have cs := compOf_sorted n ts p
  have nc : (compOf n ts p).Nodup := cs.imp fun h => Nat.ne_of_lt h
  have pm : (met.map Int.ofNat).Perm ((compOf n ts p).map Int.ofNat) := ((List.perm_ext_iff_of_nodup nd nc).mpr h).map _
  refine List.Perm.eq_of_pairwise (le := fun a b : Int => a ≤ b) (fun x y _ _ p q => Int.le_antisymm p q) ?_ ?_ ((List.mergeSort_perm _ _).trans pm)
  · exact (List.pairwise_mergeSort (le := fun a b : Int => decide (a ≤ b)) (fun a b c h1 h2 => decide_eq_true (Int.le_trans (of_decide_eq_true h1) (of_decide_eq_true h2))) (fun a b => by simp only [Bool.or_eq_true, decide_eq_true_eq]; exact Int.le_total a b) _).imp fun h => of_decide_eq_true h
  · exact List.pairwise_map.mpr (cs.imp fun h => Int.ofNat_le.mpr (Nat.le_of_lt h))
end
end TC

namespace TC
open PySem
/-! Data that may be compared. -/
noncomputable def Sh (d : Nat) (x : PyData) : Prop := x.canLay0 = true ∧ x.depth ≤ d
theorem Sh.int (d : Nat) (i : Int) : Sh d (.int i) := ⟨by simp only [PyData.canLay0], by simp only [PyData.depth]; exact Nat.zero_le _⟩
theorem Sh.str (d : Nat) {s : Str} (h : PyData.strOk s = true) : Sh d (.str s) := ⟨by simp only [PyData.canLay0]; exact h, by simp only [PyData.depth]; exact Nat.zero_le _⟩
theorem Sh.all {d : Nat} {xs : List PyData} (h : ∀ x ∈ xs, Sh d x) : PyData.canLayAll0 xs = true ∧ PyData.depthAll xs ≤ d := by
  induction xs with
  | nil => exact ⟨by simp only [PyData.canLayAll0], by simp only [PyData.depthAll]; exact Nat.zero_le _⟩
  | cons x xs ih =>
    obtain ⟨h1, h2⟩ := ih fun x hx => h x (.tail _ hx)
    obtain ⟨h3, h4⟩ := h x (.head _)
    exact ⟨by simp only [PyData.canLayAll0, h1, h3, Bool.and_self], by simp only [PyData.depthAll]; exact Nat.max_le.mpr ⟨h4, h2⟩⟩
theorem Sh.list {d : Nat} {xs : List PyData} (h : ∀ x ∈ xs, Sh d x) : Sh (d + 1) (.list xs) := ⟨by simp only [PyData.canLay0]; exact (Sh.all h).1, by simp only [PyData.depth]; exact Nat.succ_le_succ (Sh.all h).2⟩
theorem Sh.tuple {d : Nat} {xs : List PyData} (h : ∀ x ∈ xs, Sh d x) : Sh (d + 1) (.tuple xs) := ⟨by simp only [PyData.canLay0]; exact (Sh.all h).1, by simp only [PyData.depth]; exact Nat.succ_le_succ (Sh.all h).2⟩
theorem Sh.shp {d : Nat} {x : PyData} (h : Sh d x) (le : d ≤ 64 := by decide) : shp x := by
  unfold TC.shp SeqAt.shaped; rw [h.1, decide_eq_true (Nat.le_trans h.2 le)]; rfl
theorem Sh.ints (d : Nat) (l : List Int) : Sh (d + 1) (.list (ofInts l)) := .list fun x hx => by obtain ⟨i, _, rfl⟩ := List.mem_map.mp hx; exact .int d i
theorem Sh.pair (d : Nat) (a b : Int) : Sh (d + 1) (.tuple [.int a, .int b]) := .tuple fun x hx => by rcases List.mem_cons.mp hx with rfl | hx; exact .int d a; rw [List.mem_singleton.mp hx]; exact .int d b
theorem Sh.pairs (d : Nat) (ts : List (Nat × Nat)) : Sh (d + 2) (.list (ofPairs ts)) := .list fun x hx => by obtain ⟨t, _, rfl⟩ := List.mem_map.mp hx; exact .pair d _ _
theorem Sh.lists (d : Nat) (l : List (List Int)) : Sh (d + 2) (lists l) := .list fun x hx => by obtain ⟨t, _, rfl⟩ := List.mem_map.mp hx; exact .ints d t
theorem Sh.nil (d : Nat) : Sh (d + 1) (.list []) := .list nofun
mutual
theorem eqv_refl : ∀ x : PyData, x.canLay0 = true → PyData.eqv x x = true
  | .none, _ => by simp only [PyData.eqv]
  | .bool _, _ => by simp only [PyData.eqv, beq_self_eq_true]
  | .int _, _ => by simp only [PyData.eqv, beq_self_eq_true]
  | .str _, _ => by simp only [PyData.eqv, beq_self_eq_true]
  | .list xs, h => by simp only [PyData.eqv]; simp only [PyData.canLay0] at h; exact eqvAll_refl xs h
  | .tuple xs, h => by simp only [PyData.eqv]; simp only [PyData.canLay0] at h; exact eqvAll_refl xs h
  | .dict _, h => by simp only [PyData.canLay0] at h; exact nomatch h
theorem eqvAll_refl : ∀ xs : List PyData, PyData.canLayAll0 xs = true → PyData.eqvAll xs xs = true
  | [], _ => by simp only [PyData.eqvAll]
  | x :: xs, h => by simp only [PyData.canLayAll0, Bool.and_eq_true] at h; simp only [PyData.eqvAll, eqv_refl x h.1, eqvAll_refl xs h.2, Bool.and_self]
end
theorem Sh.eq {d : Nat} {x : PyData} (h : Sh d x) : PyData.eqv x x = true := eqv_refl x h.1
theorem eqv_nil (xs : List PyData) : PyData.eqv (.list xs) (.list []) = xs.isEmpty := by
  cases xs <;> simp only [PyData.eqv, PyData.eqvAll] <;> rfl
/-- a list set beside the empty one -/
theorem ne_nil {v : V} {xs : List PyData} {K : V → Prop} {d : Nat} (e : rd v = some (.list xs)) (h : Sh d (.list xs)) (le : d ≤ 64) (k : K (.d (.bool (!xs.isEmpty)))) : objW .ne v (.own (.list [])) K := by
  show got (rd v) _
  rw [e]
  refine ⟨h.shp le, (Sh.nil 0).shp, ?_⟩
  rw [eqv_nil]; exact k
/-- two of the same -/
theorem ne_same {v w : V} {x : PyData} {K : V → Prop} {d : Nat} (e : rd v = some x) (e' : rd w = some x) (h : Sh d x) (le : d ≤ 64) (k : K (.d (.bool false))) : objW .ne v w K := by
  show got (rd v) _
  rw [e]
  show got (rd w) _
  rw [e']
  refine ⟨h.shp le, h.shp le, ?_⟩
  rw [h.eq]; exact k

/-! Tables of points. -/
noncomputable def zs (l : List Nat) : List Int := l.map fun (k : Nat) => (k : Int)
noncomputable def metI (met : List Nat) : List (PyData × PyData) := met.map fun (k : Nat) => (.int (k : Int), .bool true)
theorem tabI_met (met : List Nat) : tabI (metI met) = some (zs met) := by
  induction met with
  | nil => rfl
  | cons k met ih =>
    show (tabI (metI met)).map ((k : Int) :: ·) = _
    rw [ih]; rfl
theorem hasKey_met (a : Nat) (met : List Nat) : hasKey (.int a) (metI met) = some (decide (a ∈ met)) := by
  show (tabI (metI met)).map _ = _
  rw [tabI_met, Option.map_some]
  refine congrArg some (Bool.eq_iff_iff.mpr ?_)
  rw [List.contains_iff_mem, decide_eq_true_iff]
  unfold zs
  rw [List.mem_map]
  exact ⟨fun ⟨b, h, e⟩ => Int.natCast_inj.mp e ▸ h, fun h => ⟨a, h, rfl⟩⟩
theorem addKey_met (a : Nat) (met : List Nat) : addKey (.int a) (metI met) = some (metI (if a ∈ met then met else met ++ [a])) := by
  unfold addKey
  rw [hasKey_met, Option.map_some]
  by_cases h : a ∈ met
  · rw [decide_eq_true h, if_pos h]; rfl
  · rw [decide_eq_false h, if_neg h]; unfold metI; rw [List.map_append]; rfl
theorem zs_snoc (l : List Nat) (a : Nat) : ofInts (zs l) ++ [PyData.int a] = ofInts (zs (l ++ [a])) := by unfold zs; rw [List.map_append, ← ofInts_append]; rfl
theorem zs_len (l : List Nat) : (zs l).length = l.length := List.length_map ..
section
variable {n : Nat} {hm : Bool} {K : V → Prop} {X : Nat → Prop}
noncomputable abbrev pfR (l s : Option V) (st : Mw) (a b c d e : Option V) : Rho := [l, s, some (.own (.dict (metI st.1))), some (.own (.list (ofInts (zs st.2)))), a, b, c, d, e]
theorem see_len (here : Nat) (st : Mw) (a b : Nat) : (see here st a b).1.length ≤ st.1.length + 1 ∧ (see here st a b).2.length ≤ st.2.length + 1 := by
  unfold see
  by_cases c : a = here ∧ b ∉ st.1
  · rw [if_pos c, List.length_append, List.length_append]; exact ⟨Nat.le_refl _, Nat.le_refl _⟩
  · rw [if_neg c]; exact ⟨Nat.le_succ _, Nat.le_succ _⟩
theorem see_body {l s b c : Option V} {st : Mw} {here near far : Nat} {k : KS} (h1 : st.1.length < 1000) (h2 : st.2.length < 1000) (q : k .nxt (pfR l s (see here st near far) (some (.d (.int here))) b c (some (.d (.int near))) (some (.d (.int far))))) :
    wpSs (wpCall T07 n) hm b_piece_from_1 (pfR l s st (some (.d (.int here))) b c (some (.d (.int near))) (some (.d (.int far)))) k (fun c _ => X c) := by
  dsimp only [b_piece_from_1, wpSs, wpS, wpE, wpL, slotW, ownS, Rho.putL, frz, bindF, setD, setAll, bindT, F1.W, F2.W, F1.quiet, seqV, numW, isNon, r_got, r_rd_d, r_rd_own, r_rd_brw, r_nm_d, r_nm_own, r_nm_brw, r_nm_exc, r_low_int, r_low_list, r_arg_d, r_arg_own, r_arg_brw, r_arg_exc, r_kp_d, r_kp_own, r_keep_dt, r_keep_df, r_keep_ownt, r_keep_ownf, r_ret_d, r_ret_own, r_retm_d, r_retm_own, r_ifB, r_boolV, r_intV, r_argAll0, r_argAll1, r_keepAll0, r_keepAll1, r_seqOf_l, r_seqOf_t, r_listOf, r_ls_d, r_ls_own, r_keys_d, r_keys_own, r_keys_rg, r_it_dl, r_it_dt, r_it_own, r_it_brw, r_it_rg, r_itL_d, r_itL_own, r_itL_rg, r_has_ll, r_pv2, r_frz_d, r_frz_own, r_isi_int_d, r_isi_bool_d, r_isi_list_d, r_isi_tuple_d, r_isi_list_brw, r_isi_list_own, r_isi_exc, excIs, d_op, r_op_dl, r_op_dt, r_op_own, r_op_brw, r_op_ib, r_op_it, d_map0, d_map1, d_app0, d_app1, d_get0, d_get1, d_set0, d_set1, d_mod0, d_mod1, d_rep0, d_rep1, d_len0, d_len1, d_omap, d_obind, d_oelim, d_ct, d_cf, d_nt, d_nf, d_fand, d_tand, d_outn, d_outr, d_cmp1, d_cmp2, d_and1, d_and2, d_or1, d_or2, d_seq0, d_seq1, d_tst0, d_tst1, d_qt, d_qf, d_ownl, d_ownd, Nat.reduceSub, Nat.reduceAdd, r_retO_d, r_retO_own, r_pv4, r_op_bool, r_op_idl]
  unfold see at q
  refine ifB_by (fun e => ?_) fun e => ?_
  · have e : near = here := Int.natCast_inj.mp e
    show got (hasKey (.int far) (metI st.1)) _
    rw [hasKey_met]
    by_cases m : far ∈ st.1
    · rw [if_neg (fun z => z.2 m)] at q
      show cond (!decide (far ∈ st.1)) _ _
      rw [decide_eq_true m]
      exact q
    · rw [if_pos ⟨e, m⟩] at q
      show cond (!decide (far ∈ st.1)) _ _
      rw [decide_eq_false m]
      show got (addKey (.int far) (metI st.1)) _
      rw [addKey_met, if_neg m]
      refine ⟨lim_lt (by unfold metI; rw [List.length_map]; exact h1), lim_lt (by rw [length_ofInts, zs_len]; exact h2), ?_⟩
      rw [zs_snoc]
      exact q
  · rw [if_neg (fun z => e (congrArg Nat.cast z.1))] at q; exact q
theorem tie_body {l s d e : Option V} {st : Mw} {here one other : Nat} {k : KS} (h1 : st.1.length < 900) (h2 : st.2.length < 900) (q : ∀ d e, k .nxt (pfR l s (seeT here st (one, other)) (some (.d (.int here))) (some (.d (.int one))) (some (.d (.int other))) d e)) :
    wpSs (wpCall T07 n) hm b_piece_from_2 (pfR l s st (some (.d (.int here))) (some (.d (.int one))) (some (.d (.int other))) d e) k (fun c _ => X c) := by
  dsimp only [b_piece_from_2, forW, wpSs, wpS, wpE, wpL, slotW, ownS, Rho.putL, frz, bindF, setD, setAll, bindT, F1.W, F2.W, F1.quiet, seqV, numW, isNon, r_got, r_rd_d, r_rd_own, r_rd_brw, r_nm_d, r_nm_own, r_nm_brw, r_nm_exc, r_low_int, r_low_list, r_arg_d, r_arg_own, r_arg_brw, r_arg_exc, r_kp_d, r_kp_own, r_keep_dt, r_keep_df, r_keep_ownt, r_keep_ownf, r_ret_d, r_ret_own, r_retm_d, r_retm_own, r_ifB, r_boolV, r_intV, r_argAll0, r_argAll1, r_keepAll0, r_keepAll1, r_seqOf_l, r_seqOf_t, r_listOf, r_ls_d, r_ls_own, r_keys_d, r_keys_own, r_keys_rg, r_it_dl, r_it_dt, r_it_own, r_it_brw, r_it_rg, r_itL_d, r_itL_own, r_itL_rg, r_has_ll, r_pv2, r_frz_d, r_frz_own, r_isi_int_d, r_isi_bool_d, r_isi_list_d, r_isi_tuple_d, r_isi_list_brw, r_isi_list_own, r_isi_exc, excIs, d_op, r_op_dl, r_op_dt, r_op_own, r_op_brw, r_op_ib, r_op_it, d_map0, d_map1, d_app0, d_app1, d_get0, d_get1, d_set0, d_set1, d_mod0, d_mod1, d_rep0, d_rep1, d_len0, d_len1, d_omap, d_obind, d_oelim, d_ct, d_cf, d_nt, d_nf, d_fand, d_tand, d_outn, d_outr, d_cmp1, d_cmp2, d_and1, d_and2, d_or1, d_or2, d_seq0, d_seq1, d_tst0, d_tst1, d_qt, d_qf, d_ownl, d_ownd, Nat.reduceSub, Nat.reduceAdd, r_retO_d, r_retO_own, r_pv4, r_op_bool, r_op_idl]
  obtain ⟨l1, l2⟩ := see_len here st one other
  exact ⟨lim_lt (by decide), see_body (by omega) (by omega) (see_body (by omega) (by omega) (q _ _))⟩
theorem seeT_len (here : Nat) (st : Mw) (t : Nat × Nat) : (seeT here st t).1.length ≤ st.1.length + 2 ∧ (seeT here st t).2.length ≤ st.2.length + 2 := by
  obtain ⟨a1, a2⟩ := see_len here st t.1 t.2
  obtain ⟨b1, b2⟩ := see_len here (see here st t.1 t.2) t.2 t.1
  unfold seeT; omega
theorem ties_loop {Ko : KS} {l s : Option V} {here : Nat} {ts : Ties} : ∀ {st : Mw} {b c d e : Option V}, st.1.length + 2 * ts.length < 900 → st.2.length + 2 * ts.length < 900 → (∀ b c d e, Ko .nxt (pfR l s (seeAll here ts st) (some (.d (.int here))) b c d e)) →
    forW (fun x ρ' k => bindF (.many [5, 6]) x ρ' fun ρ'' => wpSs (wpCall T07 n) hm b_piece_from_2 ρ'' k (fun c _ => X c)) Ko ((ofPairs ts).map .d) (pfR l s st (some (.d (.int here))) b c d e) := by
  induction ts with
  | nil => exact fun _ _ h => h _ _ _ _
  | cons t ts ih =>
    intro st b c d e h1 h2 h
    obtain ⟨l1, l2⟩ := seeT_len here st t
    simp only [List.length_cons] at h1 h2
    exact tie_body (by omega) (by omega) fun d e => ih (st := seeT here st t) (by omega) (by omega) h
theorem mw_len {m : Nat} {ts : Ties} {s : Nat} {st : Mw} (w : Web m ts) (h : s < m) (M : Mt m ts s st) : st.1.length ≤ m ∧ st.2.length ≤ m := ⟨M.le w h, nodup_le m _ M.nw fun x hx => M.lt w h x (M.sub x hx)⟩
theorem piece_spec (m : Nat) (hz : m ≤ 10) (ts : Ties) (hl : ts.length ≤ 100) (w : Web m ts) (s : Nat) (hs : s < m) (q : K (.own (.list (ofInts (zs (compOf m ts s)))))) : wpCall T07 (n + 1) false 5 [.d (.list (ofPairs ts)), .d (.int s)] K X := by
  refine wpCall_in (fn := f_piece_from) rfl rfl (by decide) ?_
  dsimp only [f_piece_from, b_piece_from, wpSs, wpS, wpE, wpL, slotW, ownS, Rho.putL, frz, bindF, setD, setAll, bindT, F1.W, F2.W, F1.quiet, seqV, numW, isNon, r_got, r_rd_d, r_rd_own, r_rd_brw, r_nm_d, r_nm_own, r_nm_brw, r_nm_exc, r_low_int, r_low_list, r_arg_d, r_arg_own, r_arg_brw, r_arg_exc, r_kp_d, r_kp_own, r_keep_dt, r_keep_df, r_keep_ownt, r_keep_ownf, r_ret_d, r_ret_own, r_retm_d, r_retm_own, r_ifB, r_boolV, r_intV, r_argAll0, r_argAll1, r_keepAll0, r_keepAll1, r_seqOf_l, r_seqOf_t, r_listOf, r_ls_d, r_ls_own, r_keys_d, r_keys_own, r_keys_rg, r_it_dl, r_it_dt, r_it_own, r_it_brw, r_it_rg, r_itL_d, r_itL_own, r_itL_rg, r_has_ll, r_pv2, r_frz_d, r_frz_own, r_isi_int_d, r_isi_bool_d, r_isi_list_d, r_isi_tuple_d, r_isi_list_brw, r_isi_list_own, r_isi_exc, excIs, d_op, r_op_dl, r_op_dt, r_op_own, r_op_brw, r_op_ib, r_op_it, d_map0, d_map1, d_app0, d_app1, d_get0, d_get1, d_set0, d_set1, d_mod0, d_mod1, d_rep0, d_rep1, d_len0, d_len1, d_omap, d_obind, d_oelim, d_ct, d_cf, d_nt, d_nf, d_fand, d_tand, d_outn, d_outr, d_cmp1, d_cmp2, d_and1, d_and2, d_or1, d_or2, d_seq0, d_seq1, d_tst0, d_tst1, d_qt, d_qf, d_ownl, d_ownd, Nat.reduceSub, Nat.reduceAdd, r_retO_d, r_retO_own, r_pv4, r_op_bool, r_op_idl]
  refine ⟨m + 2, whlW_by (fun k ρ => ∃ st a b c d e, ρ = pfR (some (.d (.list (ofPairs ts)))) (some (.d (.int s))) st a b c d e ∧ Mt m ts s st ∧ Done ts (fun _ => False) st ∧ k + st.1.length = m + st.2.length) ?_ (m + 2) m _ (by omega) ⟨([s], [s]), none, none, none, none, none, rfl, .start, .start, rfl⟩⟩
  rintro k _ kk ⟨⟨met, wt⟩, a, b, c, d, e, rfl, M, D, ek⟩ cont _
  obtain ⟨lm, lw⟩ := mw_len w hs M
  dsimp only at lm lw ek
  dsimp only [wpSs, wpS, wpE, wpL, slotW, ownS, Rho.putL, frz, bindF, setD, setAll, bindT, F1.W, F2.W, F1.quiet, seqV, numW, isNon, r_got, r_rd_d, r_rd_own, r_rd_brw, r_nm_d, r_nm_own, r_nm_brw, r_nm_exc, r_low_int, r_low_list, r_arg_d, r_arg_own, r_arg_brw, r_arg_exc, r_kp_d, r_kp_own, r_keep_dt, r_keep_df, r_keep_ownt, r_keep_ownf, r_ret_d, r_ret_own, r_retm_d, r_retm_own, r_ifB, r_boolV, r_intV, r_argAll0, r_argAll1, r_keepAll0, r_keepAll1, r_seqOf_l, r_seqOf_t, r_listOf, r_ls_d, r_ls_own, r_keys_d, r_keys_own, r_keys_rg, r_it_dl, r_it_dt, r_it_own, r_it_brw, r_it_rg, r_itL_d, r_itL_own, r_itL_rg, r_has_ll, r_pv2, r_frz_d, r_frz_own, r_isi_int_d, r_isi_bool_d, r_isi_list_d, r_isi_tuple_d, r_isi_list_brw, r_isi_list_own, r_isi_exc, excIs, d_op, r_op_dl, r_op_dt, r_op_own, r_op_brw, r_op_ib, r_op_it, d_map0, d_map1, d_app0, d_app1, d_get0, d_get1, d_set0, d_set1, d_mod0, d_mod1, d_rep0, d_rep1, d_len0, d_len1, d_omap, d_obind, d_oelim, d_ct, d_cf, d_nt, d_nf, d_fand, d_tand, d_outn, d_outr, d_cmp1, d_cmp2, d_and1, d_and2, d_or1, d_or2, d_seq0, d_seq1, d_tst0, d_tst1, d_qt, d_qf, d_ownl, d_ownd, Nat.reduceSub, Nat.reduceAdd, r_retO_d, r_retO_own, r_pv4, r_op_bool, r_op_idl]
  refine ne_nil rfl (Sh.ints 0 (zs wt)) (by decide) ?_
  rcases List.eq_nil_or_concat wt with rfl | ⟨wt, here, rfl⟩
  · -- all met
    show got (keysV (.brw (.dict (metI met)))) _
    show got ((tabI (metI met)).map ofInts) _
    rw [tabI_met]
    refine ⟨lim_lt (by rw [length_ofInts, zs_len]; omega), ?_⟩
    show Option.elim (allOf intOf (ofInts (zs met))) _ _
    rw [ofInts_ints]
    refine ⟨by rw [zs_len]; omega, ?_⟩
    have e1 : sortI (zs met) = zs (compOf m ts s) := sort_met M.nd s (met_all w hs M D)
    rw [e1]; exact q
  · rw [List.concat_eq_append] at M D ek lw ⊢
    have en : (ofInts (zs (wt ++ [here]))).isEmpty = false := by rw [← zs_snoc]; cases ofInts (zs wt) <;> rfl
    show cond (!(ofInts (zs (wt ++ [here]))).isEmpty) _ _
    rw [en]
    dsimp only [b_piece_from_3, wpSs, wpS, wpE, wpL, slotW, ownS, Rho.putL, frz, bindF, setD, setAll, bindT, F1.W, F2.W, F1.quiet, seqV, numW, isNon, r_got, r_rd_d, r_rd_own, r_rd_brw, r_nm_d, r_nm_own, r_nm_brw, r_nm_exc, r_low_int, r_low_list, r_arg_d, r_arg_own, r_arg_brw, r_arg_exc, r_kp_d, r_kp_own, r_keep_dt, r_keep_df, r_keep_ownt, r_keep_ownf, r_ret_d, r_ret_own, r_retm_d, r_retm_own, r_ifB, r_boolV, r_intV, r_argAll0, r_argAll1, r_keepAll0, r_keepAll1, r_seqOf_l, r_seqOf_t, r_listOf, r_ls_d, r_ls_own, r_keys_d, r_keys_own, r_keys_rg, r_it_dl, r_it_dt, r_it_own, r_it_brw, r_it_rg, r_itL_d, r_itL_own, r_itL_rg, r_has_ll, r_pv2, r_frz_d, r_frz_own, r_isi_int_d, r_isi_bool_d, r_isi_list_d, r_isi_tuple_d, r_isi_list_brw, r_isi_list_own, r_isi_exc, excIs, d_op, r_op_dl, r_op_dt, r_op_own, r_op_brw, r_op_ib, r_op_it, d_map0, d_map1, d_app0, d_app1, d_get0, d_get1, d_set0, d_set1, d_mod0, d_mod1, d_rep0, d_rep1, d_len0, d_len1, d_omap, d_obind, d_oelim, d_ct, d_cf, d_nt, d_nf, d_fand, d_tand, d_outn, d_outr, d_cmp1, d_cmp2, d_and1, d_and2, d_or1, d_or2, d_seq0, d_seq1, d_tst0, d_tst1, d_qt, d_qf, d_ownl, d_ownd, Nat.reduceSub, Nat.reduceAdd, r_retO_d, r_retO_own, r_pv4, r_op_bool, r_op_idl]
    rw [← zs_snoc, List.getLast?_concat, List.dropLast_concat]
    obtain ⟨M2, D2, L2⟩ := turn_ok' M D
    obtain ⟨lm2, lw2⟩ := mw_len w hs M2
    rw [List.length_append] at ek lw
    simp only [List.length_cons, List.length_nil] at ek lw
    refine ⟨lim_lt (by rw [List.length_append, length_ofInts, zs_len]; simp only [List.length_cons, List.length_nil]; omega), ?_⟩
    refine ⟨by rw [List.length_map, length_ofPairs]; exact lim_lt (by omega), ties_loop (st := (met, wt)) (by dsimp only; omega) (by dsimp only; omega) fun b c d e => ?_⟩
    exact cont (k - 1) _ (by omega) ⟨turn ts met wt here, _, b, c, d, e, rfl, M2, D2, by omega⟩
/-! pieces_by -/
/-- a piece's points, met -/
noncomputable def meet (met piece : List Nat) : List Nat := piece.foldl (fun m a => if a ∈ m then m else m ++ [a]) met
theorem mem_meet {piece : List Nat} : ∀ {met : List Nat} {x : Nat}, x ∈ meet met piece ↔ x ∈ met ∨ x ∈ piece := by
  induction piece with
  | nil => exact fun {met x} => ⟨.inl, fun h => h.resolve_right nofun⟩
  | cons a piece ih =>
    intro met x
    refine (ih (met := if a ∈ met then met else met ++ [a])).trans ?_
    by_cases h : a ∈ met
    · rw [if_pos h, List.mem_cons]
      exact ⟨fun q => q.imp_right .inr, fun q => q.elim .inl fun q => q.elim (fun e => .inl (e ▸ h)) .inr⟩
    · rw [if_neg h, List.mem_append, List.mem_singleton, List.mem_cons, or_assoc]
theorem meet_len {piece : List Nat} : ∀ {met : List Nat}, (meet met piece).length ≤ met.length + piece.length := by
  induction piece with
  | nil => exact fun {met} => Nat.le_refl _
  | cons a piece ih =>
    intro met
    have := ih (met := if a ∈ met then met else met ++ [a])
    have l : (if a ∈ met then met else met ++ [a]).length ≤ met.length + 1 := by
      by_cases h : a ∈ met
      · rw [if_pos h]; exact Nat.le_succ _
      · rw [if_neg h, List.length_append]; exact Nat.le_refl _
    show (meet (if a ∈ met then met else met ++ [a]) piece).length ≤ _
    rw [List.length_cons]; omega
theorem meet_loop {Ko : KS} {a b c d e : Option V} {piece : List Nat} : ∀ {met : List Nat} {g : Option V}, met.length + piece.length < 1000 → (∀ g, Ko .nxt [a, b, c, some (.own (.dict (metI (meet met piece)))), d, e, g]) →
    forW (fun x ρ' k => bindF (.one 6) x ρ' fun ρ'' => wpSs (wpCall T07 n) hm b_pieces_by_1 ρ'' k (fun c _ => X c)) Ko ((ofInts (zs piece)).map .d) [a, b, c, some (.own (.dict (metI met))), d, e, g] := by
  induction piece with
  | nil => exact fun _ h => h _
  | cons p piece ih =>
    intro met g hl h
    rw [List.length_cons] at hl
    dsimp only [forW, zs, ofInts, b_pieces_by_1, wpSs, wpS, wpE, wpL, slotW, ownS, Rho.putL, frz, bindF, setD, setAll, bindT, F1.W, F2.W, F1.quiet, seqV, numW, isNon, r_got, r_rd_d, r_rd_own, r_rd_brw, r_nm_d, r_nm_own, r_nm_brw, r_nm_exc, r_low_int, r_low_list, r_arg_d, r_arg_own, r_arg_brw, r_arg_exc, r_kp_d, r_kp_own, r_keep_dt, r_keep_df, r_keep_ownt, r_keep_ownf, r_ret_d, r_ret_own, r_retm_d, r_retm_own, r_ifB, r_boolV, r_intV, r_argAll0, r_argAll1, r_keepAll0, r_keepAll1, r_seqOf_l, r_seqOf_t, r_listOf, r_ls_d, r_ls_own, r_keys_d, r_keys_own, r_keys_rg, r_it_dl, r_it_dt, r_it_own, r_it_brw, r_it_rg, r_itL_d, r_itL_own, r_itL_rg, r_has_ll, r_pv2, r_frz_d, r_frz_own, r_isi_int_d, r_isi_bool_d, r_isi_list_d, r_isi_tuple_d, r_isi_list_brw, r_isi_list_own, r_isi_exc, excIs, d_op, r_op_dl, r_op_dt, r_op_own, r_op_brw, r_op_ib, r_op_it, d_map0, d_map1, d_app0, d_app1, d_get0, d_get1, d_set0, d_set1, d_mod0, d_mod1, d_rep0, d_rep1, d_len0, d_len1, d_omap, d_obind, d_oelim, d_ct, d_cf, d_nt, d_nf, d_fand, d_tand, d_outn, d_outr, d_cmp1, d_cmp2, d_and1, d_and2, d_or1, d_or2, d_seq0, d_seq1, d_tst0, d_tst1, d_qt, d_qf, d_ownl, d_ownd, Nat.reduceSub, Nat.reduceAdd, r_retO_d, r_retO_own, r_pv4, r_op_bool, r_op_idl]
    show got (addKey (.int p) (metI met)) _
    rw [addKey_met]
    have l : (if p ∈ met then met else met ++ [p]).length ≤ met.length + 1 := by
      by_cases h : p ∈ met
      · rw [if_pos h]; exact Nat.le_succ _
      · rw [if_neg h, List.length_append]; exact Nat.le_refl _
    exact ⟨lim_lt (by unfold metI; rw [List.length_map]; omega), ih (by omega) h⟩
noncomputable def compsI (m : Nat) (l : List (List Nat)) : List (List Int) := l.map zs
theorem mem_rep_cn {m k x : Nat} {ts : Ties} (w : Web m ts) : (∃ r ∈ reps (k + 1) ts, Cn ts r x) ↔ (∃ r ∈ reps k ts, Cn ts r x) ∨ (Rep ts k ∧ Cn ts k x) := by
  rw [reps_succ (n := m)]
  constructor
  · rintro ⟨r, h1, h2⟩
    rcases List.mem_append.mp h1 with h | h
    · exact .inl ⟨r, h, h2⟩
    · cases e : dec (Rep ts k) with
      | true => rw [e, if_pos rfl] at h; rw [List.mem_singleton.mp h] at h2; exact .inr ⟨dec_iff.mp e, h2⟩
      | false => rw [e, if_neg (by decide)] at h; exact nomatch h
  · rintro (⟨r, h1, h2⟩ | ⟨h1, h2⟩)
    · exact ⟨r, List.mem_append_left _ h1, h2⟩
    · rw [dec_true h1, if_pos rfl]; exact ⟨k, List.mem_append_right _ (.head _), h2⟩
theorem lists_snoc (l : List (List Int)) (a : List Int) : PyData.list (((l.map fun t => PyData.list (t.map PyData.int))) ++ [.list (ofInts a)]) = lists (l ++ [a]) := by unfold lists; rw [List.map_append]; rfl
theorem pieces_by_spec (m : Nat) (hz : m ≤ 10) (ts : Ties) (hl : ts.length ≤ 100) (w : Web m ts) (q : K (.own (lists ((comps m ts).map zs)))) : wpCall T07 (n + 2) false 6 [.d (.int m), .d (.list (ofPairs ts))] K X := by
  refine wpCall_in (fn := f_pieces_by) rfl rfl (by decide) ?_
  dsimp only [f_pieces_by, b_pieces_by, wpSs, wpS, wpE, wpL, slotW, ownS, Rho.putL, frz, bindF, setD, setAll, bindT, F1.W, F2.W, F1.quiet, seqV, numW, isNon, r_got, r_rd_d, r_rd_own, r_rd_brw, r_nm_d, r_nm_own, r_nm_brw, r_nm_exc, r_low_int, r_low_list, r_arg_d, r_arg_own, r_arg_brw, r_arg_exc, r_kp_d, r_kp_own, r_keep_dt, r_keep_df, r_keep_ownt, r_keep_ownf, r_ret_d, r_ret_own, r_retm_d, r_retm_own, r_ifB, r_boolV, r_intV, r_argAll0, r_argAll1, r_keepAll0, r_keepAll1, r_seqOf_l, r_seqOf_t, r_listOf, r_ls_d, r_ls_own, r_keys_d, r_keys_own, r_keys_rg, r_it_dl, r_it_dt, r_it_own, r_it_brw, r_it_rg, r_itL_d, r_itL_own, r_itL_rg, r_has_ll, r_pv2, r_frz_d, r_frz_own, r_isi_int_d, r_isi_bool_d, r_isi_list_d, r_isi_tuple_d, r_isi_list_brw, r_isi_list_own, r_isi_exc, excIs, d_op, r_op_dl, r_op_dt, r_op_own, r_op_brw, r_op_ib, r_op_it, d_map0, d_map1, d_app0, d_app1, d_get0, d_get1, d_set0, d_set1, d_mod0, d_mod1, d_rep0, d_rep1, d_len0, d_len1, d_omap, d_obind, d_oelim, d_ct, d_cf, d_nt, d_nf, d_fand, d_tand, d_outn, d_outr, d_cmp1, d_cmp2, d_and1, d_and2, d_or1, d_or2, d_seq0, d_seq1, d_tst0, d_tst1, d_qt, d_qf, d_ownl, d_ownd, Nat.reduceSub, Nat.reduceAdd, r_retO_d, r_retO_own, r_pv4, r_op_bool, r_op_idl]
  refine ⟨⟨lim_gti (by omega), lim_lti (by omega)⟩, by rw [rng_len]; exact lim_lt (by omega), ?_⟩
  refine forW_idx _ (fun i ρ => ∃ met a b c, ρ = [some (.d (.int m)), some (.d (.list (ofPairs ts))), some (.own (lists (((reps i ts).map (compOf m ts)).map zs))), some (.own (.dict (metI met))), a, b, c] ∧ met.length ≤ i * 10 ∧ ∀ x, x < m → (x ∈ met ↔ ∃ r ∈ reps i ts, Cn ts r x)) ?_ ?_ _ ⟨[], none, none, none, rfl, Nat.le_refl _, fun x _ => ⟨nofun, fun ⟨r, h, _⟩ => nomatch h⟩⟩
  · rintro ρ ⟨met, a, b, c, rfl, l1, hm⟩
    rw [rng_len]
    exact q
  · rintro i hi ρ k ⟨met, a, b, c, rfl, l1, hmet⟩ cont _
    have hi' : i < m := by rw [rng_len] at hi; exact hi
    rw [rng_get]
    dsimp only [b_pieces_by_2, wpSs, wpS, wpE, wpL, slotW, ownS, Rho.putL, frz, bindF, setD, setAll, bindT, F1.W, F2.W, F1.quiet, seqV, numW, isNon, r_got, r_rd_d, r_rd_own, r_rd_brw, r_nm_d, r_nm_own, r_nm_brw, r_nm_exc, r_low_int, r_low_list, r_arg_d, r_arg_own, r_arg_brw, r_arg_exc, r_kp_d, r_kp_own, r_keep_dt, r_keep_df, r_keep_ownt, r_keep_ownf, r_ret_d, r_ret_own, r_retm_d, r_retm_own, r_ifB, r_boolV, r_intV, r_argAll0, r_argAll1, r_keepAll0, r_keepAll1, r_seqOf_l, r_seqOf_t, r_listOf, r_ls_d, r_ls_own, r_keys_d, r_keys_own, r_keys_rg, r_it_dl, r_it_dt, r_it_own, r_it_brw, r_it_rg, r_itL_d, r_itL_own, r_itL_rg, r_has_ll, r_pv2, r_frz_d, r_frz_own, r_isi_int_d, r_isi_bool_d, r_isi_list_d, r_isi_tuple_d, r_isi_list_brw, r_isi_list_own, r_isi_exc, excIs, d_op, r_op_dl, r_op_dt, r_op_own, r_op_brw, r_op_ib, r_op_it, d_map0, d_map1, d_app0, d_app1, d_get0, d_get1, d_set0, d_set1, d_mod0, d_mod1, d_rep0, d_rep1, d_len0, d_len1, d_omap, d_obind, d_oelim, d_ct, d_cf, d_nt, d_nf, d_fand, d_tand, d_outn, d_outr, d_cmp1, d_cmp2, d_and1, d_and2, d_or1, d_or2, d_seq0, d_seq1, d_tst0, d_tst1, d_qt, d_qf, d_ownl, d_ownd, Nat.reduceSub, Nat.reduceAdd, r_retO_d, r_retO_own, r_pv4, r_op_bool, r_op_idl]
    show got (hasKey (.int i) (metI met)) _
    rw [hasKey_met]
    have im : i ∈ met ↔ ¬ Rep ts i := (hmet i hi').trans (not_rep w).symm
    have rs : reps (i + 1) ts = reps i ts ++ (if dec (Rep ts i) then [i] else []) := reps_succ (n := m)
    by_cases h : i ∈ met
    · show cond (!decide (i ∈ met)) _ _
      rw [decide_eq_true h]
      rw [dec_false (im.mp h), if_neg (by decide), List.append_nil] at rs
      exact cont _ ⟨met, _, b, c, by rw [rs], by omega, fun x hx => by rw [rs]; exact hmet x hx⟩
    · show cond (!decide (i ∈ met)) _ _
      rw [decide_eq_false h]
      have r : Rep ts i := Classical.byContradiction fun q => h (im.mpr q)
      rw [dec_true r, if_pos rfl] at rs
      have pl : (compOf m ts i).length ≤ 10 := Nat.le_trans (nodup_le m _ ((compOf_sorted m ts i).imp fun h => Nat.ne_of_lt h) fun x hx => (mem_compOf.mp hx).1) hz
      have rl : (reps i ts).length ≤ 10 := by unfold reps; exact Nat.le_trans (List.length_filter_le ..) (by rw [List.length_range]; omega)
      refine piece_spec m hz ts hl w i hi' ?_
      refine (show _ ∧ _ from ⟨lim_lt (by rw [List.length_map, List.length_map, List.length_map]; omega), ?_⟩)
      have e3 : ((reps i ts).map (compOf m ts)).map zs ++ [zs (compOf m ts i)] = ((reps (i + 1) ts).map (compOf m ts)).map zs := by
        rw [rs, List.map_append, List.map_append]; rfl
      rw [lists_snoc, e3]
      refine (show _ ∧ _ from ⟨by rw [List.length_map, length_ofInts, zs_len]; exact lim_lt (by omega), meet_loop (by omega) fun g => ?_⟩)
      have ml := meet_len (met := met) (piece := compOf m ts i)
      refine cont _ ⟨meet met (compOf m ts i), _, _, g, rfl, by omega, fun x hx => ?_⟩
      rw [mem_meet, mem_rep_cn w, hmet x hx, mem_compOf]
      exact ⟨fun q => q.imp_right fun q => ⟨r, q.2⟩, fun q => q.imp_right fun q => ⟨hx, q.2⟩⟩
end
end TC

namespace TC
open PySem
section
variable {n : Nat} {hm : Bool} {K : V → Prop} {X : Nat → Prop}
theorem tieB_pair {m : Nat} {t : Nat × Nat} (h : t.1 < t.2 ∧ t.2 < m) : tieB m (.tuple [.int t.1, .int t.2]) = true := by
  show (decide (0 ≤ (t.1 : Int)) && decide ((t.1 : Int) ≤ m - 1) && (decide (0 ≤ (t.2 : Int)) && decide ((t.2 : Int) ≤ m - 1)) && decide ((t.1 : Int) < t.2)) = true
  simp only [Bool.and_eq_true, decide_eq_true_eq]; omega
theorem okW_web {m : Nat} {ts : Ties} : ∀ {met : List (List Int)}, (∀ t ∈ ts, t.1 < t.2 ∧ t.2 < m) → ts.Nodup → (∀ t ∈ ts, [(t.1 : Int), t.2] ∉ met) → okW m (ofPairs ts) met = true := by
  induction ts with
  | nil => exact fun _ _ _ => rfl
  | cons t ts ih =>
    intro met h1 h2 h3
    have h2 := List.nodup_cons.mp h2
    show (tieB m (.tuple [.int t.1, .int t.2]) && (!met.contains [(t.1 : Int), t.2] && okW m (ofPairs ts) (met ++ [[(t.1 : Int), t.2]]))) = true
    have c : met.contains [(t.1 : Int), t.2] = false := Bool.eq_false_iff.mpr fun q => h3 t (.head _) (List.contains_iff_mem.mp q)
    rw [tieB_pair (h1 t (.head _)), c, ih (fun t h => h1 t (.tail _ h)) h2.2 fun t' h q => ?_]
    · rfl
    · rcases List.mem_append.mp q with q | q
      · exact h3 t' (.tail _ h) q
      · have e := List.mem_singleton.mp q
        injection e with e1 e2
        injection e2 with e2 _
        have e3 : t' = t := Prod.ext (Int.natCast_inj.mp e1) (Int.natCast_inj.mp e2)
        exact h2.1 (e3 ▸ h)
theorem webB_web {m : Nat} {ts : Ties} (h0 : 0 < m) (hz : m ≤ 10) (w : Web m ts) : webB (.int m) (.list (ofPairs ts)) = true := by
  show (decide (1 ≤ (m : Int)) && decide ((m : Int) ≤ 10) && okW m (ofPairs ts) []) = true
  rw [okW_web w.2 w.1 (fun _ _ => List.not_mem_nil), decide_eq_true (by omega), decide_eq_true (by omega)]; rfl
theorem short_pairs {ts : Ties} (hl : ts.length < 1000) : ShortL (.list (ofPairs ts)) := by
  refine ⟨by rw [length_ofPairs]; exact hl, fun y hy => ?_⟩
  obtain ⟨t, _, rfl⟩ := List.mem_map.mp hy
  exact (by decide : 2 < 1000)
/-- a good web -/
structure GW (m : Nat) (ts : Ties) : Prop where
  pos : 0 < m
  le : m ≤ 10
  web : Web m ts
  len : ts.length ≤ 100
theorem GW.short {m : Nat} {ts : Ties} (g : GW m ts) : ShortL (.list (ofPairs ts)) := short_pairs (Nat.lt_of_le_of_lt g.len (by decide))
theorem GW.need {m : Nat} {ts : Ties} (g : GW m ts) (k : K (.d .none)) : wpCall T07 (n + 3) false 2 [.d (.int m), .d (.list (ofPairs ts))] K X :=
  need_spec _ _ g.short (fun _ => k) fun e => by rw [webB_web g.pos g.le g.web] at e; exact nomatch e
theorem kind_spec (k : K (.own (.list [.str "web"]))) : wpCall T07 (n + 1) true 22 [.exc 3] K X := by
  refine wpCall_in (fn := f__law_kind) rfl rfl (by decide) ?_
  dsimp only [f__law_kind, b__law_kind, compW, wpSs, wpS, wpE, wpL, slotW, ownS, Rho.putL, frz, bindF, setD, setAll, bindT, F1.W, F2.W, F1.quiet, seqV, numW, isNon, r_got, r_rd_d, r_rd_own, r_rd_brw, r_nm_d, r_nm_own, r_nm_brw, r_nm_exc, r_low_int, r_low_list, r_arg_d, r_arg_own, r_arg_brw, r_arg_exc, r_kp_d, r_kp_own, r_keep_dt, r_keep_df, r_keep_ownt, r_keep_ownf, r_ret_d, r_ret_own, r_retm_d, r_retm_own, r_ifB, r_boolV, r_intV, r_argAll0, r_argAll1, r_keepAll0, r_keepAll1, r_seqOf_l, r_seqOf_t, r_listOf, r_ls_d, r_ls_own, r_keys_d, r_keys_own, r_keys_rg, r_it_dl, r_it_dt, r_it_own, r_it_brw, r_it_rg, r_itL_d, r_itL_own, r_itL_rg, r_has_ll, r_pv2, r_frz_d, r_frz_own, r_isi_int_d, r_isi_bool_d, r_isi_list_d, r_isi_tuple_d, r_isi_list_brw, r_isi_list_own, r_isi_exc, excIs, d_op, r_op_dl, r_op_dt, r_op_own, r_op_brw, r_op_ib, r_op_it, d_map0, d_map1, d_app0, d_app1, d_get0, d_get1, d_set0, d_set1, d_mod0, d_mod1, d_rep0, d_rep1, d_len0, d_len1, d_omap, d_obind, d_oelim, d_ct, d_cf, d_nt, d_nf, d_fand, d_tand, d_outn, d_outr, d_cmp1, d_cmp2, d_and1, d_and2, d_or1, d_or2, d_seq0, d_seq1, d_tst0, d_tst1, d_qt, d_qf, d_ownl, d_ownd, Nat.reduceSub, Nat.reduceAdd, r_retO_d, r_retO_own, r_pv4, r_op_bool, r_op_idl]
  refine ⟨lim_lt (by decide), lim_lt (by decide), lim_lt (by decide), ?_⟩
  show _ ∧ _
  refine ⟨lim_lt (by decide), lim_lt (by decide), ifB_yes (by decide) ?_⟩
  exact ⟨⟨by decide, lim_lti (by decide), lim_lt (by decide)⟩, k⟩
theorem kind_none (k : K (.own (.list [.str "none"]))) : wpCall T07 (n + 1) true 22 [.exc 6] K X := by
  refine wpCall_in (fn := f__law_kind) rfl rfl (by decide) ?_
  dsimp only [f__law_kind, b__law_kind, compW, wpSs, wpS, wpE, wpL, slotW, ownS, Rho.putL, frz, bindF, setD, setAll, bindT, F1.W, F2.W, F1.quiet, seqV, numW, isNon, r_got, r_rd_d, r_rd_own, r_rd_brw, r_nm_d, r_nm_own, r_nm_brw, r_nm_exc, r_low_int, r_low_list, r_arg_d, r_arg_own, r_arg_brw, r_arg_exc, r_kp_d, r_kp_own, r_keep_dt, r_keep_df, r_keep_ownt, r_keep_ownf, r_ret_d, r_ret_own, r_retm_d, r_retm_own, r_ifB, r_boolV, r_intV, r_argAll0, r_argAll1, r_keepAll0, r_keepAll1, r_seqOf_l, r_seqOf_t, r_listOf, r_ls_d, r_ls_own, r_keys_d, r_keys_own, r_keys_rg, r_it_dl, r_it_dt, r_it_own, r_it_brw, r_it_rg, r_itL_d, r_itL_own, r_itL_rg, r_has_ll, r_pv2, r_frz_d, r_frz_own, r_isi_int_d, r_isi_bool_d, r_isi_list_d, r_isi_tuple_d, r_isi_list_brw, r_isi_list_own, r_isi_exc, excIs, d_op, r_op_dl, r_op_dt, r_op_own, r_op_brw, r_op_ib, r_op_it, d_map0, d_map1, d_app0, d_app1, d_get0, d_get1, d_set0, d_set1, d_mod0, d_mod1, d_rep0, d_rep1, d_len0, d_len1, d_omap, d_obind, d_oelim, d_ct, d_cf, d_nt, d_nf, d_fand, d_tand, d_outn, d_outr, d_cmp1, d_cmp2, d_and1, d_and2, d_or1, d_or2, d_seq0, d_seq1, d_tst0, d_tst1, d_qt, d_qf, d_ownl, d_ownd, Nat.reduceSub, Nat.reduceAdd, r_retO_d, r_retO_own, r_pv4, r_op_bool, r_op_idl]
  refine ⟨lim_lt (by decide), lim_lt (by decide), lim_lt (by decide), ?_⟩
  show _ ∧ _
  refine ⟨lim_lt (by decide), lim_lt (by decide), ifB_yes (by decide) ?_⟩
  exact ⟨⟨by decide, lim_lti (by decide), lim_lt (by decide)⟩, k⟩
theorem refusal : keepAll [.d (.str "refused"), .own (.list [.str "web"])] = some [.str "refused", .list [.str "web"]] := rfl
/-- what told makes of a thing that is no web -/
noncomputable abbrev refused : PyData := .tuple [.str "refused", .list [.str "web"]]
end
end TC

namespace TC
open PySem
theorem zs_getD (l : List Nat) (p : Nat) : (zs l).getD p 0 = ((l.getD p 0 : Nat) : Int) := by
  unfold zs; rw [List.getD_eq_getElem?_getD, List.getD_eq_getElem?_getD, List.getElem?_map]
  cases l[p]? <;> rfl
theorem zs_set (l : List Nat) (p v : Nat) : (ofInts (zs l)).set (p : Int).toNat (.int v) = ofInts (zs (l.set p v)) := by
  unfold zs; rw [Int.toNat_natCast, ofInts_set, List.map_set]
section
variable {n : Nat} {hm : Bool} {K : V → Prop} {X : Nat → Prop}
noncomputable abbrev mkR (a l : Option V) (mk : List Nat) (t b c d e f g : Option V) : Rho := [a, l, some (.own (.list (ofInts (zs mk)))), t, b, c, d, e, f, g]
theorem mark_loop {Ko : KS} {a l tu e f g : Option V} {ts : Ties} : ∀ {mk : List Nat} {b c d : Option V}, (∀ t ∈ ts, t.1 < mk.length ∧ t.2 < mk.length) → mk.length < 1000 → (∀ b c d, Ko .nxt (mkR a l (mround ts mk) tu b c d e f g)) →
    forW (fun x ρ' k => bindF (.many [4, 5]) x ρ' fun ρ'' => wpSs (wpCall T07 n) false b__law_pieces_1 ρ'' k (fun c _ => X c)) Ko ((ofPairs ts).map .d) (mkR a l mk tu b c d e f g) := by
  induction ts with
  | nil => exact fun _ _ h => h _ _ _
  | cons t ts ih =>
    intro mk b c d ht hl h
    obtain ⟨a1, a2⟩ := ht t (.head _)
    dsimp only [forW, ofPairs, b__law_pieces_1, wpSs, wpS, wpE, wpL, slotW, ownS, Rho.putL, frz, bindF, setD, setAll, bindT, F1.W, F2.W, F1.quiet, seqV, numW, isNon, r_got, r_rd_d, r_rd_own, r_rd_brw, r_nm_d, r_nm_own, r_nm_brw, r_nm_exc, r_low_int, r_low_list, r_arg_d, r_arg_own, r_arg_brw, r_arg_exc, r_kp_d, r_kp_own, r_keep_dt, r_keep_df, r_keep_ownt, r_keep_ownf, r_ret_d, r_ret_own, r_retm_d, r_retm_own, r_ifB, r_boolV, r_intV, r_argAll0, r_argAll1, r_keepAll0, r_keepAll1, r_seqOf_l, r_seqOf_t, r_listOf, r_ls_d, r_ls_own, r_keys_d, r_keys_own, r_keys_rg, r_it_dl, r_it_dt, r_it_own, r_it_brw, r_it_rg, r_itL_d, r_itL_own, r_itL_rg, r_has_ll, r_pv2, r_frz_d, r_frz_own, r_isi_int_d, r_isi_bool_d, r_isi_list_d, r_isi_tuple_d, r_isi_list_brw, r_isi_list_own, r_isi_exc, excIs, d_op, r_op_dl, r_op_dt, r_op_own, r_op_brw, r_op_ib, r_op_it, d_map0, d_map1, d_app0, d_app1, d_get0, d_get1, d_set0, d_set1, d_mod0, d_mod1, d_rep0, d_rep1, d_len0, d_len1, d_omap, d_obind, d_oelim, d_ct, d_cf, d_nt, d_nf, d_fand, d_tand, d_outn, d_outr, d_cmp1, d_cmp2, d_and1, d_and2, d_or1, d_or2, d_seq0, d_seq1, d_tst0, d_tst1, d_qt, d_qf, d_ownl, d_ownd, Nat.reduceSub, Nat.reduceAdd, r_retO_d, r_retO_own, r_pv4, r_op_bool, r_op_idl]
    refine low_idx (by rw [zs_len]; exact a1) (by omega) (low_idx (by rw [zs_len]; exact a2) (by omega) ?_)
    rw [zs_getD, zs_getD]
    have em : min ((mk.getD t.1 0 : Nat) : Int) ((mk.getD t.2 0 : Nat) : Int) = ((min (mk.getD t.1 0) (mk.getD t.2 0) : Nat) : Int) := by omega
    dsimp only [wpSs, wpS, wpE, wpL, slotW, ownS, Rho.putL, frz, bindF, setD, setAll, bindT, F1.W, F2.W, F1.quiet, seqV, numW, isNon, r_got, r_rd_d, r_rd_own, r_rd_brw, r_nm_d, r_nm_own, r_nm_brw, r_nm_exc, r_low_int, r_low_list, r_arg_d, r_arg_own, r_arg_brw, r_arg_exc, r_kp_d, r_kp_own, r_keep_dt, r_keep_df, r_keep_ownt, r_keep_ownf, r_ret_d, r_ret_own, r_retm_d, r_retm_own, r_ifB, r_boolV, r_intV, r_argAll0, r_argAll1, r_keepAll0, r_keepAll1, r_seqOf_l, r_seqOf_t, r_listOf, r_ls_d, r_ls_own, r_keys_d, r_keys_own, r_keys_rg, r_it_dl, r_it_dt, r_it_own, r_it_brw, r_it_rg, r_itL_d, r_itL_own, r_itL_rg, r_has_ll, r_pv2, r_frz_d, r_frz_own, r_isi_int_d, r_isi_bool_d, r_isi_list_d, r_isi_tuple_d, r_isi_list_brw, r_isi_list_own, r_isi_exc, excIs, d_op, r_op_dl, r_op_dt, r_op_own, r_op_brw, r_op_ib, r_op_it, d_map0, d_map1, d_app0, d_app1, d_get0, d_get1, d_set0, d_set1, d_mod0, d_mod1, d_rep0, d_rep1, d_len0, d_len1, d_omap, d_obind, d_oelim, d_ct, d_cf, d_nt, d_nf, d_fand, d_tand, d_outn, d_outr, d_cmp1, d_cmp2, d_and1, d_and2, d_or1, d_or2, d_seq0, d_seq1, d_tst0, d_tst1, d_qt, d_qf, d_ownl, d_ownd, Nat.reduceSub, Nat.reduceAdd, r_retO_d, r_retO_own, r_pv4, r_op_bool, r_op_idl]
    rw [em]
    refine ⟨⟨Int.natCast_nonneg _, by rw [length_ofInts, zs_len]; omega, lim_lti (by omega)⟩, ?_⟩
    rw [zs_set]
    refine ⟨⟨Int.natCast_nonneg _, by rw [length_ofInts, zs_len, List.length_set]; omega, lim_lti (by omega)⟩, ?_⟩
    rw [zs_set]
    have el : (mstep mk t).length = mk.length := mstep_len mk t
    exact ih (mk := mstep mk t) (fun t' h' => by rw [el]; exact ht t' (.tail _ h')) (by rw [el]; exact hl) h
/-- the points with one mark -/
noncomputable def marked1 (m : Nat) (mk : List Nat) (k : Nat) : List Nat := (List.range m).filter fun p => decide (mk.getD p 0 = k)
noncomputable def markP (mk : List Nat) (k : Nat) : V → Option PyData
  | .d (.int p) => cond (decide (mk.getD p.toNat 0 = k)) (some (.int p)) none
  | _ => none
theorem markP_list (m : Nat) (mk : List Nat) (k : Nat) : List.filterMap (markP mk k) ((rangeL m).map fun i => V.d (.int i)) = ofInts (zs (marked1 m mk k)) := by
  unfold marked1 zs ofInts
  rw [rngL_nat, List.map_map, List.filterMap_map, List.map_map]
  induction List.range m with
  | nil => rfl
  | cons p l ih =>
    rw [List.filterMap_cons, List.filter_cons]
    have e : (markP mk k ∘ (fun i => V.d (PyData.int i)) ∘ fun (i : Nat) => (i : Int)) p = cond (decide (mk.getD p 0 = k)) (some (.int p)) none := rfl
    rw [e]
    cases decide (mk.getD p 0 = k) with
    | true => exact congrArg (PyData.int p :: ·) ih
    | false => exact ih
theorem law_pieces_spec {m : Nat} {ts : Ties} (g : GW m ts) (q : K (.own (lists ((comps m ts).map zs)))) : wpCall T07 (n + 1) false 18 [.d (.int m), .d (.list (ofPairs ts))] K X := by
  have hz := g.le
  refine wpCall_in (fn := f__law_pieces) rfl rfl (by decide) ?_
  dsimp only [f__law_pieces, b__law_pieces, wpSs, wpS, wpE, wpL, slotW, ownS, Rho.putL, frz, bindF, setD, setAll, bindT, F1.W, F2.W, F1.quiet, seqV, numW, isNon, r_got, r_rd_d, r_rd_own, r_rd_brw, r_nm_d, r_nm_own, r_nm_brw, r_nm_exc, r_low_int, r_low_list, r_arg_d, r_arg_own, r_arg_brw, r_arg_exc, r_kp_d, r_kp_own, r_keep_dt, r_keep_df, r_keep_ownt, r_keep_ownf, r_ret_d, r_ret_own, r_retm_d, r_retm_own, r_ifB, r_boolV, r_intV, r_argAll0, r_argAll1, r_keepAll0, r_keepAll1, r_seqOf_l, r_seqOf_t, r_listOf, r_ls_d, r_ls_own, r_keys_d, r_keys_own, r_keys_rg, r_it_dl, r_it_dt, r_it_own, r_it_brw, r_it_rg, r_itL_d, r_itL_own, r_itL_rg, r_has_ll, r_pv2, r_frz_d, r_frz_own, r_isi_int_d, r_isi_bool_d, r_isi_list_d, r_isi_tuple_d, r_isi_list_brw, r_isi_list_own, r_isi_exc, excIs, d_op, r_op_dl, r_op_dt, r_op_own, r_op_brw, r_op_ib, r_op_it, d_map0, d_map1, d_app0, d_app1, d_get0, d_get1, d_set0, d_set1, d_mod0, d_mod1, d_rep0, d_rep1, d_len0, d_len1, d_omap, d_obind, d_oelim, d_ct, d_cf, d_nt, d_nf, d_fand, d_tand, d_outn, d_outr, d_cmp1, d_cmp2, d_and1, d_and2, d_or1, d_or2, d_seq0, d_seq1, d_tst0, d_tst1, d_qt, d_qf, d_ownl, d_ownd, Nat.reduceSub, Nat.reduceAdd, r_retO_d, r_retO_own, r_pv4, r_op_bool, r_op_idl]
  have e0 : rangeL m = zs (List.range m) := rfl
  refine ⟨⟨lim_gti (by omega), lim_lti (by omega)⟩, by rw [length_ofInts, rngL_length]; exact lim_lt (by omega), ⟨lim_gti (by omega), lim_lti (by omega)⟩, by rw [rng_len]; exact lim_lt (by omega), ?_⟩
  refine forW_idx _ (fun i ρ => ∃ t b c d, ρ = mkR (some (.d (.int m))) (some (.d (.list (ofPairs ts)))) (mrounds ts m i) t b c d none none none) ?_ ?_ _ ⟨none, none, none, none, rfl⟩
  · rintro ρ ⟨t, b, c, d, rfl⟩
    rw [rng_len]
    dsimp only [b__law_pieces_5, wpSs, wpS, wpE, wpL, slotW, ownS, Rho.putL, frz, bindF, setD, setAll, bindT, F1.W, F2.W, F1.quiet, seqV, numW, isNon, r_got, r_rd_d, r_rd_own, r_rd_brw, r_nm_d, r_nm_own, r_nm_brw, r_nm_exc, r_low_int, r_low_list, r_arg_d, r_arg_own, r_arg_brw, r_arg_exc, r_kp_d, r_kp_own, r_keep_dt, r_keep_df, r_keep_ownt, r_keep_ownf, r_ret_d, r_ret_own, r_retm_d, r_retm_own, r_ifB, r_boolV, r_intV, r_argAll0, r_argAll1, r_keepAll0, r_keepAll1, r_seqOf_l, r_seqOf_t, r_listOf, r_ls_d, r_ls_own, r_keys_d, r_keys_own, r_keys_rg, r_it_dl, r_it_dt, r_it_own, r_it_brw, r_it_rg, r_itL_d, r_itL_own, r_itL_rg, r_has_ll, r_pv2, r_frz_d, r_frz_own, r_isi_int_d, r_isi_bool_d, r_isi_list_d, r_isi_tuple_d, r_isi_list_brw, r_isi_list_own, r_isi_exc, excIs, d_op, r_op_dl, r_op_dt, r_op_own, r_op_brw, r_op_ib, r_op_it, d_map0, d_map1, d_app0, d_app1, d_get0, d_get1, d_set0, d_set1, d_mod0, d_mod1, d_rep0, d_rep1, d_len0, d_len1, d_omap, d_obind, d_oelim, d_ct, d_cf, d_nt, d_nf, d_fand, d_tand, d_outn, d_outr, d_cmp1, d_cmp2, d_and1, d_and2, d_or1, d_or2, d_seq0, d_seq1, d_tst0, d_tst1, d_qt, d_qf, d_ownl, d_ownd, Nat.reduceSub, Nat.reduceAdd, r_retO_d, r_retO_own, r_pv4, r_op_bool, r_op_idl]
    refine ⟨⟨lim_gti (by omega), lim_lti (by omega)⟩, by rw [rng_len]; exact lim_lt (by omega), ?_⟩
    have ml := mrounds_len ts m m
    refine forW_idx _ (fun i ρ => ∃ f g, ρ = mkR (some (.d (.int m))) (some (.d (.list (ofPairs ts)))) (mrounds ts m m) t b c d (some (.own (lists ((((List.range i).map (marked1 m (mrounds ts m m))).filter fun l => decide (l ≠ [])).map zs)))) f g) ?_ ?_ _ ⟨none, none, rfl⟩
    · rintro ρ ⟨f, g', rfl⟩
      rw [rng_len]
      have e : ((List.range m).map (marked1 m (mrounds ts m m))).filter (fun l => decide (l ≠ [])) = comps m ts := pieces_marks g.web
      rw [e]
      exact q
    · rintro i hi ρ k ⟨f, g', rfl⟩ cont _
      have hi' : i < m := by rw [rng_len] at hi; exact hi
      rw [rng_get]
      dsimp only [b__law_pieces_3, wpSs, wpS, wpE, wpL, slotW, ownS, Rho.putL, frz, bindF, setD, setAll, bindT, F1.W, F2.W, F1.quiet, seqV, numW, isNon, r_got, r_rd_d, r_rd_own, r_rd_brw, r_nm_d, r_nm_own, r_nm_brw, r_nm_exc, r_low_int, r_low_list, r_arg_d, r_arg_own, r_arg_brw, r_arg_exc, r_kp_d, r_kp_own, r_keep_dt, r_keep_df, r_keep_ownt, r_keep_ownf, r_ret_d, r_ret_own, r_retm_d, r_retm_own, r_ifB, r_boolV, r_intV, r_argAll0, r_argAll1, r_keepAll0, r_keepAll1, r_seqOf_l, r_seqOf_t, r_listOf, r_ls_d, r_ls_own, r_keys_d, r_keys_own, r_keys_rg, r_it_dl, r_it_dt, r_it_own, r_it_brw, r_it_rg, r_itL_d, r_itL_own, r_itL_rg, r_has_ll, r_pv2, r_frz_d, r_frz_own, r_isi_int_d, r_isi_bool_d, r_isi_list_d, r_isi_tuple_d, r_isi_list_brw, r_isi_list_own, r_isi_exc, excIs, d_op, r_op_dl, r_op_dt, r_op_own, r_op_brw, r_op_ib, r_op_it, d_map0, d_map1, d_app0, d_app1, d_get0, d_get1, d_set0, d_set1, d_mod0, d_mod1, d_rep0, d_rep1, d_len0, d_len1, d_omap, d_obind, d_oelim, d_ct, d_cf, d_nt, d_nf, d_fand, d_tand, d_outn, d_outr, d_cmp1, d_cmp2, d_and1, d_and2, d_or1, d_or2, d_seq0, d_seq1, d_tst0, d_tst1, d_qt, d_qf, d_ownl, d_ownd, Nat.reduceSub, Nat.reduceAdd, r_retO_d, r_retO_own, r_pv4, r_op_bool, r_op_idl]
      refine ⟨⟨lim_gti (by omega), lim_lti (by omega)⟩, by rw [rng_len]; exact lim_lt (by omega), ?_⟩
      refine compW_filter (markP (mrounds ts m m) i) _ _ (fun x hx kk hk => ?_) ?_ ?_
      · obtain ⟨p, hp, rfl⟩ := List.mem_map.mp hx
        obtain ⟨p, hp', rfl⟩ := List.mem_map.mp hp
        have hp := List.mem_range.mp hp'
        refine low_idx (cs := zs (mrounds ts m m)) (p := p) (by rw [zs_len, ml]; exact hp) (by omega) ?_
        rw [zs_getD]
        replace hk : kk (cond (decide ((mrounds ts m m).getD p 0 = i)) (some (.int p)) none) := hk
        have ed : decide ((((mrounds ts m m).getD p 0 : Nat) : Int) = i) = decide ((mrounds ts m m).getD p 0 = i) := decide_eq_decide.mpr Int.natCast_inj
        show cond (decide ((((mrounds ts m m).getD p 0 : Nat) : Int) = i)) (kk (some (.int p))) (kk none)
        rw [ed]
        revert hk
        cases decide ((mrounds ts m m).getD p 0 = i) <;> exact id
      · rw [List.nil_append]; exact Nat.lt_of_le_of_lt (List.length_filterMap_le ..) (by rw [rng_len]; exact lim_lt (by omega))
      · rw [List.nil_append, markP_list]
        dsimp only [wpSs, wpS, wpE, wpL, slotW, ownS, Rho.putL, frz, bindF, setD, setAll, bindT, F1.W, F2.W, F1.quiet, seqV, numW, isNon, r_got, r_rd_d, r_rd_own, r_rd_brw, r_nm_d, r_nm_own, r_nm_brw, r_nm_exc, r_low_int, r_low_list, r_arg_d, r_arg_own, r_arg_brw, r_arg_exc, r_kp_d, r_kp_own, r_keep_dt, r_keep_df, r_keep_ownt, r_keep_ownf, r_ret_d, r_ret_own, r_retm_d, r_retm_own, r_ifB, r_boolV, r_intV, r_argAll0, r_argAll1, r_keepAll0, r_keepAll1, r_seqOf_l, r_seqOf_t, r_listOf, r_ls_d, r_ls_own, r_keys_d, r_keys_own, r_keys_rg, r_it_dl, r_it_dt, r_it_own, r_it_brw, r_it_rg, r_itL_d, r_itL_own, r_itL_rg, r_has_ll, r_pv2, r_frz_d, r_frz_own, r_isi_int_d, r_isi_bool_d, r_isi_list_d, r_isi_tuple_d, r_isi_list_brw, r_isi_list_own, r_isi_exc, excIs, d_op, r_op_dl, r_op_dt, r_op_own, r_op_brw, r_op_ib, r_op_it, d_map0, d_map1, d_app0, d_app1, d_get0, d_get1, d_set0, d_set1, d_mod0, d_mod1, d_rep0, d_rep1, d_len0, d_len1, d_omap, d_obind, d_oelim, d_ct, d_cf, d_nt, d_nf, d_fand, d_tand, d_outn, d_outr, d_cmp1, d_cmp2, d_and1, d_and2, d_or1, d_or2, d_seq0, d_seq1, d_tst0, d_tst1, d_qt, d_qf, d_ownl, d_ownd, Nat.reduceSub, Nat.reduceAdd, r_retO_d, r_retO_own, r_pv4, r_op_bool, r_op_idl]
        refine ne_nil rfl (Sh.ints 0 _) (by decide) ?_
        rw [List.range_succ, List.map_append, List.filter_append] at cont
        have e1 : (ofInts (zs (marked1 m (mrounds ts m m) i))).isEmpty = decide (marked1 m (mrounds ts m m) i = []) := by cases marked1 m (mrounds ts m m) i <;> rfl
        have ll : ∀ (p : List Nat → Bool), (List.filter p (List.map (marked1 m (mrounds ts m m)) (List.range i))).length < 1000 := fun p => Nat.lt_of_le_of_lt (List.length_filter_le ..) (by rw [List.length_map, List.length_range]; omega)
        by_cases z : marked1 m (mrounds ts m m) i = []
        · rw [e1, decide_eq_true z]
          rw [show List.filter (fun l => decide (l ≠ [])) (List.map (marked1 m (mrounds ts m m)) [i]) = [] from List.filter_eq_nil_iff.mpr fun l hl => by rw [List.mem_singleton.mp hl, z]; decide, List.append_nil] at cont
          exact cont _ ⟨_, _, rfl⟩
        · rw [e1, decide_eq_false z]
          rw [show List.filter (fun l => decide (l ≠ [])) (List.map (marked1 m (mrounds ts m m)) [i]) = [marked1 m (mrounds ts m m) i] from List.filter_eq_self.mpr fun l hl => by rw [List.mem_singleton.mp hl]; exact decide_eq_true z, List.map_append] at cont
          refine (show _ ∧ _ from ⟨lim_lt (by rw [List.length_map, List.length_map]; exact ll _), ?_⟩)
          rw [lists_snoc]
          exact cont _ ⟨_, _, rfl⟩
  · rintro i hi ρ k ⟨t, b, c, d, rfl⟩ cont _
    rw [rng_get]
    dsimp only [b__law_pieces_2, wpSs, wpS, wpE, wpL, slotW, ownS, Rho.putL, frz, bindF, setD, setAll, bindT, F1.W, F2.W, F1.quiet, seqV, numW, isNon, r_got, r_rd_d, r_rd_own, r_rd_brw, r_nm_d, r_nm_own, r_nm_brw, r_nm_exc, r_low_int, r_low_list, r_arg_d, r_arg_own, r_arg_brw, r_arg_exc, r_kp_d, r_kp_own, r_keep_dt, r_keep_df, r_keep_ownt, r_keep_ownf, r_ret_d, r_ret_own, r_retm_d, r_retm_own, r_ifB, r_boolV, r_intV, r_argAll0, r_argAll1, r_keepAll0, r_keepAll1, r_seqOf_l, r_seqOf_t, r_listOf, r_ls_d, r_ls_own, r_keys_d, r_keys_own, r_keys_rg, r_it_dl, r_it_dt, r_it_own, r_it_brw, r_it_rg, r_itL_d, r_itL_own, r_itL_rg, r_has_ll, r_pv2, r_frz_d, r_frz_own, r_isi_int_d, r_isi_bool_d, r_isi_list_d, r_isi_tuple_d, r_isi_list_brw, r_isi_list_own, r_isi_exc, excIs, d_op, r_op_dl, r_op_dt, r_op_own, r_op_brw, r_op_ib, r_op_it, d_map0, d_map1, d_app0, d_app1, d_get0, d_get1, d_set0, d_set1, d_mod0, d_mod1, d_rep0, d_rep1, d_len0, d_len1, d_omap, d_obind, d_oelim, d_ct, d_cf, d_nt, d_nf, d_fand, d_tand, d_outn, d_outr, d_cmp1, d_cmp2, d_and1, d_and2, d_or1, d_or2, d_seq0, d_seq1, d_tst0, d_tst1, d_qt, d_qf, d_ownl, d_ownd, Nat.reduceSub, Nat.reduceAdd, r_retO_d, r_retO_own, r_pv4, r_op_bool, r_op_idl]
    have ml := mrounds_len ts m i
    refine ⟨by rw [List.length_map, length_ofPairs]; exact lim_lt (Nat.lt_of_le_of_lt g.len (by decide)), mark_loop (fun t ht => by rw [ml]; have := g.web.2 t ht; omega) (by rw [ml]; omega) fun b c d => cont _ ⟨_, b, c, d, rfl⟩⟩
end
end TC

namespace TC

/-! How many pieces there are, with a tie more. -/
noncomputable def Plus (ts us : Ties) (u v : Nat) : Prop := ∀ a b, Adj us a b ↔ Adj ts a b ∨ (a = u ∧ b = v) ∨ (a = v ∧ b = u)
noncomputable def ncomp (n : Nat) (ts : Ties) : Nat := (reps n ts).length
theorem Plus.symm {ts us : Ties} {u v : Nat} (h : Plus ts us u v) : Plus ts us v u := fun a b => by rw [h a b]; exact or_congr_right or_comm
theorem Plus.cn {ts us : Ties} {u v : Nat} (h : Plus ts us u v) {a b : Nat} (x : Cn us a b) : Cn ts a b ∨ (Cn ts a u ∧ Cn ts v b) ∨ (Cn ts a v ∧ Cn ts u b) := by
  induction x with
  | refl => exact .inl .refl
  | step x y ih =>
    rcases (h _ _).mp y with y | ⟨rfl, rfl⟩ | ⟨rfl, rfl⟩
    · rcases ih with ih | ⟨i, j⟩ | ⟨i, j⟩
      · exact .inl (ih.step y)
      · exact .inr (.inl ⟨i, j.step y⟩)
      · exact .inr (.inr ⟨i, j.step y⟩)
    · rcases ih with ih | ⟨i, j⟩ | ⟨i, j⟩
      · exact .inr (.inl ⟨ih, .refl⟩)
      · exact .inr (.inl ⟨i, .refl⟩)
      · exact .inl i
    · rcases ih with ih | ⟨i, j⟩ | ⟨i, j⟩
      · exact .inr (.inr ⟨ih, .refl⟩)
      · exact .inl i
      · exact .inr (.inr ⟨i, .refl⟩)
theorem Plus.up {ts us : Ties} {u v : Nat} (h : Plus ts us u v) {a b : Nat} (x : Cn ts a b) : Cn us a b := by
  induction x with
  | refl => exact .refl
  | step _ y ih => exact ih.step ((h _ _).mpr (.inl y))
theorem Plus.uv {ts us : Ties} {u v : Nat} (h : Plus ts us u v) : Cn us u v := .one ((h _ _).mpr (.inr (.inl ⟨rfl, rfl⟩)))
theorem ncomp_congr {n : Nat} {ts us : Ties} (h : ∀ a b, Cn us a b ↔ Cn ts a b) : ncomp n us = ncomp n ts := by
  unfold ncomp reps
  exact congrArg List.length (List.filter_congr fun p _ => dec_congr ⟨fun r q c => r q ((h q p).mpr c), fun r q c => r q ((h q p).mp c)⟩)
theorem Plus.same {n : Nat} {ts us : Ties} {u v : Nat} (h : Plus ts us u v) (c : Cn ts u v) : ncomp n us = ncomp n ts :=
  ncomp_congr fun a b => ⟨fun x => (h.cn x).elim id fun y => y.elim (fun y => y.1.trans (c.trans y.2)) fun y => y.1.trans (c.symm.trans y.2), h.up⟩
theorem filter_ne_length {l : List Nat} (nd : l.Nodup) {m : Nat} (h : m ∈ l) : (l.filter fun x => decide (x ≠ m)).length + 1 = l.length := by
  induction l with
  | nil => cases h
  | cons a l ih =>
    have nd' := List.nodup_cons.mp nd
    rw [List.filter_cons, List.length_cons]
    cases h with
    | head =>
      rw [if_neg (by simp)]
      rw [List.filter_eq_self.mpr fun x hx => decide_eq_true (show x ≠ m from fun e => nd'.1 (e ▸ hx))]
    | tail _ h =>
      rw [if_pos (decide_eq_true (show a ≠ m from fun e => nd'.1 (e ▸ h))), List.length_cons, ih nd'.2 h]
theorem Plus.less {n : Nat} {ts us : Ties} {u v : Nat} (h : Plus ts us u v) (c : ¬ Cn ts u v) (hu : u < n) (hv : v < n) : ncomp n us + 1 = ncomp n ts := by
  obtain ⟨ru, r1, c1⟩ := has_rep ts u
  obtain ⟨rv, r2, c2⟩ := has_rep ts v
  have key : ∀ {u v ru rv : Nat}, Plus ts us u v → ¬ Cn ts u v → v < n → Rep ts ru → Cn ts ru u → Rep ts rv → Cn ts rv v → ru ≤ rv → ncomp n us + 1 = ncomp n ts := by
    clear c1 c2 r1 r2 h c hu hv rv ru u v
    intro u v ru rv h c hv r1 c1 r2 c2 le
    have ne : ru ≠ rv := fun e => c (c1.symm.trans (e ▸ c2))
    have m : rv ∈ reps n ts := mem_reps.mpr ⟨Nat.lt_of_le_of_lt (r2 v c2.symm) hv, r2⟩
    have nd : (reps n ts).Nodup := (List.pairwise_lt_range.filter _).imp fun h => Nat.ne_of_lt h
    unfold ncomp
    rw [← filter_ne_length nd m]
    congr 2
    unfold reps
    rw [List.filter_filter]
    refine List.filter_congr fun p _ => Bool.eq_iff_iff.mpr ?_
    rw [Bool.and_eq_true, dec_iff, dec_iff, decide_eq_true_iff]
    constructor
    · intro r
      refine ⟨fun e => ?_, fun q x => r q (h.up x)⟩
      subst e
      have := r ru ((h.up c1).trans (h.uv.trans (h.up c2.symm)))
      omega
    · rintro ⟨np, r⟩ q x
      rcases h.cn x with x | ⟨x, y⟩ | ⟨x, y⟩
      · exact r q x
      · exact absurd (r.uniq r2 (y.symm.trans c2.symm)) np
      · have e := r.uniq r1 (y.symm.trans c1.symm)
        have := r2 q (x.trans c2.symm)
        omega
  rcases Nat.le_total ru rv with le | le
  · exact key h c hv r1 c1 r2 c2 le
  · exact key h.symm (fun x => c x.symm) hu r2 c2 r1 c1 le

/-- without a tie -/
noncomputable def wo (ts : Ties) (e : Nat × Nat) : Ties := ts.filter fun t => decide (t ≠ e)
theorem mem_wo {ts : Ties} {e t : Nat × Nat} : t ∈ wo ts e ↔ t ∈ ts ∧ t ≠ e := by unfold wo; rw [List.mem_filter, decide_eq_true_iff]
theorem plus_cons (ts : Ties) (e : Nat × Nat) : Plus ts (e :: ts) e.1 e.2 := fun a b => by
  unfold Adj
  rw [List.mem_cons, List.mem_cons]
  constructor
  · rintro ((h | h) | (h | h))
    · subst h; exact .inr (.inl ⟨rfl, rfl⟩)
    · exact .inl (.inl h)
    · subst h; exact .inr (.inr ⟨rfl, rfl⟩)
    · exact .inl (.inr h)
  · rintro ((h | h) | ⟨rfl, rfl⟩ | ⟨rfl, rfl⟩)
    · exact .inl (.inr h)
    · exact .inr (.inr h)
    · exact .inl (.inl rfl)
    · exact .inr (.inl rfl)
theorem plus_wo {ts : Ties} {e : Nat × Nat} (h : e ∈ ts) : Plus (wo ts e) ts e.1 e.2 := fun a b => by
  rw [← plus_cons (wo ts e) e a b]
  unfold Adj
  have : ∀ t, t ∈ ts ↔ t ∈ e :: wo ts e := fun t => by
    rw [List.mem_cons, mem_wo]
    constructor
    · intro q
      by_cases g : t = e
      · exact .inl g
      · exact .inr ⟨q, g⟩
    · rintro (rfl | q)
      · exact h
      · exact q.1
  rw [this, this]
theorem ncomp_nil (n : Nat) : ncomp n [] = n := by
  have h : ∀ p, Rep [] p := fun p q c => by
    cases c with
    | refl => exact Nat.le_refl _
    | step _ y => rcases y with y | y <;> cases y
  unfold ncomp reps
  rw [List.filter_eq_self.mpr fun p _ => dec_true (h p), List.length_range]
theorem forest {n : Nat} : ∀ {us : Ties}, us.Nodup → (∀ t ∈ us, t.1 < t.2 ∧ t.2 < n) → (∀ e ∈ us, ¬ Cn (wo us e) e.1 e.2) → ncomp n us + us.length = n
  | [], _, _, _ => ncomp_nil n
  | e :: us, nd, w, br => by
    have nd' := List.nodup_cons.mp nd
    have sub : ∀ t ∈ us, t ∈ wo (e :: us) e := fun t ht => mem_wo.mpr ⟨.tail _ ht, fun q => nd'.1 (q ▸ ht)⟩
    have h1 : ¬ Cn us e.1 e.2 := fun c => br e (.head _) (c.mono sub)
    have we := w e (.head _)
    have h2 := (plus_cons us e).less (n := n) h1 (by omega) (by omega)
    have h3 := forest (n := n) nd'.2 (fun t ht => w t (.tail _ ht)) fun t ht c => br t (.tail _ ht) (c.mono fun x hx => by
      have := mem_wo.mp hx; exact mem_wo.mpr ⟨.tail _ this.1, this.2⟩)
    rw [List.length_cons]; omega
/-- a web of as many ties as points, or one fewer, in more than one piece, has a tie to spare -/
theorem has_spare {n : Nat} {ts : Ties} (w : Web n ts) (l : n ≤ ts.length + 1) (c : 1 < ncomp n ts) : ∃ e ∈ ts, ncomp n (wo ts e) = ncomp n ts := by
  refine Classical.byContradiction fun no => ?_
  have := forest w.1 w.2 fun e he x => no ⟨e, he, ((plus_wo he).same x).symm⟩
  omega
theorem spare_cn {n : Nat} {ts : Ties} (w : Web n ts) {e : Nat × Nat} (he : e ∈ ts) (h : ncomp n (wo ts e) = ncomp n ts) : Cn (wo ts e) e.1 e.2 := Classical.byContradiction fun c => by
  have we := w.2 e he
  have := (plus_wo he).less (n := n) c (by omega) (by omega)
  omega
/-- two ties of two pieces, one of them to spare, exchanged: a piece fewer -/
theorem joins {n : Nat} {ts us : Ties} (w : Web n ts) {e f : Nat × Nat} (he : e ∈ ts) (hf : f ∈ ts) (sp : ncomp n (wo ts e) = ncomp n ts) (far : ¬ Cn ts e.1 f.1)
    (hu : ∀ a b, Adj us a b ↔ Adj (wo (wo ts e) f) a b ∨ ((a = e.1 ∧ b = f.1) ∨ (a = f.1 ∧ b = e.1)) ∨ ((a = e.2 ∧ b = f.2) ∨ (a = f.2 ∧ b = e.2))) : ncomp n us + 1 = ncomp n ts := by
  have we := w.2 e he
  have wf := w.2 f hf
  have ne : f ≠ e := fun q => far (q ▸ .refl)
  have hf' : f ∈ wo ts e := mem_wo.mpr ⟨hf, ne⟩
  have c0 := spare_cn w he sp
  have cf : Cn ts f.1 f.2 := .one (.inl hf)
  have ce : Cn ts e.1 e.2 := .one (.inl he)
  have up : ∀ {a b}, Cn (wo (wo ts e) f) a b → Cn ts a b := fun x => x.mono fun t ht => (mem_wo.mp (mem_wo.mp ht).1).1
  -- the spare tie's ends hang together without both
  have c1 : Cn (wo (wo ts e) f) e.1 e.2 := by
    rcases (plus_wo hf').cn c0 with x | ⟨x, _⟩ | ⟨x, _⟩
    · exact x
    · exact absurd (up x) far
    · exact absurd ((up x).trans cf.symm) far
  let vs : Ties := (e.1, f.1) :: wo (wo ts e) f
  have p1 : Plus (wo (wo ts e) f) vs e.1 f.1 := plus_cons _ (e.1, f.1)
  have p2 : Plus vs us e.2 f.2 := fun a b => by
    rw [hu a b, p1 a b]; exact or_assoc.symm
  have n1 := p1.less (n := n) (fun x => far (up x)) (by omega) (by omega)
  by_cases g : Cn (wo (wo ts e) f) f.1 f.2
  · have n0 := (plus_wo hf').same (n := n) g
    have n2 := p2.same (n := n) ((p1.up c1.symm).trans (p1.uv.trans (p1.up g)))
    omega
  · have n0 := (plus_wo hf').less (n := n) g (by omega) (by omega)
    have n2 := p2.less (n := n) (fun x => by
      rcases p1.cn x with x | ⟨x, y⟩ | ⟨x, y⟩
      · exact far (ce.trans ((up x).trans cf.symm))
      · exact g y
      · exact far (ce.trans (up x))) (by omega) (by omega)
    omega
end TC

namespace TC

/-! Ties exchanged, one row after another, till all hangs together. -/
noncomputable def tie (a b : Nat) : Nat × Nat := (min a b, max a b)
theorem tie_lt {a b : Nat} (h : a < b) : tie a b = (a, b) := by unfold tie; rw [Nat.min_eq_left (Nat.le_of_lt h), Nat.max_eq_right (Nat.le_of_lt h)]
theorem tie_adj {ts : Ties} {a b : Nat} (h : tie a b ∈ ts) : Adj ts a b := by
  unfold tie at h
  rcases Nat.le_total a b with l | l
  · rw [Nat.min_eq_left l, Nat.max_eq_right l] at h; exact .inl h
  · rw [Nat.min_eq_right l, Nat.max_eq_left l] at h; exact .inr h
structure Row where
  a : Nat
  b : Nat
  c : Nat
  d : Nat
noncomputable def Row.out (r : Row) (t : Nat × Nat) : Bool := decide (t ≠ tie r.a r.b ∧ t ≠ tie r.c r.d)
noncomputable def exch (ts : Ties) (r : Row) : Ties := ts.filter r.out ++ [tie r.a r.c, tie r.b r.d]
theorem mem_exch {ts : Ties} {r : Row} {t : Nat × Nat} : t ∈ exch ts r ↔ (t ∈ ts ∧ t ≠ tie r.a r.b ∧ t ≠ tie r.c r.d) ∨ t = tie r.a r.c ∨ t = tie r.b r.d := by
  unfold exch
  rw [List.mem_append, List.mem_filter, List.mem_cons, List.mem_singleton]
  unfold Row.out
  rw [decide_eq_true_iff]
structure Fit (m : Nat) (ts : Ties) (r : Row) : Prop where
  lt : r.a < m ∧ r.b < m ∧ r.c < m ∧ r.d < m
  nd : [r.a, r.b, r.c, r.d].Nodup
  in1 : tie r.a r.b ∈ ts
  in2 : tie r.c r.d ∈ ts
  out1 : tie r.a r.c ∉ ts
  out2 : tie r.b r.d ∉ ts
inductive Chain (m : Nat) : Ties → List Row → Prop
  | nil {ts : Ties} : ncomp m ts = 1 → Chain m ts []
  | cons {ts : Ties} {r : Row} {rs : List Row} : Fit m ts r → ncomp m (exch ts r) + 1 = ncomp m ts → Chain m (exch ts r) rs → Chain m ts (r :: rs)
section
variable {m : Nat} {ts us : Ties} {r : Row}
theorem adj_congr (h : ∀ t, t ∈ us ↔ t ∈ ts) {a b : Nat} : Adj us a b ↔ Adj ts a b := or_congr (h _) (h _)
theorem cn_congr (h : ∀ t, t ∈ us ↔ t ∈ ts) {a b : Nat} : Cn us a b ↔ Cn ts a b := ⟨fun x => x.mono fun t q => (h t).mp q, fun x => x.mono fun t q => (h t).mpr q⟩
theorem ncomp_mem (h : ∀ t, t ∈ us ↔ t ∈ ts) : ncomp m us = ncomp m ts := ncomp_congr fun _ _ => cn_congr h
theorem exch_mem (h : ∀ t, t ∈ us ↔ t ∈ ts) (t : Nat × Nat) : t ∈ exch us r ↔ t ∈ exch ts r := by rw [mem_exch, mem_exch, h]
theorem Fit.mem (h : ∀ t, t ∈ us ↔ t ∈ ts) (f : Fit m ts r) : Fit m us r := ⟨f.lt, f.nd, (h _).mpr f.in1, (h _).mpr f.in2, fun q => f.out1 ((h _).mp q), fun q => f.out2 ((h _).mp q)⟩
theorem Chain.mem {rs : List Row} (c : Chain m ts rs) : ∀ {us : Ties}, (∀ t, t ∈ us ↔ t ∈ ts) → Chain m us rs := by
  induction c with
  | nil e => exact fun h => .nil ((ncomp_mem h).trans e)
  | cons f e _ ih => exact fun h => .cons (f.mem h) (by rw [ncomp_mem h, ncomp_mem (exch_mem h)]; exact e) (ih (exch_mem h))
theorem Fit.ne (f : Fit m ts r) : r.a ≠ r.b ∧ r.a ≠ r.c ∧ r.a ≠ r.d ∧ r.b ≠ r.c ∧ r.b ≠ r.d ∧ r.c ≠ r.d := by
  have := f.nd
  simp only [List.nodup_cons, List.mem_cons, List.not_mem_nil, or_false, not_or, not_false_eq_true, List.nodup_nil, and_true] at this
  exact ⟨this.1.1, this.1.2.1, this.1.2.2, this.2.1.1, this.2.1.2, this.2.2⟩
theorem tie_web {a b : Nat} (ne : a ≠ b) (ha : a < m) (hb : b < m) : (tie a b).1 < (tie a b).2 ∧ (tie a b).2 < m := by
  unfold tie; dsimp only; omega
theorem tie_inj {a b c d : Nat} (h : tie a b = tie c d) : (a = c ∧ b = d) ∨ (a = d ∧ b = c) := by
  unfold tie at h
  injection h with h1 h2
  omega
theorem Fit.web (w : Web m ts) (f : Fit m ts r) : Web m (exch ts r) := by
  obtain ⟨n1, n2, n3, n4, n5, n6⟩ := f.ne
  obtain ⟨l1, l2, l3, l4⟩ := f.lt
  refine ⟨List.nodup_append.mpr ⟨w.1.filter _, List.nodup_cons.mpr ⟨fun q => ?_, List.pairwise_singleton _ _⟩, fun x hx y hy e => ?_⟩, fun t ht => ?_⟩
  · rcases tie_inj (List.mem_singleton.mp q) with ⟨q, _⟩ | ⟨q, _⟩
    · exact n1 q
    · exact n3 q
  · have hx := (List.mem_filter.mp hx).1
    rcases List.mem_cons.mp hy with q | q
    · exact f.out1 (q ▸ e ▸ hx)
    · exact f.out2 (List.mem_singleton.mp q ▸ e ▸ hx)
  · rcases mem_exch.mp ht with q | q | q
    · exact w.2 t q.1
    · rw [q]; exact tie_web n2 l1 l3
    · rw [q]; exact tie_web n5 l2 l4
theorem filter2 {l : Ties} (nd : l.Nodup) {x y : Nat × Nat} (hx : x ∈ l) (hy : y ∈ l) (ne : x ≠ y) : (l.filter fun t => decide (t ≠ x ∧ t ≠ y)).length + 2 = l.length := by
  induction l with
  | nil => exact nomatch hx
  | cons t l ih =>
    obtain ⟨n1, n2⟩ := List.nodup_cons.mp nd
    have one : ∀ {z : Nat × Nat}, z ∈ l → (∀ t ∈ l, (decide (t ≠ x ∧ t ≠ y)) = decide (t ≠ z)) → (l.filter fun t => decide (t ≠ x ∧ t ≠ y)).length + 1 = l.length := fun {z} hz h => by
      rw [List.filter_congr h]
      clear ih hx hy h nd n1
      induction l with
      | nil => exact nomatch hz
      | cons u l ih =>
        obtain ⟨m1, m2⟩ := List.nodup_cons.mp n2
        rcases List.mem_cons.mp hz with e0 | hz
        · subst e0
          rw [List.filter_cons, if_neg (by simp), List.length_cons, List.filter_eq_self.mpr fun t ht => decide_eq_true (show t ≠ z from fun e => m1 (e ▸ ht))]
        · rw [List.filter_cons, if_pos (decide_eq_true (show u ≠ z from fun e => m1 (e ▸ hz))), List.length_cons, List.length_cons, ih m2 hz]
    rw [List.filter_cons, List.length_cons]
    by_cases c1 : t = x
    · subst c1
      rw [if_neg (by simp), ← one ((List.mem_cons.mp hy).resolve_left fun e => ne e.symm) fun u hu => by
        have : u ≠ t := fun e => n1 (e ▸ hu)
        simp [this]]
    · by_cases c2 : t = y
      · subst c2
        rw [if_neg (by simp), ← one ((List.mem_cons.mp hx).resolve_left fun e => c1 e.symm) fun u hu => by
          have : u ≠ t := fun e => n1 (e ▸ hu)
          simp [this]]
      · rw [if_pos (decide_eq_true ⟨c1, c2⟩), List.length_cons, ← ih n2 ((List.mem_cons.mp hx).resolve_left fun e => c1 e.symm) ((List.mem_cons.mp hy).resolve_left fun e => c2 e.symm)]
theorem Fit.len (w : Web m ts) (f : Fit m ts r) : (exch ts r).length = ts.length := by
  obtain ⟨n1, n2, n3, n4, n5, n6⟩ := f.ne
  unfold exch
  rw [List.length_append]
  exact filter2 w.1 f.in1 f.in2 fun q => (tie_inj q).elim (fun q => n2 q.1) fun q => n3 q.1
/-- no point without a tie -/
noncomputable def Full (m : Nat) (ts : Ties) : Prop := ∀ x, x < m → ∃ y, Adj ts x y
theorem adj_tie {a b : Nat} (h : tie a b ∈ ts) : Adj ts a b ∧ Adj ts b a := ⟨tie_adj h, (tie_adj h).symm⟩
theorem Fit.full (f : Fit m ts r) (h : Full m ts) : Full m (exch ts r) := fun x hx => by
  have t1 : tie r.a r.c ∈ exch ts r := mem_exch.mpr (.inr (.inl rfl))
  have t2 : tie r.b r.d ∈ exch ts r := mem_exch.mpr (.inr (.inr rfl))
  by_cases c1 : x = r.a
  · exact ⟨r.c, c1 ▸ (adj_tie t1).1⟩
  by_cases c2 : x = r.b
  · exact ⟨r.d, c2 ▸ (adj_tie t2).1⟩
  by_cases c3 : x = r.c
  · exact ⟨r.a, c3 ▸ (adj_tie t1).2⟩
  by_cases c4 : x = r.d
  · exact ⟨r.b, c4 ▸ (adj_tie t2).2⟩
  obtain ⟨y, hy⟩ := h x hx
  have keep : ∀ t : Nat × Nat, t ∈ ts → (t.1 = x ∨ t.2 = x) → t ∈ exch ts r := fun t ht hx => mem_exch.mpr (.inl ⟨ht, fun e => by
    rw [e] at hx; unfold tie at hx; dsimp only at hx; omega, fun e => by
    rw [e] at hx; unfold tie at hx; dsimp only at hx; omega⟩)
  exact ⟨y, hy.imp (fun q => keep _ q (.inl rfl)) fun q => keep _ q (.inr rfl)⟩
/-- a spare tie and a tie of another piece -/
theorem join_step (w : Web m ts) {e f : Nat × Nat} (he : e ∈ ts) (hf : f ∈ ts) (sp : ncomp m (wo ts e) = ncomp m ts) (far : ¬ Cn ts e.1 f.1) : Fit m ts ⟨e.1, e.2, f.1, f.2⟩ ∧ ncomp m (exch ts ⟨e.1, e.2, f.1, f.2⟩) + 1 = ncomp m ts := by
  have we := w.2 e he
  have wf := w.2 f hf
  have ce : Cn ts e.1 e.2 := .one (.inl he)
  have cf : Cn ts f.1 f.2 := .one (.inl hf)
  have te : tie e.1 e.2 = e := tie_lt we.1
  have tf : tie f.1 f.2 = f := tie_lt wf.1
  have no : ∀ {x y}, Cn ts e.1 x → Cn ts f.1 y → x ≠ y := fun a b q => far (a.trans (q ▸ b.symm))
  refine ⟨⟨⟨by dsimp only; omega, we.2, by dsimp only; omega, wf.2⟩, ?_, te.symm ▸ he, tf.symm ▸ hf, fun q => far (.one (tie_adj q)), fun q => far (ce.trans ((Cn.one (tie_adj q)).trans cf.symm))⟩, ?_⟩
  · simp only [List.nodup_cons, List.mem_cons, List.not_mem_nil, or_false, not_or, not_false_eq_true, List.nodup_nil, and_true]
    exact ⟨⟨Nat.ne_of_lt we.1, no .refl .refl, no .refl cf⟩, ⟨no ce .refl, no ce cf⟩, Nat.ne_of_lt wf.1⟩
  · refine joins w he hf sp far fun a b => ?_
    have key : ∀ {a b x y : Nat}, (a, b) = tie x y ∨ (b, a) = tie x y ↔ (a = x ∧ b = y) ∨ (a = y ∧ b = x) := by
      intro a b x y
      unfold tie
      rw [Prod.mk.injEq, Prod.mk.injEq]
      omega
    unfold Adj
    rw [mem_exch, mem_exch, mem_wo, mem_wo, mem_wo, mem_wo]
    dsimp only
    rw [te, tf, ← key, ← key]
    constructor
    · rintro ((h | h | h) | (h | h | h))
      · exact .inl (.inl ⟨⟨h.1, h.2.1⟩, h.2.2⟩)
      · exact .inr (.inl (.inl h))
      · exact .inr (.inr (.inl h))
      · exact .inl (.inr ⟨⟨h.1, h.2.1⟩, h.2.2⟩)
      · exact .inr (.inl (.inr h))
      · exact .inr (.inr (.inr h))
    · rintro ((h | h) | (h | h) | (h | h))
      · exact .inl (.inl ⟨h.1.1, h.1.2, h.2⟩)
      · exact .inr (.inl ⟨h.1.1, h.1.2, h.2⟩)
      · exact .inl (.inr (.inl h))
      · exact .inr (.inr (.inl h))
      · exact .inl (.inr (.inr h))
      · exact .inr (.inr (.inr h))
/-- where there is more than one piece, each piece has a tie outside -/
theorem far_tie (w : Web m ts) (fl : Full m ts) (c : 1 < ncomp m ts) (x : Nat) : ∃ f ∈ ts, ¬ Cn ts x f.1 := by
  refine Classical.byContradiction fun no => ?_
  have all : ∀ f ∈ ts, Cn ts x f.1 := fun f hf => Classical.byContradiction fun q => no ⟨f, hf, q⟩
  have cn : ∀ y, y < m → Cn ts x y := fun y hy => by
    obtain ⟨z, hz⟩ := fl y hy
    rcases hz with q | q
    · exact all _ q
    · exact (all _ q).trans (.one (.inl q))
  have le : (reps m ts).length ≤ 1 := by
    match h : reps m ts with
    | [] => exact Nat.zero_le _
    | [_] => exact Nat.le_refl _
    | a :: b :: l =>
      have ha := mem_reps.mp (h ▸ List.mem_cons_self : a ∈ reps m ts)
      have hb := mem_reps.mp (h ▸ List.mem_cons_of_mem _ List.mem_cons_self : b ∈ reps m ts)
      have nd : (reps m ts).Nodup := by unfold reps; exact List.nodup_range.filter _
      rw [h] at nd
      exact absurd (ha.2.uniq hb.2 ((cn a ha.1).symm.trans (cn b hb.1))) fun q => (List.nodup_cons.mp nd).1 (q ▸ List.mem_cons_self)
  unfold ncomp at c
  omega
end
end TC

namespace TC
open PySem
/-- a pair of points -/
noncomputable abbrev pr (t : Nat × Nat) : PyData := .tuple [.int t.1, .int t.2]
noncomputable def tf (t : Nat × Nat) : List Int := [(t.1 : Int), t.2]
noncomputable def tg (l : List Int) : Nat × Nat := ((l.getD 0 0).toNat, (l.getD 1 0).toNat)
theorem allOf_pairs (ts : Ties) : allOf tupOf (ofPairs ts) = some (ts.map tf) := by
  induction ts with
  | nil => rfl
  | cons t ts ih => show (allOf tupOf (ofPairs ts)).map (tf t :: ·) = _; rw [ih]; rfl
theorem sorted_pairs {v : V} {ts : Ties} {K : V → Prop} (e : rd v = some (.list (ofPairs ts))) (nd : ts.Nodup) (hz : ts.length < 64) (k : ∀ us : Ties, us.Perm ts → K (.own (.list (ofPairs us)))) : F1.sorted.W v K := by
  show got (rd v) _
  rw [e]
  show Option.elim (allOf intOf (ofPairs ts)) _ _
  cases ts with
  | nil => exact ⟨(by decide), by have := k [] (List.Perm.refl _); rw [show sortI [] = [] from List.mergeSort_nil]; exact this⟩
  | cons t ts =>
    show got (allOf tupOf (ofPairs (t :: ts))) _
    rw [allOf_pairs]
    have inj : ∀ a b : Nat × Nat, a ≠ b → tf a ≠ tf b := fun a b ne q => ne (by
      injection q with q1 q2
      injection q2 with q2 _
      exact Prod.ext (Int.natCast_inj.mp q1) (Int.natCast_inj.mp q2))
    refine ⟨⟨by rw [List.length_map]; exact hz, List.Pairwise.map _ (fun a b => inj a b) nd, fun q => ?_⟩, ?_⟩
    · obtain ⟨_, _, e⟩ := List.mem_map.mp q; exact nomatch e
    · have p : (sortT ((t :: ts).map tf)).Perm ((t :: ts).map tf) := List.mergeSort_perm _ _
      have ef : ((sortT ((t :: ts).map tf)).map tg).map tf = sortT ((t :: ts).map tf) := by
        rw [List.map_map]
        refine (List.map_congr_left fun l hl => ?_).trans (List.map_id _)
        obtain ⟨u, _, rfl⟩ := List.mem_map.mp (p.mem_iff.mp hl)
        rfl
      have eg : ((t :: ts).map tf).map tg = t :: ts := by
        rw [List.map_map]
        exact (List.map_congr_left fun u _ => rfl).trans (List.map_id _)
      have := k ((sortT ((t :: ts).map tf)).map tg) (by have q := p.map tg; rw [eg] at q; exact q)
      have e2 : ofTups (sortT ((t :: ts).map tf)) = ofPairs ((sortT ((t :: ts).map tf)).map tg) := by
        unfold ofTups ofPairs
        rw [List.map_map]
        refine List.map_congr_left fun l hl => ?_
        obtain ⟨u, _, rfl⟩ := List.mem_map.mp (p.mem_iff.mp hl)
        rfl
      rw [e2]; exact this
theorem eqv_pr (u t : Nat × Nat) : PyData.eqv (pr u) (pr t) = decide (u = t) := by
  simp only [PyData.eqv, PyData.eqvAll, Bool.and_true]
  refine Bool.eq_iff_iff.mpr ?_
  rw [Bool.and_eq_true, beq_iff_eq, beq_iff_eq, decide_eq_true_iff, Prod.ext_iff]
  exact and_congr Int.natCast_inj Int.natCast_inj
theorem any_pairs (ts : Ties) (t : Nat × Nat) : ((ofPairs ts).any fun z => PyData.eqv z (pr t)) = decide (t ∈ ts) := by
  refine Bool.eq_iff_iff.mpr ?_
  rw [List.any_eq_true, decide_eq_true_iff]
  constructor
  · rintro ⟨z, hz, e⟩
    obtain ⟨u, hu, rfl⟩ := List.mem_map.mp hz
    rw [eqv_pr] at e
    exact of_decide_eq_true e ▸ hu
  · exact fun h => ⟨pr t, List.mem_map.mpr ⟨t, h, rfl⟩, by rw [eqv_pr]; exact decide_eq_true rfl⟩
theorem ne_pr {u t : Nat × Nat} {K : V → Prop} (k : K (.d (.bool (!decide (u = t))))) : objW .ne (.d (pr u)) (.d (pr t)) K := by
  refine (show _ ∧ _ ∧ _ from ⟨(Sh.pair 0 _ _).shp, (Sh.pair 0 _ _).shp, ?_⟩)
  rw [eqv_pr]; exact k
theorem in_pr {w : V} {t : Nat × Nat} {ts : Ties} {K : V → Prop} (e : rd w = some (.list (ofPairs ts))) (k : K (.d (.bool (decide (t ∈ ts))))) : objW .isin (.d (pr t)) w K := by
  show got (rd w) _
  rw [e]
  refine (show _ ∧ _ ∧ _ from ⟨(Sh.pair 0 _ _).shp, (Sh.pairs 0 ts).shp, ?_⟩)
  rw [any_pairs]; exact k
theorem notin_pr {w : V} {t : Nat × Nat} {ts : Ties} {K : V → Prop} (e : rd w = some (.list (ofPairs ts))) (k : K (.d (.bool (!decide (t ∈ ts))))) : objW .notin (.d (pr t)) w K := by
  show got (rd w) _
  rw [e]
  refine (show _ ∧ _ ∧ _ from ⟨(Sh.pair 0 _ _).shp, (Sh.pairs 0 ts).shp, ?_⟩)
  rw [any_pairs]; exact k
theorem in_op {w : V} {t : Nat × Nat} {ts : Ties} {K : V → Prop} (e : rd w = some (.list (ofPairs ts))) (k : K (.d (.bool (decide (t ∈ ts))))) : opW .isin (.d (pr t)) w K := in_pr e k
theorem notin_op {w : V} {t : Nat × Nat} {ts : Ties} {K : V → Prop} (e : rd w = some (.list (ofPairs ts))) (k : K (.d (.bool (!decide (t ∈ ts))))) : opW .notin (.d (pr t)) w K := notin_pr e k
/-- some of a list of pairs -/
theorem compW_pairs {step : Rho → (Option PyData → Prop) → Prop} {ρ : Rho} {K : V → Prop} (p : Nat × Nat → Bool) (ts : Ties) : ∀ (as : Ties), (∀ t ∈ ts, ∀ k : Option PyData → Prop, k (cond (p t) (some (pr t)) none) → step (ρ ++ [some (.d (pr t))]) k) →
    as.length + ts.length < 1000 → K (.own (.list (ofPairs (as ++ ts.filter p)))) → compW step none ρ K ((ofPairs ts).map .d) (ofPairs as) := by
  induction ts with
  | nil => intro as _ hl h; rw [List.filter_nil, List.append_nil] at h; exact ⟨lim_lt (by rw [length_ofPairs]; exact hl), h⟩
  | cons t ts ih =>
    intro as h hl hk
    rw [List.length_cons] at hl
    refine h t (.head _) _ ?_
    rw [List.filter_cons] at hk
    cases c : p t with
    | false => rw [c, if_neg (by decide)] at hk; exact ih as (fun u hu => h u (.tail _ hu)) (by omega) hk
    | true =>
      rw [c, if_pos rfl, ← List.singleton_append, ← List.append_assoc] at hk
      have := ih (as ++ [t]) (fun u hu => h u (.tail _ hu)) (by rw [List.length_append, List.length_singleton]; omega) hk
      rw [← ofPairs_append] at this
      exact this
section
variable {n : Nat} {hm : Bool} {K : V → Prop} {X : Nat → Prop}
theorem tie_of_spec (a b : Nat) (k : K (.d (pr (tie a b)))) : wpCall T07 (n + 1) false 3 [.d (.int a), .d (.int b)] K X := by
  refine wpCall_in (fn := f_tie_of) rfl rfl (by decide) ?_
  dsimp only [f_tie_of, b_tie_of, wpSs, wpS, wpE, wpL, slotW, ownS, Rho.putL, frz, bindF, setD, setAll, bindT, F1.W, F2.W, F1.quiet, seqV, numW, isNon, r_got, r_rd_d, r_rd_own, r_rd_brw, r_nm_d, r_nm_own, r_nm_brw, r_nm_exc, r_low_int, r_low_list, r_arg_d, r_arg_own, r_arg_brw, r_arg_exc, r_kp_d, r_kp_own, r_keep_dt, r_keep_df, r_keep_ownt, r_keep_ownf, r_ret_d, r_ret_own, r_retm_d, r_retm_own, r_ifB, r_boolV, r_intV, r_argAll0, r_argAll1, r_keepAll0, r_keepAll1, r_seqOf_l, r_seqOf_t, r_listOf, r_ls_d, r_ls_own, r_keys_d, r_keys_own, r_keys_rg, r_it_dl, r_it_dt, r_it_own, r_it_brw, r_it_rg, r_itL_d, r_itL_own, r_itL_rg, r_has_ll, r_pv2, r_frz_d, r_frz_own, r_isi_int_d, r_isi_bool_d, r_isi_list_d, r_isi_tuple_d, r_isi_list_brw, r_isi_list_own, r_isi_exc, excIs, d_op, r_op_dl, r_op_dt, r_op_own, r_op_brw, r_op_ib, r_op_it, d_map0, d_map1, d_app0, d_app1, d_get0, d_get1, d_set0, d_set1, d_mod0, d_mod1, d_rep0, d_rep1, d_len0, d_len1, d_omap, d_obind, d_oelim, d_ct, d_cf, d_nt, d_nf, d_fand, d_tand, d_outn, d_outr, d_cmp1, d_cmp2, d_and1, d_and2, d_or1, d_or2, d_seq0, d_seq1, d_tst0, d_tst1, d_qt, d_qf, d_ownl, d_ownd, Nat.reduceSub, Nat.reduceAdd, r_retO_d, r_retO_own, r_pv4, r_op_bool, r_op_idl]
  have e1 : min (a : Int) b = ((min a b : Nat) : Int) := by omega
  have e2 : max (a : Int) b = ((max a b : Nat) : Int) := by omega
  rw [e1, e2]
  exact k
theorem tied_spec (a b : Nat) (k : K (.d (pr (tie a b)))) : wpCall T07 (n + 1) hm 16 [.d (.int a), .d (.int b)] K X := by
  refine wpCall_in (fn := f__law_tied) rfl rfl (by decide) ?_
  dsimp only [f__law_tied, b__law_tied, wpSs, wpS, wpE, wpL, slotW, ownS, Rho.putL, frz, bindF, setD, setAll, bindT, F1.W, F2.W, F1.quiet, seqV, numW, isNon, r_got, r_rd_d, r_rd_own, r_rd_brw, r_nm_d, r_nm_own, r_nm_brw, r_nm_exc, r_low_int, r_low_list, r_arg_d, r_arg_own, r_arg_brw, r_arg_exc, r_kp_d, r_kp_own, r_keep_dt, r_keep_df, r_keep_ownt, r_keep_ownf, r_ret_d, r_ret_own, r_retm_d, r_retm_own, r_ifB, r_boolV, r_intV, r_argAll0, r_argAll1, r_keepAll0, r_keepAll1, r_seqOf_l, r_seqOf_t, r_listOf, r_ls_d, r_ls_own, r_keys_d, r_keys_own, r_keys_rg, r_it_dl, r_it_dt, r_it_own, r_it_brw, r_it_rg, r_itL_d, r_itL_own, r_itL_rg, r_has_ll, r_pv2, r_frz_d, r_frz_own, r_isi_int_d, r_isi_bool_d, r_isi_list_d, r_isi_tuple_d, r_isi_list_brw, r_isi_list_own, r_isi_exc, excIs, d_op, r_op_dl, r_op_dt, r_op_own, r_op_brw, r_op_ib, r_op_it, d_map0, d_map1, d_app0, d_app1, d_get0, d_get1, d_set0, d_set1, d_mod0, d_mod1, d_rep0, d_rep1, d_len0, d_len1, d_omap, d_obind, d_oelim, d_ct, d_cf, d_nt, d_nf, d_fand, d_tand, d_outn, d_outr, d_cmp1, d_cmp2, d_and1, d_and2, d_or1, d_or2, d_seq0, d_seq1, d_tst0, d_tst1, d_qt, d_qf, d_ownl, d_ownd, Nat.reduceSub, Nat.reduceAdd, r_retO_d, r_retO_own, r_pv4, r_op_bool, r_op_idl]
  unfold tie at k
  refine ifB_by (fun h => ?_) fun h => ?_
  · rw [Nat.min_eq_left (by omega), Nat.max_eq_right (by omega)] at k; exact k
  · rw [Nat.min_eq_right (by omega), Nat.max_eq_left (by omega)] at k; exact k
/-- a row of four points -/
noncomputable abbrev rw4 (r : Row) : PyData := .tuple [.int r.a, .int r.b, .int r.c, .int r.d]
theorem len_pairs {ts : Ties} (h : ts.length < 60) : (ofPairs ts).length < lim := by rw [length_ofPairs]; exact lim_lt (by omega)
theorem done_by_spec {m : Nat} {ts : Ties} {r : Row} (w : Web m ts) (f : Fit m ts r) (hl : ts.length < 60) (k : ∀ us : Ties, us.Perm (exch ts r) → K (.own (.list (ofPairs us)))) : wpCall T07 (n + 2) false 7 [.d (.list (ofPairs ts)), .d (rw4 r)] K X := by
  refine wpCall_in (fn := f_done_by) rfl rfl (by decide) ?_
  dsimp only [f_done_by, b_done_by, wpSs, wpS, wpE, wpL, slotW, ownS, Rho.putL, frz, bindF, setD, setAll, bindT, F1.W, F2.W, F1.quiet, seqV, numW, isNon, r_got, r_rd_d, r_rd_own, r_rd_brw, r_nm_d, r_nm_own, r_nm_brw, r_nm_exc, r_low_int, r_low_list, r_arg_d, r_arg_own, r_arg_brw, r_arg_exc, r_kp_d, r_kp_own, r_keep_dt, r_keep_df, r_keep_ownt, r_keep_ownf, r_ret_d, r_ret_own, r_retm_d, r_retm_own, r_ifB, r_boolV, r_intV, r_argAll0, r_argAll1, r_keepAll0, r_keepAll1, r_seqOf_l, r_seqOf_t, r_listOf, r_ls_d, r_ls_own, r_keys_d, r_keys_own, r_keys_rg, r_it_dl, r_it_dt, r_it_own, r_it_brw, r_it_rg, r_itL_d, r_itL_own, r_itL_rg, r_has_ll, r_pv2, r_frz_d, r_frz_own, r_isi_int_d, r_isi_bool_d, r_isi_list_d, r_isi_tuple_d, r_isi_list_brw, r_isi_list_own, r_isi_exc, excIs, d_op, r_op_dl, r_op_dt, r_op_own, r_op_brw, r_op_ib, r_op_it, d_map0, d_map1, d_app0, d_app1, d_get0, d_get1, d_set0, d_set1, d_mod0, d_mod1, d_rep0, d_rep1, d_len0, d_len1, d_omap, d_obind, d_oelim, d_ct, d_cf, d_nt, d_nf, d_fand, d_tand, d_outn, d_outr, d_cmp1, d_cmp2, d_and1, d_and2, d_or1, d_or2, d_seq0, d_seq1, d_tst0, d_tst1, d_qt, d_qf, d_ownl, d_ownd, Nat.reduceSub, Nat.reduceAdd, r_retO_d, r_retO_own, r_pv4, r_op_bool, r_op_idl]
  refine ⟨by rw [List.length_map]; exact len_pairs hl, compW_pairs r.out ts [] (fun t ht kk hk => ?_) (by simp only [List.length_nil]; omega) ?_⟩
  · dsimp only [wpSs, wpS, wpE, wpL, slotW, ownS, Rho.putL, frz, bindF, setD, setAll, bindT, F1.W, F2.W, F1.quiet, seqV, numW, isNon, r_got, r_rd_d, r_rd_own, r_rd_brw, r_nm_d, r_nm_own, r_nm_brw, r_nm_exc, r_low_int, r_low_list, r_arg_d, r_arg_own, r_arg_brw, r_arg_exc, r_kp_d, r_kp_own, r_keep_dt, r_keep_df, r_keep_ownt, r_keep_ownf, r_ret_d, r_ret_own, r_retm_d, r_retm_own, r_ifB, r_boolV, r_intV, r_argAll0, r_argAll1, r_keepAll0, r_keepAll1, r_seqOf_l, r_seqOf_t, r_listOf, r_ls_d, r_ls_own, r_keys_d, r_keys_own, r_keys_rg, r_it_dl, r_it_dt, r_it_own, r_it_brw, r_it_rg, r_itL_d, r_itL_own, r_itL_rg, r_has_ll, r_pv2, r_frz_d, r_frz_own, r_isi_int_d, r_isi_bool_d, r_isi_list_d, r_isi_tuple_d, r_isi_list_brw, r_isi_list_own, r_isi_exc, excIs, d_op, r_op_dl, r_op_dt, r_op_own, r_op_brw, r_op_ib, r_op_it, d_map0, d_map1, d_app0, d_app1, d_get0, d_get1, d_set0, d_set1, d_mod0, d_mod1, d_rep0, d_rep1, d_len0, d_len1, d_omap, d_obind, d_oelim, d_ct, d_cf, d_nt, d_nf, d_fand, d_tand, d_outn, d_outr, d_cmp1, d_cmp2, d_and1, d_and2, d_or1, d_or2, d_seq0, d_seq1, d_tst0, d_tst1, d_qt, d_qf, d_ownl, d_ownd, Nat.reduceSub, Nat.reduceAdd, r_retO_d, r_retO_own, r_pv4, r_op_bool, r_op_idl]
    refine tie_of_spec r.a r.b (ne_pr ?_)
    unfold Row.out at hk
    by_cases c1 : t = tie r.a r.b
    · rw [decide_eq_false fun q => q.1 c1] at hk; rw [decide_eq_true c1]; exact hk
    · rw [decide_eq_false c1]
      refine tie_of_spec r.c r.d (ne_pr ?_)
      by_cases c2 : t = tie r.c r.d
      · rw [decide_eq_false fun q => q.2 c2] at hk; rw [decide_eq_true c2]; exact hk
      · rw [decide_eq_true ⟨c1, c2⟩] at hk; rw [decide_eq_false c2]; exact hk
  · rw [List.nil_append]
    dsimp only [wpSs, wpS, wpE, wpL, slotW, ownS, Rho.putL, frz, bindF, setD, setAll, bindT, F1.W, F2.W, F1.quiet, seqV, numW, isNon, r_got, r_rd_d, r_rd_own, r_rd_brw, r_nm_d, r_nm_own, r_nm_brw, r_nm_exc, r_low_int, r_low_list, r_arg_d, r_arg_own, r_arg_brw, r_arg_exc, r_kp_d, r_kp_own, r_keep_dt, r_keep_df, r_keep_ownt, r_keep_ownf, r_ret_d, r_ret_own, r_retm_d, r_retm_own, r_ifB, r_boolV, r_intV, r_argAll0, r_argAll1, r_keepAll0, r_keepAll1, r_seqOf_l, r_seqOf_t, r_listOf, r_ls_d, r_ls_own, r_keys_d, r_keys_own, r_keys_rg, r_it_dl, r_it_dt, r_it_own, r_it_brw, r_it_rg, r_itL_d, r_itL_own, r_itL_rg, r_has_ll, r_pv2, r_frz_d, r_frz_own, r_isi_int_d, r_isi_bool_d, r_isi_list_d, r_isi_tuple_d, r_isi_list_brw, r_isi_list_own, r_isi_exc, excIs, d_op, r_op_dl, r_op_dt, r_op_own, r_op_brw, r_op_ib, r_op_it, d_map0, d_map1, d_app0, d_app1, d_get0, d_get1, d_set0, d_set1, d_mod0, d_mod1, d_rep0, d_rep1, d_len0, d_len1, d_omap, d_obind, d_oelim, d_ct, d_cf, d_nt, d_nf, d_fand, d_tand, d_outn, d_outr, d_cmp1, d_cmp2, d_and1, d_and2, d_or1, d_or2, d_seq0, d_seq1, d_tst0, d_tst1, d_qt, d_qf, d_ownl, d_ownd, Nat.reduceSub, Nat.reduceAdd, r_retO_d, r_retO_own, r_pv4, r_op_bool, r_op_idl]
    refine tie_of_spec r.a r.c (tie_of_spec r.b r.d ?_)
    have fl : (ts.filter r.out).length ≤ ts.length := List.length_filter_le ..
    refine (show _ ∧ _ from ⟨lim_lt (by rw [length_ofPairs]; simp only [List.length_cons, List.length_nil]; omega), ?_⟩)
    refine sorted_pairs (v := .own (.list (ofPairs (ts.filter r.out) ++ ofPairs [tie r.a r.c, tie r.b r.d]))) (ts := exch ts r) (congrArg some (congrArg PyData.list (ofPairs_append (ts.filter r.out) [tie r.a r.c, tie r.b r.d]))) (f.web w).1 (by rw [f.len w]; omega) fun us p => k us p
theorem left_spec {m : Nat} {ts : Ties} {r : Row} (w : Web m ts) (f : Fit m ts r) (hl : ts.length < 60) (k : ∀ us : Ties, us.Perm (exch ts r) → K (.own (.list (ofPairs us)))) : wpCall T07 (n + 2) false 20 [.d (.list (ofPairs ts)), .d (rw4 r)] K X := by
  refine wpCall_in (fn := f__law_left) rfl rfl (by decide) ?_
  dsimp only [f__law_left, b__law_left, wpSs, wpS, wpE, wpL, slotW, ownS, Rho.putL, frz, bindF, setD, setAll, bindT, F1.W, F2.W, F1.quiet, seqV, numW, isNon, r_got, r_rd_d, r_rd_own, r_rd_brw, r_nm_d, r_nm_own, r_nm_brw, r_nm_exc, r_low_int, r_low_list, r_arg_d, r_arg_own, r_arg_brw, r_arg_exc, r_kp_d, r_kp_own, r_keep_dt, r_keep_df, r_keep_ownt, r_keep_ownf, r_ret_d, r_ret_own, r_retm_d, r_retm_own, r_ifB, r_boolV, r_intV, r_argAll0, r_argAll1, r_keepAll0, r_keepAll1, r_seqOf_l, r_seqOf_t, r_listOf, r_ls_d, r_ls_own, r_keys_d, r_keys_own, r_keys_rg, r_it_dl, r_it_dt, r_it_own, r_it_brw, r_it_rg, r_itL_d, r_itL_own, r_itL_rg, r_has_ll, r_pv2, r_frz_d, r_frz_own, r_isi_int_d, r_isi_bool_d, r_isi_list_d, r_isi_tuple_d, r_isi_list_brw, r_isi_list_own, r_isi_exc, excIs, d_op, r_op_dl, r_op_dt, r_op_own, r_op_brw, r_op_ib, r_op_it, d_map0, d_map1, d_app0, d_app1, d_get0, d_get1, d_set0, d_set1, d_mod0, d_mod1, d_rep0, d_rep1, d_len0, d_len1, d_omap, d_obind, d_oelim, d_ct, d_cf, d_nt, d_nf, d_fand, d_tand, d_outn, d_outr, d_cmp1, d_cmp2, d_and1, d_and2, d_or1, d_or2, d_seq0, d_seq1, d_tst0, d_tst1, d_qt, d_qf, d_ownl, d_ownd, Nat.reduceSub, Nat.reduceAdd, r_retO_d, r_retO_own, r_pv4, r_op_bool, r_op_idl]
  refine ⟨by rw [List.length_map]; exact len_pairs hl, compW_pairs r.out ts [] (fun t ht kk hk => ?_) (by simp only [List.length_nil]; omega) ?_⟩
  · dsimp only [wpSs, wpS, wpE, wpL, slotW, ownS, Rho.putL, frz, bindF, setD, setAll, bindT, F1.W, F2.W, F1.quiet, seqV, numW, isNon, r_got, r_rd_d, r_rd_own, r_rd_brw, r_nm_d, r_nm_own, r_nm_brw, r_nm_exc, r_low_int, r_low_list, r_arg_d, r_arg_own, r_arg_brw, r_arg_exc, r_kp_d, r_kp_own, r_keep_dt, r_keep_df, r_keep_ownt, r_keep_ownf, r_ret_d, r_ret_own, r_retm_d, r_retm_own, r_ifB, r_boolV, r_intV, r_argAll0, r_argAll1, r_keepAll0, r_keepAll1, r_seqOf_l, r_seqOf_t, r_listOf, r_ls_d, r_ls_own, r_keys_d, r_keys_own, r_keys_rg, r_it_dl, r_it_dt, r_it_own, r_it_brw, r_it_rg, r_itL_d, r_itL_own, r_itL_rg, r_has_ll, r_pv2, r_frz_d, r_frz_own, r_isi_int_d, r_isi_bool_d, r_isi_list_d, r_isi_tuple_d, r_isi_list_brw, r_isi_list_own, r_isi_exc, excIs, d_op, r_op_dl, r_op_dt, r_op_own, r_op_brw, r_op_ib, r_op_it, d_map0, d_map1, d_app0, d_app1, d_get0, d_get1, d_set0, d_set1, d_mod0, d_mod1, d_rep0, d_rep1, d_len0, d_len1, d_omap, d_obind, d_oelim, d_ct, d_cf, d_nt, d_nf, d_fand, d_tand, d_outn, d_outr, d_cmp1, d_cmp2, d_and1, d_and2, d_or1, d_or2, d_seq0, d_seq1, d_tst0, d_tst1, d_qt, d_qf, d_ownl, d_ownd, Nat.reduceSub, Nat.reduceAdd, r_retO_d, r_retO_own, r_pv4, r_op_bool, r_op_idl]
    refine tied_spec r.a r.b (tied_spec r.c r.d ?_)
    dsimp only [wpSs, wpS, wpE, wpL, slotW, ownS, Rho.putL, frz, bindF, setD, setAll, bindT, F1.W, F2.W, F1.quiet, seqV, numW, isNon, r_got, r_rd_d, r_rd_own, r_rd_brw, r_nm_d, r_nm_own, r_nm_brw, r_nm_exc, r_low_int, r_low_list, r_arg_d, r_arg_own, r_arg_brw, r_arg_exc, r_kp_d, r_kp_own, r_keep_dt, r_keep_df, r_keep_ownt, r_keep_ownf, r_ret_d, r_ret_own, r_retm_d, r_retm_own, r_ifB, r_boolV, r_intV, r_argAll0, r_argAll1, r_keepAll0, r_keepAll1, r_seqOf_l, r_seqOf_t, r_listOf, r_ls_d, r_ls_own, r_keys_d, r_keys_own, r_keys_rg, r_it_dl, r_it_dt, r_it_own, r_it_brw, r_it_rg, r_itL_d, r_itL_own, r_itL_rg, r_has_ll, r_pv2, r_frz_d, r_frz_own, r_isi_int_d, r_isi_bool_d, r_isi_list_d, r_isi_tuple_d, r_isi_list_brw, r_isi_list_own, r_isi_exc, excIs, d_op, r_op_dl, r_op_dt, r_op_own, r_op_brw, r_op_ib, r_op_it, d_map0, d_map1, d_app0, d_app1, d_get0, d_get1, d_set0, d_set1, d_mod0, d_mod1, d_rep0, d_rep1, d_len0, d_len1, d_omap, d_obind, d_oelim, d_ct, d_cf, d_nt, d_nf, d_fand, d_tand, d_outn, d_outr, d_cmp1, d_cmp2, d_and1, d_and2, d_or1, d_or2, d_seq0, d_seq1, d_tst0, d_tst1, d_qt, d_qf, d_ownl, d_ownd, Nat.reduceSub, Nat.reduceAdd, r_retO_d, r_retO_own, r_pv4, r_op_bool, r_op_idl]
    refine notin_pr (t := t) (w := .own (.list [pr (tie r.a r.b), pr (tie r.c r.d)])) (ts := [tie r.a r.b, tie r.c r.d]) rfl ?_
    have e : (!decide (t ∈ [tie r.a r.b, tie r.c r.d])) = r.out t := by
      unfold Row.out
      rw [← decide_not]
      exact decide_eq_decide.mpr (by rw [List.mem_cons, List.mem_singleton, not_or])
    rw [e]
    revert hk
    cases r.out t <;> exact id
  · rw [List.nil_append]
    dsimp only [wpSs, wpS, wpE, wpL, slotW, ownS, Rho.putL, frz, bindF, setD, setAll, bindT, F1.W, F2.W, F1.quiet, seqV, numW, isNon, r_got, r_rd_d, r_rd_own, r_rd_brw, r_nm_d, r_nm_own, r_nm_brw, r_nm_exc, r_low_int, r_low_list, r_arg_d, r_arg_own, r_arg_brw, r_arg_exc, r_kp_d, r_kp_own, r_keep_dt, r_keep_df, r_keep_ownt, r_keep_ownf, r_ret_d, r_ret_own, r_retm_d, r_retm_own, r_ifB, r_boolV, r_intV, r_argAll0, r_argAll1, r_keepAll0, r_keepAll1, r_seqOf_l, r_seqOf_t, r_listOf, r_ls_d, r_ls_own, r_keys_d, r_keys_own, r_keys_rg, r_it_dl, r_it_dt, r_it_own, r_it_brw, r_it_rg, r_itL_d, r_itL_own, r_itL_rg, r_has_ll, r_pv2, r_frz_d, r_frz_own, r_isi_int_d, r_isi_bool_d, r_isi_list_d, r_isi_tuple_d, r_isi_list_brw, r_isi_list_own, r_isi_exc, excIs, d_op, r_op_dl, r_op_dt, r_op_own, r_op_brw, r_op_ib, r_op_it, d_map0, d_map1, d_app0, d_app1, d_get0, d_get1, d_set0, d_set1, d_mod0, d_mod1, d_rep0, d_rep1, d_len0, d_len1, d_omap, d_obind, d_oelim, d_ct, d_cf, d_nt, d_nf, d_fand, d_tand, d_outn, d_outr, d_cmp1, d_cmp2, d_and1, d_and2, d_or1, d_or2, d_seq0, d_seq1, d_tst0, d_tst1, d_qt, d_qf, d_ownl, d_ownd, Nat.reduceSub, Nat.reduceAdd, r_retO_d, r_retO_own, r_pv4, r_op_bool, r_op_idl]
    refine tied_spec r.a r.c (tied_spec r.b r.d ?_)
    have fl : (ts.filter r.out).length ≤ ts.length := List.length_filter_le ..
    refine (show _ ∧ _ from ⟨lim_lt (by rw [length_ofPairs]; simp only [List.length_cons, List.length_nil]; omega), ?_⟩)
    refine sorted_pairs (v := .own (.list (ofPairs (ts.filter r.out) ++ ofPairs [tie r.a r.c, tie r.b r.d]))) (ts := exch ts r) (congrArg some (congrArg PyData.list (ofPairs_append (ts.filter r.out) [tie r.a r.c, tie r.b r.d]))) (f.web w).1 (by rw [f.len w]; omega) fun us p => k us p
theorem fits_spec {m : Nat} {ts : Ties} {r : Row} (f : Fit m ts r) (k : K (.d (.bool true))) : wpCall T07 (n + 2) hm 19 [.d (.list (ofPairs ts)), .d (rw4 r)] K X := by
  refine wpCall_in (fn := f__law_fits) rfl rfl (by decide) ?_
  dsimp only [f__law_fits, b__law_fits, wpSs, wpS, wpE, wpL, slotW, ownS, Rho.putL, frz, bindF, setD, setAll, bindT, F1.W, F2.W, F1.quiet, seqV, numW, isNon, r_got, r_rd_d, r_rd_own, r_rd_brw, r_nm_d, r_nm_own, r_nm_brw, r_nm_exc, r_low_int, r_low_list, r_arg_d, r_arg_own, r_arg_brw, r_arg_exc, r_kp_d, r_kp_own, r_keep_dt, r_keep_df, r_keep_ownt, r_keep_ownf, r_ret_d, r_ret_own, r_retm_d, r_retm_own, r_ifB, r_boolV, r_intV, r_argAll0, r_argAll1, r_keepAll0, r_keepAll1, r_seqOf_l, r_seqOf_t, r_listOf, r_ls_d, r_ls_own, r_keys_d, r_keys_own, r_keys_rg, r_it_dl, r_it_dt, r_it_own, r_it_brw, r_it_rg, r_itL_d, r_itL_own, r_itL_rg, r_has_ll, r_pv2, r_frz_d, r_frz_own, r_isi_int_d, r_isi_bool_d, r_isi_list_d, r_isi_tuple_d, r_isi_list_brw, r_isi_list_own, r_isi_exc, excIs, d_op, r_op_dl, r_op_dt, r_op_own, r_op_brw, r_op_ib, r_op_it, d_map0, d_map1, d_app0, d_app1, d_get0, d_get1, d_set0, d_set1, d_mod0, d_mod1, d_rep0, d_rep1, d_len0, d_len1, d_omap, d_obind, d_oelim, d_ct, d_cf, d_nt, d_nf, d_fand, d_tand, d_outn, d_outr, d_cmp1, d_cmp2, d_and1, d_and2, d_or1, d_or2, d_seq0, d_seq1, d_tst0, d_tst1, d_qt, d_qf, d_ownl, d_ownd, Nat.reduceSub, Nat.reduceAdd, r_retO_d, r_retO_own, r_pv4, r_op_bool, r_op_idl]
  refine tied_spec r.a r.b (in_op rfl ?_)
  rw [decide_eq_true f.in1]
  refine tied_spec r.c r.d (in_op rfl ?_)
  rw [decide_eq_true f.in2]
  refine tied_spec r.a r.c (notin_op rfl ?_)
  rw [decide_eq_false f.out1]
  refine tied_spec r.b r.d (notin_op rfl ?_)
  rw [decide_eq_false f.out2]
  exact k
end
end TC

namespace TC
open PySem
theorem mem_pairsTo {m : Nat} {t : Nat × Nat} (h1 : t.1 < t.2) (h2 : t.2 < m) : t ∈ pairsTo m := by
  unfold pairsTo
  exact List.mem_flatMap.mpr ⟨t.2, List.mem_range.mpr h2, List.mem_map.mpr ⟨t.1, List.mem_range.mpr h1, rfl⟩⟩
theorem pairs_45 : ∀ m < 11, (pairsTo m).length ≤ 45 := by decide
theorem web_len {m : Nat} {ts : Ties} (w : Web m ts) (h : m ≤ 10) : ts.length ≤ 45 :=
  Nat.le_trans (List.Nodup.length_le_of_subset w.1 fun t ht => mem_pairsTo (w.2 t ht).1 (w.2 t ht).2) (pairs_45 m (by omega))
theorem comps_ncomp (m : Nat) (ts : Ties) : (comps m ts).length = ncomp m ts := by unfold comps ncomp; rw [List.length_map]
theorem web_wo {m : Nat} {ts : Ties} (w : Web m ts) (e : Nat × Nat) : Web m (wo ts e) := ⟨w.1.filter _, fun t ht => w.2 t (mem_wo.mp ht).1⟩
section
variable {n : Nat} {hm : Bool} {K : V → Prop} {X : Nat → Prop}
theorem len_comps {m : Nat} {ts : Ties} : (List.map (fun t => PyData.list (List.map PyData.int t)) ((comps m ts).map zs)).length = ncomp m ts := by rw [List.length_map, List.length_map, comps_ncomp]
theorem ncomp_le {m : Nat} {ts : Ties} (hz : m ≤ 10) : ncomp m ts ≤ 10 := by unfold ncomp reps; exact Nat.le_trans (List.length_filter_le ..) (by rw [List.length_range]; exact hz)
theorem spare_loop {m : Nat} {ts : Ties} (hz : m ≤ 10) (w : Web m ts) {Ko : KS} {us : Ties} : ∀ {s3 : Option V}, (∀ t ∈ us, ncomp m (wo ts t) = ncomp m ts → ∀ ρ, Ko (.ret (.d (pr t))) ρ) → ((∀ t ∈ us, ncomp m (wo ts t) ≠ ncomp m ts) → ∀ ρ, Ko .nxt ρ) →
    forW (fun x ρ' k => bindF (.one 3) x ρ' fun ρ'' => wpSs (wpCall T07 (n + 2)) false b_spare_tie_1 ρ'' k (fun c _ => X c)) Ko ((ofPairs us).map .d) [some (.d (.int m)), some (.d (.list (ofPairs ts))), some (.d (.int (ncomp m ts))), s3] := by
  have hl := web_len w hz
  induction us with
  | nil => exact fun _ h => h (fun _ q => nomatch q) _
  | cons t us ih =>
    intro s3 h1 h2
    rw [show (ofPairs (t :: us)).map V.d = V.d (pr t) :: (ofPairs us).map V.d from rfl]
    dsimp only [forW, b_spare_tie_1, wpSs, wpS, wpE, wpL, slotW, ownS, Rho.putL, frz, bindF, setD, setAll, bindT, F1.W, F2.W, F1.quiet, seqV, numW, isNon, r_got, r_rd_d, r_rd_own, r_rd_brw, r_nm_d, r_nm_own, r_nm_brw, r_nm_exc, r_low_int, r_low_list, r_arg_d, r_arg_own, r_arg_brw, r_arg_exc, r_kp_d, r_kp_own, r_keep_dt, r_keep_df, r_keep_ownt, r_keep_ownf, r_ret_d, r_ret_own, r_retm_d, r_retm_own, r_ifB, r_boolV, r_intV, r_argAll0, r_argAll1, r_keepAll0, r_keepAll1, r_seqOf_l, r_seqOf_t, r_listOf, r_ls_d, r_ls_own, r_keys_d, r_keys_own, r_keys_rg, r_it_dl, r_it_dt, r_it_own, r_it_brw, r_it_rg, r_itL_d, r_itL_own, r_itL_rg, r_has_ll, r_pv2, r_frz_d, r_frz_own, r_isi_int_d, r_isi_bool_d, r_isi_list_d, r_isi_tuple_d, r_isi_list_brw, r_isi_list_own, r_isi_exc, excIs, d_op, r_op_dl, r_op_dt, r_op_own, r_op_brw, r_op_ib, r_op_it, d_map0, d_map1, d_app0, d_app1, d_get0, d_get1, d_set0, d_set1, d_mod0, d_mod1, d_rep0, d_rep1, d_len0, d_len1, d_omap, d_obind, d_oelim, d_ct, d_cf, d_nt, d_nf, d_fand, d_tand, d_outn, d_outr, d_cmp1, d_cmp2, d_and1, d_and2, d_or1, d_or2, d_seq0, d_seq1, d_tst0, d_tst1, d_qt, d_qf, d_ownl, d_ownd, Nat.reduceSub, Nat.reduceAdd, r_retO_d, r_retO_own, r_pv4, r_op_bool, r_op_idl]
    refine ⟨by rw [List.length_map]; exact len_pairs (by omega), compW_pairs (fun u => decide (u ≠ t)) ts [] (fun u hu kk hk => ?_) (by simp only [List.length_nil]; omega) ?_⟩
    · dsimp only [wpSs, wpS, wpE, wpL, slotW, ownS, Rho.putL, frz, bindF, setD, setAll, bindT, F1.W, F2.W, F1.quiet, seqV, numW, isNon, r_got, r_rd_d, r_rd_own, r_rd_brw, r_nm_d, r_nm_own, r_nm_brw, r_nm_exc, r_low_int, r_low_list, r_arg_d, r_arg_own, r_arg_brw, r_arg_exc, r_kp_d, r_kp_own, r_keep_dt, r_keep_df, r_keep_ownt, r_keep_ownf, r_ret_d, r_ret_own, r_retm_d, r_retm_own, r_ifB, r_boolV, r_intV, r_argAll0, r_argAll1, r_keepAll0, r_keepAll1, r_seqOf_l, r_seqOf_t, r_listOf, r_ls_d, r_ls_own, r_keys_d, r_keys_own, r_keys_rg, r_it_dl, r_it_dt, r_it_own, r_it_brw, r_it_rg, r_itL_d, r_itL_own, r_itL_rg, r_has_ll, r_pv2, r_frz_d, r_frz_own, r_isi_int_d, r_isi_bool_d, r_isi_list_d, r_isi_tuple_d, r_isi_list_brw, r_isi_list_own, r_isi_exc, excIs, d_op, r_op_dl, r_op_dt, r_op_own, r_op_brw, r_op_ib, r_op_it, d_map0, d_map1, d_app0, d_app1, d_get0, d_get1, d_set0, d_set1, d_mod0, d_mod1, d_rep0, d_rep1, d_len0, d_len1, d_omap, d_obind, d_oelim, d_ct, d_cf, d_nt, d_nf, d_fand, d_tand, d_outn, d_outr, d_cmp1, d_cmp2, d_and1, d_and2, d_or1, d_or2, d_seq0, d_seq1, d_tst0, d_tst1, d_qt, d_qf, d_ownl, d_ownd, Nat.reduceSub, Nat.reduceAdd, r_retO_d, r_retO_own, r_pv4, r_op_bool, r_op_idl]
      refine ne_pr ?_
      rw [decide_not] at hk
      revert hk
      cases decide (u = t) <;> exact id
    · rw [List.nil_append]
      have wt := web_wo w t
      refine pieces_by_spec m hz (wo ts t) (by have := web_len wt hz; omega) wt ?_
      dsimp only [lists, wpSs, wpS, wpE, wpL, slotW, ownS, Rho.putL, frz, bindF, setD, setAll, bindT, F1.W, F2.W, F1.quiet, seqV, numW, isNon, r_got, r_rd_d, r_rd_own, r_rd_brw, r_nm_d, r_nm_own, r_nm_brw, r_nm_exc, r_low_int, r_low_list, r_arg_d, r_arg_own, r_arg_brw, r_arg_exc, r_kp_d, r_kp_own, r_keep_dt, r_keep_df, r_keep_ownt, r_keep_ownf, r_ret_d, r_ret_own, r_retm_d, r_retm_own, r_ifB, r_boolV, r_intV, r_argAll0, r_argAll1, r_keepAll0, r_keepAll1, r_seqOf_l, r_seqOf_t, r_listOf, r_ls_d, r_ls_own, r_keys_d, r_keys_own, r_keys_rg, r_it_dl, r_it_dt, r_it_own, r_it_brw, r_it_rg, r_itL_d, r_itL_own, r_itL_rg, r_has_ll, r_pv2, r_frz_d, r_frz_own, r_isi_int_d, r_isi_bool_d, r_isi_list_d, r_isi_tuple_d, r_isi_list_brw, r_isi_list_own, r_isi_exc, excIs, d_op, r_op_dl, r_op_dt, r_op_own, r_op_brw, r_op_ib, r_op_it, d_map0, d_map1, d_app0, d_app1, d_get0, d_get1, d_set0, d_set1, d_mod0, d_mod1, d_rep0, d_rep1, d_len0, d_len1, d_omap, d_obind, d_oelim, d_ct, d_cf, d_nt, d_nf, d_fand, d_tand, d_outn, d_outr, d_cmp1, d_cmp2, d_and1, d_and2, d_or1, d_or2, d_seq0, d_seq1, d_tst0, d_tst1, d_qt, d_qf, d_ownl, d_ownd, Nat.reduceSub, Nat.reduceAdd, r_retO_d, r_retO_own, r_pv4, r_op_bool, r_op_idl]
      rw [len_comps]
      have le := ncomp_le (ts := wo ts t) hz
      refine ⟨lim_lt (by omega), ?_⟩
      refine ifB_by (fun e => h1 t (.head _) (Int.natCast_inj.mp e) _) fun e => ih (fun u hu => h1 u (.tail _ hu)) fun h => h2 fun u hu => ?_
      rcases List.mem_cons.mp hu with rfl | hu
      · exact fun q => e (congrArg Nat.cast q)
      · exact h u hu
theorem spare_spec {m : Nat} {ts : Ties} (hz : m ≤ 10) (w : Web m ts) (h : ∃ e ∈ ts, ncomp m (wo ts e) = ncomp m ts) (k : ∀ e ∈ ts, ncomp m (wo ts e) = ncomp m ts → K (.d (pr e))) : wpCall T07 (n + 3) false 9 [.d (.int m), .d (.list (ofPairs ts))] K X := by
  have hl := web_len w hz
  refine wpCall_in (fn := f_spare_tie) rfl rfl (by decide) ?_
  dsimp only [f_spare_tie, b_spare_tie, wpSs, wpS, wpE, wpL, slotW, ownS, Rho.putL, frz, bindF, setD, setAll, bindT, F1.W, F2.W, F1.quiet, seqV, numW, isNon, r_got, r_rd_d, r_rd_own, r_rd_brw, r_nm_d, r_nm_own, r_nm_brw, r_nm_exc, r_low_int, r_low_list, r_arg_d, r_arg_own, r_arg_brw, r_arg_exc, r_kp_d, r_kp_own, r_keep_dt, r_keep_df, r_keep_ownt, r_keep_ownf, r_ret_d, r_ret_own, r_retm_d, r_retm_own, r_ifB, r_boolV, r_intV, r_argAll0, r_argAll1, r_keepAll0, r_keepAll1, r_seqOf_l, r_seqOf_t, r_listOf, r_ls_d, r_ls_own, r_keys_d, r_keys_own, r_keys_rg, r_it_dl, r_it_dt, r_it_own, r_it_brw, r_it_rg, r_itL_d, r_itL_own, r_itL_rg, r_has_ll, r_pv2, r_frz_d, r_frz_own, r_isi_int_d, r_isi_bool_d, r_isi_list_d, r_isi_tuple_d, r_isi_list_brw, r_isi_list_own, r_isi_exc, excIs, d_op, r_op_dl, r_op_dt, r_op_own, r_op_brw, r_op_ib, r_op_it, d_map0, d_map1, d_app0, d_app1, d_get0, d_get1, d_set0, d_set1, d_mod0, d_mod1, d_rep0, d_rep1, d_len0, d_len1, d_omap, d_obind, d_oelim, d_ct, d_cf, d_nt, d_nf, d_fand, d_tand, d_outn, d_outr, d_cmp1, d_cmp2, d_and1, d_and2, d_or1, d_or2, d_seq0, d_seq1, d_tst0, d_tst1, d_qt, d_qf, d_ownl, d_ownd, Nat.reduceSub, Nat.reduceAdd, r_retO_d, r_retO_own, r_pv4, r_op_bool, r_op_idl]
  refine pieces_by_spec m hz ts (by omega) w ?_
  dsimp only [lists, wpSs, wpS, wpE, wpL, slotW, ownS, Rho.putL, frz, bindF, setD, setAll, bindT, F1.W, F2.W, F1.quiet, seqV, numW, isNon, r_got, r_rd_d, r_rd_own, r_rd_brw, r_nm_d, r_nm_own, r_nm_brw, r_nm_exc, r_low_int, r_low_list, r_arg_d, r_arg_own, r_arg_brw, r_arg_exc, r_kp_d, r_kp_own, r_keep_dt, r_keep_df, r_keep_ownt, r_keep_ownf, r_ret_d, r_ret_own, r_retm_d, r_retm_own, r_ifB, r_boolV, r_intV, r_argAll0, r_argAll1, r_keepAll0, r_keepAll1, r_seqOf_l, r_seqOf_t, r_listOf, r_ls_d, r_ls_own, r_keys_d, r_keys_own, r_keys_rg, r_it_dl, r_it_dt, r_it_own, r_it_brw, r_it_rg, r_itL_d, r_itL_own, r_itL_rg, r_has_ll, r_pv2, r_frz_d, r_frz_own, r_isi_int_d, r_isi_bool_d, r_isi_list_d, r_isi_tuple_d, r_isi_list_brw, r_isi_list_own, r_isi_exc, excIs, d_op, r_op_dl, r_op_dt, r_op_own, r_op_brw, r_op_ib, r_op_it, d_map0, d_map1, d_app0, d_app1, d_get0, d_get1, d_set0, d_set1, d_mod0, d_mod1, d_rep0, d_rep1, d_len0, d_len1, d_omap, d_obind, d_oelim, d_ct, d_cf, d_nt, d_nf, d_fand, d_tand, d_outn, d_outr, d_cmp1, d_cmp2, d_and1, d_and2, d_or1, d_or2, d_seq0, d_seq1, d_tst0, d_tst1, d_qt, d_qf, d_ownl, d_ownd, Nat.reduceSub, Nat.reduceAdd, r_retO_d, r_retO_own, r_pv4, r_op_bool, r_op_idl]
  rw [len_comps]
  have le := ncomp_le (ts := ts) hz
  refine ⟨lim_lt (by omega), by rw [List.length_map]; exact len_pairs (by omega), ?_⟩
  refine spare_loop hz w (fun t ht e ρ => k t ht e) fun no => ?_
  obtain ⟨e, he, q⟩ := h
  exact absurd q (no e he)
theorem comp_first {m : Nat} {ts : Ties} {x : Nat} (w : Web m ts) (hx : x < m) : ∃ cr, ((comps m ts).filter fun c => decide (x ∈ c)) = compOf m ts x :: cr := by
  obtain ⟨r, h1, h2⟩ := has_rep ts x
  have hr : r < m := Nat.lt_of_le_of_lt (h1 x h2.symm) hx
  have hc : compOf m ts r ∈ (comps m ts).filter fun c => decide (x ∈ c) := List.mem_filter.mpr ⟨List.mem_map.mpr ⟨r, mem_reps.mpr ⟨hr, h1⟩, rfl⟩, decide_eq_true (mem_compOf.mpr ⟨hx, h2⟩)⟩
  cases e : (comps m ts).filter fun c => decide (x ∈ c) with
  | nil => rw [e] at hc; exact nomatch hc
  | cons c cr =>
    have m1 := List.mem_filter.mp (e ▸ List.mem_cons_self : c ∈ (comps m ts).filter fun c => decide (x ∈ c))
    obtain ⟨p, _, rfl⟩ := List.mem_map.mp m1.1
    rw [compOf_cn (mem_compOf.mp (of_decide_eq_true m1.2)).2]
    exact ⟨cr, rfl⟩
/-- a list of points -/
noncomputable abbrev pts (c : List Nat) : PyData := .list (ofInts (zs c))
theorem any_zs (c : List Nat) (x : Nat) : ((ofInts (zs c)).any fun z => PyData.eqv z (.int x)) = decide (x ∈ c) := by
  refine Bool.eq_iff_iff.mpr ?_
  rw [List.any_eq_true, decide_eq_true_iff]
  have e : ∀ y : Nat, PyData.eqv (.int y) (.int x) = ((y : Int) == x) := fun y => by simp only [PyData.eqv]
  constructor
  · rintro ⟨z, hz, q⟩
    obtain ⟨i, hi, rfl⟩ := List.mem_map.mp hz
    obtain ⟨y, hy, rfl⟩ := List.mem_map.mp hi
    rw [e] at q
    exact Int.natCast_inj.mp (beq_iff_eq.mp q) ▸ hy
  · exact fun h => ⟨.int x, List.mem_map.mpr ⟨x, List.mem_map.mpr ⟨x, h, rfl⟩, rfl⟩, by rw [e]; exact beq_self_eq_true _⟩
theorem in_pts {x : Nat} {c : List Nat} {K : V → Prop} (k : K (.d (.bool (decide (x ∈ c))))) : objW .isin (.d (.int x)) (.d (pts c)) K := by
  refine (show _ ∧ _ ∧ _ from ⟨(Sh.int 0 _).shp, (Sh.ints 0 _).shp, ?_⟩)
  rw [any_zs]; exact k
theorem notin_pts {x : Nat} {c : List Nat} {K : V → Prop} (k : K (.d (.bool (!decide (x ∈ c))))) : objW .notin (.d (.int x)) (.d (pts c)) K := by
  refine (show _ ∧ _ ∧ _ from ⟨(Sh.int 0 _).shp, (Sh.ints 0 _).shp, ?_⟩)
  rw [any_zs]; exact k
theorem compW_pts {step : Rho → (Option PyData → Prop) → Prop} {ρ : Rho} {K : V → Prop} (p : List Nat → Bool) (cs : List (List Nat)) : ∀ (as : List PyData), (∀ c ∈ cs, ∀ k : Option PyData → Prop, k (cond (p c) (some (pts c)) none) → step (ρ ++ [some (.d (pts c))]) k) →
    as.length + cs.length < 1000 → K (.own (.list (as ++ (cs.filter p).map pts))) → compW step none ρ K ((cs.map pts).map .d) as := by
  induction cs with
  | nil => intro as _ hl h; rw [List.filter_nil, List.map_nil, List.append_nil] at h; exact ⟨lim_lt hl, h⟩
  | cons c cs ih =>
    intro as h hl hk
    rw [List.length_cons] at hl
    refine h c (.head _) _ ?_
    rw [List.filter_cons] at hk
    cases q : p c with
    | false => rw [q, if_neg (by decide)] at hk; exact ih as (fun u hu => h u (.tail _ hu)) (by omega) hk
    | true =>
      rw [q, if_pos rfl, List.map_cons, ← List.singleton_append, ← List.append_assoc] at hk
      exact ih (as ++ [pts c]) (fun u hu => h u (.tail _ hu)) (by rw [List.length_append, List.length_singleton]; omega) hk
theorem idx_o0 {a : PyData} {r : List PyData} {K : V → Prop} (k : K (.d a)) : got (idxV (.own (.list (a :: r))) 0) K := by rw [r_idx_ownl (by decide) (by decide)]; exact k
noncomputable abbrev juR (m : Nat) (ts now : Ties) (rows : List Row) (a b c d e : Option V) : Rho := [some (.d (.int m)), some (.d (.list (ofPairs ts))), some (.d (.list (ofPairs now))), some (.own (.list (rows.map rw4))), a, b, c, d, e]
theorem ju_turn {m : Nat} {ts now : Ties} {rows : List Row} (hz : m ≤ 10) (w : Web m now) (fl : Full m now) (l : m ≤ now.length + 1) (c1 : 1 < ncomp m now) (hr : rows.length < 100) {a b c d e : Option V} {k : KS}
    (q : ∀ r us a b c d e, Fit m now r → ncomp m (exch now r) + 1 = ncomp m now → us.Perm (exch now r) → k .nxt (juR m ts us (rows ++ [r]) a b c d e)) :
    wpSs (wpCall T07 (n + 3)) false b_joined_up_1 (juR m ts now rows a b c d e) k (fun c _ => X c) := by
  have hl := web_len w hz
  dsimp only [b_joined_up_1, wpSs, wpS, wpE, wpL, slotW, ownS, Rho.putL, frz, bindF, setD, setAll, bindT, F1.W, F2.W, F1.quiet, seqV, numW, isNon, r_got, r_rd_d, r_rd_own, r_rd_brw, r_nm_d, r_nm_own, r_nm_brw, r_nm_exc, r_low_int, r_low_list, r_arg_d, r_arg_own, r_arg_brw, r_arg_exc, r_kp_d, r_kp_own, r_keep_dt, r_keep_df, r_keep_ownt, r_keep_ownf, r_ret_d, r_ret_own, r_retm_d, r_retm_own, r_ifB, r_boolV, r_intV, r_argAll0, r_argAll1, r_keepAll0, r_keepAll1, r_seqOf_l, r_seqOf_t, r_listOf, r_ls_d, r_ls_own, r_keys_d, r_keys_own, r_keys_rg, r_it_dl, r_it_dt, r_it_own, r_it_brw, r_it_rg, r_itL_d, r_itL_own, r_itL_rg, r_has_ll, r_pv2, r_frz_d, r_frz_own, r_isi_int_d, r_isi_bool_d, r_isi_list_d, r_isi_tuple_d, r_isi_list_brw, r_isi_list_own, r_isi_exc, excIs, d_op, r_op_dl, r_op_dt, r_op_own, r_op_brw, r_op_ib, r_op_it, d_map0, d_map1, d_app0, d_app1, d_get0, d_get1, d_set0, d_set1, d_mod0, d_mod1, d_rep0, d_rep1, d_len0, d_len1, d_omap, d_obind, d_oelim, d_ct, d_cf, d_nt, d_nf, d_fand, d_tand, d_outn, d_outr, d_cmp1, d_cmp2, d_and1, d_and2, d_or1, d_or2, d_seq0, d_seq1, d_tst0, d_tst1, d_qt, d_qf, d_ownl, d_ownd, Nat.reduceSub, Nat.reduceAdd, r_retO_d, r_retO_own, r_pv4, r_op_bool, r_op_idl]
  refine spare_spec hz w (has_spare w l c1) fun e he sp => ?_
  have we := w.2 e he
  dsimp only [wpSs, wpS, wpE, wpL, slotW, ownS, Rho.putL, frz, bindF, setD, setAll, bindT, F1.W, F2.W, F1.quiet, seqV, numW, isNon, r_got, r_rd_d, r_rd_own, r_rd_brw, r_nm_d, r_nm_own, r_nm_brw, r_nm_exc, r_low_int, r_low_list, r_arg_d, r_arg_own, r_arg_brw, r_arg_exc, r_kp_d, r_kp_own, r_keep_dt, r_keep_df, r_keep_ownt, r_keep_ownf, r_ret_d, r_ret_own, r_retm_d, r_retm_own, r_ifB, r_boolV, r_intV, r_argAll0, r_argAll1, r_keepAll0, r_keepAll1, r_seqOf_l, r_seqOf_t, r_listOf, r_ls_d, r_ls_own, r_keys_d, r_keys_own, r_keys_rg, r_it_dl, r_it_dt, r_it_own, r_it_brw, r_it_rg, r_itL_d, r_itL_own, r_itL_rg, r_has_ll, r_pv2, r_frz_d, r_frz_own, r_isi_int_d, r_isi_bool_d, r_isi_list_d, r_isi_tuple_d, r_isi_list_brw, r_isi_list_own, r_isi_exc, excIs, d_op, r_op_dl, r_op_dt, r_op_own, r_op_brw, r_op_ib, r_op_it, d_map0, d_map1, d_app0, d_app1, d_get0, d_get1, d_set0, d_set1, d_mod0, d_mod1, d_rep0, d_rep1, d_len0, d_len1, d_omap, d_obind, d_oelim, d_ct, d_cf, d_nt, d_nf, d_fand, d_tand, d_outn, d_outr, d_cmp1, d_cmp2, d_and1, d_and2, d_or1, d_or2, d_seq0, d_seq1, d_tst0, d_tst1, d_qt, d_qf, d_ownl, d_ownd, Nat.reduceSub, Nat.reduceAdd, r_retO_d, r_retO_own, r_pv4, r_op_bool, r_op_idl]
  refine pieces_by_spec m hz now (by omega) w ?_
  have el : lists ((comps m now).map zs) = .list ((comps m now).map pts) := by unfold lists; rw [List.map_map]; rfl
  rw [el]
  dsimp only [wpSs, wpS, wpE, wpL, slotW, ownS, Rho.putL, frz, bindF, setD, setAll, bindT, F1.W, F2.W, F1.quiet, seqV, numW, isNon, r_got, r_rd_d, r_rd_own, r_rd_brw, r_nm_d, r_nm_own, r_nm_brw, r_nm_exc, r_low_int, r_low_list, r_arg_d, r_arg_own, r_arg_brw, r_arg_exc, r_kp_d, r_kp_own, r_keep_dt, r_keep_df, r_keep_ownt, r_keep_ownf, r_ret_d, r_ret_own, r_retm_d, r_retm_own, r_ifB, r_boolV, r_intV, r_argAll0, r_argAll1, r_keepAll0, r_keepAll1, r_seqOf_l, r_seqOf_t, r_listOf, r_ls_d, r_ls_own, r_keys_d, r_keys_own, r_keys_rg, r_it_dl, r_it_dt, r_it_own, r_it_brw, r_it_rg, r_itL_d, r_itL_own, r_itL_rg, r_has_ll, r_pv2, r_frz_d, r_frz_own, r_isi_int_d, r_isi_bool_d, r_isi_list_d, r_isi_tuple_d, r_isi_list_brw, r_isi_list_own, r_isi_exc, excIs, d_op, r_op_dl, r_op_dt, r_op_own, r_op_brw, r_op_ib, r_op_it, d_map0, d_map1, d_app0, d_app1, d_get0, d_get1, d_set0, d_set1, d_mod0, d_mod1, d_rep0, d_rep1, d_len0, d_len1, d_omap, d_obind, d_oelim, d_ct, d_cf, d_nt, d_nf, d_fand, d_tand, d_outn, d_outr, d_cmp1, d_cmp2, d_and1, d_and2, d_or1, d_or2, d_seq0, d_seq1, d_tst0, d_tst1, d_qt, d_qf, d_ownl, d_ownd, Nat.reduceSub, Nat.reduceAdd, r_retO_d, r_retO_own, r_pv4, r_op_bool, r_op_idl]
  have le := ncomp_le (ts := now) hz
  obtain ⟨cr, ec⟩ := comp_first (x := e.1) w (by omega)
  refine ⟨lim_lt (by rw [List.length_map, List.length_map, comps_ncomp]; omega), compW_pts (fun c => decide (e.1 ∈ c)) (comps m now) [] (fun c hc kk hk => ?_) (by rw [comps_ncomp]; simp only [List.length_nil]; omega) ?_⟩
  · dsimp only [wpSs, wpS, wpE, wpL, slotW, ownS, Rho.putL, frz, bindF, setD, setAll, bindT, F1.W, F2.W, F1.quiet, seqV, numW, isNon, r_got, r_rd_d, r_rd_own, r_rd_brw, r_nm_d, r_nm_own, r_nm_brw, r_nm_exc, r_low_int, r_low_list, r_arg_d, r_arg_own, r_arg_brw, r_arg_exc, r_kp_d, r_kp_own, r_keep_dt, r_keep_df, r_keep_ownt, r_keep_ownf, r_ret_d, r_ret_own, r_retm_d, r_retm_own, r_ifB, r_boolV, r_intV, r_argAll0, r_argAll1, r_keepAll0, r_keepAll1, r_seqOf_l, r_seqOf_t, r_listOf, r_ls_d, r_ls_own, r_keys_d, r_keys_own, r_keys_rg, r_it_dl, r_it_dt, r_it_own, r_it_brw, r_it_rg, r_itL_d, r_itL_own, r_itL_rg, r_has_ll, r_pv2, r_frz_d, r_frz_own, r_isi_int_d, r_isi_bool_d, r_isi_list_d, r_isi_tuple_d, r_isi_list_brw, r_isi_list_own, r_isi_exc, excIs, d_op, r_op_dl, r_op_dt, r_op_own, r_op_brw, r_op_ib, r_op_it, d_map0, d_map1, d_app0, d_app1, d_get0, d_get1, d_set0, d_set1, d_mod0, d_mod1, d_rep0, d_rep1, d_len0, d_len1, d_omap, d_obind, d_oelim, d_ct, d_cf, d_nt, d_nf, d_fand, d_tand, d_outn, d_outr, d_cmp1, d_cmp2, d_and1, d_and2, d_or1, d_or2, d_seq0, d_seq1, d_tst0, d_tst1, d_qt, d_qf, d_ownl, d_ownd, Nat.reduceSub, Nat.reduceAdd, r_retO_d, r_retO_own, r_pv4, r_op_bool, r_op_idl]
    refine in_pts ?_
    revert hk
    cases decide (e.1 ∈ c) <;> exact id
  · rw [List.nil_append, ec]
    refine idx_o0 ?_
    dsimp only [wpSs, wpS, wpE, wpL, slotW, ownS, Rho.putL, frz, bindF, setD, setAll, bindT, F1.W, F2.W, F1.quiet, seqV, numW, isNon, r_got, r_rd_d, r_rd_own, r_rd_brw, r_nm_d, r_nm_own, r_nm_brw, r_nm_exc, r_low_int, r_low_list, r_arg_d, r_arg_own, r_arg_brw, r_arg_exc, r_kp_d, r_kp_own, r_keep_dt, r_keep_df, r_keep_ownt, r_keep_ownf, r_ret_d, r_ret_own, r_retm_d, r_retm_own, r_ifB, r_boolV, r_intV, r_argAll0, r_argAll1, r_keepAll0, r_keepAll1, r_seqOf_l, r_seqOf_t, r_listOf, r_ls_d, r_ls_own, r_keys_d, r_keys_own, r_keys_rg, r_it_dl, r_it_dt, r_it_own, r_it_brw, r_it_rg, r_itL_d, r_itL_own, r_itL_rg, r_has_ll, r_pv2, r_frz_d, r_frz_own, r_isi_int_d, r_isi_bool_d, r_isi_list_d, r_isi_tuple_d, r_isi_list_brw, r_isi_list_own, r_isi_exc, excIs, d_op, r_op_dl, r_op_dt, r_op_own, r_op_brw, r_op_ib, r_op_it, d_map0, d_map1, d_app0, d_app1, d_get0, d_get1, d_set0, d_set1, d_mod0, d_mod1, d_rep0, d_rep1, d_len0, d_len1, d_omap, d_obind, d_oelim, d_ct, d_cf, d_nt, d_nf, d_fand, d_tand, d_outn, d_outr, d_cmp1, d_cmp2, d_and1, d_and2, d_or1, d_or2, d_seq0, d_seq1, d_tst0, d_tst1, d_qt, d_qf, d_ownl, d_ownd, Nat.reduceSub, Nat.reduceAdd, r_retO_d, r_retO_own, r_pv4, r_op_bool, r_op_idl]
    obtain ⟨f0, hf0, nf0⟩ := far_tie w fl c1 e.1
    have ne : now.filter (fun t => !decide (t.1 ∈ compOf m now e.1)) ≠ [] := fun q => by
      have : f0 ∈ now.filter (fun t => !decide (t.1 ∈ compOf m now e.1)) := List.mem_filter.mpr ⟨hf0, by rw [decide_eq_false fun q => nf0 (mem_compOf.mp q).2]; rfl⟩
      rw [q] at this; exact nomatch this
    obtain ⟨f, fr, ef⟩ := List.exists_cons_of_ne_nil ne
    have hf := List.mem_filter.mp (ef ▸ List.mem_cons_self : f ∈ now.filter (fun t => !decide (t.1 ∈ compOf m now e.1)))
    have wf := w.2 f hf.1
    have far : ¬ Cn now e.1 f.1 := fun x => by
      have h2 := hf.2
      rw [decide_eq_true (mem_compOf.mpr ⟨by omega, x⟩)] at h2; exact nomatch h2
    refine ⟨by rw [List.length_map]; exact len_pairs (by omega), compW_pairs (fun t => !decide (t.1 ∈ compOf m now e.1)) now [] (fun t ht kk hk => ?_) (by simp only [List.length_nil]; omega) ?_⟩
    · dsimp only [wpSs, wpS, wpE, wpL, slotW, ownS, Rho.putL, frz, bindF, setD, setAll, bindT, F1.W, F2.W, F1.quiet, seqV, numW, isNon, r_got, r_rd_d, r_rd_own, r_rd_brw, r_nm_d, r_nm_own, r_nm_brw, r_nm_exc, r_low_int, r_low_list, r_arg_d, r_arg_own, r_arg_brw, r_arg_exc, r_kp_d, r_kp_own, r_keep_dt, r_keep_df, r_keep_ownt, r_keep_ownf, r_ret_d, r_ret_own, r_retm_d, r_retm_own, r_ifB, r_boolV, r_intV, r_argAll0, r_argAll1, r_keepAll0, r_keepAll1, r_seqOf_l, r_seqOf_t, r_listOf, r_ls_d, r_ls_own, r_keys_d, r_keys_own, r_keys_rg, r_it_dl, r_it_dt, r_it_own, r_it_brw, r_it_rg, r_itL_d, r_itL_own, r_itL_rg, r_has_ll, r_pv2, r_frz_d, r_frz_own, r_isi_int_d, r_isi_bool_d, r_isi_list_d, r_isi_tuple_d, r_isi_list_brw, r_isi_list_own, r_isi_exc, excIs, d_op, r_op_dl, r_op_dt, r_op_own, r_op_brw, r_op_ib, r_op_it, d_map0, d_map1, d_app0, d_app1, d_get0, d_get1, d_set0, d_set1, d_mod0, d_mod1, d_rep0, d_rep1, d_len0, d_len1, d_omap, d_obind, d_oelim, d_ct, d_cf, d_nt, d_nf, d_fand, d_tand, d_outn, d_outr, d_cmp1, d_cmp2, d_and1, d_and2, d_or1, d_or2, d_seq0, d_seq1, d_tst0, d_tst1, d_qt, d_qf, d_ownl, d_ownd, Nat.reduceSub, Nat.reduceAdd, r_retO_d, r_retO_own, r_pv4, r_op_bool, r_op_idl]
      refine idx_t0 ?_
      rw [r_op_idl]
      refine notin_pts ?_
      revert hk
      cases decide (t.1 ∈ compOf m now e.1) <;> exact id
    · rw [List.nil_append, ef]
      refine idx_o0 ?_
      dsimp only [wpSs, wpS, wpE, wpL, slotW, ownS, Rho.putL, frz, bindF, setD, setAll, bindT, F1.W, F2.W, F1.quiet, seqV, numW, isNon, r_got, r_rd_d, r_rd_own, r_rd_brw, r_nm_d, r_nm_own, r_nm_brw, r_nm_exc, r_low_int, r_low_list, r_arg_d, r_arg_own, r_arg_brw, r_arg_exc, r_kp_d, r_kp_own, r_keep_dt, r_keep_df, r_keep_ownt, r_keep_ownf, r_ret_d, r_ret_own, r_retm_d, r_retm_own, r_ifB, r_boolV, r_intV, r_argAll0, r_argAll1, r_keepAll0, r_keepAll1, r_seqOf_l, r_seqOf_t, r_listOf, r_ls_d, r_ls_own, r_keys_d, r_keys_own, r_keys_rg, r_it_dl, r_it_dt, r_it_own, r_it_brw, r_it_rg, r_itL_d, r_itL_own, r_itL_rg, r_has_ll, r_pv2, r_frz_d, r_frz_own, r_isi_int_d, r_isi_bool_d, r_isi_list_d, r_isi_tuple_d, r_isi_list_brw, r_isi_list_own, r_isi_exc, excIs, d_op, r_op_dl, r_op_dt, r_op_own, r_op_brw, r_op_ib, r_op_it, d_map0, d_map1, d_app0, d_app1, d_get0, d_get1, d_set0, d_set1, d_mod0, d_mod1, d_rep0, d_rep1, d_len0, d_len1, d_omap, d_obind, d_oelim, d_ct, d_cf, d_nt, d_nf, d_fand, d_tand, d_outn, d_outr, d_cmp1, d_cmp2, d_and1, d_and2, d_or1, d_or2, d_seq0, d_seq1, d_tst0, d_tst1, d_qt, d_qf, d_ownl, d_ownd, Nat.reduceSub, Nat.reduceAdd, r_retO_d, r_retO_own, r_pv4, r_op_bool, r_op_idl]
      obtain ⟨F, ej⟩ := join_step w he hf.1 sp far
      refine ⟨lim_lt (by rw [List.length_map]; omega), ?_⟩
      have er : rows.map rw4 ++ [rw4 ⟨e.1, e.2, f.1, f.2⟩] = (rows ++ [(⟨e.1, e.2, f.1, f.2⟩ : Row)]).map rw4 := by rw [List.map_append]; rfl
      refine done_by_spec (r := ⟨e.1, e.2, f.1, f.2⟩) w F (by omega) fun us p => ?_
      show k .nxt [_, _, _, some (.own (.list (rows.map rw4 ++ [rw4 ⟨e.1, e.2, f.1, f.2⟩]))), _, _, _, _, _]
      rw [er]
      exact q ⟨e.1, e.2, f.1, f.2⟩ us _ _ _ _ _ F ej p
end
end TC

namespace TC
open PySem
/-- what joined_up asks -/
structure Joins (m : Nat) (ts : Ties) : Prop where
  full : m = 1 ∨ Full m ts
  len : m ≤ ts.length + 1
theorem ncomp_pos {m : Nat} {ts : Ties} (h : 0 < m) : 0 < ncomp m ts := by
  have : 0 ∈ reps m ts := mem_reps.mpr ⟨h, fun q _ => Nat.zero_le q⟩
  exact List.length_pos_of_mem this
theorem ncomp_m {m : Nat} {ts : Ties} : ncomp m ts ≤ m := by unfold ncomp reps; exact Nat.le_trans (List.length_filter_le ..) (by rw [List.length_range]; exact Nat.le_refl _)
theorem perm_web {m : Nat} {ts us : Ties} (p : us.Perm ts) (w : Web m ts) : Web m us := ⟨p.nodup_iff.mpr w.1, fun t ht => w.2 t (p.mem_iff.mp ht)⟩
section
variable {n : Nat} {hm : Bool} {K : V → Prop} {X : Nat → Prop}
theorem joined_up_spec {m : Nat} {ts : Ties} (g : GW m ts) (J : Joins m ts) (k : ∀ (rows : List Row) y, rows.length ≤ 10 → Chain m ts rows → K (.ot (.list (rows.map rw4)) y)) : wpCall T07 (n + 4) false 10 [.d (.int m), .d (.list (ofPairs ts))] K X := by
  have hl := web_len g.web g.le
  refine wpCall_in (fn := f_joined_up) rfl rfl (by decide) ?_
  dsimp only [f_joined_up, b_joined_up, wpSs, wpS, wpE, wpL, slotW, ownS, Rho.putL, frz, bindF, setD, setAll, bindT, F2.W, F1.quiet, seqV, numW, isNon, r_got, r_rd_d, r_rd_own, r_rd_brw, r_nm_d, r_nm_own, r_nm_brw, r_nm_exc, r_low_int, r_low_list, r_arg_d, r_arg_own, r_arg_brw, r_arg_exc, r_kp_d, r_kp_own, r_keep_dt, r_keep_df, r_keep_ownt, r_keep_ownf, r_ret_d, r_ret_own, r_retm_d, r_retm_own, r_ifB, r_boolV, r_intV, r_argAll0, r_argAll1, r_keepAll0, r_keepAll1, r_seqOf_l, r_seqOf_t, r_listOf, r_ls_d, r_ls_own, r_keys_d, r_keys_own, r_keys_rg, r_it_dl, r_it_dt, r_it_own, r_it_brw, r_it_rg, r_itL_d, r_itL_own, r_itL_rg, r_has_ll, r_pv2, r_frz_d, r_frz_own, r_isi_int_d, r_isi_bool_d, r_isi_list_d, r_isi_tuple_d, r_isi_list_brw, r_isi_list_own, r_isi_exc, excIs, d_op, r_op_dl, r_op_dt, r_op_own, r_op_brw, r_op_ib, r_op_it, d_map0, d_map1, d_app0, d_app1, d_get0, d_get1, d_set0, d_set1, d_mod0, d_mod1, d_rep0, d_rep1, d_len0, d_len1, d_omap, d_obind, d_oelim, d_ct, d_cf, d_nt, d_nf, d_fand, d_tand, d_outn, d_outr, d_cmp1, d_cmp2, d_and1, d_and2, d_or1, d_or2, d_seq0, d_seq1, d_tst0, d_tst1, d_qt, d_qf, d_ownl, d_ownd, Nat.reduceSub, Nat.reduceAdd, r_retO_d, r_retO_own, r_pv4, r_op_bool, r_op_idl]
  refine sorted_pairs (v := .d (.list (ofPairs ts))) rfl g.web.1 (by omega) fun us p => ?_
  dsimp only [wpSs, wpS, wpE, wpL, slotW, ownS, Rho.putL, frz, bindF, setD, setAll, bindT, F1.W, F2.W, F1.quiet, seqV, numW, isNon, r_got, r_rd_d, r_rd_own, r_rd_brw, r_nm_d, r_nm_own, r_nm_brw, r_nm_exc, r_low_int, r_low_list, r_arg_d, r_arg_own, r_arg_brw, r_arg_exc, r_kp_d, r_kp_own, r_keep_dt, r_keep_df, r_keep_ownt, r_keep_ownf, r_ret_d, r_ret_own, r_retm_d, r_retm_own, r_ifB, r_boolV, r_intV, r_argAll0, r_argAll1, r_keepAll0, r_keepAll1, r_seqOf_l, r_seqOf_t, r_listOf, r_ls_d, r_ls_own, r_keys_d, r_keys_own, r_keys_rg, r_it_dl, r_it_dt, r_it_own, r_it_brw, r_it_rg, r_itL_d, r_itL_own, r_itL_rg, r_has_ll, r_pv2, r_frz_d, r_frz_own, r_isi_int_d, r_isi_bool_d, r_isi_list_d, r_isi_tuple_d, r_isi_list_brw, r_isi_list_own, r_isi_exc, excIs, d_op, r_op_dl, r_op_dt, r_op_own, r_op_brw, r_op_ib, r_op_it, d_map0, d_map1, d_app0, d_app1, d_get0, d_get1, d_set0, d_set1, d_mod0, d_mod1, d_rep0, d_rep1, d_len0, d_len1, d_omap, d_obind, d_oelim, d_ct, d_cf, d_nt, d_nf, d_fand, d_tand, d_outn, d_outr, d_cmp1, d_cmp2, d_and1, d_and2, d_or1, d_or2, d_seq0, d_seq1, d_tst0, d_tst1, d_qt, d_qf, d_ownl, d_ownd, Nat.reduceSub, Nat.reduceAdd, r_retO_d, r_retO_own, r_pv4, r_op_bool, r_op_idl]
  have le0 := ncomp_le (ts := us) g.le
  refine ⟨ncomp m us + 1, whlW_by (fun j ρ => ∃ now rows a b c d e, ρ = juR m ts now rows a b c d e ∧ Web m now ∧ (m = 1 ∨ Full m now) ∧ m ≤ now.length + 1 ∧ ncomp m now = j ∧ rows.length + j ≤ 10 ∧ ∀ rs, Chain m now rs → Chain m ts (rows ++ rs)) ?_ _ (ncomp m us) _ (Nat.lt_succ_self _)
    ⟨us, [], none, none, none, none, none, rfl, perm_web p g.web, J.full.imp_right fun f x hx => (f x hx).imp fun y a => (adj_congr fun t => p.mem_iff).mpr a, by rw [p.length_eq]; exact J.len, rfl, by simp only [List.length_nil]; omega, fun rs c => c.mem fun t => p.mem_iff.symm⟩⟩
  rintro j _ kk ⟨now, rows, a, b, c, d, e, rfl, w, fl, l, ej, lr, ch⟩ cont _
  have hl2 := web_len w g.le
  dsimp only [wpSs, wpS, wpE, wpL, slotW, ownS, Rho.putL, frz, bindF, setD, setAll, bindT, F1.W, F2.W, F1.quiet, seqV, numW, isNon, r_got, r_rd_d, r_rd_own, r_rd_brw, r_nm_d, r_nm_own, r_nm_brw, r_nm_exc, r_low_int, r_low_list, r_arg_d, r_arg_own, r_arg_brw, r_arg_exc, r_kp_d, r_kp_own, r_keep_dt, r_keep_df, r_keep_ownt, r_keep_ownf, r_ret_d, r_ret_own, r_retm_d, r_retm_own, r_ifB, r_boolV, r_intV, r_argAll0, r_argAll1, r_keepAll0, r_keepAll1, r_seqOf_l, r_seqOf_t, r_listOf, r_ls_d, r_ls_own, r_keys_d, r_keys_own, r_keys_rg, r_it_dl, r_it_dt, r_it_own, r_it_brw, r_it_rg, r_itL_d, r_itL_own, r_itL_rg, r_has_ll, r_pv2, r_frz_d, r_frz_own, r_isi_int_d, r_isi_bool_d, r_isi_list_d, r_isi_tuple_d, r_isi_list_brw, r_isi_list_own, r_isi_exc, excIs, d_op, r_op_dl, r_op_dt, r_op_own, r_op_brw, r_op_ib, r_op_it, d_map0, d_map1, d_app0, d_app1, d_get0, d_get1, d_set0, d_set1, d_mod0, d_mod1, d_rep0, d_rep1, d_len0, d_len1, d_omap, d_obind, d_oelim, d_ct, d_cf, d_nt, d_nf, d_fand, d_tand, d_outn, d_outr, d_cmp1, d_cmp2, d_and1, d_and2, d_or1, d_or2, d_seq0, d_seq1, d_tst0, d_tst1, d_qt, d_qf, d_ownl, d_ownd, Nat.reduceSub, Nat.reduceAdd, r_retO_d, r_retO_own, r_pv4, r_op_bool, r_op_idl]
  refine pieces_by_spec m g.le now (by omega) w ?_
  dsimp only [lists, wpSs, wpS, wpE, wpL, slotW, ownS, Rho.putL, frz, bindF, setD, setAll, bindT, F1.W, F2.W, F1.quiet, seqV, numW, isNon, r_got, r_rd_d, r_rd_own, r_rd_brw, r_nm_d, r_nm_own, r_nm_brw, r_nm_exc, r_low_int, r_low_list, r_arg_d, r_arg_own, r_arg_brw, r_arg_exc, r_kp_d, r_kp_own, r_keep_dt, r_keep_df, r_keep_ownt, r_keep_ownf, r_ret_d, r_ret_own, r_retm_d, r_retm_own, r_ifB, r_boolV, r_intV, r_argAll0, r_argAll1, r_keepAll0, r_keepAll1, r_seqOf_l, r_seqOf_t, r_listOf, r_ls_d, r_ls_own, r_keys_d, r_keys_own, r_keys_rg, r_it_dl, r_it_dt, r_it_own, r_it_brw, r_it_rg, r_itL_d, r_itL_own, r_itL_rg, r_has_ll, r_pv2, r_frz_d, r_frz_own, r_isi_int_d, r_isi_bool_d, r_isi_list_d, r_isi_tuple_d, r_isi_list_brw, r_isi_list_own, r_isi_exc, excIs, d_op, r_op_dl, r_op_dt, r_op_own, r_op_brw, r_op_ib, r_op_it, d_map0, d_map1, d_app0, d_app1, d_get0, d_get1, d_set0, d_set1, d_mod0, d_mod1, d_rep0, d_rep1, d_len0, d_len1, d_omap, d_obind, d_oelim, d_ct, d_cf, d_nt, d_nf, d_fand, d_tand, d_outn, d_outr, d_cmp1, d_cmp2, d_and1, d_and2, d_or1, d_or2, d_seq0, d_seq1, d_tst0, d_tst1, d_qt, d_qf, d_ownl, d_ownd, Nat.reduceSub, Nat.reduceAdd, r_retO_d, r_retO_own, r_pv4, r_op_bool, r_op_idl]
  rw [len_comps]
  have le := ncomp_le (ts := now) g.le
  refine ⟨lim_lt (by omega), ifB_by (fun gt => ?_) fun ngt => ?_⟩
  · have c1 : 1 < ncomp m now := by omega
    have nm := ncomp_m (m := m) (ts := now)
    have fl' := fl.resolve_left (by omega)
    refine ju_turn g.le w fl' l c1 (by omega) fun r us' a b c d e F e1 p' => ?_
    refine cont (ncomp m us') _ ?_ ⟨us', rows ++ [r], a, b, c, d, e, rfl, perm_web p' (F.web w), .inr fun x hx => (F.full fl' x hx).imp fun y a => (adj_congr fun t => p'.mem_iff).mpr a, by rw [p'.length_eq, F.len w]; exact l, rfl, ?_, fun rs cr => ?_⟩
    · rw [ncomp_mem fun t => p'.mem_iff]; omega
    · rw [ncomp_mem fun t => p'.mem_iff, List.length_append, List.length_singleton]; omega
    · rw [List.append_assoc]
      exact ch _ (.cons F e1 (cr.mem fun t => p'.mem_iff.symm))
  · have pos := ncomp_pos (ts := now) g.pos
    have := ch [] (.nil (by omega))
    rw [List.append_nil] at this
    exact k rows _ (by omega) this
/-! hindered -/
theorem any_ints (cs : List Int) (x : Int) : ((ofInts cs).any fun z => PyData.eqv z (.int x)) = decide (x ∈ cs) := by
  refine Bool.eq_iff_iff.mpr ?_
  rw [List.any_eq_true, decide_eq_true_iff]
  have e : ∀ y : Int, PyData.eqv (.int y) (.int x) = (y == x) := fun y => by simp only [PyData.eqv]
  constructor
  · rintro ⟨z, hz, q⟩
    obtain ⟨i, hi, rfl⟩ := List.mem_map.mp hz
    rw [e] at q
    exact beq_iff_eq.mp q ▸ hi
  · exact fun h => ⟨.int x, List.mem_map.mpr ⟨x, h, rfl⟩, by rw [e]; exact beq_self_eq_true _⟩
theorem in_ints {x : Int} {cs : List Int} {K : V → Prop} (k : K (.d (.bool (decide (x ∈ cs))))) : objW .isin (.d (.int x)) (.d (.list (ofInts cs))) K := by
  refine (show _ ∧ _ ∧ _ from ⟨(Sh.int 0 _).shp, (Sh.ints 0 _).shp, ?_⟩)
  rw [any_ints]; exact k
noncomputable def hindB (cs : List Int) : Bool := (decide (1 < (cs.length : Int)) && decide (0 ∈ cs)) || decide (cs.sum < 2 * ((cs.length : Int) - 1))
theorem hindered_spec {cs : List Int} (hl : cs.length < 60) (k1 : hindB cs = false → K (.d .none)) (k2 : hindB cs = true → ∀ xs, K (.d (.tuple xs))) : wpCall T07 (n + 1) false 8 [.d (.list (ofInts cs))] K X := by
  have l1 : (ofInts cs).length < lim := by rw [length_ofInts]; exact lim_lt (by omega)
  refine wpCall_in (fn := f_hindered) rfl rfl (by decide) ?_
  dsimp only [f_hindered, b_hindered, wpSs, wpS, wpE, wpL, slotW, ownS, Rho.putL, frz, bindF, setD, setAll, bindT, F1.W, F2.W, F1.quiet, seqV, numW, isNon, r_got, r_rd_d, r_rd_own, r_rd_brw, r_nm_d, r_nm_own, r_nm_brw, r_nm_exc, r_low_int, r_low_list, r_arg_d, r_arg_own, r_arg_brw, r_arg_exc, r_kp_d, r_kp_own, r_keep_dt, r_keep_df, r_keep_ownt, r_keep_ownf, r_ret_d, r_ret_own, r_retm_d, r_retm_own, r_ifB, r_boolV, r_intV, r_argAll0, r_argAll1, r_keepAll0, r_keepAll1, r_seqOf_l, r_seqOf_t, r_listOf, r_ls_d, r_ls_own, r_keys_d, r_keys_own, r_keys_rg, r_it_dl, r_it_dt, r_it_own, r_it_brw, r_it_rg, r_itL_d, r_itL_own, r_itL_rg, r_has_ll, r_pv2, r_frz_d, r_frz_own, r_isi_int_d, r_isi_bool_d, r_isi_list_d, r_isi_tuple_d, r_isi_list_brw, r_isi_list_own, r_isi_exc, excIs, d_op, r_op_dl, r_op_dt, r_op_own, r_op_brw, r_op_ib, r_op_it, d_map0, d_map1, d_app0, d_app1, d_get0, d_get1, d_set0, d_set1, d_mod0, d_mod1, d_rep0, d_rep1, d_len0, d_len1, d_omap, d_obind, d_oelim, d_ct, d_cf, d_nt, d_nf, d_fand, d_tand, d_outn, d_outr, d_cmp1, d_cmp2, d_and1, d_and2, d_or1, d_or2, d_seq0, d_seq1, d_tst0, d_tst1, d_qt, d_qf, d_ownl, d_ownd, Nat.reduceSub, Nat.reduceAdd, r_retO_d, r_retO_own, r_pv4, r_op_bool, r_op_idl]
  unfold hindB at k1 k2
  have rest : (decide (1 < (cs.length : Int)) && decide (0 ∈ cs)) = false → got (allOf intOf (ofInts cs)) fun is => (ofInts cs).length < lim ∧ IntMulOk 2 (↑(ofInts cs).length - 1) ∧ cond (decide (is.sum < 2 * (↑(ofInts cs).length - 1))) (K (.d (.tuple [.str "few"]))) (K (.d .none)) := fun e => by
    rw [ofInts_ints]
    refine ⟨l1, IntMulOk.of_left (by decide), ?_⟩
    rw [length_ofInts]
    rw [e, Bool.false_or] at k1 k2
    exact ifB_by (fun q => k2 (decide_eq_true q) _) fun q => k1 (decide_eq_false q)
  rw [length_ofInts] at rest ⊢
  refine ⟨lim_lt (by omega), ifB_by (fun gt => in_ints ?_) fun gt => ?_⟩
  · rw [decide_eq_true gt, Bool.true_and] at rest k1 k2
    by_cases z : (0 : Int) ∈ cs
    · rw [decide_eq_true z]
      show got (allOf intOf (ofInts cs)) _
      rw [ofInts_ints]
      exact ⟨⟨z, lim_lt (by omega)⟩, k2 (by rw [decide_eq_true z]; rfl) _⟩
    · rw [decide_eq_false z]
      exact rest (decide_eq_false z)
  · exact rest (by rw [decide_eq_false gt]; rfl)
end
end TC

namespace TC
open PySem
theorem bump1_sum {cs : List Int} : ∀ {p : Nat}, p < cs.length → (bump1 cs p).sum = cs.sum + 1 := by
  induction cs with
  | nil => exact fun h => nomatch h
  | cons c cs ih =>
    intro p h
    cases p with
    | zero => show (c + 1) + cs.sum = c + cs.sum + 1; omega
    | succ p =>
      have := ih (p := p) (Nat.lt_of_succ_lt_succ h)
      show c + (bump1 cs p).sum = c + cs.sum + 1
      omega
theorem bumps_sum {ts : Ties} : ∀ {cs : List Int}, (∀ t ∈ ts, t.1 < cs.length ∧ t.2 < cs.length) → (ts.foldl bump cs).sum = cs.sum + 2 * (ts.length : Int) := by
  induction ts with
  | nil => exact fun _ => (Int.add_zero _).symm
  | cons t ts ih =>
    intro cs h
    obtain ⟨a1, a2⟩ := h t (.head _)
    have l : (bump cs t).length = cs.length := by unfold bump; rw [bump1_len, bump1_len]
    have := ih (cs := bump cs t) fun t ht => by rw [l]; exact h t (.tail _ ht)
    have s : (bump cs t).sum = cs.sum + 1 + 1 := by unfold bump; rw [bump1_sum (by rw [bump1_len]; exact a2), bump1_sum a1]
    rw [List.foldl_cons, this, s, List.length_cons]
    omega
theorem sum_zeros (m : Nat) : (List.replicate m (0 : Int)).sum = 0 := by
  induction m with
  | zero => rfl
  | succ m ih => rw [List.replicate_succ, List.sum_cons, ih]; rfl
theorem ct_sum {m : Nat} {ts : Ties} (w : Web m ts) : (ctL m ts).sum = 2 * (ts.length : Int) := by
  rw [← bumps_ct w, bumps_sum fun t ht => by rw [List.length_replicate]; have := w.2 t ht; omega]
  have := sum_zeros m
  omega
theorem ct_len (m : Nat) (ts : Ties) : (ctL m ts).length = m := by unfold ctL; rw [List.length_map, List.length_range]
theorem cnt_adj {ts : Ties} {x : Nat} (h : cnt ts x ≠ 0) : ∃ y, Adj ts x y := by
  unfold cnt at h
  obtain ⟨t, ht, e⟩ := List.countP_pos_iff.mp (Nat.pos_of_ne_zero h)
  rw [Bool.or_eq_true, decide_eq_true_iff, decide_eq_true_iff] at e
  rcases e with rfl | rfl
  · exact ⟨t.2, .inl ht⟩
  · exact ⟨t.1, .inr ht⟩
/-- the law's own test -/
noncomputable def lawB (m : Nat) (ts : Ties) : Bool := (decide (1 < (m : Int)) && decide (0 ∈ ctL m ts)) || decide ((ts.length : Int) < m - 1)
theorem hind_law {m : Nat} {ts : Ties} (w : Web m ts) : hindB (ctL m ts) = lawB m ts := by
  unfold hindB lawB
  rw [ct_len, ct_sum w]
  congr 1
  exact decide_eq_decide.mpr (by omega)
theorem joins_of {m : Nat} {ts : Ties} (h : lawB m ts = false) : Joins m ts := by
  unfold lawB at h
  rw [Bool.or_eq_false_iff, Bool.and_eq_false_iff, decide_eq_false_iff_not, decide_eq_false_iff_not, decide_eq_false_iff_not] at h
  refine ⟨?_, by omega⟩
  by_cases c : m ≤ 1
  · by_cases e : m = 1
    · exact .inl e
    · exact .inr fun x hx => by omega
  · refine .inr fun x hx => cnt_adj fun q => ?_
    rcases h.1 with h | h
    · omega
    · refine h (List.mem_map.mpr ⟨x, List.mem_range.mpr hx, ?_⟩)
      show ((cnt ts x : Nat) : Int) = 0
      rw [q]; rfl
section
variable {n : Nat} {hm : Bool} {K : V → Prop} {X : Nat → Prop}
theorem joining_spec {m : Nat} {ts : Ties} (g : GW m ts) (k : lawB m ts = false → ∀ rows : List Row, rows.length ≤ 10 → Chain m ts rows → K (.own (.list (rows.map rw4)))) (x : lawB m ts = true → X 6) : wpCall T07 (n + 5) false 11 [.d (.int m), .d (.list (ofPairs ts))] K X := by
  have hz := g.le
  refine wpCall_in (fn := f_joining) rfl rfl (by decide) ?_
  dsimp only [f_joining, b_joining, wpSs, wpS, wpE, wpL, slotW, ownS, Rho.putL, frz, bindF, setD, setAll, bindT, F1.W, F2.W, F1.quiet, seqV, numW, isNon, r_got, r_rd_d, r_rd_own, r_rd_brw, r_nm_d, r_nm_own, r_nm_brw, r_nm_exc, r_low_int, r_low_list, r_arg_d, r_arg_own, r_arg_brw, r_arg_exc, r_kp_d, r_kp_own, r_keep_dt, r_keep_df, r_keep_ownt, r_keep_ownf, r_ret_d, r_ret_own, r_retm_d, r_retm_own, r_ifB, r_boolV, r_intV, r_argAll0, r_argAll1, r_keepAll0, r_keepAll1, r_seqOf_l, r_seqOf_t, r_listOf, r_ls_d, r_ls_own, r_keys_d, r_keys_own, r_keys_rg, r_it_dl, r_it_dt, r_it_own, r_it_brw, r_it_rg, r_itL_d, r_itL_own, r_itL_rg, r_has_ll, r_pv2, r_frz_d, r_frz_own, r_isi_int_d, r_isi_bool_d, r_isi_list_d, r_isi_tuple_d, r_isi_list_brw, r_isi_list_own, r_isi_exc, excIs, d_op, r_op_dl, r_op_dt, r_op_own, r_op_brw, r_op_ib, r_op_it, d_map0, d_map1, d_app0, d_app1, d_get0, d_get1, d_set0, d_set1, d_mod0, d_mod1, d_rep0, d_rep1, d_len0, d_len1, d_omap, d_obind, d_oelim, d_ct, d_cf, d_nt, d_nf, d_fand, d_tand, d_outn, d_outr, d_cmp1, d_cmp2, d_and1, d_and2, d_or1, d_or2, d_seq0, d_seq1, d_tst0, d_tst1, d_qt, d_qf, d_ownl, d_ownd, Nat.reduceSub, Nat.reduceAdd, r_retO_d, r_retO_own, r_pv4, r_op_bool, r_op_idl]
  refine g.need (counts_by_spec m hz ts (Nat.lt_of_le_of_lt g.len (by decide)) g.web ?_)
  dsimp only [wpSs, wpS, wpE, wpL, slotW, ownS, Rho.putL, frz, bindF, setD, setAll, bindT, F1.W, F2.W, F1.quiet, seqV, numW, isNon, r_got, r_rd_d, r_rd_own, r_rd_brw, r_nm_d, r_nm_own, r_nm_brw, r_nm_exc, r_low_int, r_low_list, r_arg_d, r_arg_own, r_arg_brw, r_arg_exc, r_kp_d, r_kp_own, r_keep_dt, r_keep_df, r_keep_ownt, r_keep_ownf, r_ret_d, r_ret_own, r_retm_d, r_retm_own, r_ifB, r_boolV, r_intV, r_argAll0, r_argAll1, r_keepAll0, r_keepAll1, r_seqOf_l, r_seqOf_t, r_listOf, r_ls_d, r_ls_own, r_keys_d, r_keys_own, r_keys_rg, r_it_dl, r_it_dt, r_it_own, r_it_brw, r_it_rg, r_itL_d, r_itL_own, r_itL_rg, r_has_ll, r_pv2, r_frz_d, r_frz_own, r_isi_int_d, r_isi_bool_d, r_isi_list_d, r_isi_tuple_d, r_isi_list_brw, r_isi_list_own, r_isi_exc, excIs, d_op, r_op_dl, r_op_dt, r_op_own, r_op_brw, r_op_ib, r_op_it, d_map0, d_map1, d_app0, d_app1, d_get0, d_get1, d_set0, d_set1, d_mod0, d_mod1, d_rep0, d_rep1, d_len0, d_len1, d_omap, d_obind, d_oelim, d_ct, d_cf, d_nt, d_nf, d_fand, d_tand, d_outn, d_outr, d_cmp1, d_cmp2, d_and1, d_and2, d_or1, d_or2, d_seq0, d_seq1, d_tst0, d_tst1, d_qt, d_qf, d_ownl, d_ownd, Nat.reduceSub, Nat.reduceAdd, r_retO_d, r_retO_own, r_pv4, r_op_bool, r_op_idl]
  refine hindered_spec (by rw [ct_len]; omega) (fun e => ?_) fun e xs => ?_
  · rw [hind_law g.web] at e
    exact joined_up_spec g (joins_of e) fun rows y hr c => k e rows hr c
  · rw [hind_law g.web] at e
    exact ⟨rfl, x e⟩
theorem joining_bad {x y : PyData} (hy : ShortL y) (e : webB x y = false) (k : X 3) : wpCall T07 (n + 5) false 11 [.d x, .d y] K X := by
  refine wpCall_in (fn := f_joining) rfl rfl (by decide) ?_
  dsimp only [f_joining, b_joining, wpSs, wpS, wpE, wpL, slotW, ownS, Rho.putL, frz, bindF, setD, setAll, bindT, F1.W, F2.W, F1.quiet, seqV, numW, isNon, r_got, r_rd_d, r_rd_own, r_rd_brw, r_nm_d, r_nm_own, r_nm_brw, r_nm_exc, r_low_int, r_low_list, r_arg_d, r_arg_own, r_arg_brw, r_arg_exc, r_kp_d, r_kp_own, r_keep_dt, r_keep_df, r_keep_ownt, r_keep_ownf, r_ret_d, r_ret_own, r_retm_d, r_retm_own, r_ifB, r_boolV, r_intV, r_argAll0, r_argAll1, r_keepAll0, r_keepAll1, r_seqOf_l, r_seqOf_t, r_listOf, r_ls_d, r_ls_own, r_keys_d, r_keys_own, r_keys_rg, r_it_dl, r_it_dt, r_it_own, r_it_brw, r_it_rg, r_itL_d, r_itL_own, r_itL_rg, r_has_ll, r_pv2, r_frz_d, r_frz_own, r_isi_int_d, r_isi_bool_d, r_isi_list_d, r_isi_tuple_d, r_isi_list_brw, r_isi_list_own, r_isi_exc, excIs, d_op, r_op_dl, r_op_dt, r_op_own, r_op_brw, r_op_ib, r_op_it, d_map0, d_map1, d_app0, d_app1, d_get0, d_get1, d_set0, d_set1, d_mod0, d_mod1, d_rep0, d_rep1, d_len0, d_len1, d_omap, d_obind, d_oelim, d_ct, d_cf, d_nt, d_nf, d_fand, d_tand, d_outn, d_outr, d_cmp1, d_cmp2, d_and1, d_and2, d_or1, d_or2, d_seq0, d_seq1, d_tst0, d_tst1, d_qt, d_qf, d_ownl, d_ownd, Nat.reduceSub, Nat.reduceAdd, r_retO_d, r_retO_own, r_pv4, r_op_bool, r_op_idl]
  exact need_spec x y hy (fun q => by rw [e] at q; exact nomatch q) fun _ => k
noncomputable abbrev refused2 : PyData := .tuple [.str "refused", .list [.str "none"]]
theorem told_bad {x y : PyData} (hy : ShortL y) (e : webB x y = false) (k : K (.d refused)) : wpCall T07 (n + 6) false 24 [.d x, .d y] K X := by
  refine wpCall_in (fn := f__law_told) rfl rfl (by decide) ?_
  dsimp only [f__law_told, b__law_told, wpSs, wpS, wpE, wpL, slotW, ownS, Rho.putL, frz, bindF, setD, setAll, bindT, F1.W, F2.W, F1.quiet, seqV, numW, isNon, r_got, r_rd_d, r_rd_own, r_rd_brw, r_nm_d, r_nm_own, r_nm_brw, r_nm_exc, r_low_int, r_low_list, r_arg_d, r_arg_own, r_arg_brw, r_arg_exc, r_kp_d, r_kp_own, r_keep_dt, r_keep_df, r_keep_ownt, r_keep_ownf, r_ret_d, r_ret_own, r_retm_d, r_retm_own, r_ifB, r_boolV, r_intV, r_argAll0, r_argAll1, r_keepAll0, r_keepAll1, r_seqOf_l, r_seqOf_t, r_listOf, r_ls_d, r_ls_own, r_keys_d, r_keys_own, r_keys_rg, r_it_dl, r_it_dt, r_it_own, r_it_brw, r_it_rg, r_itL_d, r_itL_own, r_itL_rg, r_has_ll, r_pv2, r_frz_d, r_frz_own, r_isi_int_d, r_isi_bool_d, r_isi_list_d, r_isi_tuple_d, r_isi_list_brw, r_isi_list_own, r_isi_exc, excIs, d_op, r_op_dl, r_op_dt, r_op_own, r_op_brw, r_op_ib, r_op_it, d_map0, d_map1, d_app0, d_app1, d_get0, d_get1, d_set0, d_set1, d_mod0, d_mod1, d_rep0, d_rep1, d_len0, d_len1, d_omap, d_obind, d_oelim, d_ct, d_cf, d_nt, d_nf, d_fand, d_tand, d_outn, d_outr, d_cmp1, d_cmp2, d_and1, d_and2, d_or1, d_or2, d_seq0, d_seq1, d_tst0, d_tst1, d_qt, d_qf, d_ownl, d_ownd, Nat.reduceSub, Nat.reduceAdd, r_retO_d, r_retO_own, r_pv4, r_op_bool, r_op_idl]
  exact joining_bad hy e ⟨.inl rfl, rfl, kind_spec ⟨trivial, k⟩⟩
theorem told_spec {m : Nat} {ts : Ties} (g : GW m ts) (k : lawB m ts = false → ∀ rows : List Row, rows.length ≤ 10 → Chain m ts rows → K (.own (.list (rows.map rw4)))) (x : lawB m ts = true → K (.d refused2)) : wpCall T07 (n + 6) false 24 [.d (.int m), .d (.list (ofPairs ts))] K X := by
  refine wpCall_in (fn := f__law_told) rfl rfl (by decide) ?_
  dsimp only [f__law_told, b__law_told, wpSs, wpS, wpE, wpL, slotW, ownS, Rho.putL, frz, bindF, setD, setAll, bindT, F1.W, F2.W, F1.quiet, seqV, numW, isNon, r_got, r_rd_d, r_rd_own, r_rd_brw, r_nm_d, r_nm_own, r_nm_brw, r_nm_exc, r_low_int, r_low_list, r_arg_d, r_arg_own, r_arg_brw, r_arg_exc, r_kp_d, r_kp_own, r_keep_dt, r_keep_df, r_keep_ownt, r_keep_ownf, r_ret_d, r_ret_own, r_retm_d, r_retm_own, r_ifB, r_boolV, r_intV, r_argAll0, r_argAll1, r_keepAll0, r_keepAll1, r_seqOf_l, r_seqOf_t, r_listOf, r_ls_d, r_ls_own, r_keys_d, r_keys_own, r_keys_rg, r_it_dl, r_it_dt, r_it_own, r_it_brw, r_it_rg, r_itL_d, r_itL_own, r_itL_rg, r_has_ll, r_pv2, r_frz_d, r_frz_own, r_isi_int_d, r_isi_bool_d, r_isi_list_d, r_isi_tuple_d, r_isi_list_brw, r_isi_list_own, r_isi_exc, excIs, d_op, r_op_dl, r_op_dt, r_op_own, r_op_brw, r_op_ib, r_op_it, d_map0, d_map1, d_app0, d_app1, d_get0, d_get1, d_set0, d_set1, d_mod0, d_mod1, d_rep0, d_rep1, d_len0, d_len1, d_omap, d_obind, d_oelim, d_ct, d_cf, d_nt, d_nf, d_fand, d_tand, d_outn, d_outr, d_cmp1, d_cmp2, d_and1, d_and2, d_or1, d_or2, d_seq0, d_seq1, d_tst0, d_tst1, d_qt, d_qf, d_ownl, d_ownd, Nat.reduceSub, Nat.reduceAdd, r_retO_d, r_retO_own, r_pv4, r_op_bool, r_op_idl]
  exact joining_spec g k fun e => ⟨.inl rfl, rfl, kind_none ⟨trivial, x e⟩⟩
end
end TC

namespace TC
open PySem
section
variable {n : Nat} {hm : Bool} {K : V → Prop} {X : Nat → Prop}
theorem dedup4 {a b c d : Int} (h1 : a ≠ b) (h2 : a ≠ c) (h3 : a ≠ d) (h4 : b ≠ c) (h5 : b ≠ d) (h6 : c ≠ d) : ([a, b, c, d].foldl PyProof.Rows.step_dedup []).length = 4 := by
  have e : ∀ {x y : Int}, x ≠ y → (x == y) = false := fun h => beq_false_of_ne h
  simp only [List.foldl_cons, List.foldl_nil, PyProof.Rows.step_dedup, List.any_nil, List.any_cons, List.nil_append, List.cons_append, e h1, e h2, e h3, e h4, e h5, e h6, Bool.or_false, Bool.false_eq_true, if_false, List.length_cons, List.length_nil]
theorem is_row_spec {m : Nat} {ts : Ties} {r : Row} (f : Fit m ts r) (k : K (.d (.bool true))) : wpCall T07 (n + 2) false 21 [.d (rw4 r), .d (.int m)] K X := by
  obtain ⟨n1, n2, n3, n4, n5, n6⟩ := f.ne
  obtain ⟨l1, l2, l3, l4⟩ := f.lt
  have i : ∀ {x y : Nat}, x ≠ y → (x : Int) ≠ y := fun h q => h (Int.natCast_inj.mp q)
  refine wpCall_in (fn := f__law_is_row) rfl rfl (by decide) ?_
  dsimp only [f__law_is_row, b__law_is_row, compW, wpSs, wpS, wpE, wpL, slotW, ownS, Rho.putL, frz, bindF, setD, setAll, bindT, F1.W, F2.W, F1.quiet, seqV, numW, isNon, r_got, r_rd_d, r_rd_own, r_rd_brw, r_nm_d, r_nm_own, r_nm_brw, r_nm_exc, r_low_int, r_low_list, r_arg_d, r_arg_own, r_arg_brw, r_arg_exc, r_kp_d, r_kp_own, r_keep_dt, r_keep_df, r_keep_ownt, r_keep_ownf, r_ret_d, r_ret_own, r_retm_d, r_retm_own, r_ifB, r_boolV, r_intV, r_argAll0, r_argAll1, r_keepAll0, r_keepAll1, r_seqOf_l, r_seqOf_t, r_listOf, r_ls_d, r_ls_own, r_keys_d, r_keys_own, r_keys_rg, r_it_dl, r_it_dt, r_it_own, r_it_brw, r_it_rg, r_itL_d, r_itL_own, r_itL_rg, r_has_ll, r_pv2, r_frz_d, r_frz_own, r_isi_int_d, r_isi_bool_d, r_isi_list_d, r_isi_tuple_d, r_isi_list_brw, r_isi_list_own, r_isi_exc, excIs, d_op, r_op_dl, r_op_dt, r_op_own, r_op_brw, r_op_ib, r_op_it, d_map0, d_map1, d_app0, d_app1, d_get0, d_get1, d_set0, d_set1, d_mod0, d_mod1, d_rep0, d_rep1, d_len0, d_len1, d_omap, d_obind, d_oelim, d_ct, d_cf, d_nt, d_nf, d_fand, d_tand, d_outn, d_outr, d_cmp1, d_cmp2, d_and1, d_and2, d_or1, d_or2, d_seq0, d_seq1, d_tst0, d_tst1, d_qt, d_qf, d_ownl, d_ownd, Nat.reduceSub, Nat.reduceAdd, r_retO_d, r_retO_own, r_pv4, r_op_bool, r_op_idl]
  refine (show _ ∧ _ from ⟨lim_lt (by decide), lim_lt (by decide), ?_⟩)
  refine whole_spec _ (whole_spec _ (whole_spec _ (whole_spec _ ⟨lim_lt (show 4 < 1000 by decide), ?_⟩)))
  refine (show _ ∧ _ from ⟨show 4 < 64 by decide, ?_⟩)
  rw [dedup4 (i n1) (i n2) (i n3) (i n4) (i n5) (i n6)]
  refine ifB_yes rfl ?_
  show cond (decide ((0 : Int) ≤ min (min (min (r.a : Int) r.b) r.c) r.d)) _ _
  refine ifB_yes (by omega) ?_
  show cond (decide (max (max (max (r.a : Int) r.b) r.c) r.d < m)) _ _
  exact ifB_yes (by omega) k
noncomputable abbrev jdR (m : Nat) (here : Ties) (a b : Option V) (c : Option V) : Rho := [some (.d (.int m)), a, b, some (.d (.list (ofPairs here))), some (.d (.int (ncomp m here))), c]
theorem jd_loop {m : Nat} (h0 : 0 < m) (hz : m ≤ 10) {a b : Option V} {Ko : KS} {rows : List Row} : ∀ {here : Ties} {c : Option V}, Web m here → Chain m here rows → (∀ us c, ncomp m us = 1 → Ko .nxt (jdR m us a b c)) →
    forW (fun x ρ' k => bindF (.one 5) x ρ' fun ρ'' => wpSs (wpCall T07 (n + 2)) false b__law_joined_1 ρ'' k (fun c _ => X c)) Ko ((rows.map rw4).map .d) (jdR m here a b c) := by
  induction rows with
  | nil => rintro here c w ch k; cases ch with | nil e => exact k _ _ e
  | cons r rows ih =>
    rintro here c w ch k
    cases ch with
    | cons f e ch =>
      have hl := web_len w hz
      rw [show ((r :: rows).map rw4).map V.d = V.d (rw4 r) :: (rows.map rw4).map V.d from rfl]
      dsimp only [forW, b__law_joined_1, wpSs, wpS, wpE, wpL, slotW, ownS, Rho.putL, frz, bindF, setD, setAll, bindT, F1.W, F2.W, F1.quiet, seqV, numW, isNon, r_got, r_rd_d, r_rd_own, r_rd_brw, r_nm_d, r_nm_own, r_nm_brw, r_nm_exc, r_low_int, r_low_list, r_arg_d, r_arg_own, r_arg_brw, r_arg_exc, r_kp_d, r_kp_own, r_keep_dt, r_keep_df, r_keep_ownt, r_keep_ownf, r_ret_d, r_ret_own, r_retm_d, r_retm_own, r_ifB, r_boolV, r_intV, r_argAll0, r_argAll1, r_keepAll0, r_keepAll1, r_seqOf_l, r_seqOf_t, r_listOf, r_ls_d, r_ls_own, r_keys_d, r_keys_own, r_keys_rg, r_it_dl, r_it_dt, r_it_own, r_it_brw, r_it_rg, r_itL_d, r_itL_own, r_itL_rg, r_has_ll, r_pv2, r_frz_d, r_frz_own, r_isi_int_d, r_isi_bool_d, r_isi_list_d, r_isi_tuple_d, r_isi_list_brw, r_isi_list_own, r_isi_exc, excIs, d_op, r_op_dl, r_op_dt, r_op_own, r_op_brw, r_op_ib, r_op_it, d_map0, d_map1, d_app0, d_app1, d_get0, d_get1, d_set0, d_set1, d_mod0, d_mod1, d_rep0, d_rep1, d_len0, d_len1, d_omap, d_obind, d_oelim, d_ct, d_cf, d_nt, d_nf, d_fand, d_tand, d_outn, d_outr, d_cmp1, d_cmp2, d_and1, d_and2, d_or1, d_or2, d_seq0, d_seq1, d_tst0, d_tst1, d_qt, d_qf, d_ownl, d_ownd, Nat.reduceSub, Nat.reduceAdd, r_retO_d, r_retO_own, r_pv4, r_op_bool, r_op_idl]
      refine is_row_spec f (fits_spec f (left_spec w f (by omega) fun us p => ?_))
      have wu := perm_web p (f.web w)
      have hu := web_len wu hz
      have le := ncomp_le (ts := us) hz
      have en : ncomp m us + 1 = ncomp m here := by rw [ncomp_mem fun t => p.mem_iff]; exact e
      dsimp only [wpSs, wpS, wpE, wpL, slotW, ownS, Rho.putL, frz, bindF, setD, setAll, bindT, F1.W, F2.W, F1.quiet, seqV, numW, isNon, r_got, r_rd_d, r_rd_own, r_rd_brw, r_nm_d, r_nm_own, r_nm_brw, r_nm_exc, r_low_int, r_low_list, r_arg_d, r_arg_own, r_arg_brw, r_arg_exc, r_kp_d, r_kp_own, r_keep_dt, r_keep_df, r_keep_ownt, r_keep_ownf, r_ret_d, r_ret_own, r_retm_d, r_retm_own, r_ifB, r_boolV, r_intV, r_argAll0, r_argAll1, r_keepAll0, r_keepAll1, r_seqOf_l, r_seqOf_t, r_listOf, r_ls_d, r_ls_own, r_keys_d, r_keys_own, r_keys_rg, r_it_dl, r_it_dt, r_it_own, r_it_brw, r_it_rg, r_itL_d, r_itL_own, r_itL_rg, r_has_ll, r_pv2, r_frz_d, r_frz_own, r_isi_int_d, r_isi_bool_d, r_isi_list_d, r_isi_tuple_d, r_isi_list_brw, r_isi_list_own, r_isi_exc, excIs, d_op, r_op_dl, r_op_dt, r_op_own, r_op_brw, r_op_ib, r_op_it, d_map0, d_map1, d_app0, d_app1, d_get0, d_get1, d_set0, d_set1, d_mod0, d_mod1, d_rep0, d_rep1, d_len0, d_len1, d_omap, d_obind, d_oelim, d_ct, d_cf, d_nt, d_nf, d_fand, d_tand, d_outn, d_outr, d_cmp1, d_cmp2, d_and1, d_and2, d_or1, d_or2, d_seq0, d_seq1, d_tst0, d_tst1, d_qt, d_qf, d_ownl, d_ownd, Nat.reduceSub, Nat.reduceAdd, r_retO_d, r_retO_own, r_pv4, r_op_bool, r_op_idl]
      refine law_pieces_spec ⟨h0, hz, wu, by omega⟩ ?_
      dsimp only [lists, wpSs, wpS, wpE, wpL, slotW, ownS, Rho.putL, frz, bindF, setD, setAll, bindT, F1.W, F2.W, F1.quiet, seqV, numW, isNon, r_got, r_rd_d, r_rd_own, r_rd_brw, r_nm_d, r_nm_own, r_nm_brw, r_nm_exc, r_low_int, r_low_list, r_arg_d, r_arg_own, r_arg_brw, r_arg_exc, r_kp_d, r_kp_own, r_keep_dt, r_keep_df, r_keep_ownt, r_keep_ownf, r_ret_d, r_ret_own, r_retm_d, r_retm_own, r_ifB, r_boolV, r_intV, r_argAll0, r_argAll1, r_keepAll0, r_keepAll1, r_seqOf_l, r_seqOf_t, r_listOf, r_ls_d, r_ls_own, r_keys_d, r_keys_own, r_keys_rg, r_it_dl, r_it_dt, r_it_own, r_it_brw, r_it_rg, r_itL_d, r_itL_own, r_itL_rg, r_has_ll, r_pv2, r_frz_d, r_frz_own, r_isi_int_d, r_isi_bool_d, r_isi_list_d, r_isi_tuple_d, r_isi_list_brw, r_isi_list_own, r_isi_exc, excIs, d_op, r_op_dl, r_op_dt, r_op_own, r_op_brw, r_op_ib, r_op_it, d_map0, d_map1, d_app0, d_app1, d_get0, d_get1, d_set0, d_set1, d_mod0, d_mod1, d_rep0, d_rep1, d_len0, d_len1, d_omap, d_obind, d_oelim, d_ct, d_cf, d_nt, d_nf, d_fand, d_tand, d_outn, d_outr, d_cmp1, d_cmp2, d_and1, d_and2, d_or1, d_or2, d_seq0, d_seq1, d_tst0, d_tst1, d_qt, d_qf, d_ownl, d_ownd, Nat.reduceSub, Nat.reduceAdd, r_retO_d, r_retO_own, r_pv4, r_op_bool, r_op_idl]
      rw [len_comps, decide_eq_true (by omega), show ((ncomp m here : Nat) : Int) - 1 = (ncomp m us : Nat) by omega]
      exact ⟨lim_lt (by omega), ih wu (ch.mem fun t => p.mem_iff) k⟩
theorem not_t {a b : Prop} (k : b) : got (some true) fun c => F1.not.W (.d (.bool c)) fun v => ifB v a b := k
theorem joined_spec {m : Nat} {ts : Ties} {rows : List Row} (g : GW m ts) (hr : rows.length ≤ 10) (ch : Chain m ts rows) {v : V} (hv : v = .d (.list (rows.map rw4)) ∨ v = .brw (.list (rows.map rw4))) (k : K (.d (.bool true))) : wpCall T07 (n + 3) false 25 [.d (.int m), .d (.list (ofPairs ts)), v] K X := by
  have hz := g.le
  have hl := web_len g.web hz
  refine wpCall_in (fn := f__law_joined) rfl rfl (by decide) ?_
  have e1 : isiV .list (nmV v) = some true := by rcases hv with rfl | rfl <;> rfl
  have e2 : itemsV false (frzV v) = some ((rows.map rw4).map .d) := by
    rcases hv with rfl | rfl
    · rfl
    · show some ((rows.map rw4).map low) = _
      rw [List.map_map, List.map_map]; rfl
  dsimp only [f__law_joined, b__law_joined, wpSs, wpS, wpE, wpL, slotW, ownS, Rho.putL, frz, bindF, setD, setAll, bindT, F2.W, F1.quiet, seqV, numW, isNon, r_got, r_rd_d, r_rd_own, r_rd_brw, r_nm_d, r_nm_own, r_nm_brw, r_nm_exc, r_low_int, r_low_list, r_arg_d, r_arg_own, r_arg_brw, r_arg_exc, r_kp_d, r_kp_own, r_keep_dt, r_keep_df, r_keep_ownt, r_keep_ownf, r_ret_d, r_ret_own, r_retm_d, r_retm_own, r_ifB, r_boolV, r_intV, r_argAll0, r_argAll1, r_keepAll0, r_keepAll1, r_seqOf_l, r_seqOf_t, r_listOf, r_ls_d, r_ls_own, r_keys_d, r_keys_own, r_keys_rg, r_it_dl, r_it_dt, r_it_own, r_it_brw, r_it_rg, r_itL_d, r_itL_own, r_itL_rg, r_has_ll, r_pv2, r_frz_d, r_frz_own, r_isi_int_d, r_isi_bool_d, r_isi_list_d, r_isi_tuple_d, r_isi_list_brw, r_isi_list_own, r_isi_exc, excIs, d_op, r_op_dl, r_op_dt, r_op_own, r_op_brw, r_op_ib, r_op_it, d_map0, d_map1, d_app0, d_app1, d_get0, d_get1, d_set0, d_set1, d_mod0, d_mod1, d_rep0, d_rep1, d_len0, d_len1, d_omap, d_obind, d_oelim, d_ct, d_cf, d_nt, d_nf, d_fand, d_tand, d_outn, d_outr, d_cmp1, d_cmp2, d_and1, d_and2, d_or1, d_or2, d_seq0, d_seq1, d_tst0, d_tst1, d_qt, d_qf, d_ownl, d_ownd, Nat.reduceSub, Nat.reduceAdd, r_retO_d, r_retO_own, r_pv4, r_op_bool, r_op_idl]
  show got (isiV .list (nmV v)) _
  rw [e1]
  refine not_t ?_
  refine sorted_pairs (v := .d (.list (ofPairs ts))) rfl g.web.1 (by omega) fun us p => ?_
  have wu := perm_web p g.web
  have hu := web_len wu hz
  have le := ncomp_le (ts := us) hz
  dsimp only [wpSs, wpS, wpE, wpL, slotW, ownS, Rho.putL, frz, bindF, setD, setAll, bindT, F1.W, F2.W, F1.quiet, seqV, numW, isNon, r_got, r_rd_d, r_rd_own, r_rd_brw, r_nm_d, r_nm_own, r_nm_brw, r_nm_exc, r_low_int, r_low_list, r_arg_d, r_arg_own, r_arg_brw, r_arg_exc, r_kp_d, r_kp_own, r_keep_dt, r_keep_df, r_keep_ownt, r_keep_ownf, r_ret_d, r_ret_own, r_retm_d, r_retm_own, r_ifB, r_boolV, r_intV, r_argAll0, r_argAll1, r_keepAll0, r_keepAll1, r_seqOf_l, r_seqOf_t, r_listOf, r_ls_d, r_ls_own, r_keys_d, r_keys_own, r_keys_rg, r_it_dl, r_it_dt, r_it_own, r_it_brw, r_it_rg, r_itL_d, r_itL_own, r_itL_rg, r_has_ll, r_pv2, r_frz_d, r_frz_own, r_isi_int_d, r_isi_bool_d, r_isi_list_d, r_isi_tuple_d, r_isi_list_brw, r_isi_list_own, r_isi_exc, excIs, d_op, r_op_dl, r_op_dt, r_op_own, r_op_brw, r_op_ib, r_op_it, d_map0, d_map1, d_app0, d_app1, d_get0, d_get1, d_set0, d_set1, d_mod0, d_mod1, d_rep0, d_rep1, d_len0, d_len1, d_omap, d_obind, d_oelim, d_ct, d_cf, d_nt, d_nf, d_fand, d_tand, d_outn, d_outr, d_cmp1, d_cmp2, d_and1, d_and2, d_or1, d_or2, d_seq0, d_seq1, d_tst0, d_tst1, d_qt, d_qf, d_ownl, d_ownd, Nat.reduceSub, Nat.reduceAdd, r_retO_d, r_retO_own, r_pv4, r_op_bool, r_op_idl]
  refine law_pieces_spec ⟨g.pos, hz, wu, by omega⟩ ?_
  dsimp only [lists, wpSs, wpS, wpE, wpL, slotW, ownS, Rho.putL, frz, bindF, setD, setAll, bindT, F1.W, F2.W, F1.quiet, seqV, numW, isNon, r_got, r_rd_d, r_rd_own, r_rd_brw, r_nm_d, r_nm_own, r_nm_brw, r_nm_exc, r_low_int, r_low_list, r_arg_d, r_arg_own, r_arg_brw, r_arg_exc, r_kp_d, r_kp_own, r_keep_dt, r_keep_df, r_keep_ownt, r_keep_ownf, r_ret_d, r_ret_own, r_retm_d, r_retm_own, r_ifB, r_boolV, r_intV, r_argAll0, r_argAll1, r_keepAll0, r_keepAll1, r_seqOf_l, r_seqOf_t, r_listOf, r_ls_d, r_ls_own, r_keys_d, r_keys_own, r_keys_rg, r_it_dl, r_it_dt, r_it_own, r_it_brw, r_it_rg, r_itL_d, r_itL_own, r_itL_rg, r_has_ll, r_pv2, r_frz_d, r_frz_own, r_isi_int_d, r_isi_bool_d, r_isi_list_d, r_isi_tuple_d, r_isi_list_brw, r_isi_list_own, r_isi_exc, excIs, d_op, r_op_dl, r_op_dt, r_op_own, r_op_brw, r_op_ib, r_op_it, d_map0, d_map1, d_app0, d_app1, d_get0, d_get1, d_set0, d_set1, d_mod0, d_mod1, d_rep0, d_rep1, d_len0, d_len1, d_omap, d_obind, d_oelim, d_ct, d_cf, d_nt, d_nf, d_fand, d_tand, d_outn, d_outr, d_cmp1, d_cmp2, d_and1, d_and2, d_or1, d_or2, d_seq0, d_seq1, d_tst0, d_tst1, d_qt, d_qf, d_ownl, d_ownd, Nat.reduceSub, Nat.reduceAdd, r_retO_d, r_retO_own, r_pv4, r_op_bool, r_op_idl]
  rw [e2, len_comps]
  refine ⟨lim_lt (by omega), lim_lt (by rw [List.length_map, List.length_map]; omega), ?_⟩
  refine jd_loop g.pos hz wu (ch.mem fun t => p.mem_iff) fun us c e => ?_
  dsimp only [b__law_joined_2, wpSs, wpS, wpE, wpL, slotW, ownS, Rho.putL, frz, bindF, setD, setAll, bindT, F1.W, F2.W, F1.quiet, seqV, numW, isNon, r_got, r_rd_d, r_rd_own, r_rd_brw, r_nm_d, r_nm_own, r_nm_brw, r_nm_exc, r_low_int, r_low_list, r_arg_d, r_arg_own, r_arg_brw, r_arg_exc, r_kp_d, r_kp_own, r_keep_dt, r_keep_df, r_keep_ownt, r_keep_ownf, r_ret_d, r_ret_own, r_retm_d, r_retm_own, r_ifB, r_boolV, r_intV, r_argAll0, r_argAll1, r_keepAll0, r_keepAll1, r_seqOf_l, r_seqOf_t, r_listOf, r_ls_d, r_ls_own, r_keys_d, r_keys_own, r_keys_rg, r_it_dl, r_it_dt, r_it_own, r_it_brw, r_it_rg, r_itL_d, r_itL_own, r_itL_rg, r_has_ll, r_pv2, r_frz_d, r_frz_own, r_isi_int_d, r_isi_bool_d, r_isi_list_d, r_isi_tuple_d, r_isi_list_brw, r_isi_list_own, r_isi_exc, excIs, d_op, r_op_dl, r_op_dt, r_op_own, r_op_brw, r_op_ib, r_op_it, d_map0, d_map1, d_app0, d_app1, d_get0, d_get1, d_set0, d_set1, d_mod0, d_mod1, d_rep0, d_rep1, d_len0, d_len1, d_omap, d_obind, d_oelim, d_ct, d_cf, d_nt, d_nf, d_fand, d_tand, d_outn, d_outr, d_cmp1, d_cmp2, d_and1, d_and2, d_or1, d_or2, d_seq0, d_seq1, d_tst0, d_tst1, d_qt, d_qf, d_ownl, d_ownd, Nat.reduceSub, Nat.reduceAdd, r_retO_d, r_retO_own, r_pv4, r_op_bool, r_op_idl]
  rw [e]
  exact k
end
end TC

namespace TC
open PySem
theorem mulOk_k {c : Int} {k : Nat} (hc : Sml c) (hk : k < 1000) : IntMulOk (c + 7919 * k + 13) (c + 7919 * k + 13) := by
  have h1 : Builtin.Int.intBits (7919 * (k : Int)) ≤ 64 := intBits_le_64 (by omega) (by omega)
  have h3 := intBits_add_le (intBits_add_le hc h1) (show Builtin.Int.intBits 13 ≤ 4 by decide)
  exact IntMulOk.of_le h3 h3 (by decide)
theorem mixed_sml (c k : Int) : Sml (mixed c k) := by
  unfold mixed
  generalize ((c + 7919 * k + 13) * (c + 7919 * k + 13)).fmod 1000000007 * 48271 = a
  have a0 := fmod_nonneg' (a := a) (b := 998244353) (by decide)
  have a1 := fmod_lt' (a := a) (b := 998244353) (by decide)
  generalize a.fmod 998244353 = b at *
  have e : b.fdiv 11 = b / 11 := Int.fdiv_eq_ediv_of_nonneg b (by decide)
  rw [e]
  exact Nat.le_trans (intBits_le_64 (by omega) (by omega)) (by decide)
theorem web_app {sz sz' : Nat} {us vs : Ties} (w : Web sz us) (le : sz ≤ sz') (nd : vs.Nodup) (h : ∀ t ∈ vs, sz ≤ t.2 ∧ t.1 < t.2 ∧ t.2 < sz') : Web sz' (us ++ vs) := by
  refine ⟨List.nodup_append.mpr ⟨w.1, nd, fun a ha b hb e => ?_⟩, fun t ht => ?_⟩
  · have := w.2 a ha
    have := h b hb
    subst e; omega
  · rcases List.mem_append.mp ht with ht | ht
    · have := w.2 t ht; omega
    · exact (h t ht).2
theorem web_put {sz : Nat} {us : Ties} {t : Nat × Nat} (w : Web sz us) (nt : t ∉ us) (h : t.1 < t.2 ∧ t.2 < sz) (j : Nat) : Web sz ((us.take j ++ [t]) ++ us.drop j) := by
  have p : ((us.take j ++ [t]) ++ us.drop j).Perm (t :: us) := by
    rw [List.append_assoc]
    have := List.perm_middle (a := t) (l₁ := us.take j) (l₂ := us.drop j)
    rw [List.take_append_drop] at this
    exact this
  refine perm_web p ⟨List.nodup_cons.mpr ⟨nt, w.1⟩, fun u hu => ?_⟩
  rcases List.mem_cons.mp hu with rfl | hu
  · exact h
  · exact w.2 u hu
section
variable {n : Nat} {hm : Bool} {K : V → Prop} {X : Nat → Prop}
noncomputable abbrev sdR (c : Int) (us : Ties) (sz : Nat) (a b d : Option V) : Rho := [some (.d (.int c)), some (.own (.list (ofPairs us))), some (.d (.int sz)), a, b, d]
theorem side1 {c : Int} {us : Ties} {sz i : Nat} (w : Web sz us) (hz : sz ≤ 10) (h0 : sz = 0 ∨ (2 ≤ sz ∧ us ≠ [])) (hi : i < 1000) {k : KS} (q : ∀ us sz, Web sz us → sz ≤ 10 → 2 ≤ sz → us ≠ [] → k .nxt (sdR c us sz (some (.d (.int i))) none none)) :
    wpSs (wpCall T07 n) false b__law_side_by_side_1 (sdR c us sz (some (.d (.int i))) none none) k (fun c _ => X c) := by
  have hl := web_len w hz
  have l1 : (ofPairs us).length < lim := len_pairs (by omega)
  have ne : ∀ {vs : Ties} {v : Nat × Nat}, us ++ v :: vs ≠ [] := fun e => nomatch (List.append_eq_nil_iff.mp e).2
  dsimp only [b__law_side_by_side_1, wpSs, wpS, wpE, wpL, slotW, ownS, Rho.putL, frz, bindF, setD, setAll, bindT, F1.W, F2.W, F1.quiet, seqV, numW, isNon, r_got, r_rd_d, r_rd_own, r_rd_brw, r_nm_d, r_nm_own, r_nm_brw, r_nm_exc, r_low_int, r_low_list, r_arg_d, r_arg_own, r_arg_brw, r_arg_exc, r_kp_d, r_kp_own, r_keep_dt, r_keep_df, r_keep_ownt, r_keep_ownf, r_ret_d, r_ret_own, r_retm_d, r_retm_own, r_ifB, r_boolV, r_intV, r_argAll0, r_argAll1, r_keepAll0, r_keepAll1, r_seqOf_l, r_seqOf_t, r_listOf, r_ls_d, r_ls_own, r_keys_d, r_keys_own, r_keys_rg, r_it_dl, r_it_dt, r_it_own, r_it_brw, r_it_rg, r_itL_d, r_itL_own, r_itL_rg, r_has_ll, r_pv2, r_frz_d, r_frz_own, r_isi_int_d, r_isi_bool_d, r_isi_list_d, r_isi_tuple_d, r_isi_list_brw, r_isi_list_own, r_isi_exc, excIs, d_op, r_op_dl, r_op_dt, r_op_own, r_op_brw, r_op_ib, r_op_it, d_map0, d_map1, d_app0, d_app1, d_get0, d_get1, d_set0, d_set1, d_mod0, d_mod1, d_rep0, d_rep1, d_len0, d_len1, d_omap, d_obind, d_oelim, d_ct, d_cf, d_nt, d_nf, d_fand, d_tand, d_outn, d_outr, d_cmp1, d_cmp2, d_and1, d_and2, d_or1, d_or2, d_seq0, d_seq1, d_tst0, d_tst1, d_qt, d_qf, d_ownl, d_ownd, Nat.reduceSub, Nat.reduceAdd, r_retO_d, r_retO_own, r_pv4, r_op_bool, r_op_idl]
  have e1 : ofPairs us ++ [PyData.tuple [.int sz, .int (sz + 1)]] = ofPairs (us ++ [(sz, sz + 1)]) := ofPairs_append us [(sz, sz + 1)]
  have e2 : ofPairs us ++ [PyData.tuple [.int sz, .int (sz + 1)], PyData.tuple [.int (sz + 1), .int (sz + 2)], PyData.tuple [.int sz, .int (sz + 2)]] = ofPairs (us ++ [(sz, sz + 1), (sz + 1, sz + 2), (sz, sz + 2)]) := ofPairs_append us [(sz, sz + 1), (sz + 1, sz + 2), (sz, sz + 2)]
  rw [e1]
  have rest : cond (decide ((sz : Int) < 9)) ((ofPairs us).length < lim ∧ k .nxt (sdR c (us ++ [(sz, sz + 1)]) (sz + 2) (some (.d (.int i))) none none)) (k .nxt (sdR c us sz (some (.d (.int i))) none none)) := by
    refine ifB_by (fun lt => ⟨l1, ?_⟩) fun ge => q _ _ w hz (by omega) (h0.resolve_left (by omega)).2
    refine q _ _ (web_app w (by omega) (List.pairwise_singleton _ _) fun t ht => ?_) (by omega) (by omega) ne
    rw [List.mem_singleton.mp ht]; dsimp only; omega
  refine ⟨IntMulOk.of_left (by decide), ⟨by omega, by omega⟩, by decide, ifB_by (fun _ => ifB_by (fun lt => ?_) fun _ => rest) fun _ => rest⟩
  show got (lsV (.brw (.list (ofPairs us)))) _
  rw [r_ls_brw (flats_ofPairs us)]
  refine (show _ ∧ _ from ⟨lim_lt (by rw [length_ofPairs]; simp only [List.length_cons, List.length_nil]; omega), ?_⟩)
  rw [e2]
  refine q _ (sz + 3) (web_app w (by omega) ?_ fun t ht => ?_) (by omega) (by omega) ne
  · refine List.nodup_cons.mpr ⟨fun q => ?_, List.nodup_cons.mpr ⟨fun q => ?_, List.pairwise_singleton _ _⟩⟩
    · rcases List.mem_cons.mp q with e | e
      · injection e with e _; omega
      · injection List.mem_singleton.mp e with _ e; omega
    · injection List.mem_singleton.mp q with e _; omega
  · simp only [List.mem_cons, List.not_mem_nil, or_false] at ht
    rcases ht with rfl | rfl | rfl <;> dsimp only <;> omega
theorem side2 {c : Int} {us : Ties} {sz i : Nat} (hc : Sml c) (w : Web sz us) (hz : sz ≤ 10) (h2 : 2 ≤ sz) (h0 : us ≠ []) (hi : i < 1000) {a b : Option V} {k : KS} (q : ∀ us a b, Web sz us → us ≠ [] → k .nxt (sdR c us sz (some (.d (.int i))) a b)) :
    wpSs (wpCall T07 (n + 1)) false b__law_side_by_side_2 (sdR c us sz (some (.d (.int i))) a b) k (fun c _ => X c) := by
  have hl := web_len w hz
  have l1 : (ofPairs us).length < lim := len_pairs (by omega)
  dsimp only [b__law_side_by_side_2, wpSs, wpS, wpE, wpL, slotW, ownS, Rho.putL, frz, bindF, setD, setAll, bindT, F1.W, F2.W, F1.quiet, seqV, numW, isNon, r_got, r_rd_d, r_rd_own, r_rd_brw, r_nm_d, r_nm_own, r_nm_brw, r_nm_exc, r_low_int, r_low_list, r_arg_d, r_arg_own, r_arg_brw, r_arg_exc, r_kp_d, r_kp_own, r_keep_dt, r_keep_df, r_keep_ownt, r_keep_ownf, r_ret_d, r_ret_own, r_retm_d, r_retm_own, r_ifB, r_boolV, r_intV, r_argAll0, r_argAll1, r_keepAll0, r_keepAll1, r_seqOf_l, r_seqOf_t, r_listOf, r_ls_d, r_ls_own, r_keys_d, r_keys_own, r_keys_rg, r_it_dl, r_it_dt, r_it_own, r_it_brw, r_it_rg, r_itL_d, r_itL_own, r_itL_rg, r_has_ll, r_pv2, r_frz_d, r_frz_own, r_isi_int_d, r_isi_bool_d, r_isi_list_d, r_isi_tuple_d, r_isi_list_brw, r_isi_list_own, r_isi_exc, excIs, d_op, r_op_dl, r_op_dt, r_op_own, r_op_brw, r_op_ib, r_op_it, d_map0, d_map1, d_app0, d_app1, d_get0, d_get1, d_set0, d_set1, d_mod0, d_mod1, d_rep0, d_rep1, d_len0, d_len1, d_omap, d_obind, d_oelim, d_ct, d_cf, d_nt, d_nf, d_fand, d_tand, d_outn, d_outr, d_cmp1, d_cmp2, d_and1, d_and2, d_or1, d_or2, d_seq0, d_seq1, d_tst0, d_tst1, d_qt, d_qf, d_ownl, d_ownd, Nat.reduceSub, Nat.reduceAdd, r_retO_d, r_retO_own, r_pv4, r_op_bool, r_op_idl]
  refine mixed_spec _ _ (mulOk_k hc hi) ?_
  generalize mixed c i = nu
  have u0 := fmod_nonneg' (a := nu) (b := (sz : Int)) (by omega)
  have u1 := fmod_lt' (a := nu) (b := (sz : Int)) (by omega)
  have v0 := fmod_nonneg' (a := nu.fdiv 16) (b := (sz : Int)) (by omega)
  have v1 := fmod_lt' (a := nu.fdiv 16) (b := (sz : Int)) (by omega)
  dsimp only [wpSs, wpS, wpE, wpL, slotW, ownS, Rho.putL, frz, bindF, setD, setAll, bindT, F1.W, F2.W, F1.quiet, seqV, numW, isNon, r_got, r_rd_d, r_rd_own, r_rd_brw, r_nm_d, r_nm_own, r_nm_brw, r_nm_exc, r_low_int, r_low_list, r_arg_d, r_arg_own, r_arg_brw, r_arg_exc, r_kp_d, r_kp_own, r_keep_dt, r_keep_df, r_keep_ownt, r_keep_ownf, r_ret_d, r_ret_own, r_retm_d, r_retm_own, r_ifB, r_boolV, r_intV, r_argAll0, r_argAll1, r_keepAll0, r_keepAll1, r_seqOf_l, r_seqOf_t, r_listOf, r_ls_d, r_ls_own, r_keys_d, r_keys_own, r_keys_rg, r_it_dl, r_it_dt, r_it_own, r_it_brw, r_it_rg, r_itL_d, r_itL_own, r_itL_rg, r_has_ll, r_pv2, r_frz_d, r_frz_own, r_isi_int_d, r_isi_bool_d, r_isi_list_d, r_isi_tuple_d, r_isi_list_brw, r_isi_list_own, r_isi_exc, excIs, d_op, r_op_dl, r_op_dt, r_op_own, r_op_brw, r_op_ib, r_op_it, d_map0, d_map1, d_app0, d_app1, d_get0, d_get1, d_set0, d_set1, d_mod0, d_mod1, d_rep0, d_rep1, d_len0, d_len1, d_omap, d_obind, d_oelim, d_ct, d_cf, d_nt, d_nf, d_fand, d_tand, d_outn, d_outr, d_cmp1, d_cmp2, d_and1, d_and2, d_or1, d_or2, d_seq0, d_seq1, d_tst0, d_tst1, d_qt, d_qf, d_ownl, d_ownd, Nat.reduceSub, Nat.reduceAdd, r_retO_d, r_retO_own, r_pv4, r_op_bool, r_op_idl]
  refine ⟨by omega, ⟨by decide, by decide⟩, by omega, ?_⟩
  obtain ⟨x, ex⟩ := Int.eq_ofNat_of_zero_le u0
  obtain ⟨y, ey⟩ := Int.eq_ofNat_of_zero_le v0
  rw [ex, ey]
  refine tied_spec x y ?_
  dsimp only [wpSs, wpS, wpE, wpL, slotW, ownS, Rho.putL, frz, bindF, setD, setAll, bindT, F1.W, F2.W, F1.quiet, seqV, numW, isNon, r_got, r_rd_d, r_rd_own, r_rd_brw, r_nm_d, r_nm_own, r_nm_brw, r_nm_exc, r_low_int, r_low_list, r_arg_d, r_arg_own, r_arg_brw, r_arg_exc, r_kp_d, r_kp_own, r_keep_dt, r_keep_df, r_keep_ownt, r_keep_ownf, r_ret_d, r_ret_own, r_retm_d, r_retm_own, r_ifB, r_boolV, r_intV, r_argAll0, r_argAll1, r_keepAll0, r_keepAll1, r_seqOf_l, r_seqOf_t, r_listOf, r_ls_d, r_ls_own, r_keys_d, r_keys_own, r_keys_rg, r_it_dl, r_it_dt, r_it_own, r_it_brw, r_it_rg, r_itL_d, r_itL_own, r_itL_rg, r_has_ll, r_pv2, r_frz_d, r_frz_own, r_isi_int_d, r_isi_bool_d, r_isi_list_d, r_isi_tuple_d, r_isi_list_brw, r_isi_list_own, r_isi_exc, excIs, d_op, r_op_dl, r_op_dt, r_op_own, r_op_brw, r_op_ib, r_op_it, d_map0, d_map1, d_app0, d_app1, d_get0, d_get1, d_set0, d_set1, d_mod0, d_mod1, d_rep0, d_rep1, d_len0, d_len1, d_omap, d_obind, d_oelim, d_ct, d_cf, d_nt, d_nf, d_fand, d_tand, d_outn, d_outr, d_cmp1, d_cmp2, d_and1, d_and2, d_or1, d_or2, d_seq0, d_seq1, d_tst0, d_tst1, d_qt, d_qf, d_ownl, d_ownd, Nat.reduceSub, Nat.reduceAdd, r_retO_d, r_retO_own, r_pv4, r_op_bool, r_op_idl]
  refine idx_t0 (idx_t1 ?_)
  refine cond_by (fun ne => notin_pr rfl (cond_by (fun nt => ?_) fun _ => q _ _ _ w h0)) fun _ => q _ _ _ w h0
  have pos : 0 < us.length := List.length_pos_iff.mpr h0
  have j0 := fmod_nonneg' (a := nu.fdiv 256) (b := (us.length : Int)) (by omega)
  have j1 := fmod_lt' (a := nu.fdiv 256) (b := (us.length : Int)) (by omega)
  rw [length_ofPairs]
  refine ⟨⟨by decide, by decide⟩, by rw [length_ofPairs] at l1; exact l1, by omega, ⟨j0, lim_lti (by omega), by rw [length_ofPairs] at l1; exact l1⟩, ?_⟩
  generalize ((nu.fdiv 256).fmod (us.length : Int)).toNat = j
  have ej : List.take j (ofPairs us) ++ [pr (tie x y)] ++ List.drop j (ofPairs us) = ofPairs (us.take j ++ [tie x y] ++ us.drop j) := by
    rw [ofPairs_take, ofPairs_drop, ← ofPairs_append, ← ofPairs_append]; rfl
  rw [ej]
  have nxy : x ≠ y := fun e => by
    subst e
    rw [decide_eq_true (by unfold tie; dsimp only; omega)] at ne; exact nomatch ne
  refine q _ _ _ (web_put w (fun m => ?_) (tie_web nxy (by omega) (by omega)) j) fun e => nomatch (List.append_eq_nil_iff.mp (List.append_eq_nil_iff.mp e).1).2
  rw [decide_eq_true m] at nt; exact nomatch nt
theorem side_spec {c : Int} (hc : Sml c) (k : ∀ m us, 0 < m → m ≤ 10 → Web m us → K (.d (.tuple [.int (m : Nat), .list (ofPairs us)]))) : wpCall T07 (n + 2) false 23 [.d (.int c)] K X := by
  refine wpCall_in (fn := f__law_side_by_side) rfl rfl (by decide) ?_
  dsimp only [f__law_side_by_side, b__law_side_by_side, wpSs, wpS, wpE, wpL, slotW, ownS, Rho.putL, frz, bindF, setD, setAll, bindT, F1.W, F2.W, F1.quiet, seqV, numW, isNon, r_got, r_rd_d, r_rd_own, r_rd_brw, r_nm_d, r_nm_own, r_nm_brw, r_nm_exc, r_low_int, r_low_list, r_arg_d, r_arg_own, r_arg_brw, r_arg_exc, r_kp_d, r_kp_own, r_keep_dt, r_keep_df, r_keep_ownt, r_keep_ownf, r_ret_d, r_ret_own, r_retm_d, r_retm_own, r_ifB, r_boolV, r_intV, r_argAll0, r_argAll1, r_keepAll0, r_keepAll1, r_seqOf_l, r_seqOf_t, r_listOf, r_ls_d, r_ls_own, r_keys_d, r_keys_own, r_keys_rg, r_it_dl, r_it_dt, r_it_own, r_it_brw, r_it_rg, r_itL_d, r_itL_own, r_itL_rg, r_has_ll, r_pv2, r_frz_d, r_frz_own, r_isi_int_d, r_isi_bool_d, r_isi_list_d, r_isi_tuple_d, r_isi_list_brw, r_isi_list_own, r_isi_exc, excIs, d_op, r_op_dl, r_op_dt, r_op_own, r_op_brw, r_op_ib, r_op_it, d_map0, d_map1, d_app0, d_app1, d_get0, d_get1, d_set0, d_set1, d_mod0, d_mod1, d_rep0, d_rep1, d_len0, d_len1, d_omap, d_obind, d_oelim, d_ct, d_cf, d_nt, d_nf, d_fand, d_tand, d_outn, d_outr, d_cmp1, d_cmp2, d_and1, d_and2, d_or1, d_or2, d_seq0, d_seq1, d_tst0, d_tst1, d_qt, d_qf, d_ownl, d_ownd, Nat.reduceSub, Nat.reduceAdd, r_retO_d, r_retO_own, r_pv4, r_op_bool, r_op_idl]
  have t0 := fmod_nonneg' (a := c) (b := 4) (by decide)
  have t1 := fmod_lt' (a := c) (b := 4) (by decide)
  generalize c.fmod 4 = t at *
  obtain ⟨N, eN⟩ := Int.eq_ofNat_of_zero_le (show 0 ≤ 2 + t by omega)
  rw [eN]
  refine (show _ ∧ _ ∧ _ from ⟨by decide, ⟨lim_gti (by omega), lim_lti (by omega)⟩, by rw [rng_len]; exact lim_lt (by omega), ?_⟩)
  refine forW_idx _ (fun i ρ => ∃ us sz a, ρ = sdR c us sz a none none ∧ Web sz us ∧ sz ≤ 10 ∧ (0 < i → 2 ≤ sz ∧ us ≠ []) ∧ (i = 0 → sz = 0)) ?_ ?_ _ ⟨[], 0, none, rfl, ⟨.nil, nofun⟩, by omega, nofun, fun _ => rfl⟩
  · rintro ρ ⟨us, sz, a, rfl, w, hz, h, _⟩
    rw [rng_len] at h
    obtain ⟨h2, ne⟩ := h (by omega)
    dsimp only [b__law_side_by_side_4, wpSs, wpS, wpE, wpL, slotW, ownS, Rho.putL, frz, bindF, setD, setAll, bindT, F1.W, F2.W, F1.quiet, seqV, numW, isNon, r_got, r_rd_d, r_rd_own, r_rd_brw, r_nm_d, r_nm_own, r_nm_brw, r_nm_exc, r_low_int, r_low_list, r_arg_d, r_arg_own, r_arg_brw, r_arg_exc, r_kp_d, r_kp_own, r_keep_dt, r_keep_df, r_keep_ownt, r_keep_ownf, r_ret_d, r_ret_own, r_retm_d, r_retm_own, r_ifB, r_boolV, r_intV, r_argAll0, r_argAll1, r_keepAll0, r_keepAll1, r_seqOf_l, r_seqOf_t, r_listOf, r_ls_d, r_ls_own, r_keys_d, r_keys_own, r_keys_rg, r_it_dl, r_it_dt, r_it_own, r_it_brw, r_it_rg, r_itL_d, r_itL_own, r_itL_rg, r_has_ll, r_pv2, r_frz_d, r_frz_own, r_isi_int_d, r_isi_bool_d, r_isi_list_d, r_isi_tuple_d, r_isi_list_brw, r_isi_list_own, r_isi_exc, excIs, d_op, r_op_dl, r_op_dt, r_op_own, r_op_brw, r_op_ib, r_op_it, d_map0, d_map1, d_app0, d_app1, d_get0, d_get1, d_set0, d_set1, d_mod0, d_mod1, d_rep0, d_rep1, d_len0, d_len1, d_omap, d_obind, d_oelim, d_ct, d_cf, d_nt, d_nf, d_fand, d_tand, d_outn, d_outr, d_cmp1, d_cmp2, d_and1, d_and2, d_or1, d_or2, d_seq0, d_seq1, d_tst0, d_tst1, d_qt, d_qf, d_ownl, d_ownd, Nat.reduceSub, Nat.reduceAdd, r_retO_d, r_retO_own, r_pv4, r_op_bool, r_op_idl]
    have s0 := fmod_nonneg' (a := c.fdiv 64) (b := 4) (by decide)
    have s1 := fmod_lt' (a := c.fdiv 64) (b := 4) (by decide)
    generalize (c.fdiv 64).fmod 4 = s at *
    obtain ⟨M, eM⟩ := Int.eq_ofNat_of_zero_le s0
    rw [eM]
    refine ⟨⟨by decide, by decide⟩, by decide, ⟨lim_gti (by omega), lim_lti (by omega)⟩, by rw [rng_len]; exact lim_lt (by omega), ?_⟩
    refine forW_idx _ (fun i ρ => ∃ us a b d, ρ = sdR c us sz a b d ∧ Web sz us ∧ us ≠ []) ?_ ?_ _ ⟨us, a, none, none, rfl, w, ne⟩
    · rintro ρ ⟨us, a, b, d, rfl, w, ne⟩
      dsimp only [b__law_side_by_side_3, wpSs, wpS, wpE, wpL, slotW, ownS, Rho.putL, frz, bindF, setD, setAll, bindT, F1.W, F2.W, F1.quiet, seqV, numW, isNon, r_got, r_rd_d, r_rd_own, r_rd_brw, r_nm_d, r_nm_own, r_nm_brw, r_nm_exc, r_low_int, r_low_list, r_arg_d, r_arg_own, r_arg_brw, r_arg_exc, r_kp_d, r_kp_own, r_keep_dt, r_keep_df, r_keep_ownt, r_keep_ownf, r_ret_d, r_ret_own, r_retm_d, r_retm_own, r_ifB, r_boolV, r_intV, r_argAll0, r_argAll1, r_keepAll0, r_keepAll1, r_seqOf_l, r_seqOf_t, r_listOf, r_ls_d, r_ls_own, r_keys_d, r_keys_own, r_keys_rg, r_it_dl, r_it_dt, r_it_own, r_it_brw, r_it_rg, r_itL_d, r_itL_own, r_itL_rg, r_has_ll, r_pv2, r_frz_d, r_frz_own, r_isi_int_d, r_isi_bool_d, r_isi_list_d, r_isi_tuple_d, r_isi_list_brw, r_isi_list_own, r_isi_exc, excIs, d_op, r_op_dl, r_op_dt, r_op_own, r_op_brw, r_op_ib, r_op_it, d_map0, d_map1, d_app0, d_app1, d_get0, d_get1, d_set0, d_set1, d_mod0, d_mod1, d_rep0, d_rep1, d_len0, d_len1, d_omap, d_obind, d_oelim, d_ct, d_cf, d_nt, d_nf, d_fand, d_tand, d_outn, d_outr, d_cmp1, d_cmp2, d_and1, d_and2, d_or1, d_or2, d_seq0, d_seq1, d_tst0, d_tst1, d_qt, d_qf, d_ownl, d_ownd, Nat.reduceSub, Nat.reduceAdd, r_retO_d, r_retO_own, r_pv4, r_op_bool, r_op_idl]
      exact k sz us (by omega) hz w
    · rintro i hi ρ kk ⟨us, a, b, d, rfl, w, ne⟩ cont _
      rw [rng_len] at hi
      rw [rng_get]
      exact side2 hc w hz h2 ne (by omega) fun us a b w ne => cont _ ⟨us, _, a, b, rfl, w, ne⟩
  · rintro i hi ρ kk ⟨us, sz, a, rfl, w, hz, h, h'⟩ cont _
    rw [rng_len] at hi
    rw [rng_get, r_kp_d, r_got]
    refine side1 w hz ?_ (by omega) fun us sz w hz h2 ne => cont _ ⟨us, sz, _, rfl, w, hz, fun _ => ⟨h2, ne⟩, nofun⟩
    by_cases e : i = 0
    · exact .inl (h' e)
    · exact .inr (h (by omega))
end
end TC

namespace TC
open PySem
theorem okW_bad {m : Int} {y : PyData} {b : List PyData} (h : tieB m y = false) {us : Ties} : ∀ {met : List (List Int)}, okW m ((ofPairs us ++ [y]) ++ b) met = false := by
  induction us with
  | nil => exact fun {met} => okW_no h
  | cons t us ih =>
    intro met
    show (tieB m (.tuple [.int t.1, .int t.2]) && (!met.contains [(t.1 : Int), t.2] && okW m ((ofPairs us ++ [y]) ++ b) (met ++ [[(t.1 : Int), t.2]]))) = false
    rw [ih, Bool.and_false, Bool.and_false]
theorem okW_dup {m : Int} {us : Ties} : ∀ {met : List (List Int)}, okW m (ofPairs us) met = true → us.Nodup ∧ ∀ t ∈ us, [(t.1 : Int), t.2] ∉ met := by
  induction us with
  | nil => exact fun _ => ⟨.nil, nofun⟩
  | cons t us ih =>
    intro met h
    replace h : (tieB m (.tuple [.int t.1, .int t.2]) && (!met.contains [(t.1 : Int), t.2] && okW m (ofPairs us) (met ++ [[(t.1 : Int), t.2]]))) = true := h
    rw [Bool.and_eq_true, Bool.and_eq_true] at h
    obtain ⟨h1, h2⟩ := ih h.2.2
    have nm : [(t.1 : Int), t.2] ∉ met := fun q => by rw [List.contains_iff_mem.mpr q] at h; exact nomatch h.2.1
    refine ⟨List.nodup_cons.mpr ⟨fun q => h2 t q (List.mem_append_right _ (.head _)), h1⟩, fun t' ht => ?_⟩
    rcases List.mem_cons.mp ht with rfl | ht
    · exact nm
    · exact fun q => h2 t' ht (List.mem_append_left _ q)
theorem webB_no {m : Int} {ys : List PyData} (h : okW m ys [] = false) : webB (.int m) (.list ys) = false := by
  show (_ && okW m ys []) = false; rw [h, Bool.and_false]
theorem webB_size {x y : PyData} (h : amongB x 1 10 = false) : webB x y = false := by
  cases x with
  | int i => cases y with
    | list ys => show (amongB (.int i) 1 10 && _) = false; rw [h]; rfl
    | _ => rfl
  | _ => rfl
theorem tieB_int {m a b : Int} (h : ¬ (0 ≤ a ∧ a ≤ m - 1 ∧ 0 ≤ b ∧ b ≤ m - 1 ∧ a < b)) : tieB m (.tuple [.int a, .int b]) = false := by
  refine Bool.eq_false_iff.mpr fun q => h ?_
  replace q : (decide (0 ≤ a) && decide (a ≤ m - 1) && (decide (0 ≤ b) && decide (b ≤ m - 1)) && decide (a < b)) = true := q
  simp only [Bool.and_eq_true, decide_eq_true_eq] at q; omega
/-- what is no web of m points -/
noncomputable def wrongL (m : Nat) (ts : Ties) : List PyData := [.list [.tuple [.int 0, .int 0]], .none, .list (ofPairs ts ++ [.tuple [.int 0, .int m]]), .tuple (ofPairs ts), .list (ofPairs ts ++ [.tuple [.int 0, .bool true]]), .str "01"]
theorem short_app {ts : Ties} (hl : ts.length ≤ 100) {a b : PyData} : ShortL (.list (ofPairs ts ++ [.tuple [a, b]])) := by
  refine ⟨by rw [List.length_append, length_ofPairs]; simp only [List.length_cons, List.length_nil]; omega, fun z hz => ?_⟩
  rcases List.mem_append.mp hz with hz | hz
  · obtain ⟨t, _, rfl⟩ := List.mem_map.mp hz; exact (by decide : 2 < 1000)
  · rw [List.mem_singleton.mp hz]; exact (by decide : 2 < 1000)
theorem wrong_no {m : Nat} {ts : Ties} (hl : ts.length ≤ 100) : ∀ y ∈ wrongL m ts, webB (.int m) y = false ∧ ShortL y := by
  have app : ∀ {a b : PyData}, tieB m (.tuple [a, b]) = false → webB (.int m) (.list (ofPairs ts ++ [.tuple [a, b]])) = false := fun h => webB_no (by have := okW_bad (b := []) (us := ts) (met := []) h; rw [List.append_nil] at this; exact this)
  simp only [wrongL, List.forall_mem_cons]
  refine ⟨⟨webB_no (okW_no (tieB_int (by omega))), short_app (ts := []) (by decide)⟩, ⟨rfl, trivial⟩, ⟨app (tieB_int (by omega)), short_app hl⟩, ⟨rfl, trivial⟩, ⟨app rfl, short_app hl⟩, ⟨rfl, trivial⟩, nofun⟩
noncomputable def noneL (c : Int) : List PyData := [.int 0, .int 11, .bool true, .none, .str "3", .int (11 + (c.fdiv 36).fmod 1000000000)]
theorem none_no {c : Int} : ∀ y ∈ noneL c, amongB y 1 10 = false := by
  have x0 := fmod_nonneg' (a := c.fdiv 36) (b := 1000000000) (by decide)
  simp only [noneL, List.forall_mem_cons]
  refine ⟨rfl, rfl, rfl, rfl, rfl, ?_, nofun⟩
  show (decide (1 ≤ 11 + (c.fdiv 36).fmod 1000000000) && decide (11 + (c.fdiv 36).fmod 1000000000 ≤ 10)) = false
  rw [decide_eq_false (show ¬ (11 + (c.fdiv 36).fmod 1000000000 ≤ 10) by omega), Bool.and_false]
/-- the web with one tie twice -/
noncomputable def twice (ts : Ties) : Ties := (ts ++ ts.take 1) ++ [((0, 0) : Nat × Nat)].drop ts.length
theorem twice_len (ts : Ties) : (twice ts).length ≤ ts.length + 2 := by
  unfold twice
  rw [List.length_append, List.length_append, List.length_take, List.length_drop]
  simp only [List.length_cons, List.length_nil]; omega
theorem twice_no {m : Nat} {ts : Ties} : webB (.int m) (.list (ofPairs (twice ts))) = false := by
  refine webB_no (Bool.eq_false_iff.mpr fun ok => ?_)
  cases ts with
  | nil => exact absurd ok (by rw [show ofPairs (twice []) = [.tuple [.int 0, .int 0]] from rfl, okW_no (tieB_int (by omega))]; decide)
  | cons t us =>
    have nd := (okW_dup ok).1
    have e : twice (t :: us) = t :: (us ++ [t]) := by
      unfold twice
      rw [List.length_cons, List.drop_succ_cons, List.drop_nil, List.append_nil]; rfl
    rw [e] at nd
    exact (List.nodup_cons.mp nd).1 (List.mem_append_right _ (.head _))
section
variable {n : Nat} {hm : Bool} {K : V → Prop} {X : Nat → Prop}
theorem idx_ino {xs : List PyData} {i : Int} {K : V → Prop} (h0 : 0 ≤ i) (h1 : i < 1000) (h2 : i < xs.length) (k : ∀ y ∈ xs, K (.d y)) : got (idxV (.own (.list xs)) i) K := by
  rw [r_idx_ownl h0 h1, List.getElem?_eq_getElem (by omega)]
  exact k _ (List.getElem_mem _)
noncomputable abbrev lwR (sc : List Int) (m : Nat) (ts : Ties) (a b d e f g x y : Option V) : Rho := [some (.d (.list (ofInts sc))), some (.d (.int m)), some (.d (.list (ofPairs ts))), some (.d (.list (ofPairs ts))), a, b, d, e, f, g, x, y]
theorem shr {s t : Str} (h1 : Sh 1 (.str s)) (h2 : Sh 0 (.str t)) : Sh 2 (.tuple [.str s, .list [.str t]]) := .tuple fun z hz => by
  rcases List.mem_cons.mp hz with rfl | hz
  · exact h1
  · rw [List.mem_singleton.mp hz]; exact .list fun w hw => by rw [List.mem_singleton.mp hw]; exact h2
theorem law_1 {sc : List Int} {m : Nat} {ts : Ties} {a b d e f g : Option V} {x y : PyData} (hy : ShortL y) (bad : webB x y = false) {k : KS} (q : k .nxt (lwR sc m ts a b d e f g (some (.d x)) (some (.d y)))) :
    wpSs (wpCall T07 (n + 6)) false b_law_1 (lwR sc m ts a b d e f g (some (.d x)) (some (.d y))) k (fun c _ => X c) := by
  dsimp only [b_law_1, wpSs, wpS, wpE, wpL, slotW, ownS, Rho.putL, frz, bindF, setD, setAll, bindT, F1.W, F2.W, F1.quiet, seqV, numW, isNon, r_got, r_rd_d, r_rd_own, r_rd_brw, r_nm_d, r_nm_own, r_nm_brw, r_nm_exc, r_low_int, r_low_list, r_arg_d, r_arg_own, r_arg_brw, r_arg_exc, r_kp_d, r_kp_own, r_keep_dt, r_keep_df, r_keep_ownt, r_keep_ownf, r_ret_d, r_ret_own, r_retm_d, r_retm_own, r_ifB, r_boolV, r_intV, r_argAll0, r_argAll1, r_keepAll0, r_keepAll1, r_seqOf_l, r_seqOf_t, r_listOf, r_ls_d, r_ls_own, r_keys_d, r_keys_own, r_keys_rg, r_it_dl, r_it_dt, r_it_own, r_it_brw, r_it_rg, r_itL_d, r_itL_own, r_itL_rg, r_has_ll, r_pv2, r_frz_d, r_frz_own, r_isi_int_d, r_isi_bool_d, r_isi_list_d, r_isi_tuple_d, r_isi_list_brw, r_isi_list_own, r_isi_exc, excIs, d_op, r_op_dl, r_op_dt, r_op_own, r_op_brw, r_op_ib, r_op_it, d_map0, d_map1, d_app0, d_app1, d_get0, d_get1, d_set0, d_set1, d_mod0, d_mod1, d_rep0, d_rep1, d_len0, d_len1, d_omap, d_obind, d_oelim, d_ct, d_cf, d_nt, d_nf, d_fand, d_tand, d_outn, d_outr, d_cmp1, d_cmp2, d_and1, d_and2, d_or1, d_or2, d_seq0, d_seq1, d_tst0, d_tst1, d_qt, d_qf, d_ownl, d_ownd, Nat.reduceSub, Nat.reduceAdd, r_retO_d, r_retO_own, r_pv4, r_op_bool, r_op_idl]
  refine told_bad hy bad ?_
  dsimp only [wpSs, wpS, wpE, wpL, slotW, ownS, Rho.putL, frz, bindF, setD, setAll, bindT, F1.W, F2.W, F1.quiet, seqV, numW, isNon, r_got, r_rd_d, r_rd_own, r_rd_brw, r_nm_d, r_nm_own, r_nm_brw, r_nm_exc, r_low_int, r_low_list, r_arg_d, r_arg_own, r_arg_brw, r_arg_exc, r_kp_d, r_kp_own, r_keep_dt, r_keep_df, r_keep_ownt, r_keep_ownf, r_ret_d, r_ret_own, r_retm_d, r_retm_own, r_ifB, r_boolV, r_intV, r_argAll0, r_argAll1, r_keepAll0, r_keepAll1, r_seqOf_l, r_seqOf_t, r_listOf, r_ls_d, r_ls_own, r_keys_d, r_keys_own, r_keys_rg, r_it_dl, r_it_dt, r_it_own, r_it_brw, r_it_rg, r_itL_d, r_itL_own, r_itL_rg, r_has_ll, r_pv2, r_frz_d, r_frz_own, r_isi_int_d, r_isi_bool_d, r_isi_list_d, r_isi_tuple_d, r_isi_list_brw, r_isi_list_own, r_isi_exc, excIs, d_op, r_op_dl, r_op_dt, r_op_own, r_op_brw, r_op_ib, r_op_it, d_map0, d_map1, d_app0, d_app1, d_get0, d_get1, d_set0, d_set1, d_mod0, d_mod1, d_rep0, d_rep1, d_len0, d_len1, d_omap, d_obind, d_oelim, d_ct, d_cf, d_nt, d_nf, d_fand, d_tand, d_outn, d_outr, d_cmp1, d_cmp2, d_and1, d_and2, d_or1, d_or2, d_seq0, d_seq1, d_tst0, d_tst1, d_qt, d_qf, d_ownl, d_ownd, Nat.reduceSub, Nat.reduceAdd, r_retO_d, r_retO_own, r_pv4, r_op_bool, r_op_idl]
  exact ne_same rfl rfl (shr (.str _ (by decide +kernel)) (.str _ (by decide +kernel))) (by decide) q
theorem law_u {sc : List Int} (hs : sc.length < 64) (hb : ∀ x ∈ sc, Sml x) {m : Nat} {ts : Ties} (g : GW m ts) {a b d : Option V} (q : K (.d (.bool true))) :
    wpSs (wpCall T07 (n + 6)) false b_law_u [some (.d (.list (ofInts sc))), some (.d (.int m)), some (.d (.list (ofPairs ts))), some (.d (.list (ofPairs ts))), a, b, d, none, none, none, none, none] (outK K) (fun c _ => X c) := by
  have hl := web_len g.web g.le
  have l1 : (ofPairs ts).length < lim := len_pairs (by omega)
  dsimp only [b_law_u, wpSs, wpS, wpE, wpL, slotW, ownS, Rho.putL, frz, bindF, setD, setAll, bindT, F1.W, F2.W, F1.quiet, seqV, numW, isNon, r_got, r_rd_d, r_rd_own, r_rd_brw, r_nm_d, r_nm_own, r_nm_brw, r_nm_exc, r_low_int, r_low_list, r_arg_d, r_arg_own, r_arg_brw, r_arg_exc, r_kp_d, r_kp_own, r_keep_dt, r_keep_df, r_keep_ownt, r_keep_ownf, r_ret_d, r_ret_own, r_retm_d, r_retm_own, r_ifB, r_boolV, r_intV, r_argAll0, r_argAll1, r_keepAll0, r_keepAll1, r_seqOf_l, r_seqOf_t, r_listOf, r_ls_d, r_ls_own, r_keys_d, r_keys_own, r_keys_rg, r_it_dl, r_it_dt, r_it_own, r_it_brw, r_it_rg, r_itL_d, r_itL_own, r_itL_rg, r_has_ll, r_pv2, r_frz_d, r_frz_own, r_isi_int_d, r_isi_bool_d, r_isi_list_d, r_isi_tuple_d, r_isi_list_brw, r_isi_list_own, r_isi_exc, excIs, d_op, r_op_dl, r_op_dt, r_op_own, r_op_brw, r_op_ib, r_op_it, d_map0, d_map1, d_app0, d_app1, d_get0, d_get1, d_set0, d_set1, d_mod0, d_mod1, d_rep0, d_rep1, d_len0, d_len1, d_omap, d_obind, d_oelim, d_ct, d_cf, d_nt, d_nf, d_fand, d_tand, d_outn, d_outr, d_cmp1, d_cmp2, d_and1, d_and2, d_or1, d_or2, d_seq0, d_seq1, d_tst0, d_tst1, d_qt, d_qf, d_ownl, d_ownd, Nat.reduceSub, Nat.reduceAdd, r_retO_d, r_retO_own, r_pv4, r_op_bool, r_op_idl]
  refine cell_spec sc 0 hs (by decide) (by decide) ?_
  refine mixed_spec _ _ (mulOk_k (k := 2) (cell_sml hb 0) (by decide)) ?_
  generalize mixed _ _ = c
  dsimp only [wpSs, wpS, wpE, wpL, slotW, ownS, Rho.putL, frz, bindF, setD, setAll, bindT, F1.W, F2.W, F1.quiet, seqV, numW, isNon, r_got, r_rd_d, r_rd_own, r_rd_brw, r_nm_d, r_nm_own, r_nm_brw, r_nm_exc, r_low_int, r_low_list, r_arg_d, r_arg_own, r_arg_brw, r_arg_exc, r_kp_d, r_kp_own, r_keep_dt, r_keep_df, r_keep_ownt, r_keep_ownf, r_ret_d, r_ret_own, r_retm_d, r_retm_own, r_ifB, r_boolV, r_intV, r_argAll0, r_argAll1, r_keepAll0, r_keepAll1, r_seqOf_l, r_seqOf_t, r_listOf, r_ls_d, r_ls_own, r_keys_d, r_keys_own, r_keys_rg, r_it_dl, r_it_dt, r_it_own, r_it_brw, r_it_rg, r_itL_d, r_itL_own, r_itL_rg, r_has_ll, r_pv2, r_frz_d, r_frz_own, r_isi_int_d, r_isi_bool_d, r_isi_list_d, r_isi_tuple_d, r_isi_list_brw, r_isi_list_own, r_isi_exc, excIs, d_op, r_op_dl, r_op_dt, r_op_own, r_op_brw, r_op_ib, r_op_it, d_map0, d_map1, d_app0, d_app1, d_get0, d_get1, d_set0, d_set1, d_mod0, d_mod1, d_rep0, d_rep1, d_len0, d_len1, d_omap, d_obind, d_oelim, d_ct, d_cf, d_nt, d_nf, d_fand, d_tand, d_outn, d_outr, d_cmp1, d_cmp2, d_and1, d_and2, d_or1, d_or2, d_seq0, d_seq1, d_tst0, d_tst1, d_qt, d_qf, d_ownl, d_ownd, Nat.reduceSub, Nat.reduceAdd, r_retO_d, r_retO_own, r_pv4, r_op_bool, r_op_idl]
  have z0 := fmod_nonneg' (a := c) (b := 6) (by decide)
  have z1 := fmod_lt' (a := c) (b := 6) (by decide)
  have y0 := fmod_nonneg' (a := c.fdiv 6) (b := 6) (by decide)
  have y1 := fmod_lt' (a := c.fdiv 6) (b := 6) (by decide)
  have la : ∀ {z : PyData}, (ofPairs ts).length + [z].length < lim := fun {z} => lim_lt (by rw [length_ofPairs]; simp only [List.length_cons, List.length_nil]; omega)
  refine (show _ ∧ _ from ⟨la, l1, la, by decide, ?_⟩)
  refine idx_ino (xs := wrongL m ts) z0 (by omega) z1 fun y hy => ?_
  obtain ⟨b1, s1⟩ := wrong_no g.len y hy
  refine (show _ ∧ _ from ⟨⟨by decide, by decide⟩, by decide, ⟨by decide, by decide⟩, by decide, ?_⟩)
  refine idx_ino (xs := noneL c) y0 (by omega) y1 fun z hz => ?_
  have b2 := webB_size (y := .list (ofPairs ts)) (none_no z hz)
  dsimp only [wpSs, wpS, wpE, wpL, slotW, ownS, Rho.putL, frz, bindF, setD, setAll, bindT, F1.W, F2.W, F1.quiet, seqV, numW, isNon, r_got, r_rd_d, r_rd_own, r_rd_brw, r_nm_d, r_nm_own, r_nm_brw, r_nm_exc, r_low_int, r_low_list, r_arg_d, r_arg_own, r_arg_brw, r_arg_exc, r_kp_d, r_kp_own, r_keep_dt, r_keep_df, r_keep_ownt, r_keep_ownf, r_ret_d, r_ret_own, r_retm_d, r_retm_own, r_ifB, r_boolV, r_intV, r_argAll0, r_argAll1, r_keepAll0, r_keepAll1, r_seqOf_l, r_seqOf_t, r_listOf, r_ls_d, r_ls_own, r_keys_d, r_keys_own, r_keys_rg, r_it_dl, r_it_dt, r_it_own, r_it_brw, r_it_rg, r_itL_d, r_itL_own, r_itL_rg, r_has_ll, r_pv2, r_frz_d, r_frz_own, r_isi_int_d, r_isi_bool_d, r_isi_list_d, r_isi_tuple_d, r_isi_list_brw, r_isi_list_own, r_isi_exc, excIs, d_op, r_op_dl, r_op_dt, r_op_own, r_op_brw, r_op_ib, r_op_it, d_map0, d_map1, d_app0, d_app1, d_get0, d_get1, d_set0, d_set1, d_mod0, d_mod1, d_rep0, d_rep1, d_len0, d_len1, d_omap, d_obind, d_oelim, d_ct, d_cf, d_nt, d_nf, d_fand, d_tand, d_outn, d_outr, d_cmp1, d_cmp2, d_and1, d_and2, d_or1, d_or2, d_seq0, d_seq1, d_tst0, d_tst1, d_qt, d_qf, d_ownl, d_ownd, Nat.reduceSub, Nat.reduceAdd, r_retO_d, r_retO_own, r_pv4, r_op_bool, r_op_idl]
  refine (show _ ∧ _ from ⟨⟨by decide, lim_lti (by decide), l1⟩, ?_⟩)
  rw [ofPairs_take]
  refine (show _ ∧ _ from ⟨lim_lt (by rw [length_ofPairs, length_ofPairs, List.length_take]; omega), l1, ?_⟩)
  rw [length_ofPairs]
  refine (show _ ∧ _ from ⟨⟨Int.natCast_nonneg _, lim_lti (by omega), lim_lt (by decide)⟩, ?_⟩)
  have e0 : List.drop ((ts.length : Nat) : Int).toNat [PyData.tuple [.int 0, .int 0]] = ofPairs ([((0, 0) : Nat × Nat)].drop ts.length) := by rw [Int.toNat_natCast, ← ofPairs_drop]; rfl
  rw [e0, ofPairs_append]
  have tl := twice_len ts
  have ll : (ofPairs (ts ++ List.take 1 ts)).length + (ofPairs ([((0, 0) : Nat × Nat)].drop ts.length)).length < 1000 := by
    unfold twice at tl
    rw [List.length_append] at tl
    rw [length_ofPairs, length_ofPairs]; omega
  refine (show _ ∧ _ from ⟨lim_lt ll, ?_⟩)
  rw [ofPairs_append]
  refine (show _ ∧ _ from ⟨lim_lt (by decide), ?_⟩)
  dsimp only [forW, wpSs, wpS, wpE, wpL, slotW, ownS, Rho.putL, frz, bindF, setD, setAll, bindT, F1.W, F2.W, F1.quiet, seqV, numW, isNon, r_got, r_rd_d, r_rd_own, r_rd_brw, r_nm_d, r_nm_own, r_nm_brw, r_nm_exc, r_low_int, r_low_list, r_arg_d, r_arg_own, r_arg_brw, r_arg_exc, r_kp_d, r_kp_own, r_keep_dt, r_keep_df, r_keep_ownt, r_keep_ownf, r_ret_d, r_ret_own, r_retm_d, r_retm_own, r_ifB, r_boolV, r_intV, r_argAll0, r_argAll1, r_keepAll0, r_keepAll1, r_seqOf_l, r_seqOf_t, r_listOf, r_ls_d, r_ls_own, r_keys_d, r_keys_own, r_keys_rg, r_it_dl, r_it_dt, r_it_own, r_it_brw, r_it_rg, r_itL_d, r_itL_own, r_itL_rg, r_has_ll, r_pv2, r_frz_d, r_frz_own, r_isi_int_d, r_isi_bool_d, r_isi_list_d, r_isi_tuple_d, r_isi_list_brw, r_isi_list_own, r_isi_exc, excIs, d_op, r_op_dl, r_op_dt, r_op_own, r_op_brw, r_op_ib, r_op_it, d_map0, d_map1, d_app0, d_app1, d_get0, d_get1, d_set0, d_set1, d_mod0, d_mod1, d_rep0, d_rep1, d_len0, d_len1, d_omap, d_obind, d_oelim, d_ct, d_cf, d_nt, d_nf, d_fand, d_tand, d_outn, d_outr, d_cmp1, d_cmp2, d_and1, d_and2, d_or1, d_or2, d_seq0, d_seq1, d_tst0, d_tst1, d_qt, d_qf, d_ownl, d_ownd, Nat.reduceSub, Nat.reduceAdd, r_retO_d, r_retO_own, r_pv4, r_op_bool, r_op_idl]
  refine law_1 g.short b2 (law_1 s1 b1 (law_1 (short_pairs (ts := twice ts) (by omega)) twice_no ?_))
  dsimp only [b_law_2, wpSs, wpS, wpE, wpL, slotW, ownS, Rho.putL, frz, bindF, setD, setAll, bindT, F1.W, F2.W, F1.quiet, seqV, numW, isNon, r_got, r_rd_d, r_rd_own, r_rd_brw, r_nm_d, r_nm_own, r_nm_brw, r_nm_exc, r_low_int, r_low_list, r_arg_d, r_arg_own, r_arg_brw, r_arg_exc, r_kp_d, r_kp_own, r_keep_dt, r_keep_df, r_keep_ownt, r_keep_ownf, r_ret_d, r_ret_own, r_retm_d, r_retm_own, r_ifB, r_boolV, r_intV, r_argAll0, r_argAll1, r_keepAll0, r_keepAll1, r_seqOf_l, r_seqOf_t, r_listOf, r_ls_d, r_ls_own, r_keys_d, r_keys_own, r_keys_rg, r_it_dl, r_it_dt, r_it_own, r_it_brw, r_it_rg, r_itL_d, r_itL_own, r_itL_rg, r_has_ll, r_pv2, r_frz_d, r_frz_own, r_isi_int_d, r_isi_bool_d, r_isi_list_d, r_isi_tuple_d, r_isi_list_brw, r_isi_list_own, r_isi_exc, excIs, d_op, r_op_dl, r_op_dt, r_op_own, r_op_brw, r_op_ib, r_op_it, d_map0, d_map1, d_app0, d_app1, d_get0, d_get1, d_set0, d_set1, d_mod0, d_mod1, d_rep0, d_rep1, d_len0, d_len1, d_omap, d_obind, d_oelim, d_ct, d_cf, d_nt, d_nf, d_fand, d_tand, d_outn, d_outr, d_cmp1, d_cmp2, d_and1, d_and2, d_or1, d_or2, d_seq0, d_seq1, d_tst0, d_tst1, d_qt, d_qf, d_ownl, d_ownd, Nat.reduceSub, Nat.reduceAdd, r_retO_d, r_retO_own, r_pv4, r_op_bool, r_op_idl]
  have sp := Sh.pairs 0 ts
  refine (show _ ∧ _ ∧ _ from ⟨sp.shp (by decide), sp.shp (by decide), ?_⟩)
  have e : PyData.eqv (.list (ofPairs ts)) (.list (ofPairs ts)) = true := sp.eq
  rw [e]
  exact q
end
end TC

namespace TC
open PySem
theorem flats_rows (rows : List Row) : flats (rows.map rw4) = true := by
  induction rows with
  | nil => rfl
  | cons r rows ih => exact ih
theorem Sh.rows (rows : List Row) : Sh 2 (.list (rows.map rw4 ++ [.tuple []])) := .list fun x hx => by
  rcases List.mem_append.mp hx with hx | hx
  · obtain ⟨r, _, rfl⟩ := List.mem_map.mp hx
    exact .tuple fun y hy => by
      simp only [List.mem_cons, List.not_mem_nil, or_false] at hy
      rcases hy with rfl | rfl | rfl | rfl <;> exact .int 0 _
  · rw [List.mem_singleton.mp hx]; exact .tuple nofun
section
variable {n : Nat} {hm : Bool} {K : V → Prop} {X : Nat → Prop}
theorem law_a {sc : List Int} {m : Nat} {ts : Ties} {b d e f g x y : Option V} {k : KS} (q : k .nxt (lwR sc m ts (some (.d refused2)) b d e f g x y)) :
    wpSs (wpCall T07 n) false b_law_a (lwR sc m ts (some (.d refused2)) b d e f g x y) k (fun c _ => X c) := by
  dsimp only [b_law_a, wpSs, wpS, wpE, wpL, slotW, ownS, Rho.putL, frz, bindF, setD, setAll, bindT, F1.W, F2.W, F1.quiet, seqV, numW, isNon, r_got, r_rd_d, r_rd_own, r_rd_brw, r_nm_d, r_nm_own, r_nm_brw, r_nm_exc, r_low_int, r_low_list, r_arg_d, r_arg_own, r_arg_brw, r_arg_exc, r_kp_d, r_kp_own, r_keep_dt, r_keep_df, r_keep_ownt, r_keep_ownf, r_ret_d, r_ret_own, r_retm_d, r_retm_own, r_ifB, r_boolV, r_intV, r_argAll0, r_argAll1, r_keepAll0, r_keepAll1, r_seqOf_l, r_seqOf_t, r_listOf, r_ls_d, r_ls_own, r_keys_d, r_keys_own, r_keys_rg, r_it_dl, r_it_dt, r_it_own, r_it_brw, r_it_rg, r_itL_d, r_itL_own, r_itL_rg, r_has_ll, r_pv2, r_frz_d, r_frz_own, r_isi_int_d, r_isi_bool_d, r_isi_list_d, r_isi_tuple_d, r_isi_list_brw, r_isi_list_own, r_isi_exc, excIs, d_op, r_op_dl, r_op_dt, r_op_own, r_op_brw, r_op_ib, r_op_it, d_map0, d_map1, d_app0, d_app1, d_get0, d_get1, d_set0, d_set1, d_mod0, d_mod1, d_rep0, d_rep1, d_len0, d_len1, d_omap, d_obind, d_oelim, d_ct, d_cf, d_nt, d_nf, d_fand, d_tand, d_outn, d_outr, d_cmp1, d_cmp2, d_and1, d_and2, d_or1, d_or2, d_seq0, d_seq1, d_tst0, d_tst1, d_qt, d_qf, d_ownl, d_ownd, Nat.reduceSub, Nat.reduceAdd, r_retO_d, r_retO_own, r_pv4, r_op_bool, r_op_idl]
  exact ne_same rfl rfl (shr (.str _ (by decide +kernel)) (.str _ (by decide +kernel))) (by decide) q
theorem law_b {sc : List Int} {m : Nat} {ts : Ties} (g : GW m ts) (lb : lawB m ts = false) {rows : List Row} (hr : rows.length ≤ 10) (ch : Chain m ts rows) {b d e f h x y : Option V} {k : KS} (q : ∀ a d, k .nxt (lwR sc m ts a b d e f h x y)) :
    wpSs (wpCall T07 (n + 6)) false b_law_b (lwR sc m ts (some (.own (.list (rows.map rw4)))) b d e f h x y) k (fun c _ => X c) := by
  have lr : (rows.map rw4).length < lim := lim_lt (by rw [List.length_map]; omega)
  dsimp only [b_law_b, wpSs, wpS, wpE, wpL, slotW, ownS, Rho.putL, frz, bindF, setD, setAll, bindT, F1.W, F2.W, F1.quiet, seqV, numW, isNon, r_got, r_rd_d, r_rd_own, r_rd_brw, r_nm_d, r_nm_own, r_nm_brw, r_nm_exc, r_low_int, r_low_list, r_arg_d, r_arg_own, r_arg_brw, r_arg_exc, r_kp_d, r_kp_own, r_keep_dt, r_keep_df, r_keep_ownt, r_keep_ownf, r_ret_d, r_ret_own, r_retm_d, r_retm_own, r_ifB, r_boolV, r_intV, r_argAll0, r_argAll1, r_keepAll0, r_keepAll1, r_seqOf_l, r_seqOf_t, r_listOf, r_ls_d, r_ls_own, r_keys_d, r_keys_own, r_keys_rg, r_it_dl, r_it_dt, r_it_own, r_it_brw, r_it_rg, r_itL_d, r_itL_own, r_itL_rg, r_has_ll, r_pv2, r_frz_d, r_frz_own, r_isi_int_d, r_isi_bool_d, r_isi_list_d, r_isi_tuple_d, r_isi_list_brw, r_isi_list_own, r_isi_exc, excIs, d_op, r_op_dl, r_op_dt, r_op_own, r_op_brw, r_op_ib, r_op_it, d_map0, d_map1, d_app0, d_app1, d_get0, d_get1, d_set0, d_set1, d_mod0, d_mod1, d_rep0, d_rep1, d_len0, d_len1, d_omap, d_obind, d_oelim, d_ct, d_cf, d_nt, d_nf, d_fand, d_tand, d_outn, d_outr, d_cmp1, d_cmp2, d_and1, d_and2, d_or1, d_or2, d_seq0, d_seq1, d_tst0, d_tst1, d_qt, d_qf, d_ownl, d_ownd, Nat.reduceSub, Nat.reduceAdd, r_retO_d, r_retO_own, r_pv4, r_op_bool, r_op_idl]
  refine joined_spec g hr ch (.inr rfl) ?_
  show got (keysV (.brw (.list (rows.map rw4)))) _
  rw [show keysV (.brw (.list (rows.map rw4))) = some (rows.map rw4) from r_ls_brw (flats_rows rows)]
  refine (show _ ∧ _ from ⟨lr, lr, ?_⟩)
  refine told_spec g (fun _ rows2 hr2 ch2 => ?_) fun e => by rw [lb] at e; exact nomatch e
  dsimp only [wpSs, wpS, wpE, wpL, slotW, ownS, Rho.putL, frz, bindF, setD, setAll, bindT, F1.W, F2.W, F1.quiet, seqV, numW, isNon, r_got, r_rd_d, r_rd_own, r_rd_brw, r_nm_d, r_nm_own, r_nm_brw, r_nm_exc, r_low_int, r_low_list, r_arg_d, r_arg_own, r_arg_brw, r_arg_exc, r_kp_d, r_kp_own, r_keep_dt, r_keep_df, r_keep_ownt, r_keep_ownf, r_ret_d, r_ret_own, r_retm_d, r_retm_own, r_ifB, r_boolV, r_intV, r_argAll0, r_argAll1, r_keepAll0, r_keepAll1, r_seqOf_l, r_seqOf_t, r_listOf, r_ls_d, r_ls_own, r_keys_d, r_keys_own, r_keys_rg, r_it_dl, r_it_dt, r_it_own, r_it_brw, r_it_rg, r_itL_d, r_itL_own, r_itL_rg, r_has_ll, r_pv2, r_frz_d, r_frz_own, r_isi_int_d, r_isi_bool_d, r_isi_list_d, r_isi_tuple_d, r_isi_list_brw, r_isi_list_own, r_isi_exc, excIs, d_op, r_op_dl, r_op_dt, r_op_own, r_op_brw, r_op_ib, r_op_it, d_map0, d_map1, d_app0, d_app1, d_get0, d_get1, d_set0, d_set1, d_mod0, d_mod1, d_rep0, d_rep1, d_len0, d_len1, d_omap, d_obind, d_oelim, d_ct, d_cf, d_nt, d_nf, d_fand, d_tand, d_outn, d_outr, d_cmp1, d_cmp2, d_and1, d_and2, d_or1, d_or2, d_seq0, d_seq1, d_tst0, d_tst1, d_qt, d_qf, d_ownl, d_ownd, Nat.reduceSub, Nat.reduceAdd, r_retO_d, r_retO_own, r_pv4, r_op_bool, r_op_idl]
  refine joined_spec g hr2 ch2 (.inl rfl) ?_
  refine (show _ ∧ _ from ⟨lim_lt (by rw [List.length_map]; simp only [List.length_cons, List.length_nil]; omega), ?_⟩)
  exact ne_same rfl rfl (Sh.rows rows) (by decide) (q _ _)
theorem law_test {m : Nat} {ts : Ties} {A B : Prop} (l1 : (ofPairs ts).length < lim) (ha : lawB m ts = true → A) (hb : lawB m ts = false → B) :
    cond (decide (1 < (m : Int))) (objW .isin (.d (.int 0)) (.d (.list (ofInts (ctL m ts)))) fun v => ifB v A ((ofPairs ts).length < lim ∧ cond (decide (((ofPairs ts).length : Int) < m - 1)) A B)) ((ofPairs ts).length < lim ∧ cond (decide (((ofPairs ts).length : Int) < m - 1)) A B) := by
  unfold lawB at ha hb
  have rest : (decide (1 < (m : Int)) && decide (0 ∈ ctL m ts)) = false → (ofPairs ts).length < lim ∧ cond (decide (((ofPairs ts).length : Int) < m - 1)) A B := fun e => by
    rw [e, Bool.false_or] at ha hb
    rw [length_ofPairs] at l1 ⊢
    exact ⟨l1, cond_by ha hb⟩
  refine cond_by (fun c => in_ints (cond_by (fun z => ha (by rw [c, z]; rfl)) fun z => rest (by rw [c, z]; rfl))) fun c => rest (by rw [c]; rfl)
theorem law_t {sc : List Int} (hs : sc.length < 64) (hb : ∀ x ∈ sc, Sml x) {m : Nat} {ts : Ties} (g : GW m ts) (q : K (.d (.bool true))) :
    wpSs (wpCall T07 (n + 6)) false b_law_t [some (.d (.list (ofInts sc))), some (.d (.int m)), some (.d (.list (ofPairs ts))), none, none, none, none, none, none, none, none, none] (outK K) (fun c _ => X c) := by
  have hz := g.le
  have hl := web_len g.web g.le
  have l1 : (ofPairs ts).length < lim := len_pairs (by omega)
  dsimp only [b_law_t, wpSs, wpS, wpE, wpL, slotW, ownS, Rho.putL, frz, bindF, setD, setAll, bindT, F1.W, F2.W, F1.quiet, seqV, numW, isNon, r_got, r_rd_d, r_rd_own, r_rd_brw, r_nm_d, r_nm_own, r_nm_brw, r_nm_exc, r_low_int, r_low_list, r_arg_d, r_arg_own, r_arg_brw, r_arg_exc, r_kp_d, r_kp_own, r_keep_dt, r_keep_df, r_keep_ownt, r_keep_ownf, r_ret_d, r_ret_own, r_retm_d, r_retm_own, r_ifB, r_boolV, r_intV, r_argAll0, r_argAll1, r_keepAll0, r_keepAll1, r_seqOf_l, r_seqOf_t, r_listOf, r_ls_d, r_ls_own, r_keys_d, r_keys_own, r_keys_rg, r_it_dl, r_it_dt, r_it_own, r_it_brw, r_it_rg, r_itL_d, r_itL_own, r_itL_rg, r_has_ll, r_pv2, r_frz_d, r_frz_own, r_isi_int_d, r_isi_bool_d, r_isi_list_d, r_isi_tuple_d, r_isi_list_brw, r_isi_list_own, r_isi_exc, excIs, d_op, r_op_dl, r_op_dt, r_op_own, r_op_brw, r_op_ib, r_op_it, d_map0, d_map1, d_app0, d_app1, d_get0, d_get1, d_set0, d_set1, d_mod0, d_mod1, d_rep0, d_rep1, d_len0, d_len1, d_omap, d_obind, d_oelim, d_ct, d_cf, d_nt, d_nf, d_fand, d_tand, d_outn, d_outr, d_cmp1, d_cmp2, d_and1, d_and2, d_or1, d_or2, d_seq0, d_seq1, d_tst0, d_tst1, d_qt, d_qf, d_ownl, d_ownd, Nat.reduceSub, Nat.reduceAdd, r_retO_d, r_retO_own, r_pv4, r_op_bool, r_op_idl]
  refine ⟨l1, ?_⟩
  refine told_spec g (fun e rows hr ch => ?_) fun e => ?_
  · dsimp only [wpSs, wpS, wpE, wpL, slotW, ownS, Rho.putL, frz, bindF, setD, setAll, bindT, F1.W, F2.W, F1.quiet, seqV, numW, isNon, r_got, r_rd_d, r_rd_own, r_rd_brw, r_nm_d, r_nm_own, r_nm_brw, r_nm_exc, r_low_int, r_low_list, r_arg_d, r_arg_own, r_arg_brw, r_arg_exc, r_kp_d, r_kp_own, r_keep_dt, r_keep_df, r_keep_ownt, r_keep_ownf, r_ret_d, r_ret_own, r_retm_d, r_retm_own, r_ifB, r_boolV, r_intV, r_argAll0, r_argAll1, r_keepAll0, r_keepAll1, r_seqOf_l, r_seqOf_t, r_listOf, r_ls_d, r_ls_own, r_keys_d, r_keys_own, r_keys_rg, r_it_dl, r_it_dt, r_it_own, r_it_brw, r_it_rg, r_itL_d, r_itL_own, r_itL_rg, r_has_ll, r_pv2, r_frz_d, r_frz_own, r_isi_int_d, r_isi_bool_d, r_isi_list_d, r_isi_tuple_d, r_isi_list_brw, r_isi_list_own, r_isi_exc, excIs, d_op, r_op_dl, r_op_dt, r_op_own, r_op_brw, r_op_ib, r_op_it, d_map0, d_map1, d_app0, d_app1, d_get0, d_get1, d_set0, d_set1, d_mod0, d_mod1, d_rep0, d_rep1, d_len0, d_len1, d_omap, d_obind, d_oelim, d_ct, d_cf, d_nt, d_nf, d_fand, d_tand, d_outn, d_outr, d_cmp1, d_cmp2, d_and1, d_and2, d_or1, d_or2, d_seq0, d_seq1, d_tst0, d_tst1, d_qt, d_qf, d_ownl, d_ownd, Nat.reduceSub, Nat.reduceAdd, r_retO_d, r_retO_own, r_pv4, r_op_bool, r_op_idl]
    refine counts_spec m hz ts (by omega) ?_
    dsimp only [wpSs, wpS, wpE, wpL, slotW, ownS, Rho.putL, frz, bindF, setD, setAll, bindT, F1.W, F2.W, F1.quiet, seqV, numW, isNon, r_got, r_rd_d, r_rd_own, r_rd_brw, r_nm_d, r_nm_own, r_nm_brw, r_nm_exc, r_low_int, r_low_list, r_arg_d, r_arg_own, r_arg_brw, r_arg_exc, r_kp_d, r_kp_own, r_keep_dt, r_keep_df, r_keep_ownt, r_keep_ownf, r_ret_d, r_ret_own, r_retm_d, r_retm_own, r_ifB, r_boolV, r_intV, r_argAll0, r_argAll1, r_keepAll0, r_keepAll1, r_seqOf_l, r_seqOf_t, r_listOf, r_ls_d, r_ls_own, r_keys_d, r_keys_own, r_keys_rg, r_it_dl, r_it_dt, r_it_own, r_it_brw, r_it_rg, r_itL_d, r_itL_own, r_itL_rg, r_has_ll, r_pv2, r_frz_d, r_frz_own, r_isi_int_d, r_isi_bool_d, r_isi_list_d, r_isi_tuple_d, r_isi_list_brw, r_isi_list_own, r_isi_exc, excIs, d_op, r_op_dl, r_op_dt, r_op_own, r_op_brw, r_op_ib, r_op_it, d_map0, d_map1, d_app0, d_app1, d_get0, d_get1, d_set0, d_set1, d_mod0, d_mod1, d_rep0, d_rep1, d_len0, d_len1, d_omap, d_obind, d_oelim, d_ct, d_cf, d_nt, d_nf, d_fand, d_tand, d_outn, d_outr, d_cmp1, d_cmp2, d_and1, d_and2, d_or1, d_or2, d_seq0, d_seq1, d_tst0, d_tst1, d_qt, d_qf, d_ownl, d_ownd, Nat.reduceSub, Nat.reduceAdd, r_retO_d, r_retO_own, r_pv4, r_op_bool, r_op_idl]
    exact law_test l1 (fun q => by rw [e] at q; exact nomatch q) fun _ => law_b g e hr ch fun a d => law_u hs hb g q
  · dsimp only [wpSs, wpS, wpE, wpL, slotW, ownS, Rho.putL, frz, bindF, setD, setAll, bindT, F1.W, F2.W, F1.quiet, seqV, numW, isNon, r_got, r_rd_d, r_rd_own, r_rd_brw, r_nm_d, r_nm_own, r_nm_brw, r_nm_exc, r_low_int, r_low_list, r_arg_d, r_arg_own, r_arg_brw, r_arg_exc, r_kp_d, r_kp_own, r_keep_dt, r_keep_df, r_keep_ownt, r_keep_ownf, r_ret_d, r_ret_own, r_retm_d, r_retm_own, r_ifB, r_boolV, r_intV, r_argAll0, r_argAll1, r_keepAll0, r_keepAll1, r_seqOf_l, r_seqOf_t, r_listOf, r_ls_d, r_ls_own, r_keys_d, r_keys_own, r_keys_rg, r_it_dl, r_it_dt, r_it_own, r_it_brw, r_it_rg, r_itL_d, r_itL_own, r_itL_rg, r_has_ll, r_pv2, r_frz_d, r_frz_own, r_isi_int_d, r_isi_bool_d, r_isi_list_d, r_isi_tuple_d, r_isi_list_brw, r_isi_list_own, r_isi_exc, excIs, d_op, r_op_dl, r_op_dt, r_op_own, r_op_brw, r_op_ib, r_op_it, d_map0, d_map1, d_app0, d_app1, d_get0, d_get1, d_set0, d_set1, d_mod0, d_mod1, d_rep0, d_rep1, d_len0, d_len1, d_omap, d_obind, d_oelim, d_ct, d_cf, d_nt, d_nf, d_fand, d_tand, d_outn, d_outr, d_cmp1, d_cmp2, d_and1, d_and2, d_or1, d_or2, d_seq0, d_seq1, d_tst0, d_tst1, d_qt, d_qf, d_ownl, d_ownd, Nat.reduceSub, Nat.reduceAdd, r_retO_d, r_retO_own, r_pv4, r_op_bool, r_op_idl]
    refine counts_spec m hz ts (by omega) ?_
    dsimp only [wpSs, wpS, wpE, wpL, slotW, ownS, Rho.putL, frz, bindF, setD, setAll, bindT, F1.W, F2.W, F1.quiet, seqV, numW, isNon, r_got, r_rd_d, r_rd_own, r_rd_brw, r_nm_d, r_nm_own, r_nm_brw, r_nm_exc, r_low_int, r_low_list, r_arg_d, r_arg_own, r_arg_brw, r_arg_exc, r_kp_d, r_kp_own, r_keep_dt, r_keep_df, r_keep_ownt, r_keep_ownf, r_ret_d, r_ret_own, r_retm_d, r_retm_own, r_ifB, r_boolV, r_intV, r_argAll0, r_argAll1, r_keepAll0, r_keepAll1, r_seqOf_l, r_seqOf_t, r_listOf, r_ls_d, r_ls_own, r_keys_d, r_keys_own, r_keys_rg, r_it_dl, r_it_dt, r_it_own, r_it_brw, r_it_rg, r_itL_d, r_itL_own, r_itL_rg, r_has_ll, r_pv2, r_frz_d, r_frz_own, r_isi_int_d, r_isi_bool_d, r_isi_list_d, r_isi_tuple_d, r_isi_list_brw, r_isi_list_own, r_isi_exc, excIs, d_op, r_op_dl, r_op_dt, r_op_own, r_op_brw, r_op_ib, r_op_it, d_map0, d_map1, d_app0, d_app1, d_get0, d_get1, d_set0, d_set1, d_mod0, d_mod1, d_rep0, d_rep1, d_len0, d_len1, d_omap, d_obind, d_oelim, d_ct, d_cf, d_nt, d_nf, d_fand, d_tand, d_outn, d_outr, d_cmp1, d_cmp2, d_and1, d_and2, d_or1, d_or2, d_seq0, d_seq1, d_tst0, d_tst1, d_qt, d_qf, d_ownl, d_ownd, Nat.reduceSub, Nat.reduceAdd, r_retO_d, r_retO_own, r_pv4, r_op_bool, r_op_idl]
    exact law_test l1 (fun _ => law_a (law_u hs hb g q)) fun q => by rw [e] at q; exact nomatch q
/-- the text's law -/
theorem law_spec (sc : List Int) (hs : sc.length < 64) (hb : ∀ x ∈ sc, Sml x) (q : K (.d (.bool true))) : wpCall T07 (n + 7) false 26 [.d (.list (ofInts sc))] K X := by
  refine wpCall_in (fn := f_law) rfl rfl (by decide) ?_
  dsimp only [f_law, b_law, wpSs, wpS, wpE, wpL, slotW, ownS, Rho.putL, frz, bindF, setD, setAll, bindT, F1.W, F2.W, F1.quiet, seqV, numW, isNon, r_got, r_rd_d, r_rd_own, r_rd_brw, r_nm_d, r_nm_own, r_nm_brw, r_nm_exc, r_low_int, r_low_list, r_arg_d, r_arg_own, r_arg_brw, r_arg_exc, r_kp_d, r_kp_own, r_keep_dt, r_keep_df, r_keep_ownt, r_keep_ownf, r_ret_d, r_ret_own, r_retm_d, r_retm_own, r_ifB, r_boolV, r_intV, r_argAll0, r_argAll1, r_keepAll0, r_keepAll1, r_seqOf_l, r_seqOf_t, r_listOf, r_ls_d, r_ls_own, r_keys_d, r_keys_own, r_keys_rg, r_it_dl, r_it_dt, r_it_own, r_it_brw, r_it_rg, r_itL_d, r_itL_own, r_itL_rg, r_has_ll, r_pv2, r_frz_d, r_frz_own, r_isi_int_d, r_isi_bool_d, r_isi_list_d, r_isi_tuple_d, r_isi_list_brw, r_isi_list_own, r_isi_exc, excIs, d_op, r_op_dl, r_op_dt, r_op_own, r_op_brw, r_op_ib, r_op_it, d_map0, d_map1, d_app0, d_app1, d_get0, d_get1, d_set0, d_set1, d_mod0, d_mod1, d_rep0, d_rep1, d_len0, d_len1, d_omap, d_obind, d_oelim, d_ct, d_cf, d_nt, d_nf, d_fand, d_tand, d_outn, d_outr, d_cmp1, d_cmp2, d_and1, d_and2, d_or1, d_or2, d_seq0, d_seq1, d_tst0, d_tst1, d_qt, d_qf, d_ownl, d_ownd, Nat.reduceSub, Nat.reduceAdd, r_retO_d, r_retO_own, r_pv4, r_op_bool, r_op_idl]
  refine web_spec sc hs hb 1 10 (by decide) (by decide) (by decide) fun m ts h0 hz wo => ?_
  dsimp only [wpSs, wpS, wpE, wpL, slotW, ownS, Rho.putL, frz, bindF, setD, setAll, bindT, F1.W, F2.W, F1.quiet, seqV, numW, isNon, r_got, r_rd_d, r_rd_own, r_rd_brw, r_nm_d, r_nm_own, r_nm_brw, r_nm_exc, r_low_int, r_low_list, r_arg_d, r_arg_own, r_arg_brw, r_arg_exc, r_kp_d, r_kp_own, r_keep_dt, r_keep_df, r_keep_ownt, r_keep_ownf, r_ret_d, r_ret_own, r_retm_d, r_retm_own, r_ifB, r_boolV, r_intV, r_argAll0, r_argAll1, r_keepAll0, r_keepAll1, r_seqOf_l, r_seqOf_t, r_listOf, r_ls_d, r_ls_own, r_keys_d, r_keys_own, r_keys_rg, r_it_dl, r_it_dt, r_it_own, r_it_brw, r_it_rg, r_itL_d, r_itL_own, r_itL_rg, r_has_ll, r_pv2, r_frz_d, r_frz_own, r_isi_int_d, r_isi_bool_d, r_isi_list_d, r_isi_tuple_d, r_isi_list_brw, r_isi_list_own, r_isi_exc, excIs, d_op, r_op_dl, r_op_dt, r_op_own, r_op_brw, r_op_ib, r_op_it, d_map0, d_map1, d_app0, d_app1, d_get0, d_get1, d_set0, d_set1, d_mod0, d_mod1, d_rep0, d_rep1, d_len0, d_len1, d_omap, d_obind, d_oelim, d_ct, d_cf, d_nt, d_nf, d_fand, d_tand, d_outn, d_outr, d_cmp1, d_cmp2, d_and1, d_and2, d_or1, d_or2, d_seq0, d_seq1, d_tst0, d_tst1, d_qt, d_qf, d_ownl, d_ownd, Nat.reduceSub, Nat.reduceAdd, r_retO_d, r_retO_own, r_pv4, r_op_bool, r_op_idl]
  refine cell_spec sc 0 hs (by decide) (by decide) ?_
  refine ⟨by decide, ifB_by (fun _ => ?_) fun _ => law_t hs hb ⟨h0, hz, wo.web, wo.length hz⟩ q⟩
  refine cell_spec sc 8 hs (by decide) (by decide) ?_
  refine mixed_spec _ _ (mulOk_k (k := 3) (cell_sml hb 8) (by decide)) ?_
  refine side_spec (mixed_sml _ _) fun m us h0 hz w => ?_
  dsimp only [wpSs, wpS, wpE, wpL, slotW, ownS, Rho.putL, frz, bindF, setD, setAll, bindT, F1.W, F2.W, F1.quiet, seqV, numW, isNon, r_got, r_rd_d, r_rd_own, r_rd_brw, r_nm_d, r_nm_own, r_nm_brw, r_nm_exc, r_low_int, r_low_list, r_arg_d, r_arg_own, r_arg_brw, r_arg_exc, r_kp_d, r_kp_own, r_keep_dt, r_keep_df, r_keep_ownt, r_keep_ownf, r_ret_d, r_ret_own, r_retm_d, r_retm_own, r_ifB, r_boolV, r_intV, r_argAll0, r_argAll1, r_keepAll0, r_keepAll1, r_seqOf_l, r_seqOf_t, r_listOf, r_ls_d, r_ls_own, r_keys_d, r_keys_own, r_keys_rg, r_it_dl, r_it_dt, r_it_own, r_it_brw, r_it_rg, r_itL_d, r_itL_own, r_itL_rg, r_has_ll, r_pv2, r_frz_d, r_frz_own, r_isi_int_d, r_isi_bool_d, r_isi_list_d, r_isi_tuple_d, r_isi_list_brw, r_isi_list_own, r_isi_exc, excIs, d_op, r_op_dl, r_op_dt, r_op_own, r_op_brw, r_op_ib, r_op_it, d_map0, d_map1, d_app0, d_app1, d_get0, d_get1, d_set0, d_set1, d_mod0, d_mod1, d_rep0, d_rep1, d_len0, d_len1, d_omap, d_obind, d_oelim, d_ct, d_cf, d_nt, d_nf, d_fand, d_tand, d_outn, d_outr, d_cmp1, d_cmp2, d_and1, d_and2, d_or1, d_or2, d_seq0, d_seq1, d_tst0, d_tst1, d_qt, d_qf, d_ownl, d_ownd, Nat.reduceSub, Nat.reduceAdd, r_retO_d, r_retO_own, r_pv4, r_op_bool, r_op_idl]
  exact law_t hs hb ⟨h0, hz, w, by have := web_len w hz; omega⟩ q
end
end TC

namespace TC
open PySem PySem.W PyProof.Rows
noncomputable def K07 (P : Params) : Frag := [
  (3, Obj.mk (Value.type "dict") none (Data.dict #[DictEntry.mk (PyData.keyHash P (Str.ofString "__name__")) (Value.str (Str.ofString "__name__") 165) (Value.str (Str.ofString "law_uf040017_07") 420), DictEntry.mk (PyData.keyHash P (Str.ofString "__doc__")) (Value.str (Str.ofString "__doc__") 166) Value.none, DictEntry.mk (PyData.keyHash P (Str.ofString "__package__")) (Value.str (Str.ofString "__package__") 167) Value.none, DictEntry.mk (PyData.keyHash P (Str.ofString "__loader__")) (Value.str (Str.ofString "__loader__") 168) (Value.builtin "__main__.__loader__#opaque"), DictEntry.mk (PyData.keyHash P (Str.ofString "__spec__")) (Value.str (Str.ofString "__spec__") 169) Value.none, DictEntry.mk (PyData.keyHash P (Str.ofString "__annotations__")) (Value.str (Str.ofString "__annotations__") 170) (Value.ref 6), DictEntry.mk (PyData.keyHash P (Str.ofString "__builtins__")) (Value.str (Str.ofString "__builtins__") 171) (Value.ref 4), DictEntry.mk (PyData.keyHash P (Str.ofString "__file__")) (Value.str (Str.ofString "__file__") 173) (Value.str (Str.ofString "/claim/cut.py") 172), DictEntry.mk (PyData.keyHash P (Str.ofString "__cached__")) (Value.str (Str.ofString "__cached__") 174) Value.none, DictEntry.mk (PyData.keyHash P (Str.ofString "TieError")) (Value.str (Str.ofString "TieError") 206) (Value.ref 24), DictEntry.mk (PyData.keyHash P (Str.ofString "BadCounts")) (Value.str (Str.ofString "BadCounts") 222) (Value.ref 37), DictEntry.mk (PyData.keyHash P (Str.ofString "BadMany")) (Value.str (Str.ofString "BadMany") 238) (Value.ref 49), DictEntry.mk (PyData.keyHash P (Str.ofString "BadWeb")) (Value.str (Str.ofString "BadWeb") 254) (Value.ref 61), DictEntry.mk (PyData.keyHash P (Str.ofString "BadExchange")) (Value.str (Str.ofString "BadExchange") 270) (Value.ref 73), DictEntry.mk (PyData.keyHash P (Str.ofString "Unlike")) (Value.str (Str.ofString "Unlike") 286) (Value.ref 85), DictEntry.mk (PyData.keyHash P (Str.ofString "NoWeb")) (Value.str (Str.ofString "NoWeb") 302) (Value.ref 97), DictEntry.mk (PyData.keyHash P (Str.ofString "MOST_POINTS")) (Value.str (Str.ofString "MOST_POINTS") 306) (Value.int 10 305), DictEntry.mk (PyData.keyHash P (Str.ofString "is_among")) (Value.str (Str.ofString "is_among") 315) (Value.ref 106), DictEntry.mk (PyData.keyHash P (Str.ofString "is_tie")) (Value.str (Str.ofString "is_tie") 325) (Value.ref 113), DictEntry.mk (PyData.keyHash P (Str.ofString "need_web")) (Value.str (Str.ofString "need_web") 335) (Value.ref 120), DictEntry.mk (PyData.keyHash P (Str.ofString "tie_of")) (Value.str (Str.ofString "tie_of") 343) (Value.ref 127), DictEntry.mk (PyData.keyHash P (Str.ofString "counts_by")) (Value.str (Str.ofString "counts_by") 354) (Value.ref 134), DictEntry.mk (PyData.keyHash P (Str.ofString "piece_from")) (Value.str (Str.ofString "piece_from") 369) (Value.ref 141), DictEntry.mk (PyData.keyHash P (Str.ofString "pieces_by")) (Value.str (Str.ofString "pieces_by") 382) (Value.ref 148), DictEntry.mk (PyData.keyHash P (Str.ofString "done_by")) (Value.str (Str.ofString "done_by") 390) (Value.ref 153), DictEntry.mk (PyData.keyHash P (Str.ofString "hindered")) (Value.str (Str.ofString "hindered") 399) (Value.ref 160), DictEntry.mk (PyData.keyHash P (Str.ofString "spare_tie")) (Value.str (Str.ofString "spare_tie") 405) (Value.ref 165), DictEntry.mk (PyData.keyHash P (Str.ofString "joined_up")) (Value.str (Str.ofString "joined_up") 411) (Value.ref 170), DictEntry.mk (PyData.keyHash P (Str.ofString "joining")) (Value.str (Str.ofString "joining") 419) (Value.ref 177), DictEntry.mk (PyData.keyHash P (Str.ofString "_law_cell")) (Value.str (Str.ofString "_law_cell") 429) (Value.ref 184), DictEntry.mk (PyData.keyHash P (Str.ofString "_law_mixed")) (Value.str (Str.ofString "_law_mixed") 438) (Value.ref 191), DictEntry.mk (PyData.keyHash P (Str.ofString "_law_whole")) (Value.str (Str.ofString "_law_whole") 445) (Value.ref 198), DictEntry.mk (PyData.keyHash P (Str.ofString "_law_web")) (Value.str (Str.ofString "_law_web") 462) (Value.ref 205), DictEntry.mk (PyData.keyHash P (Str.ofString "_law_tied")) (Value.str (Str.ofString "_law_tied") 470) (Value.ref 212), DictEntry.mk (PyData.keyHash P (Str.ofString "_law_counts")) (Value.str (Str.ofString "_law_counts") 476) (Value.ref 217), DictEntry.mk (PyData.keyHash P (Str.ofString "_law_pieces")) (Value.str (Str.ofString "_law_pieces") 482) (Value.ref 222), DictEntry.mk (PyData.keyHash P (Str.ofString "_law_fits")) (Value.str (Str.ofString "_law_fits") 495) (Value.ref 229), DictEntry.mk (PyData.keyHash P (Str.ofString "_law_left")) (Value.str (Str.ofString "_law_left") 501) (Value.ref 234), DictEntry.mk (PyData.keyHash P (Str.ofString "_law_is_row")) (Value.str (Str.ofString "_law_is_row") 507) (Value.ref 239), DictEntry.mk (PyData.keyHash P (Str.ofString "_law_kind")) (Value.str (Str.ofString "_law_kind") 513) (Value.ref 244), DictEntry.mk (PyData.keyHash P (Str.ofString "_law_side_by_side")) (Value.str (Str.ofString "_law_side_by_side") 525) (Value.ref 251), DictEntry.mk (PyData.keyHash P (Str.ofString "_law_told")) (Value.str (Str.ofString "_law_told") 534) (Value.ref 258), DictEntry.mk (PyData.keyHash P (Str.ofString "_law_joined")) (Value.str (Str.ofString "_law_joined") 546) (Value.ref 265), DictEntry.mk (PyData.keyHash P (Str.ofString "law")) (Value.str (Str.ofString "law") 564) (Value.ref 272)] 44) #[]),
  (23, Obj.mk (Value.type "dict") none (Data.dict #[DictEntry.mk (PyData.keyHash P (Str.ofString "__module__")) (Value.str (Str.ofString "__module__") 196) (Value.str (Str.ofString "tiecount.errors") 187), DictEntry.mk (PyData.keyHash P (Str.ofString "__firstlineno__")) (Value.str (Str.ofString "__firstlineno__") 200) (Value.int 2 199), DictEntry.mk (PyData.keyHash P (Str.ofString "__static_attributes__")) (Value.str (Str.ofString "__static_attributes__") 201) (Value.ref 22), DictEntry.mk (PyData.keyHash P (Str.ofString "__weakref__")) (Value.str (Str.ofString "__weakref__") 203) (Value.ref 25), DictEntry.mk (PyData.keyHash P (Str.ofString "__doc__")) (Value.str (Str.ofString "__doc__") 204) Value.none] 3) #[]),
  (24, Obj.mk (Value.type "type") none (Data.cls (ClassData.mk (Str.ofString "TieError") [Value.type "ValueError"] [Value.ref 24, Value.type "ValueError", Value.type "Exception", Value.type "BaseException", Value.type "object"] 23 (Str.ofString "TieError") true [] [Value.ref 37, Value.ref 49, Value.ref 61, Value.ref 73, Value.ref 85, Value.ref 97] false none false)) #[some (Value.ref 15), none, some (Value.str (Str.ofString "TieError") 189), some (Value.str (Str.ofString "TieError") 197), some (Value.builtin "ValueError.__new__"), some (Value.bool true)]),
  (36, Obj.mk (Value.type "dict") none (Data.dict #[DictEntry.mk (PyData.keyHash P (Str.ofString "__module__")) (Value.str (Str.ofString "__module__") 214) (Value.str (Str.ofString "tiecount.errors") 187), DictEntry.mk (PyData.keyHash P (Str.ofString "__firstlineno__")) (Value.str (Str.ofString "__firstlineno__") 218) (Value.int 4 217), DictEntry.mk (PyData.keyHash P (Str.ofString "__static_attributes__")) (Value.str (Str.ofString "__static_attributes__") 219) (Value.ref 35), DictEntry.mk (PyData.keyHash P (Str.ofString "__doc__")) (Value.str (Str.ofString "__doc__") 220) Value.none] 2) #[]),
  (37, Obj.mk (Value.type "type") none (Data.cls (ClassData.mk (Str.ofString "BadCounts") [Value.ref 24] [Value.ref 37, Value.ref 24, Value.type "ValueError", Value.type "Exception", Value.type "BaseException", Value.type "object"] 36 (Str.ofString "BadCounts") true [] [] false none false)) #[some (Value.ref 28), none, some (Value.str (Str.ofString "BadCounts") 207), some (Value.str (Str.ofString "BadCounts") 215), some (Value.builtin "ValueError.__new__"), some (Value.bool true)]),
  (48, Obj.mk (Value.type "dict") none (Data.dict #[DictEntry.mk (PyData.keyHash P (Str.ofString "__module__")) (Value.str (Str.ofString "__module__") 230) (Value.str (Str.ofString "tiecount.errors") 187), DictEntry.mk (PyData.keyHash P (Str.ofString "__firstlineno__")) (Value.str (Str.ofString "__firstlineno__") 234) (Value.int 6 233), DictEntry.mk (PyData.keyHash P (Str.ofString "__static_attributes__")) (Value.str (Str.ofString "__static_attributes__") 235) (Value.ref 47), DictEntry.mk (PyData.keyHash P (Str.ofString "__doc__")) (Value.str (Str.ofString "__doc__") 236) Value.none] 2) #[]),
  (49, Obj.mk (Value.type "type") none (Data.cls (ClassData.mk (Str.ofString "BadMany") [Value.ref 24] [Value.ref 49, Value.ref 24, Value.type "ValueError", Value.type "Exception", Value.type "BaseException", Value.type "object"] 48 (Str.ofString "BadMany") true [] [] false none false)) #[some (Value.ref 40), none, some (Value.str (Str.ofString "BadMany") 223), some (Value.str (Str.ofString "BadMany") 231), some (Value.builtin "ValueError.__new__"), some (Value.bool true)]),
  (60, Obj.mk (Value.type "dict") none (Data.dict #[DictEntry.mk (PyData.keyHash P (Str.ofString "__module__")) (Value.str (Str.ofString "__module__") 246) (Value.str (Str.ofString "tiecount.errors") 187), DictEntry.mk (PyData.keyHash P (Str.ofString "__firstlineno__")) (Value.str (Str.ofString "__firstlineno__") 250) (Value.int 8 249), DictEntry.mk (PyData.keyHash P (Str.ofString "__static_attributes__")) (Value.str (Str.ofString "__static_attributes__") 251) (Value.ref 59), DictEntry.mk (PyData.keyHash P (Str.ofString "__doc__")) (Value.str (Str.ofString "__doc__") 252) Value.none] 2) #[]),
  (61, Obj.mk (Value.type "type") none (Data.cls (ClassData.mk (Str.ofString "BadWeb") [Value.ref 24] [Value.ref 61, Value.ref 24, Value.type "ValueError", Value.type "Exception", Value.type "BaseException", Value.type "object"] 60 (Str.ofString "BadWeb") true [] [] false none false)) #[some (Value.ref 52), none, some (Value.str (Str.ofString "BadWeb") 239), some (Value.str (Str.ofString "BadWeb") 247), some (Value.builtin "ValueError.__new__"), some (Value.bool true)]),
  (72, Obj.mk (Value.type "dict") none (Data.dict #[DictEntry.mk (PyData.keyHash P (Str.ofString "__module__")) (Value.str (Str.ofString "__module__") 262) (Value.str (Str.ofString "tiecount.errors") 187), DictEntry.mk (PyData.keyHash P (Str.ofString "__firstlineno__")) (Value.str (Str.ofString "__firstlineno__") 266) (Value.int 10 265), DictEntry.mk (PyData.keyHash P (Str.ofString "__static_attributes__")) (Value.str (Str.ofString "__static_attributes__") 267) (Value.ref 71), DictEntry.mk (PyData.keyHash P (Str.ofString "__doc__")) (Value.str (Str.ofString "__doc__") 268) Value.none] 2) #[]),
  (73, Obj.mk (Value.type "type") none (Data.cls (ClassData.mk (Str.ofString "BadExchange") [Value.ref 24] [Value.ref 73, Value.ref 24, Value.type "ValueError", Value.type "Exception", Value.type "BaseException", Value.type "object"] 72 (Str.ofString "BadExchange") true [] [] false none false)) #[some (Value.ref 64), none, some (Value.str (Str.ofString "BadExchange") 255), some (Value.str (Str.ofString "BadExchange") 263), some (Value.builtin "ValueError.__new__"), some (Value.bool true)]),
  (84, Obj.mk (Value.type "dict") none (Data.dict #[DictEntry.mk (PyData.keyHash P (Str.ofString "__module__")) (Value.str (Str.ofString "__module__") 278) (Value.str (Str.ofString "tiecount.errors") 187), DictEntry.mk (PyData.keyHash P (Str.ofString "__firstlineno__")) (Value.str (Str.ofString "__firstlineno__") 282) (Value.int 12 281), DictEntry.mk (PyData.keyHash P (Str.ofString "__static_attributes__")) (Value.str (Str.ofString "__static_attributes__") 283) (Value.ref 83), DictEntry.mk (PyData.keyHash P (Str.ofString "__doc__")) (Value.str (Str.ofString "__doc__") 284) Value.none] 2) #[]),
  (85, Obj.mk (Value.type "type") none (Data.cls (ClassData.mk (Str.ofString "Unlike") [Value.ref 24] [Value.ref 85, Value.ref 24, Value.type "ValueError", Value.type "Exception", Value.type "BaseException", Value.type "object"] 84 (Str.ofString "Unlike") true [] [] false none false)) #[some (Value.ref 76), none, some (Value.str (Str.ofString "Unlike") 271), some (Value.str (Str.ofString "Unlike") 279), some (Value.builtin "ValueError.__new__"), some (Value.bool true)]),
  (96, Obj.mk (Value.type "dict") none (Data.dict #[DictEntry.mk (PyData.keyHash P (Str.ofString "__module__")) (Value.str (Str.ofString "__module__") 294) (Value.str (Str.ofString "tiecount.errors") 187), DictEntry.mk (PyData.keyHash P (Str.ofString "__firstlineno__")) (Value.str (Str.ofString "__firstlineno__") 298) (Value.int 14 297), DictEntry.mk (PyData.keyHash P (Str.ofString "__static_attributes__")) (Value.str (Str.ofString "__static_attributes__") 299) (Value.ref 95), DictEntry.mk (PyData.keyHash P (Str.ofString "__doc__")) (Value.str (Str.ofString "__doc__") 300) Value.none] 2) #[]),
  (97, Obj.mk (Value.type "type") none (Data.cls (ClassData.mk (Str.ofString "NoWeb") [Value.ref 24] [Value.ref 97, Value.ref 24, Value.type "ValueError", Value.type "Exception", Value.type "BaseException", Value.type "object"] 96 (Str.ofString "NoWeb") true [] [] false none false)) #[some (Value.ref 88), none, some (Value.str (Str.ofString "NoWeb") 287), some (Value.str (Str.ofString "NoWeb") 295), some (Value.builtin "ValueError.__new__"), some (Value.bool true)])]
noncomputable def fn07 : List Str := ["is_among", "is_tie", "need_web", "tie_of", "counts_by", "piece_from", "pieces_by", "done_by", "hindered", "spare_tie", "joined_up", "joining", "_law_cell", "_law_mixed", "_law_whole", "_law_web", "_law_tied", "_law_counts", "_law_pieces", "_law_fits", "_law_left", "_law_is_row", "_law_kind", "_law_side_by_side", "_law_told", "_law_joined", "law"]
noncomputable def fa07 : List Addr := [106, 113, 120, 127, 134, 141, 148, 153, 160, 165, 170, 177, 184, 191, 198, 205, 212, 217, 222, 229, 234, 239, 244, 251, 258, 265, 272]
noncomputable def cn07 : List Str := ["TieError", "BadCounts", "BadMany", "BadWeb", "BadExchange", "Unlike", "NoWeb"]
noncomputable def ca07 : List Addr := [24, 37, 49, 61, 73, 85, 97]
noncomputable def cst07 : List (Str × Int) := [("MOST_POINTS", 10)]
end TC

open PySem PySem.W PyProof.Rows
set_option maxRecDepth 100000 in
set_option maxHeartbeats 8000000 in
theorem PySem.Challenge.cw_uf040017_07_holds : PySem.Challenge.rw_uf040017_07.Holds := by
  w_on
  o_law
  o_head (kHook TC.K07 [3, 23, 24, 36, 37, 48, 49, 60, 61, 72, 73, 84, 85, 96, 97] (fun _ => rfl))
  (case hw => w_witness2)
  intro w s₀ s₁ mg mb G Y fa o pm cd doc dV kV ho hd hcd hD hmg hg args vals as hpre hlay hrd hwl hlo
  have KX := kIn_of Y
  refine Ground.open G ?_
  intro T B D TE TW
  have efa : Value.ref fa = Value.ref 272 := Option.some.inj (hmg.symm.trans (mg_of KX T.g (show nsIn _ mainGlobals "law" = some (some (.ref 272)) by kernel_rfl)))
  have efa := Value.ref.inj efa
  subst efa
  clear hd hcd hD hmg ho
  wrow_args hpre hlay hrd hwl hlo
  rename_i sc _ _ hL _ _ _ _ _ _ _ _ _ W _ _ _ hlen _
  refine enter_call ?_
  refine TC.law_ends (TC.gl_ok TC.fn07 TC.fa07 TC.cn07 TC.ca07 TC.cst07 TC.T07 [] KX T ?ckq ?coq rfl rfl rfl ?foq) rfl (f := 26) rfl W hg ?wq ?nq ?pq
  case ckq => kernel_rfl
  case coq => kernel_rfl
  case foq =>
    intro k x f h1 h2
    match k, h1, h2 with
    | 0, h1, h2 =>
      cases h1; cases h2
      exact ⟨[], by kernel_rfl, by kernel_rfl, by kernel_rfl, fun pm code doc vals h => by
        match vals, h with
        | [a, b, c], _ => kernel_rfl⟩
    | 1, h1, h2 =>
      cases h1; cases h2
      exact ⟨[], by kernel_rfl, by kernel_rfl, by kernel_rfl, fun pm code doc vals h => by
        match vals, h with
        | [a, b], _ => kernel_rfl⟩
    | 2, h1, h2 =>
      cases h1; cases h2
      exact ⟨[2], by kernel_rfl, by kernel_rfl, by kernel_rfl, fun pm code doc vals h => by
        match vals, h with
        | [a, b], _ => kernel_rfl⟩
    | 3, h1, h2 =>
      cases h1; cases h2
      exact ⟨[], by kernel_rfl, by kernel_rfl, by kernel_rfl, fun pm code doc vals h => by
        match vals, h with
        | [a, b], _ => kernel_rfl⟩
    | 4, h1, h2 =>
      cases h1; cases h2
      exact ⟨[2], by kernel_rfl, by kernel_rfl, by kernel_rfl, fun pm code doc vals h => by
        match vals, h with
        | [a, b], _ => kernel_rfl⟩
    | 5, h1, h2 =>
      cases h1; cases h2
      exact ⟨[2, 3], by kernel_rfl, by kernel_rfl, by kernel_rfl, fun pm code doc vals h => by
        match vals, h with
        | [a, b], _ => kernel_rfl⟩
    | 6, h1, h2 =>
      cases h1; cases h2
      exact ⟨[2, 3], by kernel_rfl, by kernel_rfl, by kernel_rfl, fun pm code doc vals h => by
        match vals, h with
        | [a, b], _ => kernel_rfl⟩
    | 7, h1, h2 =>
      cases h1; cases h2
      exact ⟨[], by kernel_rfl, by kernel_rfl, by kernel_rfl, fun pm code doc vals h => by
        match vals, h with
        | [a, b], _ => kernel_rfl⟩
    | 8, h1, h2 =>
      cases h1; cases h2
      exact ⟨[], by kernel_rfl, by kernel_rfl, by kernel_rfl, fun pm code doc vals h => by
        match vals, h with
        | [a], _ => kernel_rfl⟩
    | 9, h1, h2 =>
      cases h1; cases h2
      exact ⟨[], by kernel_rfl, by kernel_rfl, by kernel_rfl, fun pm code doc vals h => by
        match vals, h with
        | [a, b], _ => kernel_rfl⟩
    | 10, h1, h2 =>
      cases h1; cases h2
      exact ⟨[3], by kernel_rfl, by kernel_rfl, by kernel_rfl, fun pm code doc vals h => by
        match vals, h with
        | [a, b], _ => kernel_rfl⟩
    | 11, h1, h2 =>
      cases h1; cases h2
      exact ⟨[], by kernel_rfl, by kernel_rfl, by kernel_rfl, fun pm code doc vals h => by
        match vals, h with
        | [a, b], _ => kernel_rfl⟩
    | 12, h1, h2 =>
      cases h1; cases h2
      exact ⟨[], by kernel_rfl, by kernel_rfl, by kernel_rfl, fun pm code doc vals h => by
        match vals, h with
        | [a, b], _ => kernel_rfl⟩
    | 13, h1, h2 =>
      cases h1; cases h2
      exact ⟨[], by kernel_rfl, by kernel_rfl, by kernel_rfl, fun pm code doc vals h => by
        match vals, h with
        | [a, b], _ => kernel_rfl⟩
    | 14, h1, h2 =>
      cases h1; cases h2
      exact ⟨[], by kernel_rfl, by kernel_rfl, by kernel_rfl, fun pm code doc vals h => by
        match vals, h with
        | [a], _ => kernel_rfl⟩
    | 15, h1, h2 =>
      cases h1; cases h2
      exact ⟨[5], by kernel_rfl, by kernel_rfl, by kernel_rfl, fun pm code doc vals h => by
        match vals, h with
        | [a, b, c], _ => kernel_rfl⟩
    | 16, h1, h2 =>
      cases h1; cases h2
      exact ⟨[], by kernel_rfl, by kernel_rfl, by kernel_rfl, fun pm code doc vals h => by
        match vals, h with
        | [a, b], _ => kernel_rfl⟩
    | 17, h1, h2 =>
      cases h1; cases h2
      exact ⟨[], by kernel_rfl, by kernel_rfl, by kernel_rfl, fun pm code doc vals h => by
        match vals, h with
        | [a, b], _ => kernel_rfl⟩
    | 18, h1, h2 =>
      cases h1; cases h2
      exact ⟨[2, 7], by kernel_rfl, by kernel_rfl, by kernel_rfl, fun pm code doc vals h => by
        match vals, h with
        | [a, b], _ => kernel_rfl⟩
    | 19, h1, h2 =>
      cases h1; cases h2
      exact ⟨[], by kernel_rfl, by kernel_rfl, by kernel_rfl, fun pm code doc vals h => by
        match vals, h with
        | [a, b], _ => kernel_rfl⟩
    | 20, h1, h2 =>
      cases h1; cases h2
      exact ⟨[], by kernel_rfl, by kernel_rfl, by kernel_rfl, fun pm code doc vals h => by
        match vals, h with
        | [a, b], _ => kernel_rfl⟩
    | 21, h1, h2 =>
      cases h1; cases h2
      exact ⟨[], by kernel_rfl, by kernel_rfl, by kernel_rfl, fun pm code doc vals h => by
        match vals, h with
        | [a, b], _ => kernel_rfl⟩
    | 22, h1, h2 =>
      cases h1; cases h2
      exact ⟨[], by kernel_rfl, by kernel_rfl, by kernel_rfl, fun pm code doc vals h => by
        match vals, h with
        | [a], _ => kernel_rfl⟩
    | 23, h1, h2 =>
      cases h1; cases h2
      exact ⟨[1], by kernel_rfl, by kernel_rfl, by kernel_rfl, fun pm code doc vals h => by
        match vals, h with
        | [a], _ => kernel_rfl⟩
    | 24, h1, h2 =>
      cases h1; cases h2
      exact ⟨[], by kernel_rfl, by kernel_rfl, by kernel_rfl, fun pm code doc vals h => by
        match vals, h with
        | [a, b], _ => kernel_rfl⟩
    | 25, h1, h2 =>
      cases h1; cases h2
      exact ⟨[], by kernel_rfl, by kernel_rfl, by kernel_rfl, fun pm code doc vals h => by
        match vals, h with
        | [a, b, c], _ => kernel_rfl⟩
    | 26, h1, h2 =>
      cases h1; cases h2
      exact ⟨[4], by kernel_rfl, by kernel_rfl, by kernel_rfl, fun pm code doc vals h => by
        match vals, h with
        | [a], _ => kernel_rfl⟩
    | n + 27, h1, h2 => cases h1
  case wq =>
    refine TC.law_spec sc ?_ ?_ rfl
    · omega
    · intro x hx
      exact intBits_le_of_item hx hL
  case nq => exact raisesW_false (by wrow_none_raised)
  case pq => wrow_post
