import PyProof.Rows.All
import Wide.All
import Open.Line
import OpenK.KWalk
import OpenK.KMore
import OpenK.KDescr
import KE.LcTurns
import KE.IntBitsLaws
import Wide.FinOn
import PySem.Challenge.RW_uf040017_05
set_option autoImplicit false
set_option linter.unusedVariables false
set_option linter.unusedSimpArgs false
set_option Elab.async false
set_option genSizeOf false
set_option genInjectivity false
namespace TC
open PySem PySem.W PyProof.Rows


mutual
noncomputable def flat : PyData → Bool
  | .list _ => false
  | .dict _ => false
  | .tuple xs => flats xs
  | _ => true
noncomputable def flats : List PyData → Bool
  | [] => true
  | x :: xs => flat x && flats xs
end

inductive V where
  | d (x : PyData)
  | own (x : PyData)
  | brw (x : PyData)
  | ot (x y : PyData)
  | oh (x : Str) (ys : List PyData)
  | exc (c : Nat)
  | rg (n : Int)

noncomputable def got {α : Type} (o : Option α) (K : α → Prop) : Prop :=
  match o with
  | some a => K a
  | none => False
theorem ZR {α : Type} {o : Option α} {K : α → Prop} {P : Prop} (w : got o K) (h : ∀ a, o = some a → K a → P) : P := by
  cases o with
  | none => exact w.elim
  | some a => exact h a rfl w
noncomputable def guardO {α : Type} (p : Prop) [Decidable p] (a : α) : Option α := if p then some a else none
noncomputable def rd : V → Option PyData
  | .d x => some x
  | .own x => some x
  | .brw x => some x
  | _ => none
noncomputable def kp : V → Option PyData
  | .d x => some x
  | .own x => some x
  | .ot x y => some (.tuple [x, y])
  | .brw x => guardO (flat x = true) x
  | _ => none
noncomputable def low (y : PyData) : V := cond (flat y) (.d y) (.brw y)
noncomputable def lists (xss : List (List Int)) : PyData := .list (xss.map fun t => .list (t.map .int))
noncomputable def nmV : V → V
  | .own x => .brw x
  | .ot _ _ => .brw .none
  | .oh x ys => .brw (.tuple [.str x, .list ys])
  | .brw x => low x
  | v => v
noncomputable def argV : V → Option V
  | .own x => some (.d x)
  | .ot x y => some (.d (.tuple [x, y]))
  | .oh _ _ => none
  | .rg _ => none
  | v => some v
noncomputable def retV : V → Option V
  | .own x => some (.own x)
  | v => (kp v).map .d
noncomputable def retO : V → Option V
  | .ot x y => some (.ot x y)
  | v => retV v
noncomputable def ownV : V → Option V
  | .ot (.str x) (.list ys) => some (.oh x ys)
  | v => retV v
noncomputable def pt (x : PyData) : V :=
  match x with
  | .list ys => .own (.list ys)
  | x => .d x
noncomputable def mkp (s : Str) (v : V) : Option V :=
  match v with
  | .own (.list ys) => some (.ot (.str s) (.list ys))
  | v => (kp v).map fun y => .d (.tuple [.str s, y])
noncomputable def ohOf : V → Option (Str × List PyData)
  | .oh x ys => some (x, ys)
  | _ => none
noncomputable def keepV (o : Bool) (v : V) : Option V := cond o (ownV v) ((kp v).map .d)

theorem Wa : ∃ n : Nat, n = 1000000 := ⟨1000000, rfl⟩
noncomputable def lim : Nat := Classical.choose Wa
theorem QX : lim = 1000000 := Classical.choose_spec Wa

noncomputable def idxD (xs : List PyData) (i : Int) : Option PyData :=
  if 0 ≤ i ∧ i < lim then xs[i.toNat]? else if i < 0 ∧ -(xs.length : Int) ≤ i ∧ xs.length < lim then xs[(xs.length + i).toNat]? else none
noncomputable def seqOf : PyData → Option (List PyData)
  | .list xs => some xs
  | .tuple xs => some xs
  | _ => none
noncomputable def listOf : PyData → Option (List PyData)
  | .list xs => some xs
  | _ => none
noncomputable def idxV (v : V) (i : Int) : Option V :=
  match v with
  | .ot x y => cond (decide (i = 0)) (some (pt x)) (cond (decide (i = 1)) (some (pt y)) none)
  | .brw x => ((seqOf x).bind (idxD · i)).map low
  | .d x => ((seqOf x).bind (idxD · i)).map .d
  | .own x => ((seqOf x).bind (idxD · i)).map .d
  | _ => none
noncomputable def lsV : V → Option (List PyData)
  | .d x => listOf x
  | .own x => listOf x
  | .brw x => (listOf x).bind fun xs => guardO (flats xs = true) xs
  | _ => none
noncomputable def rangeL (n : Int) : List Int := (List.range n.toNat).map fun (i : Nat) => (i : Int)
noncomputable def rgOf : V → Option Int
  | .rg n => some n
  | _ => none
noncomputable def itemsV (hm : Bool) (v : V) : Option (List V) :=
  match v with
  | .brw x => (seqOf x).map (·.map low)
  | .d x => (seqOf x).map (·.map .d)
  | .own x => (seqOf x).map (·.map .d)
  | .rg n => cond hm none (some ((rangeL n).map fun i => .d (.int i)))
  | _ => none
noncomputable def partsV (v : V) (n : Nat) : Option (List V) :=
  match v with
  | .d (.tuple xs) => guardO (xs.length = n) (xs.map .d)
  | .brw (.tuple xs) => guardO (xs.length = n) (xs.map low)
  | _ => none

noncomputable def intOf : PyData → Option Int
  | .int i => some i
  | _ => none
noncomputable def boolOf : PyData → Option Bool
  | .bool b => some b
  | _ => none
noncomputable def allOf {α : Type} (f : PyData → Option α) : List PyData → Option (List α)
  | [] => some []
  | x :: r => (f x).bind fun a => (allOf f r).map (a :: ·)
noncomputable def ofInts (xs : List Int) : List PyData := xs.map .int
noncomputable def ofTups (xs : List (List Int)) : List PyData := xs.map fun t => .tuple (ofInts t)
noncomputable def tupOf : PyData → Option (List Int)
  | .tuple xs => allOf intOf xs
  | _ => none
noncomputable def intV : V → Option Int
  | .d x => intOf x
  | _ => none
noncomputable def boolV : V → Option Bool
  | .d x => boolOf x
  | _ => none

inductive Op where
  | add | sub | mul | fdiv | mod | eq | ne | lt | le | gt | ge | isin | notin

noncomputable def numW (o : Op) (a b : Int) (K : V → Prop) : Prop :=
  match o with
  | .add => K (.d (.int (a + b)))
  | .sub => K (.d (.int (a - b)))
  | .mul => IntMulOk a b ∧ K (.d (.int (a * b)))
  | .fdiv => (b ≠ 0 ∧ b.natAbs < 1073741824) ∧ K (.d (.int (a.fdiv b)))
  | .mod => b ≠ 0 ∧ K (.d (.int (a.fmod b)))
  | .lt => K (.d (.bool (decide (a < b))))
  | .le => K (.d (.bool (decide (a ≤ b))))
  | .gt => K (.d (.bool (decide (b < a))))
  | .ge => K (.d (.bool (decide (b ≤ a))))
  | .eq => K (.d (.bool (decide (a = b))))
  | .ne => K (.d (.bool (!decide (a = b))))
  | _ => False
noncomputable def shp (x : PyData) : Prop := SeqAt.shaped x = true
noncomputable def tabI (kvs : List (PyData × PyData)) : Option (List Int) := allOf intOf (kvs.map (·.1))
noncomputable def keysV : V → Option (List PyData)
  | .brw (.dict kvs) => (tabI kvs).map ofInts
  | .rg n => some (ofInts (rangeL n))
  | v => lsV v
noncomputable def hasKey (x : PyData) (kvs : List (PyData × PyData)) : Option Bool :=
  match x with
  | .int k => (tabI kvs).map fun ks => ks.contains k
  | _ => none
noncomputable def inW (x y : PyData) (K : Bool → Prop) : Prop :=
  match y with
  | .dict kvs => got (hasKey x kvs) K
  | y => got (seqOf y) fun ys => shp x ∧ shp y ∧ K (ys.any fun z => PyData.eqv z x)
noncomputable def objW (o : Op) (v w : V) (K : V → Prop) : Prop :=
  match o with
  | .eq => got (rd v) fun x => got (rd w) fun y => shp x ∧ shp y ∧ K (.d (.bool (PyData.eqv x y)))
  | .ne => got (rd v) fun x => got (rd w) fun y => shp x ∧ shp y ∧ K (.d (.bool (!PyData.eqv x y)))
  | .isin => got (rd v) fun x => got (rd w) fun y => inW x y fun b => K (.d (.bool b))
  | .notin => got (rd v) fun x => got (rd w) fun y => inW x y fun b => K (.d (.bool (!b)))
  | .add => got (lsV v) fun xs => got (lsV w) fun ys => xs.length + ys.length < lim ∧ K (.own (.list (xs ++ ys)))
  | .mul => got (lsV v) fun xs => got (intV w) fun k => (0 ≤ k ∧ k < lim ∧ xs.length * k.toNat < lim) ∧ K (.own (.list (List.replicate k.toNat xs).flatten))
  | _ => False
noncomputable def opW (o : Op) (v w : V) (K : V → Prop) : Prop := (intV v).elim (objW o v w K) fun a => (intV w).elim (objW o v w K) fun b => numW o a b K

inductive Ty where
  | int | bool | list | tuple | exc (c : Nat) | valueError
noncomputable def Ty.has : Ty → PyData → Bool
  | .int, .int _ => true
  | .int, .bool _ => true
  | .bool, .bool _ => true
  | .list, .list _ => true
  | .tuple, .tuple _ => true
  | _, _ => false
inductive F1 where
  | len | sum | max | min | list | tuple | sorted | sortedR | int | all | not | isNone | notNone | range | isi (t : Ty)
inductive F2 where
  | max | min | index
noncomputable def F1.quiet : F1 → Bool
  | .sum => false
  | .max => false
  | .min => false
  | .list => false
  | .tuple => false
  | .sorted => false
  | .sortedR => false
  | .all => false
  | .range => false
  | _ => true

noncomputable def sortI (xs : List Int) : List Int := xs.mergeSort (fun a b => decide (a ≤ b))
noncomputable def sortT (xs : List (List Int)) : List (List Int) := xs.mergeSort (fun a b => decide (a ≤ b))
noncomputable def maxL : List Int → Option Int
  | [] => none
  | a :: r => some (r.foldl max a)
noncomputable def minL : List Int → Option Int
  | [] => none
  | a :: r => some (r.foldl min a)
noncomputable def isNon : PyData → Bool
  | .none => true
  | _ => false
noncomputable def excIs (t : Ty) (c : Nat) : Option Bool :=
  match t with
  | .valueError => some true
  | .exc k => some (k == 0 || c == k)
  | _ => none
noncomputable def isiV (t : Ty) (v : V) : Option Bool :=
  match v with
  | .exc c => excIs t c
  | v => match t with
    | .exc _ => none
    | .valueError => none
    | t => (rd v).map fun x => t.has x
noncomputable def seqV (v : V) (K : List PyData → Prop) : Prop := got (rd v) fun x => got (seqOf x) K
noncomputable def F1.W (f : F1) (v : V) (K : V → Prop) : Prop :=
  match f with
  | .len => seqV v fun xs => xs.length < lim ∧ K (.d (.int xs.length))
  | .sum => seqV v fun xs => got (allOf intOf xs) fun is => K (.d (.int is.sum))
  | .max => seqV v fun xs => got (allOf intOf xs) fun is => got (maxL is) fun m => K (.d (.int m))
  | .min => seqV v fun xs => got (allOf intOf xs) fun is => got (minL is) fun m => K (.d (.int m))
  | .list => got (keysV v) fun xs => xs.length < lim ∧ K (.own (.list xs))
  | .tuple => got (lsV v) fun xs => xs.length < lim ∧ K (.d (.tuple xs))
  | .sorted => got (rd v) fun x => got (listOf x) fun xs => (allOf intOf xs).elim (got (allOf tupOf xs) fun ts => (ts.length < 64 ∧ ts.Nodup ∧ [] ∉ ts) ∧ K (.own (.list (ofTups (sortT ts))))) fun is => is.length < 64 ∧ K (.own (.list (ofInts (sortI is))))
  | .sortedR => got (rd v) fun x => got (listOf x) fun xs => got (allOf intOf xs) fun is => is.length < 64 ∧ K (.own (.list (ofInts (sortI is).reverse)))
  | .int => got (boolV v) fun b => K (.d (.int (cond b 1 0)))
  | .all => got (rd v) fun x => got (listOf x) fun xs => got (allOf boolOf xs) fun bs => K (.d (.bool (bs.all id)))
  | .not => got (boolV v) fun b => K (.d (.bool (!b)))
  | .isNone => got (rd v) fun x => K (.d (.bool (isNon x)))
  | .notNone => got (rd v) fun x => K (.d (.bool (!isNon x)))
  | .range => got (intV v) fun n => (-(lim : Int) < n ∧ n < lim) ∧ K (.rg n)
  | .isi t => got (isiV t v) fun b => K (.d (.bool b))
noncomputable def F2.W (f : F2) (v w : V) (K : V → Prop) : Prop :=
  match f with
  | .max => got (intV v) fun a => got (intV w) fun b => K (.d (.int (Max.max a b)))
  | .min => got (intV v) fun a => got (intV w) fun b => K (.d (.int (Min.min a b)))
  | .index => False
noncomputable def qW (q hm : Bool) (P : Prop) : Prop := cond (!q && hm) False P
theorem QZ {q hm : Bool} {P : Prop} (h : qW q hm P) : (q = false → hm = false) ∧ P := by
  cases q <;> cases hm <;> first | exact h.elim | exact ⟨(fun _ => rfl), h⟩ | exact ⟨(fun e => nomatch e), h⟩

mutual
inductive E where
  | nm (i : Nat) | k (x : PyData)
  | tup (es : Es) | lst (es : Es) | dic0 | dic1 (k : E)
  | op (o : Op) (a b : E)
  | cmp (a : E) (os : List Op) (es : Es)
  | f1 (f : F1) (a : E) | f2 (f : F2) (a b : E)
  | and (es : Es) | or (es : Es)
  | idx (a i : E) | sfrom (a i : E) | sto (a i : E)
  | call (f : Nat) (es : Es)
  | callb (f : Nat) (es : Es)
  | comp (t : Option Nat) (src : E) (cs : Es) (elt : E)
  | index (a b : E)
inductive Es where
  | nil | cons (e : E) (es : Es)
end

noncomputable abbrev Rho := List (Option V)
noncomputable abbrev Call := Bool → Nat → List V → (V → Prop) → (Nat → Prop) → Prop
noncomputable abbrev T := (V → Prop) → Prop

noncomputable def bindT (t : Option Nat) (v : V) (ρ : Rho) (k : Rho → Prop) : Prop :=
  match t with
  | none => k (ρ ++ [some v])
  | some n => got (partsV v n) fun vs => k (ρ ++ vs.map some)
noncomputable def compW (step : Rho → (Option PyData → Prop) → Prop) (t : Option Nat) (ρ : Rho) (K : V → Prop) : List V → List PyData → Prop
  | [], acc => acc.length < lim ∧ K (.own (.list acc))
  | x :: xs, acc => bindT t x ρ fun ρ' => step ρ' fun r => compW step t ρ K xs (r.elim acc fun y => acc ++ [y])
noncomputable def ifB (v : V) (a b : Prop) : Prop := got (boolV v) fun c => cond c a b
noncomputable def argAll : List V → Option (List V)
  | [] => some []
  | v :: r => (argV v).bind fun x => (argAll r).map (x :: ·)
noncomputable def lend : V → V
  | .d x => low x
  | v => v
noncomputable def keepAll : List V → Option (List PyData)
  | [] => some []
  | v :: r => (kp v).bind fun x => (keepAll r).map (x :: ·)

noncomputable def seqW : List T → (List V → Prop) → Prop
  | [], K => K []
  | t :: ts, K => t fun v => seqW ts fun vs => K (v :: vs)
noncomputable def cmpW : List Op → List T → V → (V → Prop) → Prop
  | [o], [t], v, K => t fun w => opW o v w K
  | o :: os, t :: ts, v, K => t fun w => opW o v w fun r => ifB r (cmpW os ts w K) (K (.d (.bool false)))
  | _, _, _, _ => False
noncomputable def andW : List T → (V → Prop) → Prop
  | [], _ => False
  | [t], K => t fun v => ifB v (K (.d (.bool true))) (K (.d (.bool false)))
  | t :: ts, K => t fun v => ifB v (andW ts K) (K (.d (.bool false)))
noncomputable def orW : List T → (V → Prop) → Prop
  | [], _ => False
  | [t], K => t fun v => ifB v (K (.d (.bool true))) (K (.d (.bool false)))
  | t :: ts, K => t fun v => ifB v (K (.d (.bool true))) (orW ts K)
noncomputable def tstW : List T → Prop → Prop → Prop
  | [], a, _ => a
  | t :: ts, a, b => t fun v => ifB v (tstW ts a b) b
noncomputable def fromW (v : V) (i : Int) (K : V → Prop) : Prop := got (lsV v) fun xs => (0 ≤ i ∧ i < lim ∧ xs.length < lim) ∧ K (.own (.list (xs.drop i.toNat)))
noncomputable def toW (v : V) (i : Int) (K : V → Prop) : Prop := got (lsV v) fun xs => (0 ≤ i ∧ i < lim ∧ xs.length < lim) ∧ K (.own (.list (xs.take i.toNat)))

mutual
noncomputable def wpE (Φ : Call) (hm : Bool) (X : Nat → Prop) : E → Rho → T
  | .nm i, ρ, K => got (ρ[i]?) fun s => got s fun v => K (nmV v)
  | .k x, _, K => K (.d x)
  | .tup es, ρ, K => seqW (wpL Φ hm X es ρ) fun vs => got (keepAll vs) fun xs => K (.d (.tuple xs))
  | .lst es, ρ, K => seqW (wpL Φ hm X es ρ) fun vs => got (keepAll vs) fun xs => K (.own (.list xs))
  | .dic0, _, K => K (.own (.dict []))
  | .dic1 k, ρ, K => wpE Φ hm X k ρ fun w => got (intV w) fun i => K (.own (.dict [(.int i, .bool true)]))
  | .op o a b, ρ, K => wpE Φ hm X a ρ fun v => wpE Φ hm X b ρ fun w => opW o v w K
  | .cmp a os es, ρ, K => wpE Φ hm X a ρ fun v => cmpW os (wpL Φ hm X es ρ) v K
  | .f1 f a, ρ, K => wpE Φ hm X a ρ fun v => qW f.quiet hm (f.W v K)
  | .f2 f a b, ρ, K => wpE Φ hm X a ρ fun v => wpE Φ hm X b ρ fun w => qW false hm (f.W v w K)
  | .and es, ρ, K => andW (wpL Φ hm X es ρ) K
  | .or es, ρ, K => orW (wpL Φ hm X es ρ) K
  | .idx a i, ρ, K => wpE Φ hm X a ρ fun v => wpE Φ hm X i ρ fun w => got (intV w) fun k => got (idxV v k) K
  | .sfrom a i, ρ, K => wpE Φ hm X a ρ fun v => wpE Φ hm X i ρ fun w => got (intV w) fun k => fromW v k K
  | .sto a i, ρ, K => wpE Φ hm X a ρ fun v => wpE Φ hm X i ρ fun w => got (intV w) fun k => toW v k K
  | .index a b, ρ, K => wpE Φ hm X a ρ fun v => got (rd v) fun x => got (listOf x) fun xs => got (allOf intOf xs) fun is => wpE Φ hm X b ρ fun w => got (intV w) fun k => (k ∈ is ∧ is.length < lim) ∧ K (.d (.int (is.idxOf k)))
  | .call f es, ρ, K => seqW (wpL Φ hm X es ρ) fun vs => got (argAll vs) fun us => Φ hm f us K X
  | .callb f es, ρ, K => seqW (wpL Φ hm X es ρ) fun vs => got (argAll vs) fun us => Φ hm f (us.map lend) K X
  | .comp t src cs elt, ρ, K => wpE Φ hm X src ρ fun v => got (itemsV hm v) fun xs => xs.length < lim ∧
      compW (fun ρ' k => tstW (wpL Φ hm (fun _ => False) cs ρ') (wpE Φ hm (fun _ => False) elt ρ' fun v => got (kp v) fun y => k (some y)) (k none)) t ρ K xs []
noncomputable def wpL (Φ : Call) (hm : Bool) (X : Nat → Prop) : Es → Rho → List T
  | .nil, _ => []
  | .cons e es, ρ => wpE Φ hm X e ρ :: wpL Φ hm X es ρ
end

inductive Flow where
  | nxt
  | ret (v : V)
noncomputable abbrev KS := Flow → Rho → Prop
noncomputable abbrev XS := Nat → Rho → Prop
inductive Tgt where
  | one (i : Nat) | many (is : List Nat)
mutual
inductive S where
  | asg (o : Bool) (i : Nat) (e : E)
  | unp (is : List Nat) (e : E)
  | app (i : Nat) (e : E)
  | set (i : Nat) (k v : E)
  | key (i : Nat) (k : E)
  | fz (i : Nat) (s : S)
  | pop (j i : Nat)
  | ext (i : Nat) (e : E)
  | kst (j : Nat) (r : E) (i : Nat)
  | ret2 (j k : Nat)
  | rets (s : Str) (e : E)
  | tix (i : Nat) (e : E)
  | ite (c : E) (a b : Ss)
  | loop (t : Tgt) (src : E) (body : Ss)
  | loopn (t : Tgt) (i : Nat) (body : Ss)
  | whl (c : E) (body : Ss)
  | ret (e : E) | retm (i : Nat)
  | rais (c : Nat)
  | drop (e : E)
inductive Ss where
  | nil | cons (s : S) (ss : Ss)
end

noncomputable def setD (ρ : Rho) (i : Nat) (v : V) (k : Rho → Prop) : Prop := got (kp v) fun x => k (ρ.set i (some (.d x)))
noncomputable def setAll (ρ : Rho) (k : Rho → Prop) : List Nat → List V → Prop
  | [], [] => k ρ
  | i :: r, v :: vs => got (kp v) fun x => setAll (ρ.set i (some (.d x))) k r vs
  | _, _ => False
noncomputable def bindF (t : Tgt) (v : V) (ρ : Rho) (k : Rho → Prop) : Prop :=
  match t with
  | .one i => setD ρ i v k
  | .many is => got (partsV v is.length) fun vs => setAll ρ k is vs
noncomputable def slotW (ρ : Rho) (i : Nat) (k : V → Prop) : Prop := got (ρ[i]?) fun s => got s k
noncomputable def ownL (u : V) (k : List PyData → Prop) : Prop :=
  match u with
  | .own x => got (listOf x) k
  | _ => False
noncomputable def addKey (x : PyData) (kvs : List (PyData × PyData)) : Option (List (PyData × PyData)) := (hasKey x kvs).map fun b => cond b kvs (kvs ++ [(x, .bool true)])
noncomputable def ownD (u : V) (k : List (PyData × PyData) → Prop) : Prop :=
  match u with
  | .own (.dict kvs) => k kvs
  | _ => False
noncomputable def ownS (ρ : Rho) (i : Nat) (k : List PyData → Prop) : Prop := slotW ρ i fun u => ownL u k
noncomputable def Rho.putL (ρ : Rho) (i : Nat) (xs : List PyData) : Rho := ρ.set i (some (.own (.list xs)))
noncomputable def frzV : V → V
  | .own x => .d x
  | .oh x ys => .d (.tuple [.str x, .list ys])
  | v => v
noncomputable def frz (i : Nat) (ρ : Rho) : Rho := ρ.modify i (·.map frzV)
noncomputable def itemsL (hm : Bool) : V → Option (List V)
  | .brw _ => none
  | v => itemsV hm v
noncomputable def forW (body : V → Rho → KS → Prop) (K : KS) : List V → Rho → Prop
  | [], ρ => K .nxt ρ
  | x :: xs, ρ => body x ρ fun fl ρ' => match fl with
    | .nxt => forW body K xs ρ'
    | .ret v => K (.ret v) ρ'
noncomputable def whlW (test : Rho → T) (body : Rho → KS → Prop) (K : KS) : Nat → Rho → Prop
  | 0, _ => False
  | n + 1, ρ => test ρ fun b => ifB b (body ρ fun fl ρ' => match fl with
    | .nxt => whlW test body K n ρ'
    | .ret v => K (.ret v) ρ') (K .nxt ρ)
noncomputable def retmV : V → Option V
  | .exc _ => none
  | .rg _ => none
  | v => retV v

mutual
noncomputable def wpS (Φ : Call) (hm : Bool) : S → Rho → KS → XS → Prop
  | .asg o i e, ρ, K, X => wpE Φ hm (X · ρ) e ρ fun v => got (keepV o v) fun u => K .nxt (ρ.set i (some u))
  | .unp is e, ρ, K, X => wpE Φ hm (X · ρ) e ρ fun v => got (partsV v is.length) fun vs => setAll ρ (K .nxt) is vs
  | .app i e, ρ, K, X => ownS ρ i fun xs => wpE Φ hm (X · ρ) e ρ fun v => got (kp v) fun y => xs.length < lim ∧ K .nxt (ρ.putL i (xs ++ [y]))
  | .set i k v, ρ, K, X => ownS ρ i fun xs => wpE Φ hm (X · ρ) v ρ fun v => wpE Φ hm (X · ρ) k ρ fun w => got (kp v) fun y => got (intV w) fun j => (0 ≤ j ∧ j < xs.length ∧ j < lim) ∧ K .nxt (ρ.putL i (xs.set j.toNat y))
  | .fz i s, ρ, K, X => wpS Φ hm s (frz i ρ) K X
  | .key i k, ρ, K, X => slotW ρ i fun u => ownD u fun kvs => wpE Φ hm (X · ρ) k ρ fun w => got (kp w) fun x => got (addKey x kvs) fun kvs' => kvs.length < lim ∧ K .nxt (ρ.set i (some (.own (.dict kvs'))))
  | .pop j i, ρ, K, _ => ownS ρ i fun xs => got (xs.getLast?) fun y => xs.length < lim ∧ K .nxt ((ρ.putL i xs.dropLast).set j (some (.d y)))
  | .ite c a b, ρ, K, X => wpE Φ hm (X · ρ) c ρ fun v => ifB v (wpSs Φ hm a ρ K X) (wpSs Φ hm b ρ K X)
  | .loop t src body, ρ, K, X => wpE Φ hm (X · ρ) src ρ fun v => got (itemsL hm v) fun xs => xs.length < lim ∧ forW (fun x ρ' k => bindF t x ρ' fun ρ'' => wpSs Φ hm body ρ'' k X) K xs ρ
  | .loopn t i body, ρ, K, X => slotW (frz i ρ) i fun v => got (itemsV hm v) fun xs => xs.length < lim ∧ forW (fun x ρ' k => bindF t x ρ' fun ρ'' => wpSs Φ hm body ρ'' k X) K xs (frz i ρ)
  | .whl c body, ρ, K, X => ∃ n, whlW (fun ρ' => wpE Φ hm (X · ρ') c ρ') (fun ρ' k => wpSs Φ hm body ρ' k X) K n ρ
  | .ret e, ρ, K, X => wpE Φ hm (X · ρ) e ρ fun v => got (retO v) fun u => K (.ret u) ρ
  | .ret2 j k, ρ, K, _ => ownS ρ j fun xs => ownS ρ k fun ys => j ≠ k ∧ K (.ret (.ot (.list xs) (.list ys))) ρ
  | .rets s e, ρ, K, X => wpE Φ hm (X · ρ) e ρ fun v => got (mkp s v) fun u => K (.ret u) ρ
  | .tix i e, ρ, K, X => slotW ρ i fun u => got (ohOf u) fun q => wpE Φ hm (X · ρ) e ρ fun v => got (kp v) fun y => q.2.length < lim ∧ K .nxt (ρ.set i (some (.oh q.1 (q.2 ++ [y]))))
  | .ext i e, ρ, K, X => ownS ρ i fun xs => wpE Φ hm (X · ρ) e ρ fun v => got (lsV v) fun ys => xs.length + ys.length < lim ∧ K .nxt (ρ.putL i (xs ++ ys))
  | .kst j r i, ρ, K, X => wpE Φ hm (X · ρ) r ρ fun v => got (rgOf v) fun n => slotW ρ i fun u => got (rd (nmV u)) fun x => got (listOf x) fun xs => got (allOf intOf xs) fun is => (hm = false ∧ n ≤ is.length ∧ n < 64) ∧ ∀ os : List Int, os.Perm (rangeL n) → K .nxt (ρ.set j (some (.d (.list (ofInts os)))))
  | .retm i, ρ, K, _ => slotW ρ i fun u => got (retmV u) fun u' => K (.ret u') ρ
  | .rais c, ρ, _, X => hm = false ∧ X c ρ
  | .drop e, ρ, K, X => wpE Φ hm (X · ρ) e ρ fun _ => K .nxt ρ
noncomputable def wpSs (Φ : Call) (hm : Bool) : Ss → Rho → KS → XS → Prop
  | .nil, ρ, K, _ => K .nxt ρ
  | .cons s ss, ρ, K, X => wpS Φ hm s ρ (fun fl ρ' => match fl with
      | .nxt => wpSs Φ hm ss ρ' K X
      | .ret v => K (.ret v) ρ') X
end
structure Fn where
  np : Nat
  ns : Nat
  body : Ss
noncomputable def outK (K : V → Prop) : KS
  | .nxt, _ => K (.d .none)
  | .ret v, _ => K v
noncomputable def wpCall (tab : List Fn) : Nat → Call
  | 0, _, _, _, _, _ => False
  | n + 1, hm, f, vs, K, X => got (tab[f]?) fun fn => (vs.length = fn.np ∧ fn.np ≤ fn.ns) ∧ wpSs (wpCall tab n) hm fn.body (vs.map some ++ List.replicate (fn.ns - fn.np) none) (outK K) (fun c _ => X c)
end TC

namespace TC
open PySem PySem.W PyProof.Rows

noncomputable abbrev AP := Addr → Prop
noncomputable abbrev Keep (h h' : Heap) : Prop := ∀ b o, h.get? b = some o → h'.get? b = some o
noncomputable def Ext (fr : AP) (h h' : Heap) : Prop := ∀ b o, h.get? b = some o → (¬ fr b → h'.get? b = some o) ∧ ∃ sl, h'.get? b = some { o with slots := sl }
theorem Ext.refl (fr : AP) (h : Heap) : Ext fr h h := fun _ o e => ⟨fun _ => e, o.slots, e⟩
theorem Ext.trans {fr : AP} {h₁ h₂ h₃ : Heap} (x : Ext fr h₁ h₂) (y : Ext fr h₂ h₃) : Ext fr h₁ h₃ := fun b o e =>
  ⟨fun hb => (y b o ((x b o e).1 hb)).1 hb, let ⟨_, q⟩ := (x b o e).2; let ⟨sl, q'⟩ := (y b _ q).2; ⟨sl, q'⟩⟩
theorem Ext.of {fr : AP} {h h' : Heap} (k : Keep h h') : Ext fr h h' := fun b o e => ⟨fun _ => k b o e, o.slots, k b o e⟩
theorem Ext.mono {fr fr' : AP} {h h' : Heap} (x : Ext fr h h') (s : ∀ b, fr b → fr' b) : Ext fr' h h' := fun b o e => ⟨fun hb => (x b o e).1 fun q => hb (s b q), (x b o e).2⟩
theorem Qe {h : Heap} {b : Addr} (n : ∀ o, h.get? b ≠ some o) : h.get? b = none := by
  cases q : h.get? b with
  | none => rfl
  | some o => exact absurd q (n o)
theorem JJ {α : Type} {x : Option α} {a : α} {P : Prop} (e : x = some a) (n : x = none) : P := by rw [e] at n; cases n
theorem Ext.gone {fr : AP} {h h' : Heap} {b : Addr} (x : Ext fr h h') (e : h'.get? b = none) : h.get? b = none :=
  Qe fun o q => let ⟨_, y⟩ := (x b o q).2; JJ y e
noncomputable def NT (o : Obj) : Prop := o.cls = .type "tuple" → ∀ vs n, o.data ≠ .seq vs n
noncomputable def Is (h : Heap) (b : Addr) : Prop := ∃ o, h.get? b = some o ∧ NT o
theorem Is.ext {fr : AP} {h h' : Heap} {b : Addr} (i : Is h b) (x : Ext fr h h') : Is h' b := let ⟨o, e, n⟩ := i; let ⟨_, q⟩ := (x b o e).2; ⟨_, q, n⟩
theorem Is.not_none {h : Heap} {b : Addr} {P : Prop} (i : Is h b) (n : h.get? b = none) : P := let ⟨_, e, _⟩ := i; JJ e n
theorem Ext.ns {fr : AP} {h h' : Heap} {a : Addr} {m : Str → Option Value} (x : Ext fr h h') (n : h.Ns a m) : h'.Ns a m :=
  let ⟨o, es, ep, ho, hd, r⟩ := n; let ⟨_, hs⟩ := (x a o ho).2; ⟨_, es, ep, hs, hd, r⟩
theorem Ext.cell {fr : AP} {h h' : Heap} {c : Addr} {v : Option Value} (x : Ext fr h h') (n : h.IsCell c v) : h'.IsCell c v :=
  let ⟨o, ho, hd⟩ := n; let ⟨_, hs⟩ := (x c o ho).2; ⟨_, hs, hd⟩
theorem Jc (h : Heap) : h.get? h.objs.size = none := Qe fun _ q => absurd (Heap.lt_size q) (Nat.lt_irrefl _)
theorem JU (h : Heap) (o : Obj) : Keep h (h.push o) := fun _ _ e => Heap.get?_push_of_some _ e

noncomputable abbrev listObj (vs : Array Value) (n : Nat) : Obj := { cls := .type "list", data := .seq vs n }
noncomputable abbrev tupObj (vs : Array Value) (n : Nat) : Obj := { cls := .type "tuple", data := .seq vs n }
noncomputable abbrev dictObj (es : Array DictEntry) (n : Nat) : Obj := { cls := .type "dict", data := .dict es n }
structure DictOk (a : Addr) (es : Array DictEntry) (kvs : List (PyData × PyData)) : Prop where
  off : (a == sysModules) = false
  vals : ∀ p ∈ kvs, p.2 = .bool true
  keys : ∃ ks : List Int, kvs.map (·.1) = ofInts ks ∧ es.toList.map (·.hash) = ks.map hashInt ∧ ks.Nodup
theorem DictOk.nil {a : Addr} (h : (a == sysModules) = false) : DictOk a #[] [] := ⟨h, nofun, [], rfl, rfl, .nil⟩
mutual
inductive PR (P : AP) (h : Heap) : Value → PyData → Prop
  | non : PR P h .none .none
  | bool (b) : PR P h (.bool b) (.bool b)
  | int (i t) : PR P h (.int i t) (.int i)
  | str (x t) : PR P h (.str x t) (.str x)
  | list {a vs n xs} : ¬ P a → h.get? a = some (listObj vs n) → PRs P h vs.toList xs → PR P h (.ref a) (.list xs)
  | tuple {a vs n xs} : ¬ P a → h.get? a = some (tupObj vs n) → PRs P h vs.toList xs → PR P h (.ref a) (.tuple xs)
  | dict {a es n kvs} : ¬ P a → h.get? a = some (dictObj es n) → PRs P h (es.toList.map (·.key)) (kvs.map (·.1)) → PRs P h (es.toList.map (·.val)) (kvs.map (·.2)) → DictOk a es kvs → PR P h (.ref a) (.dict kvs)
inductive PRs (P : AP) (h : Heap) : List Value → List PyData → Prop
  | nil : PRs P h [] []
  | cons {v vs x xs} : PR P h v x → PRs P h vs xs → PRs P h (v :: vs) (x :: xs)
end
noncomputable def PR.Inv (P : AP) (h : Heap) (v : Value) : PyData → Prop
  | .none => v = .none
  | .bool b => v = .bool b
  | .int i => ∃ t, v = .int i t
  | .str x => ∃ t, v = .str x t
  | .list xs => ∃ a vs n, v = .ref a ∧ ¬ P a ∧ h.get? a = some (listObj vs n) ∧ PRs P h vs.toList xs
  | .tuple xs => ∃ a vs n, v = .ref a ∧ ¬ P a ∧ h.get? a = some (tupObj vs n) ∧ PRs P h vs.toList xs
  | .dict kvs => ∃ a es n, v = .ref a ∧ ¬ P a ∧ h.get? a = some (dictObj es n) ∧ PRs P h (es.toList.map (·.key)) (kvs.map (·.1)) ∧ PRs P h (es.toList.map (·.val)) (kvs.map (·.2)) ∧ DictOk a es kvs
theorem PR.inv {P : AP} {h : Heap} {v : Value} {x : PyData} (r : PR P h v x) : PR.Inv P h v x :=
  PR.rec (motive_1 := fun v x _ => PR.Inv P h v x) (motive_2 := fun _ _ _ => True) rfl (fun _ => rfl) (fun _ t => ⟨t, rfl⟩) (fun _ t => ⟨t, rfl⟩)
    (fun n e r _ => ⟨_, _, _, rfl, n, e, r⟩) (fun n e r _ => ⟨_, _, _, rfl, n, e, r⟩) (fun n e r q d _ _ => ⟨_, _, _, rfl, n, e, r, q, d⟩) trivial (fun _ _ _ _ => trivial) r
noncomputable def PRs.Inv (P : AP) (h : Heap) (vs : List Value) : List PyData → Prop
  | [] => vs = []
  | x :: xs => ∃ v ws, vs = v :: ws ∧ PR P h v x ∧ PRs P h ws xs
theorem PRs.inv {P : AP} {h : Heap} {vs : List Value} {xs : List PyData} (r : PRs P h vs xs) : PRs.Inv P h vs xs :=
  PRs.rec (motive_1 := fun _ _ _ => True) (motive_2 := fun vs xs _ => PRs.Inv P h vs xs) trivial (fun _ => trivial) (fun _ _ => trivial) (fun _ _ => trivial) (fun _ _ _ _ => trivial) (fun _ _ _ _ => trivial) (fun _ _ _ _ _ _ _ => trivial) rfl (fun a b _ _ => ⟨_, _, rfl, a, b⟩) r
noncomputable abbrev Mv (P P' : AP) (h h' : Heap) : Prop := ∀ b o, ¬ P b → h.get? b = some o → ¬ P' b ∧ h'.get? b = some o
theorem PR.move {P P' : AP} {h h' : Heap} (k : Mv P P' h h') {v : Value} {x : PyData} (r : PR P h v x) : PR P' h' v x :=
  PR.rec (motive_1 := fun v x _ => PR P' h' v x) (motive_2 := fun vs xs _ => PRs P' h' vs xs) .non .bool .int .str
    (fun n e _ r => .list (k _ _ n e).1 (k _ _ n e).2 r) (fun n e _ r => .tuple (k _ _ n e).1 (k _ _ n e).2 r) (fun n e _ _ d r q => .dict (k _ _ n e).1 (k _ _ n e).2 r q d) .nil (fun _ _ a b => .cons a b) r
theorem PRs.move {P P' : AP} {h h' : Heap} (k : Mv P P' h h') {v : List Value} {x : List PyData} (r : PRs P h v x) : PRs P' h' v x :=
  PRs.rec (motive_1 := fun v x _ => PR P' h' v x) (motive_2 := fun vs xs _ => PRs P' h' vs xs) .non .bool .int .str
    (fun n e _ r => .list (k _ _ n e).1 (k _ _ n e).2 r) (fun n e _ r => .tuple (k _ _ n e).1 (k _ _ n e).2 r) (fun n e _ _ d r q => .dict (k _ _ n e).1 (k _ _ n e).2 r q d) .nil (fun _ _ a b => .cons a b) r
theorem PR.reads {P : AP} {h : Heap} {v : Value} {x : PyData} (r : PR P h v x) : ∃ as, Reads h v x as :=
  PR.rec (motive_1 := fun v x _ => ∃ as, Reads h v x as) (motive_2 := fun vs xs _ => ∃ as, ReadsAll h vs xs as) ⟨_, .none⟩ (fun b => ⟨_, .bool b⟩) (fun i t => ⟨_, .int i t⟩) (fun x t => ⟨_, .str x t⟩)
    (fun _ e _ ⟨_, r⟩ => ⟨_, .list e rfl rfl r⟩) (fun _ e _ ⟨_, r⟩ => ⟨_, .tuple e rfl rfl r⟩) (fun _ e _ _ _ ⟨_, r⟩ ⟨_, q⟩ => ⟨_, .dict e rfl rfl r q⟩) ⟨_, .nil⟩ (fun _ _ ⟨_, a⟩ ⟨_, b⟩ => ⟨_, .cons a b⟩) r
theorem Qx {h : Heap} {b : Addr} {vs : Array Value} {n : Nat} {P : Prop} (i : Is h b) (e : h.get? b = some (tupObj vs n)) : P :=
  let ⟨_, e', nt⟩ := i; absurd rfl (nt (congrArg Obj.cls (Option.some.inj (e'.symm.trans e))) vs n |> fun q => (congrArg (· ≠ _) (congrArg Obj.data (Option.some.inj (e'.symm.trans e)))).mp q)
theorem Xm {P P' : AP} {h : Heap} (n : ∀ b, P' b → Is h b) {v : Value} {x : PyData} (r : PR P h v x) : flat x = true → PR P' h v x :=
  PR.rec (motive_1 := fun v x _ => flat x = true → PR P' h v x) (motive_2 := fun vs xs _ => flats xs = true → PRs P' h vs xs) (fun _ => .non) (fun b _ => .bool b) (fun i t _ => .int i t) (fun x t _ => .str x t)
    (fun _ _ _ _ f => nomatch f) (fun _ e _ r f => .tuple (fun q => Qx (n _ q) e) e (r f)) (fun _ _ _ _ _ _ _ f => nomatch f) (fun _ => .nil) (fun _ _ a b f => .cons (a (Bool.and_eq_true_iff.mp f).1) (b (Bool.and_eq_true_iff.mp f).2)) r
theorem GP {P P' : AP} {h : Heap} (n : ∀ b, P' b → Is h b) {vs : List Value} {xs : List PyData} (r : PRs P h vs xs) : flats xs = true → PRs P' h vs xs :=
  PRs.rec (motive_1 := fun v x _ => flat x = true → PR P' h v x) (motive_2 := fun vs xs _ => flats xs = true → PRs P' h vs xs) (fun _ => .non) (fun b _ => .bool b) (fun i t _ => .int i t) (fun x t _ => .str x t)
    (fun _ _ _ _ f => nomatch f) (fun _ e _ r f => .tuple (fun q => Qx (n _ q) e) e (r f)) (fun _ _ _ _ _ _ _ f => nomatch f) (fun _ => .nil) (fun _ _ a b f => .cons (a (Bool.and_eq_true_iff.mp f).1) (b (Bool.and_eq_true_iff.mp f).2)) r
theorem PRs.length {P : AP} {h : Heap} {vs : List Value} {xs : List PyData} (r : PRs P h vs xs) : vs.length = xs.length :=
  PRs.rec (motive_1 := fun _ _ _ => True) (motive_2 := fun vs xs _ => vs.length = xs.length) trivial (fun _ => trivial) (fun _ _ => trivial) (fun _ _ => trivial) (fun _ _ _ _ => trivial) (fun _ _ _ _ => trivial) (fun _ _ _ _ _ _ _ => trivial) rfl (fun _ _ _ b => congrArg Nat.succ b) r
theorem PRs.size {P : AP} {h : Heap} {vs : Array Value} {xs : List PyData} (r : PRs P h vs.toList xs) : vs.size = xs.length := by rw [← r.length, Array.length_toList]
theorem PRs.append {P : AP} {h : Heap} {ws : List Value} {ys : List PyData} (q : PRs P h ws ys) {vs : List Value} {xs : List PyData} (r : PRs P h vs xs) : PRs P h (vs ++ ws) (xs ++ ys) :=
  PRs.rec (motive_1 := fun _ _ _ => True) (motive_2 := fun vs xs _ => PRs P h (vs ++ ws) (xs ++ ys)) trivial (fun _ => trivial) (fun _ _ => trivial) (fun _ _ => trivial) (fun _ _ _ _ => trivial) (fun _ _ _ _ => trivial) (fun _ _ _ _ _ _ _ => trivial) q (fun a _ _ b => .cons a b) r
theorem PRs.of {P : AP} {h : Heap} {xs : List PyData} : ∀ {vs : List Value}, vs.length = xs.length → (∀ (k : Nat) v x, vs[k]? = some v → xs[k]? = some x → PR P h v x) → PRs P h vs xs := by
  induction xs with
  | nil => intro vs l _; rw [List.length_eq_zero_iff.mp l]; exact .nil
  | cons x xs ih =>
    intro vs l q
    cases vs with
    | nil => exact nomatch l
    | cons v vs => exact .cons (q 0 v x rfl rfl) (ih (Nat.succ.inj l) fun k => q (k + 1))
theorem PRs.at {P : AP} {h : Heap} {vs : List Value} {xs : List PyData} (r : PRs P h vs xs) : ∀ (k : Nat) v x, vs[k]? = some v → xs[k]? = some x → PR P h v x :=
  PRs.rec (motive_1 := fun _ _ _ => True) (motive_2 := fun vs xs _ => ∀ (k : Nat) v x, vs[k]? = some v → xs[k]? = some x → PR P h v x) trivial (fun _ => trivial) (fun _ _ => trivial) (fun _ _ => trivial) (fun _ _ _ _ => trivial) (fun _ _ _ _ => trivial) (fun _ _ _ _ _ _ _ => trivial)
    (fun _ _ _ e => nomatch e) (fun a _ _ b k => Nat.rec (fun _ _ e1 e2 => Option.some.inj e1 ▸ Option.some.inj e2 ▸ a) (fun k _ => b k) k) r
theorem PRs.get {P : AP} {h : Heap} {vs : List Value} {xs : List PyData} (r : PRs P h vs xs) {k : Nat} {x : PyData} (e : xs[k]? = some x) : ∃ v, vs[k]? = some v ∧ PR P h v x :=
  have lt : k < vs.length := by rw [r.length]; exact (List.getElem?_eq_some_iff.mp e).1
  ⟨_, List.getElem?_eq_getElem lt, r.at k _ x (List.getElem?_eq_getElem lt) e⟩
theorem PRs.get' {P : AP} {h : Heap} {vs : List Value} {xs : List PyData} (r : PRs P h vs xs) {k : Nat} {v : Value} (e : vs[k]? = some v) : ∃ x, xs[k]? = some x ∧ PR P h v x :=
  have lt : k < xs.length := by rw [← r.length]; exact (List.getElem?_eq_some_iff.mp e).1
  ⟨_, List.getElem?_eq_getElem lt, r.at k v _ e (List.getElem?_eq_getElem lt)⟩
theorem PRs.drop {P : AP} {h : Heap} {vs : List Value} {xs : List PyData} (r : PRs P h vs xs) (k : Nat) : PRs P h (vs.drop k) (xs.drop k) :=
  PRs.of (by rw [List.length_drop, List.length_drop, r.length]) fun j v x e1 e2 => r.at (k + j) v x (by rw [← List.getElem?_drop]; exact e1) (by rw [← List.getElem?_drop]; exact e2)
theorem PRs.take {P : AP} {h : Heap} {vs : List Value} {xs : List PyData} (r : PRs P h vs xs) (k : Nat) : PRs P h (vs.take k) (xs.take k) :=
  PRs.of (by rw [List.length_take, List.length_take, r.length]) fun j v x e1 e2 => by
    rw [List.getElem?_take] at e1 e2
    split at e1
    · rw [if_pos ‹_›] at e2; exact r.at j v x e1 e2
    · cases e1
theorem PRs.rep {P : AP} {h : Heap} {vs : List Value} {xs : List PyData} (r : PRs P h vs xs) (k : Nat) : PRs P h (List.replicate k vs).flatten (List.replicate k xs).flatten := by
  induction k with
  | zero => exact .nil
  | succ k ih => rw [List.replicate_succ, List.replicate_succ, List.flatten_cons, List.flatten_cons]; exact PRs.append ih r

theorem NT.list (vs : Array Value) (n : Nat) : NT (listObj vs n) := fun e => absurd (Value.type.inj e) (by decide)
theorem NT.dict (vs : Array DictEntry) (n : Nat) : NT (dictObj vs n) := fun e => absurd (Value.type.inj e) (by decide)
theorem PR.anti {P P' : AP} {h : Heap} {v : Value} {x : PyData} (r : PR P h v x) (s : ∀ b, P' b → P b) : PR P' h v x := r.move fun b _ n e => ⟨fun q => n (s b q), e⟩
theorem PRs.anti {P P' : AP} {h : Heap} {v : List Value} {x : List PyData} (r : PRs P h v x) (s : ∀ b, P' b → P b) : PRs P' h v x := r.move fun b _ n e => ⟨fun q => n (s b q), e⟩
theorem XX {P fr : AP} {h h' : Heap} (x : Ext fr h h') (s : ∀ b, fr b → P b) : Mv P P h h' := fun b o n e => ⟨n, (x b o e).1 fun q => n (s b q)⟩
end TC

namespace TC
open PySem PySem.W PyProof.Rows

noncomputable def All {α : Type} (o : Option α) (P : α → Prop) : Prop := ∀ a, o = some a → P a
theorem All.no {α : Type} {P : α → Prop} : All none P := fun _ e => nomatch e
theorem All.so {α : Type} {P : α → Prop} {a : α} (h : P a) : All (some a) P := fun _ e => Option.some.inj e ▸ h
theorem All.bind {α β : Type} {o : Option α} {f : α → Option β} {P : β → Prop} (h : All o fun a => All (f a) P) : All (o.bind f) P := by
  cases o with
  | none => exact .no
  | some a => exact h a rfl
theorem All.map {α β : Type} {o : Option α} {f : α → β} {P : β → Prop} (h : All o fun a => P (f a)) : All (o.map f) P := by
  cases o with
  | none => exact .no
  | some a => exact .so (h a rfl)
theorem All.imp {α : Type} {o : Option α} {P Q : α → Prop} (h : All o P) (k : ∀ a, P a → Q a) : All o Q := fun a e => k a (h a e)
theorem All.ite {α : Type} {c : Bool} {x : Option α} {P : α → Prop} (h : c = true → All x P) : All (cond c x none) P := by
  cases c with
  | false => exact .no
  | true => exact h rfl
theorem All.cond {α : Type} {c : Bool} {x y : Option α} {P : α → Prop} (h : c = true → All x P) (k : c = false → All y P) : All (cond c x y) P := by
  cases c with
  | false => exact k rfl
  | true => exact h rfl

structure Cx where
  kd : List (Str × NameKind)
  tb : List (Str × Nat)
  nx : Nat
  fns : List (Str × Nat)
  cls : List (Str × Nat)
  cst : List (Str × Int)
  ow : List Nat
  lm : Bool
noncomputable def Cx.glob (cx : Cx) (x : Str) : Bool := cx.kd.lookup x == some .globalImplicit && x != "__debug__" && x != "__name__"
noncomputable def isVar : Option NameKind → Bool
  | some .local => true
  | some .cell => true
  | some .free => true
  | _ => false
noncomputable def Cx.var (cx : Cx) (x : Str) : Option Nat := cond (x != "__debug__" && isVar (cx.kd.lookup x)) (cx.tb.lookup x) none

inductive EV where
  | name (x : Str) (p : Pos) | const (x : Const) (k : Nat) (p : Pos) | unary (o : UnaryOp) (e : Expr) (p : Pos) | bin (l : Expr) (o : Operator) (r : Expr) (p : Pos) | bool (o : BoolOp) (es : List Expr) (p : Pos)
  | cmp (l : Expr) (os : List CmpOp) (rs : List Expr) (p : Pos) | tuple (es : List Expr) (k : Nat) (p : Pos) | list (es : List Expr) (p : Pos) | dict (ks : List (Option Expr)) (vs : List Expr) (p : Pos) | sub (a i : Expr) (p : Pos)
  | slice (a b d : Option Expr) (p : Pos) | call (f : Expr) (as : List Expr) (kws : List Keyword) (p : Pos) | attr (a : Expr) (m : Str) (p : Pos) | comp (e : Expr) (gs : List Comprehension) (sc : Scope) (p : Pos) | other
noncomputable def view : Expr → EV
  | .Name x p => .name x p
  | .Constant x k p => .const x k p
  | .UnaryOp o e p => .unary o e p
  | .BinOp l o r p => .bin l o r p
  | .BoolOp o es p => .bool o es p
  | .Compare l os rs p => .cmp l os rs p
  | .Tuple es k p => .tuple es k p
  | .List es p => .list es p
  | .Dict ks vs p => .dict ks vs p
  | .Subscript a i p => .sub a i p
  | .Slice a b d p => .slice a b d p
  | .Call f as kws p => .call f as kws p
  | .Attribute a m p => .attr a m p
  | .ListComp e gs sc p => .comp e gs sc p
  | _ => .other
noncomputable def EV.ex (e : Expr) : EV → Expr
  | .name x p => .Name x p
  | .const x k p => .Constant x k p
  | .unary o e p => .UnaryOp o e p
  | .bin l o r p => .BinOp l o r p
  | .bool o es p => .BoolOp o es p
  | .cmp l os rs p => .Compare l os rs p
  | .tuple es k p => .Tuple es k p
  | .list es p => .List es p
  | .dict ks vs p => .Dict ks vs p
  | .sub a i p => .Subscript a i p
  | .slice a b d p => .Slice a b d p
  | .call f as kws p => .Call f as kws p
  | .attr a m p => .Attribute a m p
  | .comp e gs sc p => .ListComp e gs sc p
  | .other => e
theorem Jd (e : Expr) : (view e).ex e = e := by cases e <;> rfl

noncomputable def lowOp : Operator → Option Op
  | .Add => some .add
  | .Sub => some .sub
  | .Mult => some .mul
  | .FloorDiv => some .fdiv
  | .Mod => some .mod
  | _ => none
noncomputable def lowCmp : CmpOp → Option Op
  | .Eq => some .eq
  | .NotEq => some .ne
  | .Lt => some .lt
  | .LtE => some .le
  | .Gt => some .gt
  | .GtE => some .ge
  | .In => some .isin
  | .NotIn => some .notin
  | _ => none
noncomputable def lowL (f : Expr → Option E) : List Expr → Option Es
  | [] => some .nil
  | e :: r => (f e).bind fun a => (lowL f r).map fun b => .cons a b
noncomputable def lowCs (f : Expr → Option E) : List CmpOp → List Expr → Option (List Op × Es)
  | [o], [e] => (lowCmp o).bind fun o => (f e).map fun a => ([o], .cons a .nil)
  | o :: o2 :: os, e :: e2 :: es => (lowCmp o).bind fun o => (f e).bind fun a => (lowCs f (o2 :: os) (e2 :: es)).map fun q => (o :: q.1, .cons a q.2)
  | _, _ => none
noncomputable def f1Names : List (Str × F1) := [("len", .len), ("sum", .sum), ("max", .max), ("min", .min), ("list", .list), ("tuple", .tuple), ("sorted", .sorted), ("int", .int), ("all", .all), ("range", .range)]
noncomputable def f2Names : List (Str × F2) := [("max", .max), ("min", .min)]
noncomputable def tyNames : List (Str × Ty) := [("int", .int), ("bool", .bool), ("list", .list), ("tuple", .tuple), ("ValueError", .valueError)]
noncomputable def lowTy (cx : Cx) (x : Str) : Option Ty := (tyNames.lookup x).elim ((cx.cls.lookup x).map .exc) some

noncomputable def relab (kd : List (Str × NameKind)) (names : List (Str × NameKind)) : List (Str × NameKind) :=
  names.map fun p => if p.2 == .free && kd.lookup p.1 == some .cell then (p.1, .cell) else p
noncomputable def nameV : EV → Option Str
  | .name x _ => some x
  | _ => none
noncomputable abbrev asName (e : Expr) : Option Str := nameV (view e)
noncomputable def asNames : List Expr → Option (List Str)
  | [] => some []
  | e :: r => (asName e).bind fun x => (asNames r).map (x :: ·)
noncomputable def tgtNames : EV → Option (Option Nat × List Str)
  | .name x _ => some (none, [x])
  | .tuple es _ _ => (asNames es).map fun l => (some l.length, l)
  | _ => none
noncomputable def freeOf (kd : List (Str × NameKind)) (tb : List (Str × Nat)) (nx : Nat) : List (Str × NameKind) → Option (List (Str × Nat))
  | [] => some []
  | p :: r => cond (p.2 == .free) (cond (kd.lookup p.1 == some .cell || kd.lookup p.1 == some .free) ((tb.lookup p.1).bind fun i => cond (decide (i < nx)) ((freeOf kd tb nx r).map ((p.1, i) :: ·)) none) none) (freeOf kd tb nx r)
noncomputable def Cx.inner (cx : Cx) (sc : Scope) (ts : List Str) : Option Cx :=
  cond (sc.kind == .function && decide (sc.names.map (·.1)).Nodup && decide ts.Nodup && ts.all (fun x => sc.names.lookup x == some .local || sc.names.lookup x == some .cell))
    ((freeOf cx.kd cx.tb cx.nx sc.names).map fun fr => { cx with kd := relab cx.kd sc.names, tb := (ts.zip (List.range' cx.nx ts.length)) ++ fr, nx := cx.nx + ts.length, ow := [] }) none

noncomputable def constV : EV → Option Const
  | .const x _ _ => some x
  | _ => none
noncomputable def isNoneC : Const → Bool
  | .none => true
  | _ => false
noncomputable def intC : Const → Option Int
  | .int i => some i
  | _ => none
noncomputable def isStrC : Const → Bool
  | .str _ => true
  | _ => false
noncomputable def isTrueC : Const → Bool
  | .bool b => b
  | _ => false
noncomputable abbrev asIntC (e : Expr) : Option Int := (constV (view e)).bind intC
noncomputable abbrev isC (p : Const → Bool) (e : Expr) : Bool := (constV (view e)).any p
noncomputable def asTrueKw (k : Keyword) : Option Str := k.arg.bind fun x => cond (isC isTrueC k.value) (some x) none
noncomputable def constD : Const → Option PyData
  | .int i => some (.int i)
  | .str s => some (.str s)
  | .bool b => some (.bool b)
  | .none => some .none
  | _ => none
noncomputable def isOp : CmpOp → Option Bool
  | .Is => some false
  | .IsNot => some true
  | _ => none
noncomputable def lowIs (le : Expr → Option E) (l : Expr) (o : CmpOp) (r : Expr) : Option E := (isOp o).bind fun neg => cond (isC isNoneC r) ((le l).map (.f1 (cond neg .notNone .isNone))) none
noncomputable def lowCmps (le : Expr → Option E) (l : Expr) (os : List CmpOp) (rs : List Expr) : Option E := cond (!lastMarks os rs) ((le l).bind fun a => (lowCs le os rs).map fun q => .cmp a q.1 q.2) none
noncomputable def lowCompare (le : Expr → Option E) (l : Expr) : List CmpOp → List Expr → Option E
  | [o], [r] => cond (isOp o).isSome (lowIs le l o r) (lowCmps le l [o] [r])
  | os, rs => lowCmps le l os rs
noncomputable def lowPow (a b : Option Int) : Option E := a.bind fun a => b.bind fun b => cond (decide (0 < a) && decide (a ≤ 10) && decide (0 ≤ b) && decide (b ≤ 20)) (some (.k (.int (a ^ b.toNat)))) none
noncomputable def isPow : Operator → Bool
  | .Pow => true
  | _ => false
noncomputable def lowBin (le : Expr → Option E) (l : Expr) (o : Operator) (r : Expr) : Option E :=
  cond (isPow o) (lowPow (asIntC l) (asIntC r)) ((lowOp o).bind fun o => (le l).bind fun a => (le r).map fun b => .op o a b)
noncomputable def lowSlice (le : Expr → Option E) (a : Expr) : Option Expr → Option Expr → Option Expr → Option E
  | some i, none, none => (le a).bind fun a => (le i).map fun i => .sfrom a i
  | none, some i, none => (le a).bind fun a => (le i).map fun i => .sto a i
  | _, _, _ => none
noncomputable def lowSub (le : Expr → Option E) (a i : Expr) : EV → Option E
  | .slice i j k _ => lowSlice le a i j k
  | _ => (le a).bind fun a => (le i).map fun i => .idx a i
noncomputable def lowBuilt (le : Expr → Option E) (cx : Cx) (f : Str) : List Expr → List Keyword → Option E
  | [a], [] => (f1Names.lookup f).bind fun f => (le a).map (.f1 f)
  | [a], [k] => (asTrueKw k).bind fun k => cond (f == "sorted" && k == "reverse") ((le a).map (.f1 .sortedR)) none
  | [a, b], [] => cond (f == "isinstance") ((asName b).bind fun t => cond (cx.glob t) ((lowTy cx t).bind fun t => (le a).map (.f1 (.isi t))) none) ((f2Names.lookup f).bind fun f => (le a).bind fun a => (le b).map fun b => .f2 f a b)
  | _, _ => none
noncomputable def lent : List Str := ["piece_from", "pieces_by", "spare_tie", "done_by", "_law_counts", "_law_pieces", "_law_good"]
noncomputable def mkCall (f : Str) (k : Nat) (es : Es) : E := cond (lent.contains f) (.callb k es) (.call k es)
noncomputable def lowCallE (le : Expr → Option E) (cx : Cx) (f : Str) (args : List Expr) (kws : List Keyword) : Option E :=
  cond (cx.glob f) ((cx.fns.lookup f).elim (lowBuilt le cx f args kws) fun k => cond kws.isEmpty ((lowL le args).map (mkCall f k)) none) none
noncomputable def lowSrc (le : Expr → Option E) (cx : Cx) (iter : Expr) (t : Option Nat) (cs : Es) (e : E) : Option E :=
  (le iter).map fun src => .comp t src cs e
noncomputable def lowIndex (le : Expr → Option E) (x : Expr) (m : Str) (c : Bool) : List Expr → Option E
  | [k] => cond (c && m == "index") ((le x).bind fun a => (le k).map fun b => .index a b) none
  | _ => none
noncomputable def lowCalls (le : Expr → Option E) (cx : Cx) (args : List Expr) (kws : List Keyword) (p : Pos) : EV → Option E
  | .name f _ => lowCallE le cx f args kws
  | .attr a m ap => lowIndex le a m (kws.isEmpty && ap.endLine == p.line && (asName a).isSome) args
  | _ => none
noncomputable def lowCompE (le : Cx → Expr → Option E) (cx : Cx) (elt : Expr) (sc : Scope) : List Comprehension → Option E
  | [⟨t, iter, ifs, ia⟩] => cond (ia == 0 && decide (ifs.length ≤ 1)) ((tgtNames (view t)).bind fun tn => (cx.inner sc tn.2).bind fun cx' => (le cx' elt).bind fun e => (lowL (le cx') ifs).bind fun cs => lowSrc (le cx) cx iter tn.1 cs e) none
  | _ => none
noncomputable def lowDict (le : Expr → Option E) : List (Option Expr) → List Expr → Option E
  | [], [] => some .dic0
  | [some k], [v] => cond (isC isTrueC v) ((le k).map .dic1) none
  | _, _ => none
noncomputable def lowUn (le : Expr → Option E) (e : Expr) : UnaryOp → Option E
  | .Not => (le e).map (.f1 .not)
  | .USub => (asIntC e).map fun i => .k (.int (-i))
  | _ => none
noncomputable def lowBoolE (le : Expr → Option E) (es : List Expr) : BoolOp → Option E
  | .And => (lowL le es).map .and
  | .Or => (lowL le es).map .or
noncomputable def lowV (le : Cx → Expr → Option E) (cx : Cx) : EV → Option E
  | .name x _ => (cx.var x).elim (cond (cx.glob x) ((cx.cst.lookup x).map fun i => .k (.int i)) none) fun i => some (.nm i)
  | .const c _ _ => (constD c).map .k
  | .unary o e _ => lowUn (le cx) e o
  | .bin l o r _ => lowBin (le cx) l o r
  | .bool o es _ => lowBoolE (le cx) es o
  | .cmp l os rs _ => lowCompare (le cx) l os rs
  | .tuple es _ _ => cond (decide (es.length < 1000)) ((lowL (le cx) es).map .tup) none
  | .list es _ => cond (decide (es.length < 1000)) ((lowL (le cx) es).map .lst) none
  | .dict ks vs _ => lowDict (le cx) ks vs
  | .sub a i _ => lowSub (le cx) a i (view i)
  | .call f args kws p => lowCalls (le cx) cx args kws p (view f)
  | .comp elt gens sc _ => lowCompE le cx elt sc gens
  | _ => none
noncomputable def lowE : Nat → Cx → Expr → Option E
  | 0, _, _ => none
  | n + 1, cx, pe => lowV (lowE n) cx (view pe)
theorem QI (e : Expr) : All (asName e) fun x => ∃ p, e = .Name x p := by
  have h := Jd e
  unfold asName
  cases q : view e with
  | name x p => rw [q] at h; exact .so ⟨p, h.symm⟩
  | _ => exact .no
theorem VV (e : Expr) : All (constV (view e)) fun x => ∃ k p, e = .Constant x k p := by
  have h := Jd e
  cases q : view e with
  | const x k p => rw [q] at h; exact .so ⟨k, p, h.symm⟩
  | _ => exact .no
theorem ZHn (x : Const) : All (intC x) fun i => x = .int i := by
  cases x with
  | int i => exact .so rfl
  | _ => exact .no
theorem Qz (e : Expr) : All (asIntC e) fun i => ∃ k p, e = .Constant (.int i) k p := .bind fun x h1 i h2 => ZHn x i h2 ▸ VV e x h1
theorem VH {p : Const → Bool} {e : Expr} (h : isC p e = true) : ∃ x k q, e = .Constant x k q ∧ p x = true := by
  obtain ⟨x, h1, h2⟩ := (Option.any_eq_true p _).mp h
  obtain ⟨k, q, h3⟩ := VV e x h1
  exact ⟨x, k, q, h3, h2⟩

noncomputable def lowVars (cx : Cx) : List Expr → Option (List Nat)
  | [] => some []
  | e :: r => (asName e).bind fun x => (cx.var x).bind fun i => (lowVars cx r).map (i :: ·)
noncomputable def lowTgt (cx : Cx) : EV → Option Tgt
  | .name x _ => (cx.var x).map .one
  | .tuple es _ _ => (lowVars cx es).map .many
  | _ => none
noncomputable def unpV : EV → Bool
  | .call .. => true
  | .name .. => true
  | .sub .. => true
  | _ => false
noncomputable def lowSs (f : Stmt → Option S) : List Stmt → Option Ss
  | [] => some .nil
  | s :: r => (f s).bind fun a => (lowSs f r).map fun b => .cons a b
noncomputable def popAttr (cx : Cx) (p : Pos) : EV → Option Nat
  | .attr a m ap => cond (m == "pop" && ap.endLine == p.line) ((asName a).bind cx.var) none
  | _ => none
noncomputable def lowPop (cx : Cx) : EV → Option Nat
  | .call f [] [] p => popAttr cx p (view f)
  | _ => none
noncomputable abbrev oneArg (x : Arg) : Arguments := { posonlyargs := [], args := [x], vararg := none, kwonlyargs := [], kw_defaults := [], kwarg := none, defaults := [] }
noncomputable def headOne : List Arg → Option Arg
  | [x] => some x
  | _ => none
noncomputable def oneOf (a : Arguments) : Option Arg := cond (a.posonlyargs.isEmpty && (a.vararg.isNone && (a.kwonlyargs.isEmpty && (a.kw_defaults.isEmpty && (a.kwarg.isNone && a.defaults.isEmpty))))) (headOne a.args) none
structure Lam where
  x : Arg
  y : Str
  np : Pos
  yp : Pos
  sp : Pos
  sc : Scope
  p : Pos
noncomputable def Lam.ex (l : Lam) : Expr := .Lambda (oneArg l.x) (.Subscript (.Name l.y l.yp) (.Name l.x.arg l.np) l.sp) l.sc l.p
noncomputable def lamV : Expr → Option (Arguments × Expr × Scope × Pos)
  | .Lambda a b sc p => some (a, b, sc, p)
  | _ => none
noncomputable def subV : EV → Option (Expr × Expr × Pos)
  | .sub a i p => some (a, i, p)
  | _ => none
noncomputable def nmpV : EV → Option (Str × Pos)
  | .name x p => some (x, p)
  | _ => none
noncomputable def lamOf (e : Expr) : Option Lam := (lamV e).bind fun q => (subV (view q.2.1)).bind fun s => (nmpV (view s.1)).bind fun y => (nmpV (view s.2.1)).bind fun x => (oneOf q.1).bind fun b => cond (b.arg == x.1) (some ⟨b, y.1, x.2, y.2, s.2.2, q.2.2.1, q.2.2.2⟩) none
noncomputable def Lam.ok (l : Lam) (cx : Cx) : Bool := l.sc.kind == .function && !l.sc.isCoroutine && !l.sc.isGenerator && l.sc.names.all (fun n => n.2 != .cell) && l.sc.names.lookup l.x.arg == some .local && l.sc.names.lookup l.y == some .free && l.x.arg == "_law_point" && l.y != "__classdict__" && cx.kd.lookup l.y == some .cell && l.sc.names.all (fun n => n.2 != .free || cx.kd.lookup n.1 == some .cell)
noncomputable def lowKst (le : Expr → Option E) (cx : Cx) (j : Nat) : EV → Option S
  | .call f [r] [⟨some k, v, _⟩] _ => (asName f).bind fun g => cond (cx.lm && (g == "sorted" && (cx.glob g && k == "key"))) ((lamOf v).bind fun l => cond (l.ok cx) ((cx.var l.y).bind fun i => (le r).map fun r => .kst j r i) none) none
  | _ => none
noncomputable def ownNm (cx : Cx) : EV → Option Nat
  | .name x _ => (cx.var x).bind fun j => cond (cx.ow.contains j) (some j) none
  | _ => none
noncomputable def ownSrc (cx : Cx) : List Comprehension → List Nat
  | [⟨_, iter, _, _⟩] => (ownNm cx (view iter)).toList
  | _ => []
noncomputable def srcOwn (cx : Cx) : EV → List Nat
  | .comp _ gs _ _ => ownSrc cx gs
  | _ => []
noncomputable def fzs : List Nat → S → S
  | [], s => s
  | i :: r, s => .fz i (fzs r s)
noncomputable def lowAsg (le : Expr → Option E) (cx : Cx) (v : Expr) : EV → Option S
  | .name x _ => (cx.var x).bind fun i => (lowPop cx (view v)).elim ((lowKst le cx i (view v)).elim ((le v).map fun e => fzs (srcOwn cx (view v)) (.asg (cx.ow.contains i) i e)) some) fun j => some (.pop i j)
  | .tuple ts _ _ => cond (unpV (view v)) ((lowVars cx ts).bind fun is => (le v).map fun e => .unp is e) none
  | .sub a k _ => (asName a).bind fun x => (cx.var x).bind fun i => (le k).bind fun k => cond (isC isTrueC v) (some (.key i k)) ((le v).map fun v => .set i k v)
  | _ => none
noncomputable def ownIn (cx : Cx) : EV → Option Nat
  | .name x _ => cx.var x
  | .sub a _ _ => (asName a).bind cx.var
  | _ => none
noncomputable def ownsIn (cx : Cx) : EV → List Nat
  | .tuple es _ _ => es.filterMap fun e => (ownIn cx (view e)).filter (cx.ow.contains ·)
  | _ => []
noncomputable def lowApp (le : Expr → Option E) (cx : Cx) (i : Nat) (a : Expr) : Option S := (le a).map fun a' => fzs (ownsIn cx (view a)) (.app i a')
noncomputable def lowMeth (le : Expr → Option E) (cx : Cx) (x : Str) (m : Str) : List Expr → Option S
  | [a₀] => (cx.var x).bind fun i => cond (m == "append") (lowApp le cx i a₀) (cond (m == "extend") ((le a₀).map (.ext i)) none)
  | _ => none
noncomputable def natC (e : Expr) : Option Nat := (asIntC e).bind fun i => cond (decide (0 ≤ i)) (some i.toNat) none
noncomputable def lowTix (le : Expr → Option E) (cx : Cx) (x : Str) (k : Expr) (m : Str) : List Expr → Option S
  | [a] => cond (m == "append") ((cx.var x).bind fun i => (natC k).bind fun k => cond (k == 1) ((le a).map fun a => .tix i a) none) none
  | _ => none
noncomputable def lowRecv (le : Expr → Option E) (cx : Cx) (m : Str) (args : List Expr) : EV → Option S
  | .name x _ => lowMeth le cx x m args
  | .sub a k _ => (asName a).bind fun x => lowTix le cx x k m args
  | _ => none
noncomputable def lowExpr2 (le : Expr → Option E) (cx : Cx) (e : Expr) (args : List Expr) (kws : List Keyword) (p : Pos) : EV → Option S
  | .attr a m ap => cond (kws.isEmpty && ap.endLine == p.line) (lowRecv le cx m args (view a)) none
  | .name _ _ => (le e).map .drop
  | _ => none
noncomputable def lowExpr (le : Expr → Option E) (cx : Cx) (e : Expr) : EV → Option S
  | .call f args kws p => lowExpr2 le cx e args kws p (view f)
  | _ => none
noncomputable def strC : Const → Option Str
  | .str s => some s
  | _ => none
noncomputable def asStrC (e : Expr) : Option Str := (constV (view e)).bind strC
noncomputable def lowRet2 (le : Expr → Option E) (cx : Cx) (e : Expr) : List Expr → Option S
  | [a, b] => (asStrC a).elim ((ownNm cx (view a)).elim ((le e).map fun e' => fzs (ownsIn cx (view e)) (.ret e')) fun j => (ownNm cx (view b)).map fun k => .ret2 j k) fun s => (le b).map (.rets s)
  | _ => (le e).map fun e' => fzs (ownsIn cx (view e)) (.ret e')
noncomputable def lowRet (le : Expr → Option E) (cx : Cx) (e : Expr) : EV → Option S
  | .tuple es _ _ => lowRet2 le cx e es
  | .name x _ => (cx.var x).elim ((le e).map .ret) fun i => some (.retm i)
  | _ => (le e).map .ret
noncomputable def lowRaise (cx : Cx) : EV → Option S
  | .call f [a] [] _ => cond (isC isStrC a) ((asName f).bind fun c => cond (cx.glob c) ((cx.cls.lookup c).map .rais) none) none
  | _ => none
noncomputable def lowFor (le : Expr → Option E) (cx : Cx) (iter : Expr) (t : Tgt) (b : Ss) : EV → Option S
  | .name x _ => (cx.var x).map fun i => .loopn t i b
  | _ => (le iter).map fun src => .loop t src b
noncomputable def lowSV (le : Expr → Option E) (ls : Stmt → Option S) (cx : Cx) : Stmt → Option S
  | .Assign [t] v _ => lowAsg le cx v (view t)
  | .Expr e _ => lowExpr le cx e (view e)
  | .If t a b _ => (le t).bind fun t => (lowSs ls a).bind fun a => (lowSs ls b).map fun b => .ite t a b
  | .For t iter body [] _ => (lowTgt cx (view t)).bind fun t => (lowSs ls body).bind fun b => lowFor le cx iter t b (view iter)
  | .While c body [] _ => (le c).bind fun c => (lowSs ls body).map fun b => .whl c b
  | .Return (some e) _ => lowRet le cx e (view e)
  | .Raise (some e) none _ => lowRaise cx (view e)
  | _ => none
noncomputable def lowS : Nat → Cx → Stmt → Option S
  | 0, _, _ => none
  | n + 1, cx, st => lowSV (lowE n cx) (lowS n cx) cx st

noncomputable def slotsOf : List (Str × NameKind) → Nat → List (Str × Nat)
  | [], _ => []
  | p :: r, n => cond (p.2 == .local || p.2 == .cell) ((p.1, n) :: slotsOf r (n + 1)) (slotsOf r n)
noncomputable def fnMatch (lm : Bool) (fns cls : List (Str × Nat)) (cst : List (Str × Int)) (fn : Fn) (ow : List Nat) (params : Arguments) (scope : Scope) (body : List Stmt) : Option Ss :=
  cond (scope.kind == .function && !scope.isGenerator && !scope.isCoroutine && decide (scope.names.map (·.1)).Nodup && scope.names.all (fun p => p.2 != .free)
    && params.posonlyargs.isEmpty && params.vararg.isNone && params.kwonlyargs.isEmpty && params.kwarg.isNone && params.defaults.isEmpty
    && ((params.args.map fun a => (slotsOf scope.names 0).lookup a.arg) == (List.range fn.np).map some) && (slotsOf scope.names 0).length == fn.ns)
    (lowSs (lowS 40 { kd := scope.names, tb := slotsOf scope.names 0, nx := fn.ns, fns := fns, cls := cls, cst := cst, ow := ow, lm := lm }) body) none
theorem ZHu (e : Expr) : All (lamV e) fun q => e = .Lambda q.1 q.2.1 q.2.2.1 q.2.2.2 := by
  cases e with
  | Lambda => exact .so rfl
  | _ => exact .no
theorem ZJc (e : Expr) : All (subV (view e)) fun q => e = .Subscript q.1 q.2.1 q.2.2 := by
  have h := Jd e
  cases q : view e with
  | sub => rw [q] at h; exact .so h.symm
  | _ => exact .no
theorem ZAu (e : Expr) : All (nmpV (view e)) fun q => e = .Name q.1 q.2 := by
  have h := Jd e
  cases q : view e with
  | name => rw [q] at h; exact .so h.symm
  | _ => exact .no
theorem nilE {α : Type} {l : List α} (h : l.isEmpty = true) : l = [] := List.isEmpty_iff.mp h
theorem noneE {α : Type} {o : Option α} (h : o.isNone = true) : o = none := Option.isNone_iff_eq_none.mp h
theorem GR (l : List Arg) : All (headOne l) fun x => l = [x] := by
  cases l with
  | nil => exact .no
  | cons x l =>
    cases l with
    | nil => exact .so rfl
    | cons => exact .no
theorem ZEp (a : Arguments) : All (oneOf a) fun x => a = oneArg x := by
  obtain ⟨po, ar, va, ko, kd, kw, de⟩ := a
  refine .ite fun h x hx => ?_
  have h1 := Bool.and_eq_true_iff.mp h
  have h2 := Bool.and_eq_true_iff.mp h1.2
  have h3 := Bool.and_eq_true_iff.mp h2.2
  have h4 := Bool.and_eq_true_iff.mp h3.2
  have h5 := Bool.and_eq_true_iff.mp h4.2
  obtain rfl : po = [] := nilE h1.1
  obtain rfl : va = none := noneE h2.1
  obtain rfl : ko = [] := nilE h3.1
  obtain rfl : kd = [] := nilE h4.1
  obtain rfl : kw = none := noneE h5.1
  obtain rfl : de = [] := nilE h5.2
  obtain rfl : ar = [x] := GR _ x hx
  rfl
theorem ZJy (e : Expr) : All (lamOf e) fun l => e = l.ex := .bind fun q h1 => .bind fun s h2 => .bind fun y h3 => .bind fun x h4 => .bind fun b h5 => .ite fun h => .so (by
  have e6 := beq_iff_eq.mp h
  rw [ZHu e q h1, ZJc _ s h2, ZAu _ y h3, ZAu _ x h4, ZEp _ b h5, ← e6]; rfl)
end TC

namespace TC
open PySem PySem.W PyProof.Rows

noncomputable def OwnAt (P : AP) (h : Heap) (a : Addr) : PyData → Prop
  | .list xs => ∃ vs n, h.get? a = some (listObj vs n) ∧ PRs P h vs.toList xs
  | .dict kvs => ∃ es n, h.get? a = some (dictObj es n) ∧ PRs P h (es.toList.map (·.key)) (kvs.map (·.1)) ∧ PRs P h (es.toList.map (·.val)) (kvs.map (·.2)) ∧ DictOk a es kvs
  | _ => False
theorem OwnAt.is {P : AP} {h : Heap} {a : Addr} {x : PyData} (r : OwnAt P h a x) : Is h a := by
  cases x with
  | list xs => exact let ⟨_, _, e, _⟩ := r; ⟨_, e, .list _ _⟩
  | dict kvs => exact let ⟨_, _, e, _⟩ := r; ⟨_, e, .dict _ _⟩
  | _ => exact r.elim
theorem OwnAt.pr {P P' : AP} {h : Heap} {a : Addr} {x : PyData} (r : OwnAt P h a x) (n : ¬ P' a) (s : ∀ b, P' b → P b) : PR P' h (.ref a) x := by
  cases x with
  | list xs => exact let ⟨_, _, e, q⟩ := r; .list n e (q.anti s)
  | dict kvs => exact let ⟨_, _, e, q, q', d⟩ := r; .dict n e (q.anti s) (q'.anti s) d
  | _ => exact r.elim
theorem OwnAt.move {P P' : AP} {h h' : Heap} {a : Addr} {x : PyData} (r : OwnAt P h a x) (k : Mv P P' h h') (ka : ∀ o, h.get? a = some o → h'.get? a = some o) : OwnAt P' h' a x := by
  cases x with
  | list xs => exact let ⟨vs, n, e, q⟩ := r; ⟨vs, n, ka _ e, q.move k⟩
  | dict kvs => exact let ⟨es, n, e, q, q', d⟩ := r; ⟨es, n, ka _ e, q.move k, q'.move k, d⟩
  | _ => exact r.elim

inductive Bare (h : Heap) (e : Addr) : Prop
  | mk (o : Obj) (vs : Array Value) : h.get? e = some o → o.data = .fields vs → vs[2]? = some .none → Bare h e
inductive ExcAt (ca : List Addr) (c : Nat) (h : Heap) (v : Value) : Prop
  | mk (e : Addr) (o : Obj) (vs : Array Value) (C : Addr) : v = .ref e → ca[c]? = some C → h.get? e = some o → o.cls = .ref C → o.dict = none → o.data = .fields vs → ExcAt ca c h v
inductive Trb (h₀ h : Heap) (e : Addr) (fl : Value) (vs : Array Value) : Prop
  | no : fl = .none → vs[1]? = some .none → Trb h₀ h e fl vs
  | at (T : Addr) (oT : Obj) (ts : Array Value) : vs[1]? = some (.ref T) → h₀.get? T = none → T ≠ e → h.get? T = some oT → oT.data = .fields ts → ts[3]? = some fl → Trb h₀ h e fl vs
inductive Fly (h₀ : Heap) (e C : Addr) (fl : Value) (h : Heap) : Prop
  | mk (oe : Obj) (vs : Array Value) : h₀.get? e = none → h.get? e = some oe → oe.cls = .ref C → oe.dict = none → oe.data = .fields vs → vs[2]? = some .none → Trb h₀ h e fl vs → Fly h₀ e C fl h
theorem Fly.back {fr : AP} {h₀ h₁ h : Heap} {e C : Addr} {fl : Value} (x : Fly h₁ e C fl h) (k : Ext fr h₀ h₁) : Fly h₀ e C fl h := by
  obtain ⟨oe, vs, n, h1, h2, h3, h4, h5, h6⟩ := x
  refine ⟨oe, vs, k.gone n, h1, h2, h3, h4, h5, ?_⟩
  cases h6 with
  | no a b => exact .no a b
  | «at» T oT ts q1 q2 q3 => exact .at T oT ts q1 (k.gone q2) q3 ‹_› ‹_› ‹_›

structure Gl where
  prog : Program
  w : World
  K : Frag
  B : Heap
  p : Program
  loose : List Str
  mean : ExcName → Option Value
  mg : Str → Option Value
  mb : Str → Option Value
  fns : List (Str × Nat)
  fa : List Addr
  cls : List (Str × Nat)
  ca : List Addr
  cst : List (Str × Int)
  tab : List Fn

noncomputable def usedNames : List Str := ["len", "sum", "max", "min", "list", "tuple", "sorted", "set", "int", "all", "isinstance", "range", "zip", "reversed", "bool", "ValueError"]
noncomputable def bmV : List Value := [.type "ValueError", .type "Exception", .type "BaseException", .type "object"]
noncomputable def ownOk1 (K : Frag) (C : Addr) : Bool :=
  findIn K (.ref C) "__getattribute__" == some (some (.builtin "BaseException.__getattribute__")) && findIn K (.ref C) "__getattr__" == some none && mroIn K C (.type "BaseException") == some true && (clsIn K C).isSome && findIn K (.ref C) "__class__" == some (some (.builtin "object.__class__")) && specialIn K (.builtin "object.__class__") "__get__" == some (some (.builtin "getset_descriptor.__get__"))
    && takesIn K (.builtin "object.__class__") == some true && mroIn K C (.type "object") == some true && mroIn K C (.type "ValueError") == some true && typeIn K (.ref C) == some (.type "type")
structure TopL (p : Program) (mg mb : Str → Option Value) (h : Heap) : Prop where
  g : h.Ns mainGlobals mg
  b : h.Ns builtinsNs mb
  nolimit : h.NoLimit
  fn : ∀ d ∈ recsOf p, ∃ a o pm code doc, mg d.name = some (.ref a) ∧ h.get? a = some o ∧ o.data = .func (Calls.docDef d.name d.params d.body d.scope pm code doc) ∧ h.CodeRec code d.name
  builtins : ∀ x : Str, x ≠ "__name__" → mb x = bootBuiltins x
  bmain : ∃ bm ob, mg "__builtins__" = some (.ref bm) ∧ bm ≠ builtinsNs ∧ h.get? bm = some ob ∧ ob.cls = .type "module" ∧ ob.dict = some builtinsNs ∧ ob.data = .plain
structure Gl.Ok (G : Gl) : Prop where
  inK : G.K.In G.B
  top : TopL G.p G.mg G.mb G.B
  fnm : ∀ x k, G.fns.lookup x = some k → ∃ a, G.fa[k]? = some a ∧ nsIn G.K mainGlobals x = some (some (.ref a))
  cnm : ∀ x k, G.cls.lookup x = some k → ∃ a, G.ca[k]? = some a ∧ nsIn G.K mainGlobals x = some (some (.ref a))
  cnst : ∀ x i, G.cst.lookup x = some i → ∃ t, nsIn G.K mainGlobals x = some (some (.int i t))
  bnm : ∀ x ∈ usedNames, nsIn G.K mainGlobals x = some none
  fok : ∀ (k : Nat) a, G.fa[k]? = some a → ∃ (d : DefRec) (fn : Fn) (ow : List Nat), d ∈ recsOf G.p ∧ nsIn G.K mainGlobals d.name = some (some (.ref a)) ∧ G.tab[k]? = some fn ∧ fnMatch false G.fns G.cls G.cst fn ow d.params d.scope d.body = some fn.body
    ∧ ∀ (pm code doc : Value) (vals : List Value), vals.length = fn.np → bindArgs (Calls.docDef d.name d.params d.body d.scope pm code doc) ⟨vals, []⟩ = pure ((d.params.args.map (·.arg)).zip vals)
  cok : ∀ (c : Nat) C, G.ca[c]? = some C → ownOk1 G.K C = true
  csub : ∀ (c : Nat) C (c' : Nat) C', G.ca[c]? = some C → G.ca[c']? = some C' → mroIn G.K C (.ref C') = some (c' == 0 || c == c')
  cown : ∀ (c : Nat) C, G.ca[c]? = some C → ∃ x, OwnCls x C bmV "ValueError.__new__" G.mg G.B

noncomputable def varAt (env : Env) (h : Heap) (x : Str) (v : Value) : Prop :=
  (env.kindOf x = some .local ∧ ∃ m, h.Ns env.locals m ∧ m x = some v) ∨ ((env.kindOf x = some .cell ∨ env.kindOf x = some .free) ∧ ∃ c, env.cells.lookup x = some c ∧ h.IsCell c (some v))
theorem varAt.ext {env : Env} {h h' : Heap} {x : Str} {v : Value} {fr : AP} (y : varAt env h x v) (e : Ext fr h h') : varAt env h' x v :=
  y.imp (fun ⟨k, m, n, q⟩ => ⟨k, m, e.ns n, q⟩) fun ⟨k, c, n, q⟩ => ⟨k, c, n, e.cell q⟩

structure Cf where
  G : Gl
  dep : Nat
  cx : Cx
  env : Env
  hm : Bool
  A : Around
  envs : List Env
  hid : AP
  ρ : Rho
  b : Shared
  X : Nat → Prop
  E : Value → Shared → Prop
noncomputable def frOf (envs : List Env) : AP := fun b => b ∈ envs.filterMap (·.frame)
noncomputable abbrev Cf.fr (c : Cf) : AP := frOf c.envs
noncomputable abbrev Cf.M (c : Cf) : Model := model c.G.prog c.G.w
noncomputable abbrev Cf.wp {α : Type} (c : Cf) (m : Sem α) (Q : α → Shared → Prop) (s : Shared) : Prop := wpAny c.M c.A m Q c.E s
noncomputable abbrev also (P : AP) (a : Addr) : AP := fun b => b = a ∨ P b

noncomputable def PtV (hb : Heap) (hid : AP) (h : Heap) (v : Value) : PyData → Prop
  | .list xs => ∃ a, v = .ref a ∧ hb.get? a = none ∧ OwnAt (also hid a) h a (.list xs)
  | x => PR hid h v x
theorem PtV.move {hb hb' h h' : Heap} {hid hid' : AP} {v : Value} {x : PyData} (r : PtV hb hid h v x) (n : ∀ b, hb.get? b = none → hb'.get? b = none) (k : ∀ b o, hb.get? b = none → h.get? b = some o → h'.get? b = some o) (mv : Mv hid hid' h h') : PtV hb' hid' h' v x := by
  cases x with
  | list xs =>
    obtain ⟨a, e, na, r⟩ := r
    exact ⟨a, e, n a na, r.move (fun b o nb e => ⟨fun q => q.elim (fun q => nb (.inl q)) (mv b o (fun q => nb (.inr q)) e).1, (mv b o (fun q => nb (.inr q)) e).2⟩) fun o e => k a o na e⟩
  | _ => exact PR.move mv r
theorem PtV.pr {hb h : Heap} {hid : AP} {v : Value} {x : PyData} (r : PtV hb hid h v x) (n : ∀ a, hb.get? a = none → ¬ hid a) : PR hid h v x := by
  cases x with
  | list xs => obtain ⟨a, rfl, na, r⟩ := r; exact r.pr (n a na) fun b q => .inr q
  | _ => exact r
inductive OtV (hb : Heap) (hid : AP) (h : Heap) (v : Value) (x y : PyData) : Prop
  | mk (t : Addr) (v1 v2 : Value) (m : Nat) : v = .ref t → hb.get? t = none → h.get? t = some (tupObj #[v1, v2] m) → PtV hb hid h v1 x → PtV hb hid h v2 y → OtV hb hid h v x y
theorem OtV.move {hb hb' h h' : Heap} {hid hid' : AP} {v : Value} {x y : PyData} (r : OtV hb hid h v x y) (n : ∀ b, hb.get? b = none → hb'.get? b = none) (k : ∀ b o, hb.get? b = none → h.get? b = some o → h'.get? b = some o) (mv : ∀ b o, ¬ hid b → h.get? b = some o → ¬ hid' b ∧ h'.get? b = some o) : OtV hb' hid' h' v x y := by
  obtain ⟨t, v1, v2, m, e, nt, ht, r1, r2⟩ := r
  exact ⟨t, v1, v2, m, e, n t nt, k t _ nt ht, r1.move n k mv, r2.move n k mv⟩
noncomputable def VR (ca : List Addr) (hb : Heap) (hid fr : AP) (h : Heap) (v : Value) : V → Prop
  | .d x => PR hid h v x
  | .brw x => PR fr h v x
  | .own x => ∃ a, v = .ref a ∧ hb.get? a = none ∧ OwnAt (also hid a) h a x
  | .exc k => ExcAt ca k h v
  | .rg n => ∃ r t1 t2 t3, v = .ref r ∧ ¬ fr r ∧ (-(lim : Int) < n ∧ n < lim) ∧ IsRange h r 0 n 1 t1 t2 t3
  | .ot x y => OtV hb hid h v x y
  | .oh _ _ => False
noncomputable abbrev Cf.R (c : Cf) (s : Shared) (v : Value) (u : V) : Prop := VR c.G.ca c.b.heap c.hid c.fr s.heap v u

theorem Bare.ext {h h' : Heap} {a : Addr} {fr : AP} (x : Bare h a) (e : Ext fr h h') : Bare h' a := by
  obtain ⟨o, vs, h1, h2, h3⟩ := x
  obtain ⟨_, q⟩ := (e a o h1).2
  exact ⟨_, vs, q, h2, h3⟩
noncomputable def HOk (hm : Bool) (A : Around) (h : Heap) : Prop := (hm = false ∧ A.handled = none) ∨ (hm = true ∧ ∃ e, A.handled = some (.ref e) ∧ Bare h e)
theorem HOk.ext {hm : Bool} {A : Around} {h h' : Heap} {fr : AP} (x : HOk hm A h) (e : Ext fr h h') : HOk hm A h' :=
  x.imp_right fun ⟨x, a, y, z⟩ => ⟨x, a, y, z.ext e⟩
structure Stk (c : Cf) (h : Heap) : Prop where
  frames : c.A.frames = some c.envs
  funs : h.FunFrames c.G.B c.envs
  base : c.G.B.StaysIn h
noncomputable def Same (s s' : Shared) : Prop := s'.gens = s.gens ∧ s'.os = s.os
theorem Same.refl (s : Shared) : Same s s := ⟨rfl, rfl⟩
theorem Same.trans {a b c : Shared} (x : Same a b) (y : Same b c) : Same a c := ⟨y.1.trans x.1, y.2.trans x.2⟩
theorem Same.mk' {a b c : Shared} (x : Same a b) (y : Same a c) : Same b c := ⟨y.1.trans x.1.symm, y.2.trans x.2.symm⟩
structure AtC (c : Cf) (s : Shared) : Prop where
  stk : Stk c s.heap
  hok : HOk c.hm c.A s.heap
  dom : ∀ b, c.hid b → Is s.heap b
  ext : Ext c.fr c.b.heap s.heap
  same : Same c.b s
structure At (c : Cf) (s : Shared) : Prop extends AtC c s where
  envr : ∀ x i, c.cx.tb.lookup x = some i → ∀ u, c.ρ[i]? = some (some u) → ∃ v, varAt c.env s.heap x v ∧ c.R s v (nmV u)
  cok : ∀ x a, c.env.cells.lookup x = some a → ∃ o, s.heap.get? a = some o
noncomputable def Raised (c : Cf) (e : Addr) (k : Nat) (h' : Heap) : Prop := ∃ C, c.G.ca[k]? = some C ∧ Fly c.b.heap e C .none h' ∧ Ext c.fr c.b.heap h'
structure WfC (c : Cf) : Prop where
  ok : c.G.Ok
  depth : c.A.depth + c.dep ≤ 900
  units : c.A.units + 20 * c.dep ≤ 9000
  sub : ∀ b, c.fr b → c.hid b
  dom0 : ∀ b, c.hid b → Is c.b.heap b
  thr : ∀ e s' k, Raised c e k s'.heap → Same c.b s' → c.X k → c.E (.ref e) s'
structure EnvOk (G : Gl) (cx : Cx) (env : Env) : Prop where
  kind : env.scope.kind = .function
  names : env.scope.names = cx.kd
  glob : env.globals = mainGlobals
  bns : env.builtins = builtinsNs
  fns : cx.fns = G.fns
  cls : cx.cls = G.cls
  cst : cx.cst = G.cst
  cells : ∀ x, (cx.kd.lookup x = some .cell ∨ cx.kd.lookup x = some .free) → ∃ c, env.cells.lookup x = some c
  nocd : ∀ x, cx.kd.lookup x = some .free → (x == ("__classdict__" : Str)) = false
structure Wf (c : Cf) : Prop extends WfC c where
  envok : EnvOk c.G c.cx c.env
  len : c.ρ.length = c.cx.nx
noncomputable abbrev Fin (c : Cf) (s : Shared) (K : V → Prop) (Q : Value → Shared → Prop) : Prop := ∀ v s' u, At c s' → Ext c.fr s.heap s'.heap → c.R s' v u → K u → Q v s'
noncomputable abbrev FinB (c : Cf) (s : Shared) (K : V → Prop) (Q : Bool → Shared → Prop) : Prop := ∀ b s', At c s' → Ext c.fr s.heap s'.heap → K (.d (.bool b)) → Q b s'
noncomputable def OkE (c : Cf) (pe : Expr) (e : E) : Prop := ∀ s K Q, At c s → wpE (wpCall c.G.tab c.dep) c.hm c.X e c.ρ K → Fin c s K Q → c.wp (eval pe c.env) Q s
noncomputable def OkT (c : Cf) (pe : Expr) (e : E) : Prop := ∀ s K Q, At c s → wpE (wpCall c.G.tab c.dep) c.hm c.X e c.ρ K → (∀ u, K u → ∃ b, u = .d (.bool b)) → FinB c s K Q → c.wp (isTrue pe c.env (eval pe c.env)) Q s
end TC

namespace TC
open PySem PySem.W PyProof.Rows

section
variable {c : Cf} {s s' : Shared} {v : Value} {u : V} {x : PyData} {xs : List PyData} {K : V → Prop} {Q : Value → Shared → Prop}
theorem Jn {α : Type} {p : Prop} [Decidable p] {a b : α} (e : guardO p a = some b) : p ∧ a = b := by
  unfold guardO at e; split at e
  · exact ⟨‹_›, Option.some.inj e⟩
  · cases e
theorem WfC.new_hid (W : WfC c) {a : Addr} (n : c.b.heap.get? a = none) : ¬ c.hid a := fun q => (W.dom0 a q).not_none n
theorem WfC.new_fr (W : WfC c) {a : Addr} (n : c.b.heap.get? a = none) : ¬ c.fr a := fun q => W.new_hid n (W.sub a q)
theorem ExcAt.ext {ca : List Addr} {k : Nat} {h h' : Heap} {fr : AP} (r : ExcAt ca k h v) (x : Ext fr h h') : ExcAt ca k h' v := by
  obtain ⟨e, o, vs, C, h1, h2, h3, h4, h5, h6⟩ := r
  obtain ⟨_, q⟩ := (x e o h3).2
  exact ⟨e, _, vs, C, h1, h2, q, h4, h5, h6⟩
theorem WfC.R (W : WfC c) (r : c.R s v u) (x : Ext c.fr s.heap s'.heap) : c.R s' v u := by
  cases u with
  | d y => exact PR.move (XX x W.sub) r
  | brw y => exact PR.move (XX x fun _ b => b) r
  | own y =>
    obtain ⟨a, e, n, r⟩ := r
    exact ⟨a, e, n, r.move (XX x fun b q => .inr (W.sub b q)) fun o q => (x a o q).1 (W.new_fr n)⟩
  | exc k => exact ExcAt.ext r x
  | rg n =>
    obtain ⟨a, t1, t2, t3, e, n, l, r⟩ := r
    exact ⟨a, t1, t2, t3, e, n, l, (x a _ r).1 n⟩
  | ot y z => exact OtV.move r (fun _ q => q) (fun b o n e => (x b o e).1 (W.new_fr n)) fun b o n e => ⟨n, (x b o e).1 fun q => n (W.sub b q)⟩
  | oh y z => exact r.elim
theorem Stk.ext {h h' : Heap} (S : Stk c h) (x : Ext c.fr h h') : Stk c h' :=
  ⟨S.frames, S.funs.of_keeps fun b o q _ => let ⟨_, y⟩ := (x b o q).2; ⟨_, y, rfl⟩, fun b o e => (x b o (S.base b o e)).1 fun q => JJ e (S.funs.mem q).1⟩
theorem AtC.go (a : AtC c s) (x : Ext c.fr s.heap s'.heap) (m : Same s s') : AtC c s' := ⟨a.stk.ext x, a.hok.ext x, fun b q => (a.dom b q).ext x, a.ext.trans x, a.same.trans m⟩
theorem WfC.go (W : WfC c) (a : At c s) (x : Ext c.fr s.heap s'.heap) (m : Same s s') : At c s' :=
  ⟨a.toAtC.go x m, fun y i hy u hu => let ⟨v, h1, h2⟩ := a.envr y i hy u hu; ⟨v, h1.ext x, W.R h2 x⟩, fun y b e => let ⟨o, q⟩ := a.cok y b e; let ⟨_, q'⟩ := (x b o q).2; ⟨_, q'⟩⟩
theorem WfC.keep (W : WfC c) (a : AtC c s) (r : c.R s v u) : All (kp u) (PR c.hid s.heap v) := by
  cases u with
  | d y => exact .so r
  | brw y => exact fun z e => (Jn e).2 ▸ Xm a.dom r (Jn e).1
  | own y => exact .so (let ⟨_, e, n, r⟩ := r; e ▸ r.pr (W.new_hid n) fun _ q => .inr q)
  | ot y z => exact .so (let ⟨_, _, _, _, e, nt, ht, r1, r2⟩ := r; e ▸ PR.tuple (W.new_hid nt) ht (.cons (r1.pr fun _ => W.new_hid) (.cons (r2.pr fun _ => W.new_hid) .nil)))
  | _ => exact .no
theorem WfC.rdf (W : WfC c) (r : c.R s v u) : All (rd u) (PR c.fr s.heap v) := by
  cases u with
  | d y => exact .so (PR.anti r W.sub)
  | brw y => exact .so r
  | own y => exact .so (let ⟨_, e, n, r⟩ := r; e ▸ r.pr (W.new_fr n) fun b q => .inr (W.sub b q))
  | _ => exact .no
inductive IsL (P : AP) (h : Heap) (v : Value) (xs : List PyData) : Prop
  | mk (a : Addr) (vs : Array Value) (n : Nat) : v = .ref a → h.get? a = some (listObj vs n) → PRs P h vs.toList xs → IsL P h v xs
theorem Xp (x : PyData) : All (listOf x) fun xs => x = .list xs := by
  cases x with
  | list ys => exact .so rfl
  | _ => exact .no
theorem PR.isL {P : AP} {h : Heap} (r : PR P h v x) (e : listOf x = some xs) : IsL P h v xs := by
  rw [Xp x xs e] at r
  obtain ⟨a, vs, n, h1, _, h2, h3⟩ := r.inv
  exact ⟨a, vs, n, h1, h2, h3⟩
theorem WfC.ls (W : WfC c) (a : AtC c s) (r : c.R s v u) : All (lsV u) (IsL c.hid s.heap v) := by
  cases u with
  | d y => exact fun xs e => PR.isL r e
  | own y => exact fun xs e => PR.isL (W.keep a r y rfl) e
  | brw y =>
    refine .bind fun xs e ys e2 => ?_
    obtain ⟨b, vs, n, h1, h2, h3⟩ := PR.isL r e
    exact ⟨b, vs, n, h1, h2, (Jn e2).2 ▸ GP a.dom h3 (Jn e2).1⟩
  | _ => exact .no
theorem XA (u : V) : All (boolV u) fun b => u = .d (.bool b) := by
  cases u with
  | d x => cases x with
    | bool a => exact .so rfl
    | _ => exact .no
  | _ => exact .no
theorem ZHo (u : V) : All (intV u) fun b => u = .d (.int b) := by
  cases u with
  | d x => cases x with
    | int a => exact .so rfl
    | _ => exact .no
  | _ => exact .no
theorem Cf.R.int {i : Int} (r : c.R s v u) (e : intV u = some i) : ∃ t, v = .int i t := by rw [ZHo u i e] at r; exact PR.inv r
theorem Cf.R.bool {i : Bool} (r : c.R s v u) (e : boolV u = some i) : v = .bool i := by rw [XA u i e] at r; exact PR.inv r

noncomputable abbrev Ret (c : Cf) (s : Shared) (u : V) (Q : Value → Shared → Prop) : Prop := ∀ v s', Ext c.fr s.heap s'.heap → Same s s' → c.R s' v u → Q v s'
theorem WfC.ret (W : WfC c) (a : At c s) (k : Fin c s K Q) (h : K u) : Ret c s u Q := fun v s' x m r => k v s' u (W.go a x m) x r h
theorem Fin.at {s₁ : Shared} (k : Fin c s K Q) (x : Ext c.fr s.heap s₁.heap) : Fin c s₁ K Q := fun v s' u a x' r h => k v s' u a (x.trans x') r h
theorem Ret.int {i : Int} (h : Ret c s (.d (.int i)) Q) (t tk : Tok) : Q (.int i t) { s with toks := tk } := h _ { s with toks := tk } (Ext.refl _ _) ⟨rfl, rfl⟩ (PR.int _ _)
theorem Ret.bool {b : Bool} (h : Ret c s (.d (.bool b)) Q) (tk : Tok) : Q (.bool b) { s with toks := tk } := h _ { s with toks := tk } (Ext.refl _ _) ⟨rfl, rfl⟩ (PR.bool _)
theorem Ret.bool' {b : Bool} (h : Ret c s (.d (.bool b)) Q) : Q (.bool b) s := h.bool s.toks
theorem Ret.kint {i : Int} (h : Ret c s (.d (.int i)) Q) (t : Tok) {h' : Heap} (k : Keep s.heap h') (tk : Tok) : Q (.int i t) { s with heap := h', toks := tk } := h _ { s with heap := h', toks := tk } (Ext.of k) ⟨rfl, rfl⟩ (PR.int _ _)
theorem Ret.kbool {i : Bool} (h : Ret c s (.d (.bool i)) Q) {h' : Heap} (k : Keep s.heap h') (tk : Tok) : Q (.bool i) { s with heap := h', toks := tk } := h _ { s with heap := h', toks := tk } (Ext.of k) ⟨rfl, rfl⟩ (PR.bool _)
theorem Ret.new {h' : Heap} {l : Addr} {vs : Array Value} {n : Nat} (k : Ret c s (.own (.list xs)) Q) (a : AtC c s) (kh : Keep s.heap h') (nl : s.heap.get? l = none) (hl : h'.get? l = some (listObj vs n)) (r : PRs c.hid s.heap vs.toList xs) (tk : Tok) : Q (.ref l) { s with heap := h', toks := tk } :=
  k _ { s with heap := h', toks := tk } (Ext.of kh) ⟨rfl, rfl⟩ ⟨l, rfl, a.ext.gone nl, vs, n, hl, r.move fun b o nb e => ⟨fun q => q.elim (fun q => JJ (q ▸ e) nl) nb, kh b o e⟩⟩
theorem Ret.push {vs : Array Value} (k : Ret c s (.own (.list xs)) Q) (a : AtC c s) (n : Nat) (r : PRs c.hid s.heap vs.toList xs) : Q (.ref s.heap.objs.size) { s with heap := s.heap.push (listObj vs n) } :=
  k.new a (JU _ _) (Jc _) (Heap.get?_push_size _ rfl) r s.toks
theorem WfC.tup (W : WfC c) {vs : Array Value} (k : Ret c s (.d (.tuple xs)) Q) (a : AtC c s) (n : Nat) (r : PRs c.hid s.heap vs.toList xs) : Q (.ref s.heap.objs.size) { s with heap := s.heap.push (tupObj vs n) } :=
  k _ { s with heap := s.heap.push (tupObj vs n) } (Ext.of (JU _ _)) ⟨rfl, rfl⟩ (PR.tuple (W.new_hid (a.ext.gone (Jc _))) (Heap.get?_push_size _ rfl) (r.move fun b o nb e => ⟨nb, JU _ _ b o e⟩))
end
end TC

namespace TC
open PySem PySem.W PyProof.Rows

theorem VY (x : PyData) : All (intOf x) fun i => x = .int i := by
  cases x with
  | int i => exact .so rfl
  | _ => exact .no
theorem Wy {xs : List PyData} : All (allOf intOf xs) fun is => xs = ofInts is := by
  induction xs with
  | nil => exact .so rfl
  | cons x xs ih => exact .bind fun a h1 => .map fun is h2 => by rw [VY x a h1, ih is h2]; rfl
theorem Gn {a : List Int} : ∀ {b : List Int}, ofInts a = ofInts b → a = b := by
  induction a with
  | nil => intro b e; cases b with
    | nil => rfl
    | cons => cases e
  | cons x a ih => intro b e; cases b with
    | nil => cases e
    | cons y b => injection e with e1 e2; cases e1; rw [ih e2]
section
variable {P : AP} {h : Heap} {a : Addr} {es : Array DictEntry} {kvs : List (PyData × PyData)}
theorem DictOk.ints (d : DictOk a es kvs) {ks : List Int} (e : tabI kvs = some ks) : kvs.map (·.1) = ofInts ks ∧ es.toList.map (·.hash) = ks.map hashInt ∧ ks.Nodup := by
  have e := Wy ks e
  obtain ⟨ks', h1, h2, h3⟩ := d.keys
  obtain rfl := Gn (e.symm.trans h1); exact ⟨h1, h2, h3⟩
theorem DictOk.snd (d : DictOk a es kvs) : kvs.map (·.2) = (kvs.map (·.1)).map fun _ => PyData.bool true := by
  rw [List.map_map]; exact List.map_congr_left fun p hp => d.vals p hp
variable {prog : Program} {w : World}
theorem ZFh {l : List DictEntry} : ∀ {ks : List Int}, PRs P h (l.map (·.key)) (ofInts ks) → PRs P h (l.map (·.val)) ((ofInts ks).map fun _ => .bool true) → l.map (·.hash) = ks.map hashInt →
    Pairs (intKind prog w) l (ks.map fun k => (k, .bool true)) ∧ ∀ e ∈ l, ∃ k, (intKind prog w).is k e.key = true ∧ e.hash = (intKind prog w).hash k := by
  induction l with
  | nil => intro ks r _ _; cases ks with
    | nil => exact ⟨.nil, fun e h => nomatch h⟩
    | cons => obtain ⟨_, _, e, _⟩ := r.inv; cases e
  | cons d l ih =>
    intro ks r q e
    cases ks with
    | nil => exact nomatch (show _ = ([] : List Value) from r.inv)
    | cons k ks =>
      obtain ⟨v, vs, e1, r1, r2⟩ := r.inv
      obtain ⟨v', vs', e2, q1, q2⟩ := q.inv
      injection e1 with e1 e3
      injection e2 with e2 e4
      injection e with e5 e6
      subst e1 e3 e2 e4
      obtain ⟨t, ek⟩ := r1.inv
      obtain ⟨i1, i2⟩ := ih r2 q2 e6
      replace ek : d.key = .int k t := ek
      have is : (intKind prog w).is k d.key = true := by rw [ek]; exact intKind_is prog w k t
      refine ⟨.cons is (show d.val = .bool true from q1.inv) i1, fun z hz => ?_⟩
      rcases List.mem_cons.mp hz with rfl | hz
      · exact ⟨k, is, e5⟩
      · exact i2 z hz
theorem ZCb {d : Addr} {n : Nat} {ks : List Int} (ho : h.get? d = some (dictObj es n)) (rk : PRs P h (es.toList.map (·.key)) (kvs.map (·.1))) (rv : PRs P h (es.toList.map (·.val)) (kvs.map (·.2))) (ok : DictOk a es kvs) (e : tabI kvs = some ks) : h.DictOf (intKind prog w) d (ks.map fun k => (k, .bool true)) := by
  obtain ⟨h1, h2, h3⟩ := ok.ints e
  rw [ok.snd, h1] at rv
  rw [h1] at rk
  obtain ⟨p1, p2⟩ := ZFh (prog := prog) (w := w) rk rv h2
  exact ⟨_, es, n, ho, ⟨rfl, rfl, rfl⟩, rfl, fun z hz => p2 z (Array.mem_toList_iff.mpr hz), p1, by rw [List.map_map]; exact (List.map_id ks).symm ▸ h3⟩
theorem ZBf {l : List DictEntry} {kv : List (Int × Value)} (hp : Pairs (intKind prog w) l kv) : (∀ e ∈ l, ∃ k, (intKind prog w).is k e.key = true ∧ e.hash = (intKind prog w).hash k) → (∀ p ∈ kv, p.2 = .bool true) →
    PRs P h (l.map (·.key)) (ofInts (kv.map (·.1))) ∧ PRs P h (l.map (·.val)) ((ofInts (kv.map (·.1))).map fun _ => .bool true) ∧ l.map (·.hash) = (kv.map (·.1)).map hashInt := by
  induction hp with
  | nil => exact fun _ _ => ⟨.nil, .nil, rfl⟩
  | cons h1 h2 _ ih =>
    rename_i e kv es kvs _
    intro hk ht
    obtain ⟨i1, i2, i3⟩ := ih (fun z hz => hk z (.tail _ hz)) fun z hz => ht z (.tail _ hz)
    obtain ⟨k, q1, q2⟩ := hk e (.head _)
    have ek : k = kv.1 := (intKind prog w).inj e.key k kv.1 q1 h1
    obtain ⟨t, q3⟩ := Value.isInt_shape h1
    refine ⟨.cons (show PR P h e.key (.int kv.1) by rw [q3]; exact .int _ _) i1, .cons (show PR P h e.val (.bool true) by rw [h2, ht kv (.head _)]; exact .bool _) i2, ?_⟩
    show e.hash :: _ = hashInt kv.1 :: _
    rw [i3, q2, ek]; rfl
theorem ZBe {d : Addr} {l : List (Int × Value)} (hm : h.DictOf (intKind prog w) d l) (ht : ∀ p ∈ l, p.2 = .bool true) (off : (d == sysModules) = false) : OwnAt P h d (.dict ((l.map (·.1)).map fun k => (.int k, .bool true))) := by
  obtain ⟨o, es, n, ho, ⟨c1, c2, c3⟩, hd, hk, hp, nd⟩ := hm
  obtain ⟨cls, dct, data, slots⟩ := o
  cases c1; cases c2; cases c3; cases hd
  obtain ⟨h1, h2, h3⟩ := ZBf (P := P) (h := h) hp (fun z hz => hk z (Array.mem_toList_iff.mp hz)) ht
  have e1 : (((l.map (·.1)).map fun k => (PyData.int k, PyData.bool true)).map (·.1)) = ofInts (l.map (·.1)) := by rw [List.map_map]; rfl
  refine ⟨es, n, ho, e1.symm ▸ h1, ?_, off, fun p hp => ?_, l.map (·.1), e1, h3, nd⟩
  · rw [List.map_map]; rw [ofInts, List.map_map] at h2; exact h2
  · obtain ⟨k, _, rfl⟩ := List.mem_map.mp hp; rfl
theorem ZDh {α κ : Type} [BEq κ] [LawfulBEq κ] [DecidableEq κ] (f : α → κ) {xs : List α} {k : κ} : (xs.find? fun x => decide (f x = k)).isSome = (xs.map f).contains k := by
  induction xs with
  | nil => rfl
  | cons x xs ih =>
    rw [List.map_cons, List.contains_cons, List.find?_cons, ← ih]
    by_cases q : f x = k
    · rw [decide_eq_true q, beq_iff_eq.mpr q.symm]; rfl
    · rw [decide_eq_false q, beq_false_of_ne (Ne.symm q)]; rfl
theorem WB {ks : List Int} {k : Int} : (valueAt (ks.map fun k => (k, Value.bool true)) k).isSome = ks.contains k := by
  unfold valueAt
  rw [Option.isSome_map]
  refine (ZDh (fun x : Int × Value => x.1)).trans ?_
  rw [List.map_map]
  exact congrArg (List.contains · k) (List.map_id ks)
end
end TC

namespace TC
open PySem PySem.W PyProof.Rows

section
variable {c : Cf} {s : Shared} {v1 v2 : Value} {u1 u2 : V} {xs ys : List PyData} {K : V → Prop} {Q : Value → Shared → Prop}
theorem WfC.hu (W : WfC c) : c.A.units + 100 < cLine := by
  have := W.units
  show c.A.units + 100 < 9900
  lia
theorem ZIj (W : WfC c) (a : At c s) (k : Fin c s K Q) (po : Operator) (i j : Int) (t1 t2 : Tok) : All (lowOp po) fun o => numW o i j K → c.wp (binaryOp po (.int i t1) (.int j t2)) Q s := by
  cases po with
  | Add => exact .so fun w => add_int ((W.ret a k w).int _ _)
  | Sub => exact .so fun w => sub_int ((W.ret a k w).int _ _)
  | Mult => exact .so fun w => mul_int ((W.ret a k w.2).int _ _) w.1
  | FloorDiv => exact .so fun w => floordiv_int w.1.1 ((W.ret a k w.2).int _ _) (.inl (PyProof.noPylong_small w.1.2))
  | Mod => exact .so fun w => mod_int' w.1 ((W.ret a k w.2).int _ _)
  | _ => exact .no
theorem QE {n m : Nat} (h : n < lim) (le : 1000000 ≤ m) : n ≤ m := by rw [QX] at h; lia
theorem ZDz (a : AtC c s) (h1 : IsL c.hid s.heap v1 xs) (h2 : IsL c.hid s.heap v2 ys) (hz : xs.length + ys.length < lim) (k : Ret c s (.own (.list (xs ++ ys))) Q) : c.wp (binaryOp .Add v1 v2) Q s := by
  obtain ⟨l1, vs, n, rfl, g1, r1⟩ := h1
  obtain ⟨l2, ws, m, rfl, g2, r2⟩ := h2
  refine P.add_list g1 g2 (k.push a 0 ?_) (by rw [r1.size, r2.size]; exact QE hz (by rw [sizeLine_eq]; decide))
  rw [Array.toList_append]
  exact PRs.append r2 r1
theorem Hk (its : Array Value) (k : Nat) : ∀ acc : Array Value, (List.foldl (fun x1 x2 => x1 ++ x2) acc (List.replicate k its)).toList = acc.toList ++ (List.replicate k its.toList).flatten := by
  induction k with
  | zero => intro acc; exact (List.append_nil _).symm
  | succ k ih => intro acc; rw [List.replicate_succ, List.foldl_cons, ih, List.replicate_succ, List.flatten_cons, Array.toList_append, List.append_assoc]
theorem ZEb (a : AtC c s) (h1 : IsL c.hid s.heap v1 xs) {i : Int} {t : Tok} (hk : 0 ≤ i ∧ i < lim ∧ xs.length * i.toNat < lim) (k : Ret c s (.own (.list (List.replicate i.toNat xs).flatten)) Q) : c.wp (binaryOp .Mult v1 (.int i t)) Q s := by
  obtain ⟨l, vs, n, rfl, h1, r1⟩ := h1
  have l1 := r1.size
  rw [QX] at hk
  refine wpAny_binaryOp_repeat_ref (T := "list") (U := "int") (by decide) ⟨_, h1, rfl⟩ (fun s' => typeIs_int s' i t) noFill_list_mul F.fills_int_mul F.slot_int_rmul repeat_list F.slot_int_index.lookup
    (call_meets F.slot_int_rmul (typeIs_int s i t) F.entry_int_rmul (F.args_int_rmul_2 _ _) (int___rmul___int_list i t l vs n)
      ⟨h1, rfl, ⟨_, h1, rfl⟩, call_meets F.slot_list_mul ⟨_, h1, rfl⟩ F.entry_list_mul (F.args_list_mul_2 _ _)
        (AutoListH.list___mul___list_int_3 l vs n i t (by simp [Builtin.List.listFitsIndex]; lia) (by rw [l1]; lia) (by simp [Builtin.List.listTooLong, sizeLine, l1]; lia))
        ⟨h1, k.push a 0 ?_⟩⟩)
  rw [Hk]
  cases he : vs.isEmpty with
  | true =>
    have : vs = #[] := by simpa using he
    subst this
    have hx : xs = [] := List.length_eq_zero_iff.mp l1.symm
    subst hx
    simp
    exact .nil
  | false => simpa using r1.rep i.toNat
theorem ZIl (W : WfC c) (a : At c s) (k : Fin c s K Q) (r1 : c.R s v1 u1) (r2 : c.R s v2 u2) (po : Operator) : All (lowOp po) fun o => objW o u1 u2 K → c.wp (binaryOp po v1 v2) Q s := by
  cases po with
  | Add => exact .so fun w => ZR w fun xs e1 w => ZR w fun ys e2 w => ZDz a.toAtC (W.ls a.toAtC r1 xs e1) (W.ls a.toAtC r2 ys e2) w.1 (W.ret a k w.2)
  | Mult =>
    refine .so fun w => ZR w fun xs e1 w => ZR w fun i e2 w => ?_
    obtain ⟨t, rfl⟩ := r2.int e2
    exact ZEb a.toAtC (W.ls a.toAtC r1 xs e1) w.1 (W.ret a k w.2)
  | Sub => exact .so fun w => w.elim
  | FloorDiv => exact .so fun w => w.elim
  | Mod => exact .so fun w => w.elim
  | _ => exact .no
theorem Wj {o : Op} {P : Prop} (w : opW o u1 u2 K) (h1 : ∀ i j, intV u1 = some i → intV u2 = some j → numW o i j K → P) (h2 : objW o u1 u2 K → P) : P := by
  unfold opW at w
  cases e1 : intV u1 with
  | none => rw [e1] at w; exact h2 w
  | some i =>
    rw [e1] at w
    cases e2 : intV u2 with
    | none => rw [e2] at w; exact h2 w
    | some j => rw [e2] at w; exact h1 i j e1 e2 w
theorem ZJi (W : WfC c) (a : At c s) (k : Fin c s K Q) (r1 : c.R s v1 u1) (r2 : c.R s v2 u2) {po : Operator} {o : Op} (lo : lowOp po = some o) (w : opW o u1 u2 K) : c.wp (binaryOp po v1 v2) Q s := by
  refine Wj w (fun i j e1 e2 w => ?_) fun w => ZIl W a k r1 r2 po o lo w
  obtain ⟨t1, rfl⟩ := r1.int e1
  obtain ⟨t2, rfl⟩ := r2.int e2
  exact ZIj W a k po i j t1 t2 o lo w

theorem ZIk (W : WfC c) (a : At c s) (k : Fin c s K Q) (po : CmpOp) (i j : Int) (t1 t2 : Tok) : All (lowCmp po) fun o => numW o i j K → c.wp (compareOp po (.int i t1) (.int j t2)) Q s := by
  cases po with
  | Eq => exact .so fun w => P.eq_int (W.ret a k w).bool'
  | NotEq => exact .so fun w => P.ne_int (W.ret a k w).bool'
  | Lt => exact .so fun w => P.lt_int (W.ret a k w).bool'
  | LtE => exact .so fun w => P.le_int (W.ret a k w).bool'
  | Gt => exact .so fun w => P.gt_int (W.ret a k w).bool'
  | GtE => exact .so fun w => P.ge_int (W.ret a k w).bool'
  | In => exact .so fun w => w.elim
  | NotIn => exact .so fun w => w.elim
  | _ => exact .no
theorem ZGa (W : WfC c) {x y : PyData} (r1 : PR c.fr s.heap v1 x) (r2 : PR c.fr s.heap v2 y) (h1 : shp x) (h2 : shp y) (e : seqOf y = some ys) (neg : Bool) (k : Ret c s (.d (.bool (neg ^^ (ys.any fun z => PyData.eqv z x)))) Q) : c.wp (compareOp (cond neg .NotIn .In) v1 v2) Q s := by
  obtain ⟨_, q1⟩ := r1.reads
  obtain ⟨_, q2⟩ := r2.reads
  have hu := room_in_shaped (A := c.A) (xs := ys) h1 (Nat.lt_trans (Nat.add_lt_add_left (by decide) _) W.hu)
  have l1 := SeqAt.canLay_of_shaped h1
  have l2 := SeqAt.canLay_of_shaped h2
  cases y with
  | list zs =>
    cases e
    cases neg with
    | false => exact SeqAt.in_list_reads q2 q1 l2 l1 hu (by simpa using k.bool')
    | true => exact SeqAt.notIn_list_reads q2 q1 l2 l1 hu (by simpa using k.bool')
  | tuple zs =>
    cases e
    cases neg with
    | false => exact SeqAt.in_tuple_reads q2 q1 l2 l1 hu (by simpa using k.bool')
    | true => exact SeqAt.notIn_tuple_reads q2 q1 l2 l1 hu (by simpa using k.bool')
  | _ => cases e
theorem ZJv (W : WfC c) {x : PyData} {kvs : List (PyData × PyData)} (r1 : PR c.fr s.heap v1 x) (r2 : PR c.fr s.heap v2 (.dict kvs)) (neg : Bool) : All (hasKey x kvs) fun b => Ret c s (.d (.bool (neg ^^ b))) Q → c.wp (compareOp (cond neg .NotIn .In) v1 v2) Q s := by
  obtain ⟨d, es, n, rfl, nP, ho, rk, rv, ok⟩ := r2.inv
  cases x with
  | int k =>
    refine .map fun ks e kk => ?_
    obtain ⟨t, rfl⟩ := r1.inv
    have hm := ZCb (prog := c.G.prog) (w := c.G.w) ho rk rv ok e
    have is := intKind_is c.G.prog c.G.w k t
    rw [← WB] at kk
    cases neg with
    | false => exact wpAny_in_of is ok.off hm.mapOf (by rw [Bool.false_xor] at kk; exact kk.bool _)
    | true => exact wpAny_notIn_of is ok.off hm.mapOf (by rw [Bool.true_xor] at kk; exact kk.bool _)
  | _ => exact .no
theorem ZFz (W : WfC c) {x y : PyData} {KB : Bool → Prop} (r1 : PR c.fr s.heap v1 x) (r2 : PR c.fr s.heap v2 y) (neg : Bool) (w : inW x y KB) (k : ∀ b, KB b → Ret c s (.d (.bool (neg ^^ b))) Q) : c.wp (compareOp (cond neg .NotIn .In) v1 v2) Q s := by
  cases y with
  | dict kvs => exact ZR w fun b e w => ZJv W r1 r2 neg b e (k b w)
  | list ys => exact ZGa W r1 r2 w.1 w.2.1 rfl neg (k _ w.2.2)
  | tuple ys => exact ZGa W r1 r2 w.1 w.2.1 rfl neg (k _ w.2.2)
  | _ => exact w.elim
theorem ZIm (W : WfC c) (a : At c s) (k : Fin c s K Q) (r1 : c.R s v1 u1) (r2 : c.R s v2 u2) (po : CmpOp) : All (lowCmp po) fun o => objW o u1 u2 K → c.wp (compareOp po v1 v2) Q s := by
  have hu : c.A.units + 64 < cLine := Nat.lt_trans (Nat.add_lt_add_left (by decide) _) W.hu
  cases po with
  | Eq =>
    refine .so fun w => ZR w fun x e1 w => ZR w fun y e2 w => ?_
    obtain ⟨_, q1⟩ := (W.rdf r1 x e1).reads
    obtain ⟨_, q2⟩ := (W.rdf r2 y e2).reads
    exact SeqAt.compareEq_shaped q1 q2 w.1 w.2.1 hu (W.ret a k w.2.2).bool'
  | NotEq =>
    refine .so fun w => ZR w fun x e1 w => ZR w fun y e2 w => ?_
    obtain ⟨_, q1⟩ := (W.rdf r1 x e1).reads
    obtain ⟨_, q2⟩ := (W.rdf r2 y e2).reads
    exact SeqAt.compareNe_shaped q1 q2 w.1 w.2.1 hu (W.ret a k w.2.2).bool'
  | In => exact .so fun w => ZR w fun x e1 w => ZR w fun y e2 w => ZFz W (W.rdf r1 x e1) (W.rdf r2 y e2) false w fun b w => by rw [Bool.false_xor]; exact W.ret a k w
  | NotIn => exact .so fun w => ZR w fun x e1 w => ZR w fun y e2 w => ZFz W (W.rdf r1 x e1) (W.rdf r2 y e2) true w fun b w => by rw [Bool.true_xor]; exact W.ret a k w
  | Lt => exact .so fun w => w.elim
  | LtE => exact .so fun w => w.elim
  | Gt => exact .so fun w => w.elim
  | GtE => exact .so fun w => w.elim
  | _ => exact .no
theorem WK (W : WfC c) (a : At c s) (k : Fin c s K Q) (r1 : c.R s v1 u1) (r2 : c.R s v2 u2) {po : CmpOp} {o : Op} (lo : lowCmp po = some o) (w : opW o u1 u2 K) : c.wp (compareOp po v1 v2) Q s := by
  refine Wj w (fun i j e1 e2 w => ?_) fun w => ZIm W a k r1 r2 po o lo w
  obtain ⟨t1, rfl⟩ := r1.int e1
  obtain ⟨t2, rfl⟩ := r2.int e2
  exact ZIk W a k po i j t1 t2 o lo w
end
end TC

namespace TC
open PySem PySem.W PyProof.Rows

section
variable {prog : Program} {w : World} {A : Around} {s : Shared} {hm : Bool}

set_option maxRecDepth 100000 in
theorem HF {v : Value} {e : Addr} (hb : Bare s.heap e) {Q : Value → Shared → Prop} {E : Value → Shared → Prop} (h : Q .none s) :
    wpAny (model prog w) A (runValue (.builtin "proto.unchain" ⟨[v, .ref e, .ref e, .bool false], []⟩)) Q E s := by
  obtain ⟨o, vs, h1, h2, h3⟩ := hb
  refine wpAny_runValue (codeAny_builtin (b := Builtin.«proto.unchain») (entryFor_of_tree (by kernel_rfl)) ?_)
  show wpAny _ _ (field (.ref e) 2 >>= _) _ _ s
  refine wpAny_bind (wpAny_field h1 h2 h3 ?_)
  show wpAny _ _ (if (Value.none == Value.none) = true then _ else _) _ _ s
  rw [if_pos (show (Value.none == Value.none) = true from rfl)]
  exact wpAny_pure h

theorem ZBy {α : Type} (hk : HOk hm A s.heap) {Q : α → Shared → Prop} {E : Value → Shared → Prop}
    (h : ∀ x h', (∀ b o, s.heap.get? b = some o → h'.get? b = some o) → (∃ o, h'.get? x = some o ∧ o.cls = .type "StopIteration") → E (.ref x) { s with heap := h' }) :
    wpAny (model prog w) A (newExc (.type "StopIteration") [] >>= fun e => (raiseNew e : Sem α)) Q E s := by
  refine wpAny_bind ?_
  simp only [newExc, newTuple]
  refine wpAny_bind (wpAny_newObj_type ?_ (by size_fits))
  refine wpAny_bind (m := firstArgMember _ _) (wpAny_of_eq (a := Value.none) (by first | rfl | (simp only [firstArgMember]; rfl)) ?_)
  refine wpAny_newObj_type ?_ (by size_fits)
  have old : ∀ (o1 o2 : Obj) b o, s.heap.get? b = some o → ((s.heap.push o1).push o2).get? b = some o := fun o1 o2 b o e => Heap.get?_push_of_some _ (Heap.get?_push_of_some _ e)
  simp only [raiseNew]
  refine wpAny_bind (wpAny_handled ?_)
  rcases hk with ⟨_, e⟩ | ⟨_, e, e1, hb⟩
  · rw [e]
    refine wpAny_bind (wpAny_pure (wpAny_throw ?_))
    exact h _ _ (old _ _) ⟨_, Heap.get?_push_size _ rfl, rfl⟩
  · rw [e1]
    have lt : e < s.heap.objs.size := by obtain ⟨o, vs, q, _, _⟩ := hb; exact Heap.lt_size q
    have ne : e ≠ (s.heap.push { cls := .type "tuple", data := .seq ([] : List Value).toArray }).objs.size := by rw [Heap.size_push]; exact Nat.ne_of_lt (Nat.lt_succ_of_lt lt)
    dsimp only
    rw [if_pos (by simp only [bne_iff_ne, ne_eq, Value.ref.injEq]; exact ne)]
    refine wpAny_bind (wpAny_holding (HF ?_ ?_))
    · obtain ⟨o, vs, q, r, z⟩ := hb; exact ⟨o, vs, old _ _ _ _ q, r, z⟩
    · refine wpAny_bind ?_
      show wpAny _ _ (setField (.ref _) 2 _) _ _ _
      refine wpAny_setField (Heap.get?_push_size _ rfl) rfl (by rw [Array.size_append]; exact Nat.lt_of_lt_of_le (show 2 < 6 from by decide) (Nat.le_add_right _ _)) (wpAny_throw ?_)
      refine h _ _ (fun b o q => ?_) ⟨_, Heap.get?_update_self _ (Heap.get?_push_size _ rfl) rfl, rfl⟩
      rw [Heap.get?_update_other]
      · exact old _ _ _ _ q
      · have := Heap.lt_size q; rw [Heap.size_push]; exact Nat.ne_of_gt (Nat.lt_succ_of_lt this)

noncomputable def hAddr (A : Around) : List Addr := match A.handled with
  | some (.ref e) => [e]
  | _ => []
theorem WW {e : Addr} (h : A.handled = some (.ref e)) : hAddr A = [e] := by unfold hAddr; rw [h]
theorem ZDi (h : A.handled = none) : hAddr A = [] := by unfold hAddr; rw [h]
theorem HOk.at {h h' : Heap} (x : HOk hm A h) (k : ∀ b ∈ hAddr A, ∀ o, h.get? b = some o → h'.get? b = some o) : HOk hm A h' := by
  rcases x with q | ⟨q, e, e1, o, vs, q1, q2, q3⟩
  · exact .inl q
  · exact .inr ⟨q, e, e1, o, vs, k e (WW e1 ▸ .head _) o q1, q2, q3⟩
theorem HOk.rec {h : Heap} (x : HOk hm A h) : ∀ b ∈ hAddr A, ∃ o vs, h.get? b = some o ∧ o.data = .fields vs := fun b hb => by
  rcases x with ⟨_, q⟩ | ⟨q, e, e1, o, vs, q1, q2, q3⟩
  · rw [ZDi q] at hb; cases hb
  · rw [WW e1] at hb; rw [List.mem_singleton.mp hb]; exact ⟨o, vs, q1, q2⟩
theorem HOk.lt {h : Heap} (x : HOk hm A h) : ∀ b ∈ hAddr A, b < h.objs.size := fun b hb => let ⟨_, _, e, _⟩ := x.rec b hb; Heap.lt_size e
theorem HOk.none {h : Heap} (x : HOk false A h) : A.handled = none := x.elim (·.2) fun q => nomatch q.1

theorem ZEa {it l : Addr} {i : Nat} {items : Array Value} {Q : Option Value → Shared → Prop} {E : Value → Shared → Prop} (hk : HOk hm A s.heap) (hne : ∀ b ∈ hAddr A, b ≠ it)
    (hit : s.heap.IsListIter it l i) (hl : s.heap.IsList l items) (hx : items[i]? = none)
    (hQ : ∀ h', Heap.ExtBut it s.heap h' → Q none { s with heap := h' }) : wpAny (model prog w) A (pyNext (.ref it)) Q E s := by
  obtain ⟨o, ho, hc, hd⟩ := id hit
  obtain ⟨ol, hol, _, nl, hdl⟩ := hl
  unfold pyNext
  refine wpAny_bind (wpAny_attempt (wpAny_callSpecial?_slot (name := Str.ofString "__next__") hit.typeIs slot_listiter_next
    (wpAny_call_entry slot_listiter_next hit.typeIs entry_listiter_next ?_ (args_listiter_next _))))
  show wpAny _ _ (field (.ref it) 0 >>= _) _ _ s
  refine wpAny_bind (wpAny_field ho hd (x := .ref l) rfl ?_)
  show wpAny _ _ (if (Value.ref l == Value.none) = true then _ else _) _ _ s
  rw [if_neg (show ¬ ((Value.ref l == Value.none) = true) from Bool.false_ne_true)]
  show wpAny _ _ (field (.ref it) 1 >>= _) _ _ s
  refine wpAny_bind (wpAny_field ho hd (x := .int i 0) rfl ?_)
  show wpAny _ _ (seqItems? (.ref l) >>= _) _ _ s
  refine wpAny_bind (wpAny_seqItems hol hdl ?_)
  simp only [Int.toNat_natCast, hx]
  refine wpAny_bind (wpAny_rule (wpAny_bind (wpAny_setField ho hd (by simp) ?_)))
  show wpAny _ _ (newExc (.type "StopIteration") [] >>= _) _ _ _
  refine ZBy (hm := hm) ?_ fun x h' keep ty => ?_
  · exact hk.at fun b hb o e => (Heap.get?_update_other _ _ (Ne.symm (hne b hb))).trans e
  refine wpAny_bind (wpAny_isInstance (T := "StopIteration") (b := true) ty isSubtype_stop ?_)
  exact wpAny_pure (hQ _ fun b o hb e => keep b o ((Heap.get?_update_other _ _ (Ne.symm hb)).trans e))

theorem Uc {it l : Addr} {i : Nat} {items : Array Value} {Q : Option Value → Shared → Prop} {E : Value → Shared → Prop} (hk : HOk hm A s.heap) (hne : ∀ b ∈ hAddr A, b ≠ it)
    (hit : s.heap.IsTupleIter it l i) (hl : s.heap.IsTuple l items) (hx : items[i]? = none)
    (hQ : ∀ h', Heap.ExtBut it s.heap h' → Q none { s with heap := h' }) : wpAny (model prog w) A (pyNext (.ref it)) Q E s := by
  obtain ⟨o, ho, hc, hd⟩ := id hit
  obtain ⟨ol, hol, _, nl, hdl⟩ := hl
  unfold pyNext
  refine wpAny_bind (wpAny_attempt (wpAny_callSpecial?_slot (name := Str.ofString "__next__") hit.typeIs F.slot_tuple_iterator_next
    (wpAny_call_entry F.slot_tuple_iterator_next hit.typeIs F.entry_tuple_iterator_next ?_ (F.args_tuple_iterator_next_1 _))))
  show wpAny _ _ (field (.ref it) 0 >>= _) _ _ s
  refine wpAny_bind (wpAny_field ho hd (x := .ref l) rfl ?_)
  show wpAny _ _ (if (Value.ref l == Value.none) = true then _ else _) _ _ s
  rw [if_neg (show ¬ ((Value.ref l == Value.none) = true) from Bool.false_ne_true)]
  show wpAny _ _ (field (.ref it) 1 >>= _) _ _ s
  refine wpAny_bind (wpAny_field ho hd (x := .int i 0) rfl ?_)
  show wpAny _ _ (seqItems? (.ref l) >>= _) _ _ s
  refine wpAny_bind (wpAny_seqItems hol hdl ?_)
  simp only [Int.toNat_natCast, hx]
  refine wpAny_bind (wpAny_rule (wpAny_bind (wpAny_setField ho hd (by simp) ?_)))
  show wpAny _ _ (newExc (.type "StopIteration") [] >>= _) _ _ _
  refine ZBy (hm := hm) ?_ fun x h' keep ty => ?_
  · exact hk.at fun b hb o e => (Heap.get?_update_other _ _ (Ne.symm (hne b hb))).trans e
  refine wpAny_bind (wpAny_isInstance (T := "StopIteration") (b := true) ty isSubtype_stop ?_)
  exact wpAny_pure (hQ _ fun b o hb e => keep b o ((Heap.get?_update_other _ _ (Ne.symm hb)).trans e))

theorem HG (I ax : Addr) (hne : ax ≠ I) (hI : I ∉ hAddr A) (items : Array Value) :
    Walks prog w A I (I :: ax :: hAddr A) [I] items.size (fun i v => items[i]? = some v) (fun i h => h.IsListIter I ax i ∧ h.IsList ax items ∧ HOk hm A h) where
  sub := fun b hb => by simp at hb; simp [hb]
  frame := fun _ _ _ st hk => ⟨st.1.at fun o e => hk I (by simp) o e, st.2.1.at fun o e => hk ax (by simp) o e, st.2.2.at fun b hb o e => hk b (by simp [hb]) o e⟩
  item := fun i s Q E hi st hQ => by
    refine wpAny_pyNext_list_item st.1 st.2.1 (x := items[i]) (by simp [hi]) fun h' hit' hs' => ?_
    exact hQ _ h' s.toks (by simp [hi]) ⟨hit', st.2.1.extBut hs'.extBut hne, st.2.2.at fun b hb o e => hs'.extBut b o (fun q => hI (q ▸ hb)) e⟩ fun b o hb e => hs'.extBut b o (fun h => hb (by simp [h])) e
  done := fun s Q E st hQ => ZEa st.2.2 (fun b q z => hI (z ▸ q)) st.1 st.2.1 (by simp) fun h' he' => hQ h' s.toks fun b o hb e => he' b o (fun h => hb (by simp [h])) e
  self := fun _ _ _ _ st hQ => wpAny_pyIter_listiter st.1 hQ
theorem WC (I ax : Addr) (hne : ax ≠ I) (hI : I ∉ hAddr A) (items : Array Value) :
    Walks prog w A I (I :: ax :: hAddr A) [I] items.size (fun i v => items[i]? = some v) (fun i h => h.IsTupleIter I ax i ∧ h.IsTuple ax items ∧ HOk hm A h) where
  sub := fun b hb => by simp at hb; simp [hb]
  frame := fun _ _ _ st hk => ⟨st.1.at fun o e => hk I (by simp) o e, st.2.1.at fun o e => hk ax (by simp) o e, st.2.2.at fun b hb o e => hk b (by simp [hb]) o e⟩
  item := fun i s Q E hi st hQ => by
    refine wpAny_pyNext_tuple_item st.1 st.2.1 (x := items[i]) (by simp [hi]) fun h' hit' hs' => ?_
    exact hQ _ h' s.toks (by simp [hi]) ⟨hit', st.2.1.extBut hs'.extBut hne, st.2.2.at fun b hb o e => hs'.extBut b o (fun q => hI (q ▸ hb)) e⟩ fun b o hb e => hs'.extBut b o (fun h => hb (by simp [h])) e
  done := fun s Q E st hQ => Uc st.2.2 (fun b q z => hI (z ▸ q)) st.1 st.2.1 (by simp) fun h' he' => hQ h' s.toks fun b o hb e => he' b o (fun h => hb (by simp [h])) e
  self := fun _ _ _ _ st hQ => wpAny_pyIter_tupleiter st.1 hQ

noncomputable def quietIt (n : String) : Bool := !(["code", "enumerate", "zip", "dict_itemiterator", "dict_reverseitemiterator", "odict_iterator", "itertools.zip_longest", "itertools.pairwise"].contains n)
inductive ItObj (h : Heap) (I : Addr) : Prop
  | mk (o : Obj) (n : String) : h.get? I = some o → o.cls = .type n → quietIt n = true → NT o → ItObj h I
inductive Itr (prog : Program) (w : World) (A : Around) (I : Addr) (n : Nat) (It : Nat → Value → Prop) (h : Heap) (src : Value) : Prop
  | mk (fp : List Addr) (St : Nat → Heap → Prop) : Walks prog w A I fp [I] n It St → St 0 h → (∀ b ∈ fp, b < h.objs.size ∧ (b = I ∨ b ∈ hAddr A ∨ src = .ref b)) → (∀ i h, St i h → ItObj h I) → Itr prog w A I n It h src

theorem NT.of {o : Obj} {vs : Array Value} (d : o.data = .fields vs) : NT o := fun _ ws k q => by rw [d] at q; cases q
theorem ZJo {a : Addr} {o : Obj} (hk : HOk hm A s.heap) (lt : a < s.heap.objs.size) : ∀ b ∈ s.heap.objs.size :: a :: hAddr A, b < (s.heap.push o).objs.size ∧ (b = s.heap.objs.size ∨ b ∈ hAddr A ∨ Value.ref a = .ref b) := fun b hb => by
  rw [Heap.size_push]
  rcases List.mem_cons.mp hb with rfl | hb
  · exact ⟨Nat.lt_succ_self _, .inl rfl⟩
  · rcases List.mem_cons.mp hb with rfl | hb
    · exact ⟨Nat.lt_succ_of_lt lt, .inr (.inr rfl)⟩
    · exact ⟨Nat.lt_succ_of_lt (hk.lt _ hb), .inr (.inl hb)⟩
theorem XD {v : Value} {x : PyData} {P : AP} {xs : List PyData} (hk : HOk hm A s.heap) (r : PR P s.heap v x) (e : seqOf x = some xs) {Q : Value → Shared → Prop} {E : Value → Shared → Prop}
    (h : ∀ h' (vs : Array Value), PRs P s.heap vs.toList xs → Keep s.heap h' → Itr prog w A s.heap.objs.size xs.length (fun i v => vs[i]? = some v) h' v → Q (.ref s.heap.objs.size) { s with heap := h' }) : wpAny (model prog w) A (pyIter v) Q E s := by
  cases x with
  | list ys =>
    cases e
    obtain ⟨a, vs, n, rfl, _, ho, q⟩ := r.inv
    have hl : s.heap.IsList a vs := ⟨_, ho, rfl, n, rfl⟩
    have lt := Heap.lt_size ho
    refine wpAny_pyIter_list hl (h _ vs q (JU _ _) ⟨s.heap.objs.size :: a :: hAddr A, fun i h => h.IsListIter s.heap.objs.size a i ∧ h.IsList a vs ∧ HOk hm A h, ?_, ⟨⟨_, Heap.get?_push_size _ rfl, rfl, rfl⟩, hl.push _, hk.at fun b hb => JU _ _ b⟩, ZJo hk lt, fun i h st => ?_⟩)
    · rw [← q.size]; exact HG _ a (Nat.ne_of_lt lt) (fun q => Nat.lt_irrefl _ (hk.lt _ q)) vs
    · obtain ⟨⟨o, e1, e2, e3⟩, _⟩ := st; exact ⟨o, _, e1, e2, by decide, .of e3⟩
  | tuple ys =>
    cases e
    obtain ⟨a, vs, n, rfl, _, ho, q⟩ := r.inv
    have hl : s.heap.IsTuple a vs := ⟨_, ho, rfl, n, rfl⟩
    have lt := Heap.lt_size ho
    refine wpAny_pyIter_tuple hl (h _ vs q (JU _ _) ⟨s.heap.objs.size :: a :: hAddr A, fun i h => h.IsTupleIter s.heap.objs.size a i ∧ h.IsTuple a vs ∧ HOk hm A h, ?_, ⟨⟨_, Heap.get?_push_size _ rfl, rfl, rfl⟩, hl.push _, hk.at fun b hb => JU _ _ b⟩, ZJo hk lt, fun i h st => ?_⟩)
    · rw [← q.size]; exact WC _ a (Nat.ne_of_lt lt) (fun q => Nat.lt_irrefl _ (hk.lt _ q)) vs
    · obtain ⟨⟨o, e1, e2, e3⟩, _⟩ := st; exact ⟨o, _, e1, e2, by decide, .of e3⟩
  | _ => cases e
theorem GX {n : Int} {r : Addr} {t1 t2 t3 : Tok} (hk : HOk false A s.heap) (hr : IsRange s.heap r 0 n 1 t1 t2 t3) (hn : -(lim : Int) < n ∧ n < lim) {Q : Value → Shared → Prop} {E : Value → Shared → Prop}
    (h : ∀ h', Keep s.heap h' → Itr prog w A s.heap.objs.size n.toNat (fun i v => ∃ t, v = .int i t) h' .none → Q (.ref s.heap.objs.size) { s with heap := h' }) : wpAny (model prog w) A (pyIter (.ref r)) Q E s := by
  rw [QX] at hn
  have hz : Builtin.Range.rangeSize 0 n 1 = ((n.toNat : Nat) : Int) := by rw [rangeSize_one]; split <;> lia
  refine wpAny_pyIter_range hr (small_one (by lia) (by lia) (by lia) (by lia)) (h _ (JU _ _) ?_)
  refine ⟨[s.heap.objs.size], fun i h => IsRangeIter h s.heap.objs.size (0 + (i : Nat) * 1) ((n.toNat : Int) - (i : Nat)) 1, ?_, ?_, fun b hb => ?_, fun i h st => ⟨_, _, st, rfl, by decide, .of rfl⟩⟩
  · have := LCg.range_walks (prog := prog) (w := w) (A := A) (I := s.heap.objs.size) hk.none 0 n.toNat
    simpa only [Int.zero_add] using this
  · show IsRangeIter _ _ _ _ _; rw [hz]; simpa using Heap.get?_push_size _ rfl
  · rw [List.mem_singleton.mp hb, Heap.size_push]; exact ⟨Nat.lt_succ_self _, .inl rfl⟩
end
end TC

namespace TC
open PySem PySem.W PyProof.Rows

section
variable {prog : Program} {w : World} {A : Around} {E : Value → Shared → Prop} {s : Shared} {r : Addr} {n : Nat} {P : Nat → Value → Prop}
theorem ZDj {Q : Bool → Shared → Prop} (hT : s.TypeIs (.ref r) "dict") (h : Q false s) : wpAny (model prog w) A (Builtin.List.listLengthHint (.ref r)) Q E s := by
  unfold Builtin.List.listLengthHint
  refine wpAny_bind (wpAny_specialOf hT PySem.F.slot_dict_len.lookup ?_)
  generalize hid : ("dict.__len__" : String) = id0
  wp_delta
  rw [show splitId id0 = some ("dict", "__len__") from by subst hid; decide +kernel]
  subst hid
  refine wpAny_bind (wpAny_isInstance (T := "dict") (b := true) hT (by rw [isSubtype_type]; kernel_rfl) ?_)
  refine wpAny_ite_split (fun hab => absurd hab (by decide)) (fun _ => ?_)
  refine wpAny_ite_split (fun _ => ?_) (fun hab => absurd (by decide +kernel) hab)
  exact wpAny_bind (wpAny_typeOf hT (wpAny_pure h))
theorem ZDg {R : Result → Shared → Prop} {fp : List Addr} {St : Nat → Heap → Prop} {oI : Obj} {S : Addr} {c₀ : Nat} (hT : s.TypeIs (.ref r) "dict") (hit : ∀ (E : Value → Shared → Prop) (Q : Value → Shared → Prop), Q (.ref s.heap.objs.size) { s with heap := s.heap.push oI } → wpAny (model prog w) A.in1 (pyIter (.ref r)) Q E s)
    (W : Walks prog w A.in1 s.heap.objs.size fp [s.heap.objs.size] n P St) (st : St 0 (s.heap.push oI)) (hSf : S ∉ fp) (hSr : S ≠ r) (hS : s.heap.get? S = some { cls := .type "list", data := .seq #[] c₀ }) (hn : n ≤ sizeLine)
    (hR : ∀ h' tk acc' c', (∀ b o, b ≠ S → s.heap.get? b = some o → h'.get? b = some o) → h'.get? S = some { cls := .type "list", dict := none, data := .seq acc' c', slots := #[] } → ItemsOf P acc' n → R (.ok (.ret .none)) { s with heap := h', toks := tk }) :
    wpAny (model prog w) A.in1 (Builtin.List.listExtendWith (.ref S) (.ref r) .none) (fun fin s' => match fin with | .done f => R (.ok f) s' | .again c' => c'.quiet = true ∧ codeAny (model prog w) A c' R s') (fun e s' => R (.error e) s') s := by
  have go : ∀ (h : Heap) (c₁ tk : Nat), St 0 h → (∀ b o, b ≠ S → s.heap.get? b = some o → h.get? b = some o) → h.get? S = some { cls := .type "list", data := .seq #[] c₁ } → codeAny (model prog w) A (.builtin "list.extend.loop" ⟨[.ref S, .ref s.heap.objs.size, .none], []⟩) R { s with heap := h, toks := tk } := fun h c₁ tk hst hk hS₁ => by
    refine codeAny_extend_loopS W.toS hn S hSf .none n 0 _ #[] c₁ rfl (Nat.zero_le _) hst hS₁ (ItemsOf.nil _) fun s' acc' c' hm hS' hacc => ?_
    rw [Moved.eq_with hm]
    refine hR s'.heap s'.toks acc' c' (fun b o hb e => hm.heap b o (fun q => ?_) (hk b o hb e)) hS' hacc
    rcases List.mem_cons.mp q with q | q
    · exact hb q
    · exact absurd (Heap.lt_size e) (by rw [List.mem_singleton.mp q]; exact Nat.lt_irrefl _)
  unfold Builtin.List.listExtendWith
  refine wpAny_bind (wpAny_typeOf hT ?_)
  rw [show Builtin.List.listSameRef (.ref S) (.ref r) = false from by simp [Builtin.List.listSameRef, hSr]]
  refine wpAny_ite_split (fun q => absurd q (by decide)) fun _ => ?_
  refine wpAny_bind (hit _ _ ?_)
  have hS₁ := Heap.get?_push_of_some oI hS
  have hT' : Shared.TypeIs { s with heap := s.heap.push oI } (.ref r) "dict" := by obtain ⟨o, e, q⟩ := hT; exact ⟨o, Heap.get?_push_of_some _ e, q⟩
  refine wpAny_bind (wpAny_holding (ZDj hT' ?_))
  refine wpAny_ite_split (fun _ => ?_) fun q => absurd (by decide) q
  refine wpAny_bind (wpAny_rule (wpAny_bind ?_))
  show wpAny _ _ (updateSeq S (·.push .none) >>= fun _ => updateSeq S (·.pop)) _ _ _
  refine wpAny_bind (wpAny_updateSeq hS₁ rfl ?_)
  have hS₂ := Heap.get?_update_self (Obj.mapSeq (·.push Value.none)) hS₁ rfl
  refine wpAny_updateSeq (hz := by seq_fits) hS₂ rfl ?_
  have hS₃ := Heap.get?_update_self (Obj.mapSeq (·.pop)) hS₂ rfl
  have two : ∀ b, b ≠ S → (((s.heap.push oI).update S (Obj.mapSeq (·.push Value.none))).update S (Obj.mapSeq (·.pop))).get? b = (s.heap.push oI).get? b := fun b hb => (Heap.get?_update_other _ _ (Ne.symm hb)).trans (Heap.get?_update_other _ _ (Ne.symm hb))
  exact wpAny_pure ⟨plainId_quiet PySem.F.plain_extend_loop _, go _ _ _ (W.frame 0 _ _ st fun b hb o e => (two b fun q => hSf (q ▸ hb)).trans e) (fun b o hb e => (two b hb).trans (Heap.get?_push_of_some _ e)) hS₃⟩
theorem ZEc {K : Type} [DecidableEq K] {knd : KeyKind prog w K} {d : Addr} {kvs : List (K × Value)} {Q : Value → Shared → Prop} (hh : A.handled = none) (lo : (d == sysModules) = false) (hm : s.heap.DictOf knd d kvs) (hn : kvs.length ≤ sizeLine)
    (hQ : ∀ h' tk acc' c', (∀ b o, s.heap.get? b = some o → h'.get? b = some o) → h'.get? s.heap.objs.size = some { cls := .type "list", dict := none, data := .seq acc' c', slots := #[] } → ItemsOf (fun i v => ∃ k x, kvs[i]? = some (k, x) ∧ knd.is k v = true) acc' kvs.length → Q (.ref s.heap.objs.size) { s with heap := h', toks := tk }) :
    wpAny (model prog w) A (call (.type "list") [.ref d]) Q E s := by
  refine callType_codes (Q₁ := fun obj s₁ => obj = .ref s.heap.objs.size ∧ s₁ = { s with heap := s.heap.push { cls := .type "list", data := .seq #[] } }) PySem.F.called_list (PySem.F.typeCall_list_1 _) PySem.F.entry_list_init (code_list_new _ ⟨rfl, rfl⟩) fun obj s₁ h₁ => ?_
  obtain ⟨rfl, rfl⟩ := h₁
  have hS : (s.heap.push { cls := .type "list", data := .seq #[] }).get? s.heap.objs.size = some { cls := .type "list", data := .seq #[] } := Heap.get?_push_size _ rfl
  refine ⟨⟨_, hS, rfl⟩, PySem.F.args_list_init_2 _ _, ?_⟩
  show wpAny _ _ (do let old ← Builtin.List.listItems (.ref s.heap.objs.size); Builtin.List.listUpdate (.ref s.heap.objs.size) (fun _ => #[]); letGo old.toList.reverse; Builtin.List.listExtendWith (.ref s.heap.objs.size) (.ref d) .none) _ _ _
  refine wpAny_bind ?_
  unfold Builtin.List.listItems
  refine wpAny_bind (wpAny_seqItems hS rfl (wpAny_pure ?_))
  show wpAny _ _ (updateSeq s.heap.objs.size (fun _ => #[]) >>= fun _ => letGo (#[] : Array Value).toList.reverse >>= fun _ => Builtin.List.listExtendWith (.ref s.heap.objs.size) (.ref d) .none) _ _ _
  refine wpAny_bind (wpAny_updateSeq hS rfl ?_)
  have hS₂ := Heap.get?_update_self (Obj.mapSeq (fun _ => (#[] : Array Value))) hS rfl
  obtain ⟨ep, hm⟩ := hm.dictAt
  have lt := hm.lt_size
  have oth : ∀ b o, s.heap.get? b = some o → ((s.heap.push { cls := .type "list", data := .seq #[] }).update s.heap.objs.size (Obj.mapSeq (fun _ => (#[] : Array Value)))).get? b = some o :=
    fun b o e => (Heap.get?_update_other _ _ (Nat.ne_of_gt (Heap.lt_size e))).trans (Heap.get?_push_of_some _ e)
  have hm' := hm.keep oth
  generalize hg : (s.heap.push { cls := .type "list", data := .seq #[] }).update s.heap.objs.size (Obj.mapSeq (fun _ => (#[] : Array Value))) = g at hS₂ oth hm' ⊢
  refine wpAny_bind (wpAny_letGo ?_)
  have ltg := hm'.lt_size
  refine ZDg (s := { s with heap := g }) (A := A.in1) hm'.dictOf.typeIs (fun _ _ hq => wpAny_pyIter_dict (s := { s with heap := g }) lo hm' hq) (Walks.dictKeys (A := A.in1.in1) (knd := knd) hh _ d (Nat.ne_of_lt ltg) kvs ep) ⟨⟨_, Heap.get?_push_size _ rfl, rfl, rfl⟩, hm'.push _⟩ (fun q => ?_) (Nat.ne_of_gt lt) hS₂ hn fun h' tk acc' c' hk hS' hacc => ?_
  · rcases List.mem_cons.mp q with q | q
    · exact absurd (Heap.lt_size hS₂) (by rw [q]; exact Nat.lt_irrefl _)
    · exact absurd (List.mem_singleton.mp q) (Nat.ne_of_gt lt)
  · exact ⟨rfl, hQ h' tk acc' c' (fun b o e => hk b o (Nat.ne_of_lt (Heap.lt_size e)) (oth b o e)) hS' hacc⟩
end
end TC

namespace TC
open PySem PySem.W PyProof.Rows

inductive TK (h : Heap) (v : Value) (t : List Int) : Prop
  | mk (a : Addr) (items : Array Value) (m : Nat) : v = .ref a → h.get? a = some (tupObj items m) → IntsAre items.toList t → TK h v t
theorem TK.uniq {h : Heap} {v : Value} {t u : List Int} (x : TK h v t) (y : TK h v u) : t = u := by
  obtain ⟨a, is, m, rfl, h1, h2⟩ := x
  obtain ⟨b, js, n, e, h3, h4⟩ := y
  cases e
  rw [h1] at h3
  cases h3
  rw [← h2.nums, ← h4.nums]
noncomputable def tkOf (h : Heap) (v : Value) : Option (List Int) := @dite _ (∃ t, TK h v t) (Classical.propDecidable _) (fun q => some (Classical.choose q)) fun _ => none
theorem Vp {h : Heap} {v : Value} {t : List Int} (r : TK h v t) : tkOf h v = some t := by
  unfold tkOf
  rw [dif_pos ⟨t, r⟩]
  exact congrArg some ((Classical.choose_spec (⟨t, r⟩ : ∃ t, TK h v t)).uniq r)
noncomputable def tkind (h : Heap) : KeyKind where
  α := List Int
  blt a b := decide (a < b)
  irrefl a := decide_eq_false (List.lt_irrefl a)
  trans a b c h1 h2 := decide_eq_true (List.lt_trans (of_decide_eq_true h1) (of_decide_eq_true h2))
  negTrans a b c h := by
    by_cases hab : a < b
    · exact .inl (decide_eq_true hab)
    · exact .inr (decide_eq_true (List.lt_of_le_of_lt (List.not_lt.mp hab) (of_decide_eq_true h)))
  total a b h1 h2 := List.le_antisymm (List.not_lt.mp (of_decide_eq_false h2)) (List.not_lt.mp (of_decide_eq_false h1))
  keyOf := tkOf h
  dflt := []
section
variable {prog : Program} {w : World} {A : Around} {E : Value → Shared → Prop} {s : Shared}
theorem Go {b : Bool} {a c : Int} {t u : Tok} {Q : Bool → Shared → Prop} (h : Q (decide (a < c)) s) : wpAny (model prog w) A (oneLt' b (.int a t) (.int c u)) Q E s := by
  cases b with
  | true => exact oneLt_int h
  | false =>
    rw [oneLt'_eq, if_neg (by decide)]
    exact wpAny_bind (wpAny_mono (show wpAny (model prog w) A (compareOp .Lt (.int a t) (.int c u)) (fun v s' => v = .bool (decide (a < c)) ∧ s' = s) E s from PyProof.Rows.lt_int ⟨rfl, rfl⟩) (fun v s' h' => by obtain ⟨rfl, rfl⟩ := h'; exact wpAny_truthy_bool h) fun _ _ e => e)
theorem ZGt {n : Int} {a b : List Int} : decide (n :: a < n :: b) = decide (a < b) := decide_eq_decide.mpr ⟨fun h => (List.cons_lt_cons_iff.mp h).elim (fun h => absurd h (Int.lt_irrefl n)) (·.2), fun h => List.cons_lt_cons_iff.mpr (.inr ⟨rfl, h⟩)⟩
theorem cons_lt' {n m : Int} (ne : n ≠ m) {a b : List Int} : decide (n :: a < m :: b) = decide (n < m) := decide_eq_decide.mpr ⟨fun h => (List.cons_lt_cons_iff.mp h).elim id fun h => absurd h.1 ne, fun h => List.cons_lt_cons_iff.mpr (.inl h)⟩
theorem ZDy {body : (Value × Value) × Nat → Option Bool × Unit → Sem (ForInStep (Option Bool × Unit))}
    (hb : ∀ p q i, body ((p, q), i) (none, ()) = (do if !(← eqBool p q) then (do let r ← oneLt' (true && i == 0) p q; pure (.done (some r, ()))) else pure (.yield (none, ())))) {ps : List Value} {a : List Int} (r : IntsAre ps a) :
    ∀ {qs : List Value} {b : List Int} (i : Nat), IntsAre qs b → wpAny (model prog w) A (forIn ((ps.zip qs).zipIdx i) (none, ()) body) (fun c s' => s' = s ∧ (match c.1 with | some x => x | none => decide (a.length < b.length)) = decide (a < b)) E s := by
  induction r with
  | nil =>
    intro qs b i r2
    rw [List.zip_nil_left, List.zipIdx_nil, List.forIn_nil]
    refine wpAny_pure ⟨rfl, ?_⟩
    cases r2 with
    | nil => exact (decide_eq_false (Nat.lt_irrefl _)).trans (decide_eq_false (List.lt_irrefl [])).symm
    | cons m u r2 => exact (decide_eq_true (Nat.succ_pos _)).trans (decide_eq_true (List.nil_lt_cons _ _)).symm
  | cons n t r ih =>
    intro qs b i r2
    cases r2 with
    | nil =>
      rw [List.zip_nil_right, List.zipIdx_nil, List.forIn_nil]
      exact wpAny_pure ⟨rfl, (decide_eq_false (Nat.not_lt_zero _)).trans (decide_eq_false (List.not_lt_nil _)).symm⟩
    | cons m u r2 =>
      rw [List.zip_cons_cons, List.zipIdx_cons, List.forIn_cons, hb]
      refine wpAny_bind (wpAny_bind (wpAny_eqBool_int ?_))
      by_cases e : n = m
      · subst e
        rw [beq_self_eq_true]
        refine wpAny_pure ?_
        refine wpAny_mono (ih (i + 1) r2) (fun c s' h' => ⟨h'.1, ?_⟩) fun _ _ e => e
        rw [ZGt, ← h'.2]
        cases c.1 with
        | some x => rfl
        | none => exact decide_eq_decide.mpr Nat.succ_lt_succ_iff
      · rw [beq_eq_false_iff_ne.mpr e]
        exact wpAny_bind (Go (wpAny_pure (wpAny_pure ⟨rfl, (cons_lt' e).symm⟩)))
theorem ZKn {x y : Value} {a b : List Int} {Q : Bool → Shared → Prop} (hx : TK s.heap x a) (hy : TK s.heap y b) (h : Q (decide (a < b)) s) : wpAny (model prog w) A (keyLt' (tuples' true) x y) Q E s := by
  obtain ⟨p, xs, m, rfl, h1, r1⟩ := hx
  obtain ⟨q, ys, n, rfl, h2, r2⟩ := hy
  show wpAny (model prog w) A (do
    let xs ← Builtin.List.listItems (.ref p); let ys ← Builtin.List.listItems (.ref q)
    for ((p, q), i) in (xs.toList.zip ys.toList).zipIdx do
      if !(← eqBool p q) then return ← oneLt' (true && i == 0) p q
    return xs.size < ys.size) Q E s
  refine wpAny_bind (listItems_at h1 rfl (wpAny_bind (listItems_at h2 rfl ?_)))
  refine wpAny_bind (wpAny_mono (ZDy (fun p q i => ?_) r1 0 r2) (fun c s' h' => ?_) fun _ _ e => e)
  · rfl
  · obtain ⟨rfl, e⟩ := h'
    have l1 := r1.length
    have l2 := r2.length
    rw [Array.length_toList] at l1 l2
    rw [← e, ← l1, ← l2] at h
    obtain ⟨c, _⟩ := c
    cases c with
    | some x => exact wpAny_pure h
    | none => exact wpAny_pure h
inductive TKs (h : Heap) : List Value → List (List Int) → Prop
  | nil : TKs h [] []
  | cons {v : Value} {t : List Int} {vs : List Value} {ts : List (List Int)} : TK h v t → t ≠ [] → TKs h vs ts → TKs h (v :: vs) (t :: ts)
theorem TK.first {v : Value} {t : List Int} {Q : Option Value → Shared → Prop} (r : TK s.heap v t) (ne : t ≠ []) (h : ∀ n u, Q (some (.int n u)) s) : wpAny (model prog w) A (firstOfTuple' v) Q E s := by
  obtain ⟨a, xs, m, rfl, ho, r⟩ := r
  show wpAny (model prog w) A (do
    if (← typeOf (.ref a)) != .type "tuple" then return none
    return (← Builtin.List.listItems (.ref a))[0]?) Q E s
  refine wpAny_bind (wpAny_typeOf (T := "tuple") ⟨_, ho, rfl⟩ ?_)
  rw [if_neg (by decide)]
  refine wpAny_bind (listItems_at ho rfl (wpAny_pure ?_))
  rw [← Array.getElem?_toList]
  generalize xs.toList = l at r
  cases r with
  | nil => exact absurd rfl ne
  | cons n u r => exact h n u
theorem TKs.firsts {vs : List Value} {ts : List (List Int)} (r : TKs s.heap vs ts) : ∀ {Q : List (Option Value) → Shared → Prop}, (∀ fs ns, IntsAre fs ns → fs.length = vs.length → Q (fs.map some) s) → wpAny (model prog w) A (vs.mapM firstOfTuple') Q E s := by
  induction r with
  | nil => intro Q h; rw [List.mapM_nil]; exact wpAny_pure (h [] [] .nil rfl)
  | cons a ne _ ih =>
    intro Q h
    rw [List.mapM_cons]
    exact wpAny_bind (a.first ne fun n u => wpAny_bind (ih fun fs ns I l => wpAny_pure (h (.int n u :: fs) (n :: ns) (.cons n u I) (congrArg Nat.succ l))))
theorem TKs.length {h : Heap} {vs : List Value} {ts : List (List Int)} (r : TKs h vs ts) : vs.length = ts.length := by
  induction r with
  | nil => rfl
  | cons _ _ _ ih => exact congrArg Nat.succ ih
theorem TKs.kind {vs : List Value} {ts : List (List Int)} {Q : SortKind → Shared → Prop} (r : TKs s.heap vs ts) (l : 2 ≤ vs.length) (h : Q (tuples' true) s) : wpAny (model prog w) A (keyKind' vs.toArray) Q E s := by
  rw [keyKind'_eq, List.mapM_toArray, map_eq_pure_bind]
  refine wpAny_bind (wpAny_bind (r.firsts fun fs ns I lf => wpAny_pure ?_))
  rw [if_pos (by rw [List.all_toArray, List.all_map]; exact List.all_eq_true.mpr fun _ _ => rfl)]
  refine wpAny_bind (wpAny_rule ?_)
  have hfm : ((fs.map some).toArray.filterMap id) = fs.toArray := by rw [List.filterMap_toArray, List.filterMap_map]; exact congrArg List.toArray (List.filterMap_some)
  rw [hfm, oneTypeOnly'_eq, List.mapM_toArray, map_eq_pure_bind, mapM_typeOf_ints I]
  cases I with
  | nil => exact absurd (lf ▸ l) (by decide)
  | cons n u I =>
    refine wpAny_bind (wpAny_bind (wpAny_bind (wpAny_pure (wpAny_pure ?_))))
    show wpAny _ A (pure (if ((List.map (fun _ => Value.type "int") (Value.int n u :: _)).toArray.all fun x => x == Value.type "int") = true then some (Value.type "int") else none)) _ E s
    rw [if_pos (by rw [List.all_toArray, List.all_map]; exact List.all_eq_true.mpr fun _ _ => (by decide : (Value.type "int" == Value.type "int") = true))]
    exact wpAny_pure (wpAny_pure h)

structure SB (a₀ : Array Keyed) (st : SortSt) : Prop where
  perm : (arrOf st).Perm a₀
  kind : kindOf st = tuples' true
  failed : failedOf st = none
  pend : pendingOf st = #[]
structure KD (h : Heap) (a₀ : Array Keyed) : Prop where
  keys : ∀ p ∈ a₀.toList, ∃ t, TK h p.1 t
  nd : (a₀.toList.map fun p => tkOf h p.1).Nodup
variable {a₀ : Array Keyed} {st : SortSt}
theorem SB.size (B : SB a₀ st) : (arrOf st).size = a₀.size := B.perm.size_eq
theorem SB.arr (B : SB a₀ st) {xs : Array Keyed} (p : xs.Perm (arrOf st)) : SB a₀ (setArr st xs) := ⟨p.trans B.perm, B.kind, B.failed, B.pend⟩
noncomputable abbrev key (h : Heap) (xs : Array Keyed) (i : Nat) : List Int := KK (tkind h) xs i
theorem SB.at (B : SB a₀ st) (D : KD s.heap a₀) {i : Nat} (hi : i < a₀.size) : ∃ x p, (arrOf st)[i]? = some (x, p) ∧ TK s.heap x (key s.heap (arrOf st) i) := by
  have hi' : i < (arrOf st).size := B.size ▸ hi
  have e : (arrOf st)[i]? = some (arrOf st)[i] := getElem?_pos _ i hi'
  obtain ⟨t, ht⟩ := D.keys (arrOf st)[i] ((Array.perm_iff_toList_perm.mp B.perm).mem_iff.mp (by simp))
  refine ⟨(arrOf st)[i].1, (arrOf st)[i].2, e, ?_⟩
  have : key s.heap (arrOf st) i = t := by
    unfold key KK; rw [e]; exact congrArg (Option.getD · []) (Vp ht)
  rw [this]; exact ht
theorem SB.lt (B : SB a₀ st) (D : KD s.heap a₀) {i j : Nat} (hi : i < a₀.size) (hj : j < a₀.size) {Q : Option Bool → SortSt → Prop} (h : Q (some (decide (key s.heap (arrOf st) i < key s.heap (arrOf st) j))) st) : PyProof.Rows.wpS (model prog w) A E s (ltAt' i j) Q st := by
  obtain ⟨x, p, e1, hx⟩ := B.at D hi
  obtain ⟨y, q, e2, hy⟩ := B.at D hj
  rw [ltAt'_eq]
  refine wpS_bind (wpS_get ?_)
  show PyProof.Rows.wpS _ _ _ _ (do let x ← elem' (arrOf st) i; let y ← elem' (arrOf st) j; lt' x y) Q st
  rw [elem'_eq, elem'_eq, e1, e2]
  refine wpS_bind (wpS_pure (wpS_bind (wpS_pure ?_)))
  rw [lt'_eq]
  refine wpS_bind (wpS_get ?_)
  rw [B.kind]
  exact wpS_bind (wpS_lift (wpAny_attempt (ZKn hx hy ⟨rfl, wpS_pure h⟩)))
theorem SB.ne (B : SB a₀ st) (D : KD s.heap a₀) {i j : Nat} (hi : i < a₀.size) (hj : j < a₀.size) (ne : i ≠ j) : key s.heap (arrOf st) i ≠ key s.heap (arrOf st) j := by
  obtain ⟨x, p, e1, hx⟩ := B.at D hi
  obtain ⟨y, q, e2, hy⟩ := B.at D hj
  intro e
  have nd : ((arrOf st).toList.map fun p => tkOf s.heap p.1).Nodup := ((Array.perm_iff_toList_perm.mp B.perm).map _).nodup_iff.mpr D.nd
  have k1 : ((arrOf st).toList.map fun p => tkOf s.heap p.1)[i]? = some (some (key s.heap (arrOf st) i)) := by rw [List.getElem?_map, Array.getElem?_toList, e1]; exact congrArg some (Vp hx)
  have k2 : ((arrOf st).toList.map fun p => tkOf s.heap p.1)[j]? = some (some (key s.heap (arrOf st) i)) := by rw [List.getElem?_map, Array.getElem?_toList, e2, e]; exact congrArg some (Vp hy)
  exact ne ((List.getElem?_inj (by rw [List.length_map, Array.length_toList, B.size]; exact hi) nd).mp (k1.trans k2.symm))
noncomputable def Up (h : Heap) (xs : Array Keyed) (k : Nat) : Prop := ∀ i j, i < j → j < k → key h xs i < key h xs j
noncomputable def Dn (h : Heap) (xs : Array Keyed) (k : Nat) : Prop := ∀ i j, i < j → j < k → key h xs j < key h xs i
theorem SB.gt (B : SB a₀ st) (D : KD s.heap a₀) {i j : Nat} (hi : i < a₀.size) (hj : j < a₀.size) (ne : i ≠ j) (h : decide (key s.heap (arrOf st) i < key s.heap (arrOf st) j) = false) : key s.heap (arrOf st) j < key s.heap (arrOf st) i :=
  Classical.byContradiction fun q => B.ne D hi hj ne (List.le_antisymm (List.not_lt.mp q) (List.not_lt.mp (of_decide_eq_false h)))
theorem ZFs (D : KD s.heap a₀) {a nr : Nat} {Q : AscSt → SortSt → Prop} (hn : nr ≤ a₀.size) (ha : 1 ≤ a) (le : a ≤ nr) (B : SB a₀ st) (u : Up s.heap (arrOf st) a)
    (h : ∀ n, a ≤ n → n ≤ nr → Up s.heap (arrOf st) n → (n = nr ∨ key s.heap (arrOf st) n < key s.heap (arrOf st) (n - 1)) → Q (none, n) st) : PyProof.Rows.wpS (model prog w) A E s (ascLoop a nr) Q st := by
  unfold ascLoop
  refine wpS_forRange (I := fun x c st' => st' = st ∧ c = (none, x) ∧ Up s.heap (arrOf st) x) ?_ ?_ ⟨rfl, rfl, u⟩
  · rintro x c st' l1 l2 ⟨rfl, rfl, u'⟩
    dsimp only
    refine wpS_bind (B.lt D (by lia) (by lia) ?_)
    cases e : decide (key s.heap (arrOf st') x < key s.heap (arrOf st') (x - 1)) with
    | true => exact wpS_pure (h x l1 (by lia) u' (.inr (of_decide_eq_true e)))
    | false =>
      refine wpS_pure ⟨rfl, rfl, fun i j lt hj => ?_⟩
      have gt := B.gt D (by lia) (by lia) (by lia) e
      by_cases c1 : j < x
      · exact u' i j lt c1
      · obtain rfl : j = x := by lia
        by_cases c2 : i = j - 1
        · rw [c2]; exact gt
        · exact List.lt_trans (u' i (j - 1) (by lia) (by lia)) gt
  · rintro c st' ⟨rfl, rfl, u'⟩
    rw [Nat.max_eq_right le] at u' ⊢
    exact h nr le (Nat.le_refl _) u' (.inl rfl)
theorem ZGw (D : KD s.heap a₀) {n nr : Nat} {Q : DescSt → SortSt → Prop} (hn : nr ≤ a₀.size) (h1 : 1 ≤ n) (le : n ≤ nr) (B : SB a₀ st) (u : Dn s.heap (arrOf st) n)
    (h : ∀ m, n ≤ m → m ≤ nr → Dn s.heap (arrOf st) m → Q (none, m, 0) st) : PyProof.Rows.wpS (model prog w) A E s (descLoop n nr) Q st := by
  unfold descLoop
  refine wpS_forRange (I := fun x c st' => st' = st ∧ c = (none, x, 0) ∧ Dn s.heap (arrOf st) x) ?_ ?_ ⟨rfl, rfl, u⟩
  · rintro x c st' l1 l2 ⟨rfl, rfl, u'⟩
    dsimp only
    refine wpS_bind (B.lt D (by lia) (by lia) ?_)
    cases e : decide (key s.heap (arrOf st') x < key s.heap (arrOf st') (x - 1)) with
    | true =>
      refine wpS_pure ⟨rfl, rfl, fun i j lt hj => ?_⟩
      have gt := of_decide_eq_true e
      by_cases c1 : j < x
      · exact u' i j lt c1
      · obtain rfl : j = x := by lia
        by_cases c2 : i = j - 1
        · rw [c2]; exact gt
        · exact List.lt_trans gt (u' i (j - 1) (by lia) (by lia))
    | false =>
      have gt := B.gt D (by lia) (by lia) (by lia) e
      refine wpS_bind (B.lt D (by lia) (by lia) ?_)
      rw [decide_eq_true gt]
      exact wpS_pure (h x l1 (by lia) u')
  · rintro c st' ⟨rfl, rfl, u'⟩
    rw [Nat.max_eq_right le] at u' ⊢
    exact h nr le (Nat.le_refl _) u'
theorem ZDe (D : KD s.heap a₀) {nr : Nat} {Q : Option Nat → SortSt → Prop} (hn : nr ≤ a₀.size) (h1 : 1 ≤ nr) (B : SB a₀ st)
    (h : ∀ m st', SB a₀ st' → 1 ≤ m → m ≤ nr → Up s.heap (arrOf st') m → Q (some m) st') : PyProof.Rows.wpS (model prog w) A E s (countRun' 0 nr) Q st := by
  rw [countRun0_eq]
  refine wpS_bind (ZFs D hn (Nat.le_refl 1) h1 B (fun i j lt hj => absurd (Nat.lt_one_iff.mp hj ▸ lt) (Nat.not_lt_zero i)) fun n n1 n2 u hor => ?_)
  dsimp only
  by_cases e : n = nr
  · rw [if_pos (beq_iff_eq.mpr e)]; exact wpS_pure (h n st B n1 n2 u)
  · rw [if_neg (fun q => e (beq_iff_eq.mp q))]
    by_cases gt : n > 1
    · rw [if_pos gt]
      have nl := Nat.lt_of_lt_of_le (Nat.sub_lt (Nat.zero_lt_of_lt gt) Nat.one_pos) (Nat.le_trans n2 hn)
      refine wpS_bind (B.lt D (Nat.lt_of_lt_of_le h1 hn) nl ?_)
      rw [decide_eq_true (u 0 (n - 1) (Nat.sub_pos_of_lt gt) (Nat.sub_lt (Nat.zero_lt_of_lt gt) Nat.one_pos))]
      exact wpS_pure (h n st B n1 n2 u)
    · rw [if_neg gt]
      obtain rfl : n = 1 := Nat.le_antisymm (Nat.le_of_not_lt gt) n1
      have lt := hor.resolve_left e
      unfold descPart
      refine wpS_bind (wpS_lift (wpAny_rule ⟨rfl, ?_⟩))
      refine wpS_bind (ZGw D hn (Nat.le_succ 1) (Nat.lt_of_le_of_ne h1 e) B (fun i j l1 l2 => ?_) fun m m1 m2 d => ?_)
      · obtain rfl : j = 1 := Nat.le_antisymm (Nat.le_of_lt_succ l2) (Nat.lt_of_le_of_lt (Nat.zero_le i) l1)
        obtain rfl : i = 0 := Nat.lt_one_iff.mp l1
        exact lt
      · dsimp only
        rw [if_neg (Nat.lt_irrefl 0)]
        unfold tail3
        refine wpS_bind (wpS_reverse ?_)
        have B' : SB a₀ (setArr st (mirror (arrOf st) 0 m ((m - 0) / 2))) := B.arr (mirror_perm _ _ _ _)
        have sz : m ≤ (arrOf st).size := by rw [B.size]; exact Nat.le_trans m2 hn
        refine wpS_bind (ZFs D hn (Nat.le_trans (Nat.le_succ 1) m1) m2 B' (fun i j l1 l2 => ?_) fun k k1 k2 u' _ => wpS_pure (h k _ B' (Nat.le_trans (Nat.le_trans (Nat.le_succ 1) m1) k1) k2 u'))
        show key s.heap (mirror (arrOf st) 0 m ((m - 0) / 2)) i < key s.heap (mirror (arrOf st) 0 m ((m - 0) / 2)) j
        unfold key
        rw [KK_mirror sz, KK_mirror sz, if_pos ⟨Nat.zero_le _, Nat.lt_trans l1 l2⟩, if_pos ⟨Nat.zero_le _, l2⟩]
        exact d _ _ (by lia) (by lia)
theorem ZKc {l r : Nat} (h : l < r) : ∃ d, (l + r) / 2 = d ∧ l ≤ d ∧ d < r := ⟨_, rfl, by lia, by lia⟩
theorem ZJj {f : Nat → List Int} {k l i j : Nat} (lk : l ≤ k) (u : ∀ i j, i < j → j < k → f i < f j) (lo : ∀ i, i < l → f i < f k) (hi : ∀ i, l ≤ i → i < k → f k < f i) (lt : i < j) (hj : j < k + 1) :
    (if i = l then f k else if l < i ∧ i ≤ k then f (i - 1) else f i) < if j = l then f k else if l < j ∧ j ≤ k then f (j - 1) else f j := by
  have jk := Nat.le_of_lt_succ hj
  have g2 : ∀ {x}, l < x → x ≤ k → (if x = l then f k else if l < x ∧ x ≤ k then f (x - 1) else f x) = f (x - 1) := fun h1 h2 => by rw [if_neg (Nat.ne_of_gt h1), if_pos ⟨h1, h2⟩]
  have g0 : ∀ {x}, x < l → (if x = l then f k else if l < x ∧ x ≤ k then f (x - 1) else f x) = f x := fun h1 => by rw [if_neg (Nat.ne_of_lt h1), if_neg fun q => Nat.lt_asymm h1 q.1]
  rcases Nat.lt_trichotomy i l with h | rfl | h
  · rw [g0 h]
    rcases Nat.lt_trichotomy j l with h' | rfl | h'
    · rw [g0 h']; exact u i j lt (Nat.lt_of_lt_of_le h' lk)
    · rw [if_pos rfl]; exact lo i h
    · rw [g2 h' jk]; exact u i (j - 1) (Nat.lt_of_lt_of_le h (Nat.le_sub_one_of_lt h')) (Nat.lt_of_lt_of_le (Nat.sub_lt (Nat.zero_lt_of_lt lt) Nat.one_pos) jk)
  · rw [if_pos rfl, g2 lt jk]; exact hi (j - 1) (Nat.le_sub_one_of_lt lt) (Nat.lt_of_lt_of_le (Nat.sub_lt (Nat.zero_lt_of_lt lt) Nat.one_pos) jk)
  · rw [g2 h (Nat.le_trans (Nat.le_of_lt lt) jk), g2 (Nat.lt_trans h lt) jk]
    exact u (i - 1) (j - 1) (Nat.sub_lt_sub_right (Nat.zero_lt_of_lt h) lt) (Nat.lt_of_lt_of_le (Nat.sub_lt (Nat.zero_lt_of_lt lt) Nat.one_pos) jk)
theorem bin_ok' (D : KD s.heap a₀) {n ok : Nat} {Q : Bool → SortSt → Prop} (hn : n ≤ a₀.size) (le : ok ≤ n) (h1 : 1 ≤ ok) (B : SB a₀ st) (u : Up s.heap (arrOf st) ok) (h : ∀ st', SB a₀ st' → Up s.heap (arrOf st') n → Q true st') : PyProof.Rows.wpS (model prog w) A E s (binarySort' 0 n ok) Q st := by
  rw [binarySort'_eq, Nat.max_eq_left h1]
  simp only [Nat.zero_add]
  refine wpS_bind (wpS_mono (wpS_forRange (I := fun k c st' => c = (none, ()) ∧ SB a₀ st' ∧ Up s.heap (arrOf st') k) (Q := fun c st' => c = (none, ()) ∧ SB a₀ st' ∧ Up s.heap (arrOf st') n) ?_ ?_ ⟨rfl, B, u⟩) ?_)
  · rintro k c st' l1 l2 ⟨rfl, B', u'⟩
    have hk : k < a₀.size := by lia
    refine wpS_bind (wpS_mono (wpS_forRange (I := fun x c st'' => st'' = st' ∧ ∃ l r, c = (none, l, r) ∧ l ≤ r ∧ r ≤ k ∧ r - l ≤ k - x ∧ (∀ i, i < l → key s.heap (arrOf st') i < key s.heap (arrOf st') k) ∧ ∀ i, r ≤ i → i < k → key s.heap (arrOf st') k < key s.heap (arrOf st') i)
      (Q := fun c st'' => st'' = st' ∧ ∃ l r, c = (none, l, r) ∧ l ≤ k ∧ (∀ i, i < l → key s.heap (arrOf st') i < key s.heap (arrOf st') k) ∧ ∀ i, l ≤ i → i < k → key s.heap (arrOf st') k < key s.heap (arrOf st') i) ?_ ?_
      ⟨rfl, 0, k, rfl, Nat.zero_le _, Nat.le_refl _, Nat.le_refl _, fun i q => absurd q (Nat.not_lt_zero _), fun i q1 q2 => absurd q2 (Nat.not_lt.mpr q1)⟩) ?_)
    · rintro x c st'' _ lx ⟨rfl, l, r, rfl, lr, rk, m, lo, hi⟩
      dsimp only
      by_cases ge : l ≥ r
      · rw [if_pos ge]
        obtain rfl : l = r := Nat.le_antisymm lr ge
        exact wpS_pure ⟨rfl, l, l, rfl, rk, lo, hi⟩
      · rw [if_neg ge]
        obtain ⟨d, ed, d1, d2⟩ := ZKc (Nat.lt_of_not_le ge)
        rw [ed]
        have dk := Nat.lt_of_lt_of_le d2 rk
        refine wpS_bind (B'.lt D hk (Nat.lt_trans dk hk) ?_)
        cases e : decide (key s.heap (arrOf st'') k < key s.heap (arrOf st'') d) with
        | true =>
          have lt := of_decide_eq_true e
          refine wpS_pure ⟨rfl, l, d, rfl, d1, Nat.le_of_lt dk, Nat.le_trans (Nat.le_sub_one_of_lt (Nat.sub_lt_sub_right d1 d2)) (Nat.sub_le_sub_right m 1), lo, fun i q1 q2 => ?_⟩
          rcases Nat.lt_or_eq_of_le q1 with c | rfl
          · exact List.lt_trans lt (u' _ i c q2)
          · exact lt
        | false =>
          have gt := B'.gt D hk (Nat.lt_trans dk hk) (Nat.ne_of_gt dk) e
          refine wpS_pure ⟨rfl, d + 1, r, rfl, d2, rk, Nat.pred_le_pred (Nat.le_trans (Nat.sub_le_sub_left d1 r) m), fun i q => ?_, hi⟩
          rcases Nat.lt_or_eq_of_le (Nat.le_of_lt_succ q) with c | rfl
          · exact List.lt_trans (u' i _ c dk) gt
          · exact gt
    · rintro c st'' ⟨rfl, l, r, rfl, lr, rk, m, lo, hi⟩
      obtain rfl : l = r := by lia
      exact ⟨rfl, l, l, rfl, rk, lo, hi⟩
    · rintro c st'' ⟨rfl, l, r, rfl, lk, lo, hi⟩
      show PyProof.Rows.wpS _ _ _ _ (do moveDown' k l; pure (ForInStep.yield (none, ()))) _ _
      rw [moveDown'_eq]
      refine wpS_bind (wpS_modify (wpS_pure ⟨rfl, B'.arr (bubble_perm _ _ _), fun i j lt hj => ?_⟩))
      have ks : k < (arrOf st'').size := by rw [B'.size]; exact hk
      show key s.heap (bubble (arrOf st'') k (k - l)) i < key s.heap (bubble (arrOf st'') k (k - l)) j
      unfold key
      rw [KK_bubble ks (by lia), KK_bubble ks (by lia), show k - (k - l) = l by lia]
      exact ZJj lk u' lo hi lt hj
  · rintro c st' ⟨rfl, B', u'⟩
    exact ⟨rfl, B', by rw [Nat.max_eq_right le] at u'; exact u'⟩
  · rintro c st' ⟨rfl, B', u'⟩
    exact wpS_pure (h st' B' u')
theorem ZIv (D : KD s.heap a₀) {Q : Unit → SortSt → Prop} (B : SB a₀ st) (h2 : 2 ≤ a₀.size) (h64 : a₀.size < 64) (h : ∀ st', (arrOf st').Perm a₀ → failedOf st' = none → Up s.heap (arrOf st') a₀.size → Q () st') : PyProof.Rows.wpS (model prog w) A E s sortRuns' Q st := by
  rw [sortRuns'_eq]
  refine wpS_bind (wpS_get ?_)
  dsimp only
  have hmr : minRun' a₀.size a₀.size 0 = a₀.size := by
    cases e : a₀.size with
    | zero => exact absurd (e ▸ h2 : 2 ≤ 0) (by decide)
    | succ f => rw [minRun'_succ, if_pos (e ▸ h64)]
  rw [B.size, hmr]
  let Dn' : SortSt → Prop := fun st' => (arrOf st').Perm a₀ ∧ failedOf st' = none ∧ pendingOf st' = #[(0, a₀.size, 0)] ∧ Up s.heap (arrOf st') a₀.size
  have fin : ∀ st', SB a₀ st' → Up s.heap (arrOf st') a₀.size → Dn' (setPending st' ((pendingOf st').push (0, a₀.size, 0))) := fun st' B' u => ⟨B'.perm, B'.failed, by show (pendingOf st').push _ = _; rw [B'.pend]; rfl, u⟩
  refine wpS_bind (wpS_mono (wpS_forRange (I := fun x c st' => (x = 0 ∧ c = (none, 0) ∧ SB a₀ st') ∨ (1 ≤ x ∧ c = (none, a₀.size) ∧ Dn' st')) (Q := fun c st' => c = (none, a₀.size) ∧ Dn' st') ?_ ?_ (.inl ⟨rfl, rfl, B⟩)) ?_)
  · rintro x c st' _ hx (⟨rfl, rfl, B'⟩ | ⟨_, rfl, d⟩)
    · dsimp only
      rw [if_neg (Nat.not_le.mpr (Nat.lt_of_lt_of_le (by decide) h2))]
      simp only [Nat.sub_zero, Nat.min_self, Nat.zero_add]
      refine wpS_bind (ZDe D (Nat.le_refl _) (Nat.lt_of_lt_of_le (by decide) h2) B' fun m st2 B2 m1 m2 u2 => ?_)
      dsimp only
      have rest : ∀ st3, SB a₀ st3 → Up s.heap (arrOf st3) a₀.size → PyProof.Rows.wpS (model prog w) A E s (modify fun s => setPending s ((pendingOf s).push (0, a₀.size, 0))) (fun _ st' => Dn' st') st3 := fun st3 B3 u3 => wpS_modify (fin st3 B3 u3)
      by_cases lt : m < a₀.size
      · rw [if_pos lt]
        refine wpS_bind (wpS_lift (wpAny_rule ⟨rfl, ?_⟩))
        refine wpS_bind (bin_ok' D (Nat.le_refl _) m2 m1 B2 u2 fun st3 B3 u3 => ?_)
        simp only [Bool.not_true, Bool.false_eq_true, if_false]
        refine wpS_bind (wpS_get ?_)
        rw [B3.pend]
        exact wpS_bind (wpS_mono (rest st3 B3 u3) fun _ st' d => wpS_pure (.inr ⟨Nat.le_refl 1, rfl, d⟩))
      · rw [if_neg lt]
        obtain rfl : m = a₀.size := Nat.le_antisymm m2 (Nat.not_lt.mp lt)
        refine wpS_bind (wpS_get ?_)
        rw [B2.pend]
        exact wpS_bind (wpS_mono (rest st2 B2 u2) fun _ st' d => wpS_pure (.inr ⟨Nat.le_refl 1, rfl, d⟩))
    · dsimp only
      rw [if_pos (Nat.le_refl _)]
      exact wpS_pure ⟨rfl, d⟩
  · rintro c st' (⟨hx, _, _⟩ | ⟨_, hc, d⟩)
    · exact absurd (Nat.le_trans h2 (hx ▸ Nat.le_max_right 0 a₀.size)) (by decide : ¬ 2 ≤ 0)
    · exact ⟨hc, d⟩
  · rintro c st' ⟨rfl, d⟩
    dsimp only
    refine wpS_bind (wpS_mono (wpS_forRange (I := fun _ c st'' => st'' = st' ∧ c = (none, ())) (Q := fun c st'' => st'' = st' ∧ c = (none, ())) ?_ (fun _ _ q => q) ⟨rfl, rfl⟩) ?_)
    · rintro x c st'' _ _ ⟨rfl, rfl⟩
      refine wpS_bind (wpS_get ?_)
      rw [if_pos (by rw [d.2.2.1]; exact Nat.le_refl 1)]
      exact wpS_pure ⟨rfl, rfl⟩
    · rintro c st'' ⟨rfl, rfl⟩
      exact wpS_pure (h _ d.1 d.2.1 d.2.2.2)
theorem TK.move {h h' : Heap} {v : Value} {t : List Int} (r : TK h v t) (k : ∀ a o, h.get? a = some o → h'.get? a = some o) : TK h' v t := by
  obtain ⟨a, xs, m, e, ho, r⟩ := r; exact ⟨a, xs, m, e, k a _ ho, r⟩
theorem TKs.move {h h' : Heap} {vs : List Value} {ts : List (List Int)} (r : TKs h vs ts) (k : ∀ a o, h.get? a = some o → h'.get? a = some o) : TKs h' vs ts := by
  induction r with
  | nil => exact .nil
  | cons a ne _ ih => exact .cons (a.move k) ne ih
theorem TKs.keys {h : Heap} {vs : List Value} {ts : List (List Int)} (r : TKs h vs ts) : vs.map (tkOf h) = ts.map some := by
  induction r with
  | nil => rfl
  | cons a _ _ ih => rw [List.map_cons, List.map_cons, ih, Vp a]
theorem TKs.mem {h : Heap} {vs : List Value} {ts : List (List Int)} (r : TKs h vs ts) {v : Value} (hv : v ∈ vs) : ∃ t, TK h v t ∧ t ≠ [] := by
  induction r with
  | nil => exact nomatch hv
  | cons a ne _ ih =>
    rcases List.mem_cons.mp hv with rfl | hv
    · exact ⟨_, a, ne⟩
    · exact ih hv
theorem TKs.of {h : Heap} {vs : List Value} (m : ∀ v ∈ vs, ∃ t, TK h v t ∧ t ≠ []) : ∃ ts, TKs h vs ts := by
  induction vs with
  | nil => exact ⟨[], .nil⟩
  | cons v vs ih =>
    obtain ⟨t, a, ne⟩ := m v (.head _)
    obtain ⟨ts, r⟩ := ih fun v hv => m v (.tail _ hv)
    exact ⟨t :: ts, .cons a ne r⟩
theorem TKs.kd {h : Heap} {vs : List Value} {ts : List (List Int)} (r : TKs h vs ts) (nd : ts.Nodup) : KD h (pairsOf vs) := by
  refine ⟨fun p hp => ?_, ?_⟩
  · rw [pairsOf_toList] at hp
    obtain ⟨t, a, _⟩ := r.mem (mem_zip_self hp).2
    exact ⟨t, a⟩
  · have e : (pairsOf vs).toList.map (fun p => tkOf h p.1) = ts.map some := by
      rw [pairsOf_toList, ← r.keys]
      show (vs.zip vs).map (tkOf h ∘ Prod.fst) = _
      rw [← List.map_map, List.map_fst_zip (Nat.le_refl _)]
    rw [e]
    exact List.Pairwise.map _ (fun a b ne e => ne (Option.some.inj e)) nd
theorem TKs.out {h : Heap} {vs : List Value} {ts : List (List Int)} (r : TKs h vs ts) {xs : Array Keyed} (p : xs.Perm (pairsOf vs)) (u : Up h xs (pairsOf vs).size) : ∃ ts', TKs h (xs.map (·.2)).toList ts' ∧ ts'.Perm ts ∧ ts'.Pairwise (· < ·) := by
  have pl : xs.toList.Perm (vs.zip vs) := by rw [← pairsOf_toList]; exact Array.perm_iff_toList_perm.mp p
  have same : ∀ q ∈ xs.toList, q.1 = q.2 ∧ q.1 ∈ vs := fun q hq => mem_zip_self (pl.mem_iff.mp hq)
  have e2 : (xs.map (·.2)).toList = xs.toList.map (·.2) := Array.toList_map
  have pv : ((xs.map (·.2)).toList).Perm vs := by
    rw [e2]
    have := pl.map (·.2)
    rwa [List.map_snd_zip (Nat.le_refl _)] at this
  obtain ⟨ts', r'⟩ := TKs.of (h := h) (vs := (xs.map (·.2)).toList) fun v hv => r.mem (pv.mem_iff.mp hv)
  have pt : ts'.Perm ts := by
    have := pv.map (tkOf h)
    rw [r'.keys, r.keys] at this
    have q := this.filterMap id
    rw [List.filterMap_map, List.filterMap_map] at q
    exact (List.filterMap_some (l := ts') ▸ List.filterMap_some (l := ts) ▸ q : _)
  refine ⟨ts', r', pt, ?_⟩
  rw [List.pairwise_iff_getElem]
  intro i j hi hj lt
  have sz : xs.size = ts'.length := by rw [← r'.length, Array.length_toList, Array.size_map]
  have kv : ∀ k (hk : k < ts'.length), key h xs k = ts'[k] := fun k hk => by
    have hx : k < xs.size := sz ▸ hk
    have e : xs[k]? = some xs[k] := getElem?_pos _ k hx
    have ks := congrArg (·[k]?) r'.keys
    simp only [List.getElem?_map, List.getElem?_eq_getElem hk, e2] at ks
    rw [Array.getElem?_toList, e] at ks
    have s1 := (same xs[k] (by simp)).1
    unfold key KK
    rw [e]
    show (tkOf h xs[k].1).getD [] = _
    rw [s1]
    have := Option.some.inj ks
    rw [show tkOf h xs[k].2 = some ts'[k] from this]
    rfl
  rw [← kv i hi, ← kv j hj]
  exact u i j lt (by rw [← p.size_eq, sz]; exact hj)
theorem Ws {α : Type} {a b : List α} (e : a.map some = b.map some) : a = b := by
  have := congrArg (List.filterMap id) e
  rw [List.filterMap_map, List.filterMap_map] at this
  exact (List.filterMap_some (l := a)).symm.trans (this.trans (List.filterMap_some (l := b)))
theorem ZBv {a : Addr} {vs : List Value} {ts : List (List Int)} {n : Nat} {P : PySem.Fin → Shared → Prop} (ho : s.heap.get? a = some (seqObj "list" vs.toArray n)) (r : TKs s.heap vs ts) (na : ∀ v ∈ vs, v ≠ .ref a) (nd : ts.Nodup) (h64 : vs.length < 64)
    (h : ∀ out ts', (∀ v ∈ out.toList, v ∈ vs) → TKs s.heap out.toList ts' → ts'.Perm ts → ts'.Pairwise (· < ·) → P (.done (.ret .none)) { s with heap := sortedHeap s.heap a vs out }) : wpAny (model prog w) A (Builtin.«list.sort» ⟨[.ref a], []⟩) P E s := by
  rw [list_sort_plain]
  have ha : a < s.heap.objs.size := Heap.lt_size ho
  refine wpAny_bind (listItems_at ho rfl ?_)
  refine wpAny_bind (listUpdate_at ho rfl ?_)
  obtain ⟨e1, ho1⟩ : ∃ e1, (s.heap.update a (Obj.mapSeq fun _ => #[])).get? a = some (seqObj "list" #[] e1) := ⟨_, get?_update_seq ho (fun _ => #[])⟩
  refine wpAny_bind (seqEpoch_at ho1 rfl ?_)
  refine wpAny_bind (wpAny_newTuple ?_)
  refine wpAny_bind (wpAny_newList ?_)
  refine wpAny_holding ?_
  have ho6 : (((s.heap.update a (Obj.mapSeq fun _ => #[])).push (seqObj "tuple" vs.toArray 0)).push (seqObj "list" #[] 0)).get? a = some (seqObj "list" #[] e1) := Heap.get?_push_of_some _ (Heap.get?_push_of_some _ ho1)
  have kp6 : ∀ b o, b ≠ a → s.heap.get? b = some o → (((s.heap.update a (Obj.mapSeq fun _ => #[])).push (seqObj "tuple" vs.toArray 0)).push (seqObj "list" #[] 0)).get? b = some o := fun b o ne e => Heap.get?_push_of_some _ (Heap.get?_push_of_some _ ((Heap.get?_update_other _ _ (Ne.symm ne)).trans e))
  have mv : ∀ {us : List Value} {ws : List (List Int)}, (∀ v ∈ us, v ∈ vs) → TKs s.heap us ws → TKs (((s.heap.update a (Obj.mapSeq fun _ => #[])).push (seqObj "tuple" vs.toArray 0)).push (seqObj "list" #[] 0)) us ws := fun {us ws} sub r => by
    induction r with
    | nil => exact .nil
    | cons t ne _ ih =>
      obtain ⟨b, xs, m, rfl, hb, I⟩ := t
      exact .cons ⟨b, xs, m, rfl, kp6 b _ (fun e => na _ (sub _ (.head _)) (congrArg Value.ref e)) hb, I⟩ ne (ih fun v hv => sub v (.tail _ hv))
  have r6 := mv (fun _ q => q) r
  show wpAny (model prog w) A _ P E { s with heap := ((s.heap.update a (Obj.mapSeq fun _ => #[])).push (seqObj "tuple" vs.toArray 0)).push (seqObj "list" #[] 0) }
  dsimp only
  have hsz : vs.toArray.size = vs.length := List.size_toArray
  by_cases h2 : vs.toArray.size < 2
  · rw [if_pos h2, if_pos h2]
    refine wpAny_bind (wpAny_pure ?_)
    rw [StateT.run_pure]
    refine wpAny_bind (wpAny_pure ?_)
    dsimp only
    refine wpAny_bind (seqEpoch_at ho6 rfl ?_)
    refine wpAny_bind (listUpdate_at ho6 rfl ?_ (hsz2 := by rw [Array.size_map]; show (pairsOf vs).size ≤ _; rw [pairsOf_size, sizeLine_eq]; lia))
    simp only [bne_self_eq_false, Bool.false_eq_true, if_false]
    have eo : ((pairsOf vs).map fun x : Keyed => x.2).toList = vs := by
      rw [Array.toList_map, pairsOf_toList, List.map_snd_zip (Nat.le_refl _)]
    have fin := h ((pairsOf vs).map fun x : Keyed => x.2) ts (fun v hv => by rw [eo] at hv; exact hv) (by rw [eo]; exact r) (List.Perm.refl _)
    refine wpAny_pure (fin ?_)
    have l := r.length
    match ts, l with
    | [], _ => exact .nil
    | [t], _ => exact List.pairwise_singleton _ _
    | _ :: _ :: _, l => rw [hsz, l] at h2; exact absurd h2 (by simp)
  · rw [if_neg h2, if_neg h2]
    have l2 : 2 ≤ vs.length := by rw [← hsz]; lia
    refine wpAny_bind (r6.kind (s := { s with heap := _ }) l2 ?_)
    refine wpAny_bind (wpAny_mono (ZIv (s := { s with heap := ((s.heap.update a (Obj.mapSeq fun _ => #[])).push (seqObj "tuple" vs.toArray 0)).push (seqObj "list" #[] 0) }) (a₀ := pairsOf vs) (st := SortSt.mk' (tuples' true) (vs.toArray.zip vs.toArray) #[] 7 none)
      (Q := fun _ st' => (arrOf st').Perm (pairsOf vs) ∧ failedOf st' = none ∧ Up (((s.heap.update a (Obj.mapSeq fun _ => #[])).push (seqObj "tuple" vs.toArray 0)).push (seqObj "list" #[] 0)) (arrOf st') (pairsOf vs).size)
      (r6.kd nd) ⟨Array.Perm.refl _, rfl, rfl, rfl⟩ (by rw [pairsOf_size]; exact l2) (by rw [pairsOf_size]; exact h64) fun st' a1 a2 a3 => ⟨a1, a2, a3⟩) ?_ fun _ _ e => e)
    rintro ⟨⟨⟩, st'⟩ s' ⟨rfl, hp, hf, hu⟩
    dsimp only
    refine wpAny_bind (seqEpoch_at ho6 rfl ?_)
    refine wpAny_bind (listUpdate_at ho6 rfl ?_ (hsz2 := by refine Nat.le_trans (Nat.le_of_eq ((Array.size_map ..).trans (hp.size_eq.trans (pairsOf_size _)))) ?_; rw [sizeLine_eq]; lia))
    rw [hf]
    simp only [bne_self_eq_false, Bool.false_eq_true, if_false]
    obtain ⟨ts', q1, q2, q3⟩ := r6.out hp hu
    have pv : ((arrOf st').map (·.2)).toList.Perm vs := by
      rw [Array.toList_map]
      have := (Array.perm_iff_toList_perm.mp hp).map (·.2)
      rwa [pairsOf_toList, List.map_snd_zip (Nat.le_refl _)] at this
    obtain ⟨us, q4⟩ := TKs.of (h := s.heap) (vs := ((arrOf st').map (·.2)).toList) fun v hv => r.mem (pv.mem_iff.mp hv)
    have eu : us = ts' := by
      exact Ws ((mv (fun v hv => pv.mem_iff.mp hv) q4).keys.symm.trans q1.keys)
    exact wpAny_pure (h _ ts' (fun v hv => pv.mem_iff.mp hv) (eu ▸ q4) q2 q3)
theorem Ux {l : Addr} {vs : List Value} {ts : List (List Int)} {Q : Value → Shared → Prop} (hl : s.heap.IsList l vs.toArray) (r : TKs s.heap vs ts) (nd : ts.Nodup) (h64 : vs.length < 64)
    (h : ∀ out ts', TKs s.heap out.toList ts' → ts'.Perm ts → ts'.Pairwise (· < ·) → Q (.ref (s.heap.objs.size + 1)) { s with heap := sortedAll s.heap vs out }) : wpAny (model prog w) A (call (.builtin "sorted") [.ref l]) Q E s := by
  refine Calls.call_function_entry kind_sorted plain_sorted entry_sorted (args_sorted1 _) ?_
  unfold Builtin.«sorted»
  refine wpAny_bind (m := checkCount "sorted" 1 1 _) (wpAny_pure ?_)
  refine wpAny_bind (collect_list hl ?_)
  refine wpAny_bind (wpAny_newList ?_)
  have hsz : ((s.heap.push (seqObj "list" #[] 0)).update s.heap.objs.size (Obj.mapSeq (· ++ vs.toArray))).objs.size = s.heap.objs.size + 1 := by
    rw [Heap.size_update, size_push']
  generalize hh : ((s.heap.push (seqObj "list" #[] 0)).update s.heap.objs.size (Obj.mapSeq (· ++ vs.toArray))) = h1 at *
  have kh : ∀ b o, s.heap.get? b = some o → h1.get? b = some o := fun b o e => by
    rw [← hh, Heap.get?_update_other _ _ (Nat.ne_of_gt (Heap.lt_size e))]; exact Heap.get?_push_of_some _ e
  have hoL : (h1.push (seqObj "list" vs.toArray 0)).get? (s.heap.objs.size + 1) = some (seqObj "list" vs.toArray 0) := by
    rw [← hsz]; exact Heap.get?_push_size _ rfl
  show wpAny _ _ _ _ _ { s with heap := h1.push (seqObj "list" vs.toArray 0) }
  rw [hsz]
  have rL : TKs (h1.push (seqObj "list" vs.toArray 0)) vs ts := r.move fun b o e => Heap.get?_push_of_some _ (kh b o e)
  have na : ∀ v ∈ vs, v ≠ .ref (s.heap.objs.size + 1) := fun v hv e => by
    obtain ⟨t, ⟨b, xs, m, e2, hb, _⟩, _⟩ := r.mem hv
    rw [e] at e2
    have := Heap.lt_size (Value.ref.inj e2 ▸ hb)
    exact absurd this (Nat.not_lt.mpr (Nat.le_succ _))
  refine wpAny_bind (wpAny_holding (wpAny_call_entry slot_list_sort ⟨_, hoL, rfl⟩ entry_list_sort (ZBv (s := { s with heap := h1.push (seqObj "list" vs.toArray 0) }) hoL rL na nd h64 fun out ts' a0 a1 a2 a3 => ⟨_, rfl, ?_⟩) (args_list_sort _)))
  obtain ⟨us, q4⟩ := TKs.of (h := s.heap) (vs := out.toList) fun v hv => r.mem (a0 v hv)
  have eu : us = ts' := Ws ((q4.move fun b o e => Heap.get?_push_of_some _ (kh b o e)).keys.symm.trans a1.keys)
  have := h out ts' (eu ▸ q4) a2 a3
  unfold sortedAll at this
  rw [hh] at this
  exact wpAny_pure ⟨_, rfl, this⟩
end
end TC

namespace TC
open PySem PySem.W PyProof.Rows
end TC

namespace TC
open PySem PySem.W PyProof.Rows
end TC

namespace TC
open PySem PySem.W PyProof.Rows
end TC

namespace TC
open PySem PySem.W PyProof.Rows

theorem HQ (x : PyData) : All (boolOf x) fun i => x = .bool i := by
  cases x with
  | bool ys => exact .so rfl
  | _ => exact .no
theorem XN {α : Type} {f : PyData → Option α} {x : PyData} {xs : List PyData} {as : List α} (e : allOf f (x :: xs) = some as) : ∃ a r, as = a :: r ∧ f x = some a ∧ allOf f xs = some r := by
  obtain ⟨a, h1, h2⟩ := Option.bind_eq_some_iff.mp e
  obtain ⟨r, h3, h4⟩ := Option.map_eq_some_iff.mp h2
  exact ⟨a, r, h4.symm, h1, h3⟩
theorem QL {α : Type} {f : PyData → Option α} : ∀ {xs : List PyData} {as : List α}, allOf f xs = some as → as.length = xs.length := fun {xs} => by
  induction xs with
  | nil => intro as e; cases e; rfl
  | cons x xs ih => intro as e; obtain ⟨a, r, rfl, _, h⟩ := XN e; exact congrArg Nat.succ (ih h)
theorem Vv {α : Type} {f : PyData → Option α} : ∀ {xs : List PyData} {as : List α}, allOf f xs = some as → ∀ {k : Nat} {x : PyData}, xs[k]? = some x → ∃ a, as[k]? = some a ∧ f x = some a := fun {xs} => by
  induction xs with
  | nil => intro as _ k x q; cases q
  | cons x xs ih =>
    intro as e k y q
    obtain ⟨a, r, rfl, h1, h2⟩ := XN e
    cases k with
    | zero => cases q; exact ⟨a, rfl, h1⟩
    | succ k => exact ih h2 q
theorem PRs.intsAre {P : AP} {h : Heap} : ∀ {xs : List PyData} {vs : List Value} {is : List Int}, PRs P h vs xs → allOf intOf xs = some is → IntsAre vs is := fun {xs} => by
  induction xs with
  | nil => intro vs is r e; cases e; obtain rfl := r.inv; exact .nil
  | cons x xs ih =>
    intro vs is r e
    obtain ⟨i, js, rfl, h1, h2⟩ := XN e
    obtain ⟨v, ws, rfl, a, b⟩ := r.inv
    rw [VY x i h1] at a
    obtain ⟨t, rfl⟩ := a.inv
    exact .cons _ t (ih b h2)
theorem Qd {P : AP} {h : Heap} {vs : List Value} {is : List Int} (r : IntsAre vs is) : PRs P h vs (ofInts is) := by
  induction r with
  | nil => exact .nil
  | cons n t _ ih => exact .cons (.int n t) ih
theorem int_at {P : AP} {h : Heap} {vs : Array Value} {xs : List PyData} {is : List Int} (r : PRs P h vs.toList xs) (e : allOf intOf xs = some is) (i : Nat) (v : Value) (q : vs[i]? = some v) : ∃ t, v = .int (is.getD i 0) t := by
  rw [← Array.getElem?_toList] at q
  obtain ⟨x, h1, h2⟩ := r.get' q
  obtain ⟨a, h3, h4⟩ := Vv e h1
  rw [VY x a h4] at h2
  rw [List.getD_eq_getElem?_getD, h3]
  exact h2.inv
theorem ZGq {P : AP} {h : Heap} {vs : Array Value} {xs : List PyData} {is : List Bool} (r : PRs P h vs.toList xs) (e : allOf boolOf xs = some is) (i : Nat) (v : Value) (q : vs[i]? = some v) : v = .bool (is.getD i true) := by
  rw [← Array.getElem?_toList] at q
  obtain ⟨x, h1, h2⟩ := r.get' q
  obtain ⟨a, h3, h4⟩ := Vv e h1
  rw [HQ x a h4] at h2
  rw [List.getD_eq_getElem?_getD, h3]
  exact h2.inv

theorem VK (is : List Int) : ∀ k, k ≤ is.length → preSum (fun i => is.getD i 0) k = (is.take k).sum
  | 0, _ => rfl
  | k + 1, h => by
    have hk : k < is.length := h
    have e : (is.take (k + 1)).sum = (is.take k).sum + is[k] := by rw [List.take_add_one, List.getElem?_eq_getElem hk, List.sum_append]; simp
    rw [preSum, VK is k (Nat.le_of_lt hk), e]
    simp [hk]
theorem UF : ∀ (r : List Int) (a : Int), (r.foldl max a ∈ a :: r) ∧ ∀ x ∈ a :: r, x ≤ r.foldl max a
  | [], a => by simp
  | b :: r, a => by
    obtain ⟨h1, h2⟩ := UF r (max a b)
    simp only [List.foldl_cons]
    refine ⟨?_, fun x hx => ?_⟩
    · rcases List.mem_cons.mp h1 with e | e
      · rw [e]; rcases Int.le_total a b with q | q
        · rw [Int.max_eq_right q]; simp
        · rw [Int.max_eq_left q]; simp
      · simp [e]
    · have h3 := h2 (max a b) (by simp)
      simp only [List.mem_cons] at hx
      rcases hx with rfl | rfl | hx
      · exact Int.le_trans (Int.le_max_left _ _) h3
      · exact Int.le_trans (Int.le_max_right _ _) h3
      · exact h2 x (by simp [hx])
theorem UG : ∀ (r : List Int) (a : Int), (r.foldl min a ∈ a :: r) ∧ ∀ x ∈ a :: r, r.foldl min a ≤ x
  | [], a => by simp
  | b :: r, a => by
    obtain ⟨h1, h2⟩ := UG r (min a b)
    simp only [List.foldl_cons]
    refine ⟨?_, fun x hx => ?_⟩
    · rcases List.mem_cons.mp h1 with e | e
      · rw [e]; rcases Int.le_total a b with q | q
        · rw [Int.min_eq_left q]; simp
        · rw [Int.min_eq_right q]; simp
      · simp [e]
    · have h3 := h2 (min a b) (by simp)
      simp only [List.mem_cons] at hx
      rcases hx with rfl | rfl | hx
      · exact Int.le_trans h3 (Int.min_le_left _ _)
      · exact Int.le_trans h3 (Int.min_le_right _ _)
      · exact h2 x (by simp [hx])
theorem ZAg {is : List Int} {m : Int} (h : maxL is = some m) : m ∈ is ∧ ∀ x ∈ is, x ≤ m := by
  cases is with
  | nil => cases h
  | cons a r => cases h; exact UF r a
theorem ZAl {is : List Int} {m : Int} (h : minL is = some m) : m ∈ is ∧ ∀ x ∈ is, m ≤ x := by
  cases is with
  | nil => cases h
  | cons a r => cases h; exact UG r a
theorem ZHx {is : List Int} {m : Int} (h1 : m ∈ is) (h2 : ∀ x ∈ is, x ≤ m) : maxL is = some m := by
  cases e : maxL is with
  | none => cases is with | nil => cases h1 | cons => cases e
  | some m' => obtain ⟨a, b⟩ := ZAg e; exact congrArg some (Int.le_antisymm (h2 m' a) (b m h1))
theorem ZHz {is : List Int} {m : Int} (h1 : m ∈ is) (h2 : ∀ x ∈ is, m ≤ x) : minL is = some m := by
  cases e : minL is with
  | none => cases is with | nil => cases h1 | cons => cases e
  | some m' => obtain ⟨a, b⟩ := ZAl e; exact congrArg some (Int.le_antisymm (b m h1) (h2 m' a))
theorem Qp : ∀ {a b : List Int}, a.Perm b → a.Pairwise (· ≤ ·) → b.Pairwise (· ≤ ·) → a = b
  | [], b, p, _, _ => by rw [List.nil_perm] at p; exact p.symm
  | x :: a, [], p, _, _ => by rw [List.perm_nil] at p; cases p
  | x :: a, y :: b, p, h1, h2 => by
    obtain ⟨h1a, h1b⟩ := List.pairwise_cons.mp h1
    obtain ⟨h2a, h2b⟩ := List.pairwise_cons.mp h2
    have hxy : x = y := by
      have mx : x ∈ y :: b := p.mem_iff.mp (by simp)
      have my : y ∈ x :: a := p.mem_iff.mpr (by simp)
      rcases List.mem_cons.mp mx with e | e
      · exact e
      · rcases List.mem_cons.mp my with e' | e'
        · exact e'.symm
        · exact Int.le_antisymm (h1a y e') (h2a x e)
    subst hxy
    rw [Qp (List.Perm.cons_inv p) h1b h2b]
theorem UW (is : List Int) : (sortI is).Pairwise (· ≤ ·) := by
  have := List.pairwise_mergeSort (le := fun a b : Int => decide (a ≤ b)) (by intro a b c h1 h2; simp at *; lia) (by intro a b; simp; lia) is
  exact this.imp (by intro a b h; simpa using h)
theorem Gw (is : List Int) : (sortI is).Perm is := List.mergeSort_perm ..
theorem Wt {a is : List Int} (p : a.Perm is) (h : a.Pairwise (· ≤ ·)) : a = sortI is := Qp (p.trans (Gw is).symm) h (UW is)
theorem UV {a is : List Int} (p : a.Perm is) (h : a.Pairwise (· ≥ ·)) : a = (sortI is).reverse := by
  have := Wt (a := a.reverse) (is := is) ((List.reverse_perm a).trans p) (List.pairwise_reverse.mpr (h.imp fun q => q))
  rw [← this, List.reverse_reverse]

section
variable {c : Cf} {s : Shared} {v v2 : Value} {u u2 : V} {x : PyData} {xs : List PyData} {K : V → Prop} {Q : Value → Shared → Prop}
theorem Xi {h h' h'' : Heap} (k : Keep h h') (q : ∀ b o, b ∉ [h.objs.size] → h'.get? b = some o → h''.get? b = some o) : Keep h h'' := fun b o e =>
  q b o (fun z => JJ (List.mem_singleton.mp z ▸ e) (Jc h)) (k b o e)
theorem ZDw (r : PR c.fr s.heap v x) (e : seqOf x = some xs) (hz : xs.length < lim) (k : Ret c s (.d (.int xs.length)) Q) : c.wp (call (.builtin "len") [v]) Q s := by
  have hz := QE hz (Nat.le_refl _)
  cases x with
  | list ys =>
    cases e
    obtain ⟨a, vs, n, rfl, _, ho, q⟩ := r.inv
    exact Calls.call_len_list ⟨_, ho, rfl, n, rfl⟩ (by rw [q.size]; lia) (by rw [q.size]; exact k.int _ _)
  | tuple ys =>
    cases e
    obtain ⟨a, vs, n, rfl, _, ho, q⟩ := r.inv
    exact len_tuple ⟨_, ho, rfl, n, rfl⟩ (by rw [q.size]; lia) (by rw [q.size]; exact k.int _ _)
  | _ => cases e
theorem ZFf {is : List Int} (hk : HOk c.hm c.A s.heap) (r : PR c.fr s.heap v x) (e : seqOf x = some xs) (ei : allOf intOf xs = some is) (k : Ret c s (.d (.int is.sum)) Q) : c.wp (call (.builtin "sum") [v]) Q s := by
  refine call_sum_walkG (XD (A := c.A.in1) (hm := c.hm) hk r e fun h' vs q kh it => ?_)
  obtain ⟨fp, St, W, st, lt, _⟩ := it
  refine ⟨_, fp, _, _, _, St, fun i => is.getD i 0, rfl, W, st, fun b hb => (lt b hb).1, int_at q ei, fun h'' tk t' kk => ?_⟩
  rw [← QL ei, VK is _ (Nat.le_refl _), List.take_length]
  exact k.kint t' (Xi kh kk) tk
theorem HO {is : List Int} {j : Nat} (h : j < is.length) : is.getD j 0 ∈ is := by
  rw [List.getD_eq_getElem?_getD, List.getElem?_eq_getElem h]; exact List.getElem_mem h
theorem ZEf {is : List Int} {m : Int} (hk : HOk c.hm c.A s.heap) (r : PR c.fr s.heap v x) (e : seqOf x = some xs) (ei : allOf intOf xs = some is) (em : maxL is = some m) (k : Ret c s (.d (.int m)) Q) : c.wp (call (.builtin "max") [v]) Q s := by
  refine call_max_walk (XD (A := c.A.in1) (hm := c.hm) hk r e fun h' vs q kh it => ?_)
  obtain ⟨fp, St, W, st, lt, _⟩ := it
  have l := QL ei
  have hpos : 0 < is.length := by cases is with | nil => cases em | cons => exact Nat.succ_pos _
  refine ⟨_, fp, _, _, _, St, _, rfl, W, st, fun b hb => (lt b hb).1, by rw [← l]; exact hpos, CmpOf.ints_gt (fun i => is.getD i 0) (int_at q ei), fun w h'' tk p kk => ?_⟩
  obtain ⟨t, rfl⟩ := int_at q ei _ w p
  obtain ⟨b1, b2⟩ := argBest_gt (fun i => is.getD i 0) (xs.length - 1)
  rw [← l] at b1 b2 ⊢
  have em' := ZHx (HO (is := is) (j := argBest (fun i j => decide (is.getD i 0 > is.getD j 0)) (is.length - 1)) (Nat.lt_of_le_of_lt b1 (Nat.sub_lt hpos Nat.one_pos))) (fun y hy => by
      obtain ⟨j, hj, rfl⟩ := List.getElem_of_mem hy
      have := b2 j (Nat.le_sub_one_of_lt hj)
      rwa [List.getD_eq_getElem?_getD (i := j), List.getElem?_eq_getElem hj] at this)
  rw [em] at em'
  cases em'
  exact k.kint t (Xi kh kk) tk
theorem ZEi {is : List Int} {m : Int} (hk : HOk c.hm c.A s.heap) (r : PR c.fr s.heap v x) (e : seqOf x = some xs) (ei : allOf intOf xs = some is) (em : minL is = some m) (k : Ret c s (.d (.int m)) Q) : c.wp (call (.builtin "min") [v]) Q s := by
  refine call_min_walk (XD (A := c.A.in1) (hm := c.hm) hk r e fun h' vs q kh it => ?_)
  obtain ⟨fp, St, W, st, lt, _⟩ := it
  have l := QL ei
  have hpos : 0 < is.length := by cases is with | nil => cases em | cons => exact Nat.succ_pos _
  refine ⟨_, fp, _, _, _, St, _, rfl, W, st, fun b hb => (lt b hb).1, by rw [← l]; exact hpos, CmpOf.ints_lt (fun i => is.getD i 0) (int_at q ei), fun w h'' tk p kk => ?_⟩
  obtain ⟨t, rfl⟩ := int_at q ei _ w p
  obtain ⟨b1, b2⟩ := argBest_lt (fun i => is.getD i 0) (xs.length - 1)
  rw [← l] at b1 b2 ⊢
  have em' := ZHz (HO (is := is) (j := argBest (fun i j => decide (is.getD i 0 < is.getD j 0)) (is.length - 1)) (Nat.lt_of_le_of_lt b1 (Nat.sub_lt hpos Nat.one_pos))) (fun y hy => by
      obtain ⟨j, hj, rfl⟩ := List.getElem_of_mem hy
      have := b2 j (Nat.le_sub_one_of_lt hj)
      rwa [List.getD_eq_getElem?_getD (i := j), List.getElem?_eq_getElem hj] at this)
  rw [em] at em'
  cases em'
  exact k.kint t (Xi kh kk) tk
theorem HJ {bs : List Bool} : (List.range bs.length).all (fun i => bs.getD i true) = bs.all id := by
  rw [Bool.eq_iff_iff, List.all_eq_true, List.all_eq_true]
  constructor
  · intro H y hy
    obtain ⟨j, hj, rfl⟩ := List.getElem_of_mem hy
    have := H j (List.mem_range.mpr hj)
    rwa [List.getD_eq_getElem?_getD, List.getElem?_eq_getElem hj] at this
  · intro H j hj
    have hj := List.mem_range.mp hj
    rw [List.getD_eq_getElem?_getD, List.getElem?_eq_getElem hj]
    exact H _ (List.getElem_mem hj)
theorem ZCl {bs : List Bool} (hk : HOk c.hm c.A s.heap) (r : PR c.fr s.heap v x) (e : seqOf x = some xs) (ei : allOf boolOf xs = some bs) (k : Ret c s (.d (.bool (bs.all id))) Q) : c.wp (call (.builtin "all") [v]) Q s := by
  refine call_all_walk (XD (A := c.A.in1) (hm := c.hm) hk r e fun h' vs q kh it => ?_)
  obtain ⟨fp, St, W, st, lt, _⟩ := it
  refine ⟨_, fp, _, _, _, St, fun i => bs.getD i true, rfl, W, st, fun i v s Q E p hq => ?_, fun h'' tk kk => ?_⟩
  · rw [ZGq q ei i v p]; exact wpAny_truthy_bool hq
  · rw [← QL ei, HJ]
    exact k.kbool (Xi kh kk) tk
theorem UJ (a : AtC c s) (h : IsL c.hid s.heap v xs) (hz : xs.length < lim) (k : Ret c s (.own (.list xs)) Q) : c.wp (call (.type "list") [v]) Q s := by
  obtain ⟨l, vs, n, rfl, ho, r⟩ := h
  exact call_list_seq l (.inl rfl) ho rfl rfl (fun h' c' kh e => k.new a kh (Jc _) e r _) (by rw [r.size]; exact QE hz (by rw [sizeLine_eq]; decide))
theorem UP {ks : List Int} {i : Nat} {y : PyData} (e : (ofInts ks)[i]? = some y) : ∃ k, ks[i]? = some k ∧ y = .int k := by
  unfold ofInts at e
  rw [List.getElem?_map] at e
  obtain ⟨k, h1, h2⟩ := Option.map_eq_some_iff.mp e
  exact ⟨k, h1, h2.symm⟩
theorem Hx (W : WfC c) (a : At c s) (hh : c.A.handled = none) (r : c.R s v u) : All (keysV u) fun xs => xs.length < lim → Ret c s (.own (.list xs)) Q → c.wp (call (.type "list") [v]) Q s := by
  cases u with
  | brw x =>
    cases x with
    | dict kvs =>
      refine .map fun ks e hz k => ?_
      obtain ⟨d, es, n, rfl, nP, ho, rk, rv, ok⟩ := PR.inv r
      have hz' : ks.length < lim := by rw [ofInts, List.length_map] at hz; exact hz
      refine ZEc hh ok.off (ZCb (prog := c.G.prog) (w := c.G.w) ho rk rv ok e) (by rw [List.length_map]; exact QE hz' (by rw [sizeLine_eq]; decide)) fun h' tk acc' c' kh e hacc => k.new a.toAtC kh (Jc _) e (PRs.of ?_ fun i w y e1 e2 => ?_) tk
      · rw [Array.length_toList, hacc.1, List.length_map, ofInts, List.length_map]
      · obtain ⟨k, h1, rfl⟩ := UP e2
        rw [Array.getElem?_toList] at e1
        obtain ⟨k', x, h2, h3⟩ := hacc.2 i w e1
        rw [List.getElem?_map, h1] at h2
        cases h2
        obtain ⟨t, rfl⟩ := Value.isInt_shape h3
        exact .int k t
    | _ => exact fun xs e hz k => UJ a.toAtC (W.ls a.toAtC r xs e) hz k
  | rg n =>
    refine .so fun hz k => ?_
    obtain ⟨r, t1, t2, t3, rfl, nr, l, ir⟩ := r
    rw [QX] at l
    refine call_list_range (n := n.toNat) hh ir (small_one (by lia) (by lia) (by lia) (by lia)) (by rw [rangeSize_one]; split <;> lia) (by lia) fun h' tk acc' c' kh e hacc => k.new a.toAtC kh (Jc _) e (PRs.of ?_ fun i w y e1 e2 => ?_) tk
    · rw [Array.length_toList, hacc.1, ofInts, List.length_map, rangeL, List.length_map, List.length_range]
    · obtain ⟨k, h1, rfl⟩ := UP e2
      rw [Array.getElem?_toList] at e1
      obtain ⟨t, rfl⟩ := hacc.2 i w e1
      rw [rangeL, List.getElem?_map] at h1
      obtain ⟨j, e4, rfl⟩ := Option.map_eq_some_iff.mp h1
      obtain ⟨_, e3⟩ := List.getElem?_eq_some_iff.mp e4
      rw [List.getElem_range] at e3
      subst e3
      rw [Int.zero_add, Int.mul_one]
      exact .int _ t
  | _ => exact fun xs e hz k => UJ a.toAtC (W.ls a.toAtC r xs e) hz k
theorem HE (W : WfC c) (a : AtC c s) (h : IsL c.hid s.heap v xs) (hz : xs.length < lim) (k : Ret c s (.d (.tuple xs)) Q) : c.wp (call (.type "tuple") [v]) Q s := by
  obtain ⟨l, vs, n, rfl, ho, r⟩ := h
  refine call_tuple_list ⟨_, ho, rfl, n, rfl⟩ (fun h' kh => ?_) (by rw [r.size]; exact QE hz (by rw [sizeLine_eq]; decide))
  exact W.tup (s := { s with heap := h' }) (fun v s' x m => k v s' ((Ext.of kh).trans x) m) (a.go (Ext.of kh) ⟨rfl, rfl⟩) 0 (r.move fun b o hb q => ⟨hb, kh b o q⟩)
theorem VB (h : Heap) : h.get? (h.objs.size + 1) = none := Qe fun o z => absurd (Heap.lt_size z) (Nat.not_lt.mpr (Nat.le_succ _))
theorem Uw (a : AtC c s) (h : IsL c.fr s.heap v xs) {is : List Int} (ei : allOf intOf xs = some is) (hz : is.length < 64) (k : Ret c s (.own (.list (ofInts (sortI is)))) Q) : c.wp (call (.builtin "sorted") [v]) Q s := by
  obtain ⟨l, vs, n, rfl, ho, r⟩ := h
  have I := r.intsAre ei
  have ln := I.length
  refine sorted_ints (l := l) (vs := vs.toList) ⟨_, ho, rfl, n, rfl⟩ I (by lia) fun out ns' q p o => ?_
  obtain ⟨e, he⟩ := sortedAll_at s.heap vs.toList out
  rw [← Wt p o] at k
  exact k.new a (fun _ _ => sortedAll_old) (VB _) he (Qd q) _
theorem tup_eq' (x : PyData) : All (tupOf x) fun t => ∃ ys, x = .tuple ys ∧ allOf intOf ys = some t := by
  cases x with
  | tuple ys => exact fun t e => ⟨ys, rfl, e⟩
  | _ => exact .no
theorem allOf_cons' {α : Type} {f : PyData → Option α} {x : PyData} {r : List PyData} {ts : List α} (e : allOf f (x :: r) = some ts) : ∃ a as, ts = a :: as ∧ f x = some a ∧ allOf f r = some as := by
  obtain ⟨a, h1, h2⟩ := Option.bind_eq_some_iff.mp e
  obtain ⟨as, h3, h4⟩ := Option.map_eq_some_iff.mp h2
  exact ⟨a, as, h4.symm, h1, h3⟩
theorem PRs.tks {P : AP} {h : Heap} {xs : List PyData} : ∀ {vs : List Value} {ts : List (List Int)}, PRs P h vs xs → allOf tupOf xs = some ts → [] ∉ ts → TKs h vs ts := by
  induction xs with
  | nil => intro vs ts r e ne; cases e; rw [show vs = [] from r.inv]; exact .nil
  | cons x xs ih =>
    intro vs ts r e ne
    obtain ⟨t, us, rfl, h1, h2⟩ := allOf_cons' e
    obtain ⟨v, ws, rfl, a, b⟩ := r.inv
    obtain ⟨ys, rfl, h3⟩ := tup_eq' x t h1
    obtain ⟨z, items, m, rfl, _, ho, q⟩ := a.inv
    exact .cons ⟨z, items, m, rfl, ho, q.intsAre h3⟩ (fun e => ne (e ▸ .head _)) (ih b h2 fun q => ne (.tail _ q))
theorem TKs.prs {P : AP} {h : Heap} (n : ∀ b, P b → Is h b) {vs : List Value} {ts : List (List Int)} (r : TKs h vs ts) : PRs P h vs (ofTups ts) := by
  induction r with
  | nil => exact .nil
  | cons a _ _ ih =>
    obtain ⟨z, items, m, rfl, ho, I⟩ := a
    exact .cons (.tuple (fun q => Qx (n z q) ho) ho (Qd I)) ih
theorem ZEz {ts' ts : List (List Int)} (p : ts'.Perm ts) (h : ts'.Pairwise (· < ·)) : ts' = sortT ts := by
  refine List.Perm.eq_of_pairwise (le := fun a b : List Int => a ≤ b) (fun x y _ _ p q => List.le_antisymm p q) (h.imp List.le_of_lt) ?_ (p.trans (List.mergeSort_perm _ _).symm)
  exact (List.pairwise_mergeSort (le := fun a b : List Int => decide (a ≤ b)) (fun a b c h1 h2 => decide_eq_true (List.le_trans (of_decide_eq_true h1) (of_decide_eq_true h2))) (fun a b => by rw [Bool.or_eq_true, decide_eq_true_iff, decide_eq_true_iff]; exact List.le_total a b) ts).imp fun h => of_decide_eq_true h
theorem Gx (a : AtC c s) (h : IsL c.fr s.heap v xs) {ts : List (List Int)} (ei : allOf tupOf xs = some ts) (hz : ts.length < 64) (nd : ts.Nodup) (ne : [] ∉ ts) (k : Ret c s (.own (.list (ofTups (sortT ts)))) Q) : c.wp (call (.builtin "sorted") [v]) Q s := by
  obtain ⟨l, vs, n, rfl, ho, r⟩ := h
  have I := r.tks ei ne
  refine Ux (l := l) (vs := vs.toList) ⟨_, ho, rfl, n, rfl⟩ I nd (by rw [I.length]; exact hz) fun out ts' q p o => ?_
  obtain ⟨e, he⟩ := sortedAll_at s.heap vs.toList out
  rw [← ZEz p o] at k
  exact k.new a (fun _ _ => sortedAll_old) (VB _) he (q.prs a.dom) _
theorem ZJs (k : Int) {vs : List Value} {is : List Int} (I : IntsAre vs is) : k ∈ is → ∃ hj : is.idxOf k < vs.length, isInt k vs[is.idxOf k] = true ∧ ∀ m (hm : m < vs.length), m < is.idxOf k → isInt k vs[m] = false := by
  induction I with
  | nil => exact fun h => nomatch h
  | cons n t r ih =>
    rename_i vs' is'
    intro h
    by_cases c : n = k
    · subst c
      have e : (n :: is').idxOf n = 0 := List.idxOf_cons_self
      simp only [e]
      exact ⟨Nat.succ_pos _, by simp [isInt], fun m _ lt => absurd lt (Nat.not_lt_zero _)⟩
    · obtain ⟨hj, h1, h2⟩ := ih ((List.mem_cons.mp h).resolve_left fun e => c e.symm)
      have e : (n :: is').idxOf k = is'.idxOf k + 1 := by rw [List.idxOf_cons, beq_eq_false_iff_ne.mpr c]; rfl
      simp only [e]
      refine ⟨Nat.succ_lt_succ hj, h1, fun m hm lt => ?_⟩
      cases m with
      | zero => simp [isInt, c]
      | succ m => exact h2 m (Nat.lt_of_succ_lt_succ hm) (Nat.lt_of_succ_lt_succ lt)
theorem GU {k : Int} {t : Tok} {is : List Int} (h : IsL c.fr s.heap v xs) (ei : allOf intOf xs = some is) (hk : k ∈ is) (hz : is.length < lim) (kk : Ret c s (.d (.int (is.idxOf k))) Q) : c.wp (call (.builtin "list.index") [v, .int k t]) Q s := by
  obtain ⟨l, vs, n, rfl, ho, r⟩ := h
  have I := r.intsAre ei
  obtain ⟨hj, h1, h2⟩ := ZJs k I hk
  have hj' : is.idxOf k < vs.size := by simpa using hj
  have ln := I.length
  rw [Array.length_toList] at ln
  rw [QX] at hz
  exact call_meets PySem.F.slot_list_index ⟨_, ho, rfl⟩ PySem.F.entry_list_index (PySem.F.args_list_index_2 _ _) (MeetsSeq.list_index l vs n (.int k t) (isInt k) (fun y hy => eq_isInt k t I y (by simpa using hy)) (is.idxOf k) hj' (by lia) (by simpa using h1) fun m hm lt => by have q := h2 m (by simpa using hm) lt; rwa [Array.getElem_toList] at q) ⟨ho, kk.int _ _⟩
theorem UX (a : AtC c s) (h : IsL c.fr s.heap v xs) {is : List Int} (ei : allOf intOf xs = some is) (hz : is.length < 64) (k : Ret c s (.own (.list (ofInts (sortI is).reverse))) Q) : c.wp (call (.builtin "sorted") [v] [(Str.ofString "reverse", .bool true)]) Q s := by
  obtain ⟨l, vs, n, rfl, ho, r⟩ := h
  have I := r.intsAre ei
  have ln := I.length
  refine sorted_ints_rev (l := l) (vs := vs.toList) ⟨_, ho, rfl, n, rfl⟩ I (by lia) fun out ns' q p o => ?_
  obtain ⟨e, he⟩ := sortedAll_at s.heap vs.toList out
  rw [← UV p o] at k
  exact k.new a (fun _ _ => sortedAll_old) (VB _) he (Qd q) _
theorem Gs {i : Int} {t : Tok} (W : WfC c) (a : AtC c s) (l : -(lim : Int) < i ∧ i < lim) (k : Ret c s (.rg i) Q) : c.wp (call (.type "range") [.int i t]) Q s :=
  call_range_1 (k _ { s with heap := _, toks := _ } (Ext.of (JU _ _)) ⟨rfl, rfl⟩ ⟨_, _, _, _, rfl, W.new_fr (a.ext.gone (Jc _)), l, IsRange.new _ _ _ _ _ _ _⟩)
theorem ZAe {a b : Int} {t t' : Tok} (hh : c.A.handled = none) (k : Ret c s (.d (.int (max a b))) Q) : c.wp (call (.builtin "max") [.int a t, .int b t']) Q s :=
  max_two_ints hh fun h' tk kh => by
    by_cases q : b > a
    · rw [if_pos q]; rw [Int.max_eq_right (Int.le_of_lt q)] at k; exact k.kint _ kh tk
    · rw [if_neg q]; rw [Int.max_eq_left (Int.not_lt.mp q)] at k; exact k.kint _ kh tk
theorem ZAk {a b : Int} {t t' : Tok} (hh : c.A.handled = none) (k : Ret c s (.d (.int (min a b))) Q) : c.wp (call (.builtin "min") [.int a t, .int b t']) Q s :=
  min_two_ints hh fun h' tk kh => by
    by_cases q : b < a
    · rw [if_pos q]; rw [Int.min_eq_right (Int.le_of_lt q)] at k; exact k.kint _ kh tk
    · rw [if_neg q]; rw [Int.min_eq_left (Int.not_lt.mp q)] at k; exact k.kint _ kh tk

noncomputable def F1.callee : F1 → Value
  | .len => .builtin "len"
  | .sum => .builtin "sum"
  | .max => .builtin "max"
  | .min => .builtin "min"
  | .list => .type "list"
  | .tuple => .type "tuple"
  | .sorted => .builtin "sorted"
  | .int => .type "int"
  | .all => .builtin "all"
  | .range => .type "range"
  | _ => .none
noncomputable def F2.callee : F2 → Value
  | .max => .builtin "max"
  | .min => .builtin "min"
  | .index => .none
noncomputable def isBT : Value → Bool
  | .builtin _ => true
  | .type _ => true
  | _ => false
theorem Um : ∀ p ∈ f1Names, bootBuiltins p.1 = some p.2.callee ∧ p.1 ∈ usedNames ∧ isBT p.2.callee = true := by decide +kernel
theorem ZHb : ∀ p ∈ f2Names, bootBuiltins p.1 = some p.2.callee ∧ p.1 ∈ usedNames ∧ isBT p.2.callee = true := by decide +kernel
theorem ZGz (W : WfC c) (a : At c s) (r : c.R s v u) (k : Fin c s K Q) {f : F1} (hf : isBT f.callee = true) (hq : f.quiet = false → c.hm = false) (w : f.W u K) : c.wp (call f.callee [v]) Q s := by
  cases f with
  | len => exact ZR w fun x e1 w => ZR w fun xs e2 w => ZDw (W.rdf r x e1) e2 w.1 (W.ret a k w.2)
  | sum => exact ZR w fun x e1 w => ZR w fun xs e2 w => ZR w fun is e3 w => ZFf a.hok (W.rdf r x e1) e2 e3 (W.ret a k w)
  | max => exact ZR w fun x e1 w => ZR w fun xs e2 w => ZR w fun is e3 w => ZR w fun m e4 w => ZEf a.hok (W.rdf r x e1) e2 e3 e4 (W.ret a k w)
  | min => exact ZR w fun x e1 w => ZR w fun xs e2 w => ZR w fun is e3 w => ZR w fun m e4 w => ZEi a.hok (W.rdf r x e1) e2 e3 e4 (W.ret a k w)
  | list => exact ZR w fun xs e1 w => Hx W a (HOk.none (hq rfl ▸ a.hok)) r xs e1 w.1 (W.ret a k w.2)
  | tuple => exact ZR w fun xs e1 w => HE W a.toAtC (W.ls a.toAtC r xs e1) w.1 (W.ret a k w.2)
  | sorted =>
    refine ZR w fun x e1 w => ZR w fun xs e2 w => ?_
    revert w
    cases e3 : allOf intOf xs with
    | some is => exact fun w => Uw a.toAtC ((W.rdf r x e1).isL e2) e3 w.1 (W.ret a k w.2)
    | none => exact fun w => ZR w fun ts e4 w => Gx a.toAtC ((W.rdf r x e1).isL e2) e4 w.1.1 w.1.2.1 w.1.2.2 (W.ret a k w.2)
  | int =>
    refine ZR w fun b e1 w => ?_
    obtain rfl := r.bool e1
    have := (W.ret a k w).int
    exact call_int_bool (by cases b <;> exact this _ _)
  | all => exact ZR w fun x e1 w => ZR w fun xs e2 w => ZR w fun is e3 w => ZCl a.hok (W.rdf r x e1) (Xp x xs e2 ▸ rfl) e3 (W.ret a k w)
  | range =>
    refine ZR w fun i e1 w => ?_
    obtain ⟨t, rfl⟩ := r.int e1
    exact Gs W a.toAtC w.1 (W.ret a k w.2)
  | _ => exact nomatch hf
theorem ZHc (W : WfC c) (a : At c s) (r : c.R s v u) (r2 : c.R s v2 u2) (hh : c.hm = false) (k : Fin c s K Q) {f : F2} (hf : isBT f.callee = true) (w : f.W u u2 K) : c.wp (call f.callee [v, v2]) Q s := by
  have hn : c.A.handled = none := HOk.none (hh ▸ a.hok)
  cases f with
  | max =>
    refine ZR w fun i e1 w => ZR w fun j e2 w => ?_
    obtain ⟨t1, rfl⟩ := r.int e1
    obtain ⟨t2, rfl⟩ := r2.int e2
    exact ZAe hn (W.ret a k w)
  | min =>
    refine ZR w fun i e1 w => ZR w fun j e2 w => ?_
    obtain ⟨t1, rfl⟩ := r.int e1
    obtain ⟨t2, rfl⟩ := r2.int e2
    exact ZAk hn (W.ret a k w)
  | index => exact nomatch hf
end
end TC

namespace TC
open PySem PySem.W PyProof.Rows

section
variable {c : Cf} {s : Shared} {v v2 : Value} {u u2 : V} {x y : PyData} {xs ys : List PyData} {K : V → Prop} {Q : Value → Shared → Prop}
theorem Uu {k : Int} (ei : idxD xs k = some y) : ∃ j, seqIndex? k xs.length = some j ∧ xs[j]? = some y ∧ (-(2 ^ 63) ≤ k ∧ k < 2 ^ 63) ∧ (0 ≤ k → j = k.toNat) ∧ (k < 0 → j = (k + xs.length).toNat ∧ -(xs.length : Int) ≤ k) := by
  unfold idxD at ei
  simp only [QX] at ei
  split at ei
  · rename_i q
    have := (List.getElem?_eq_some_iff.mp ei).1
    exact ⟨k.toNat, by simp [seqIndex?, show ¬ k < 0 by lia, q.1, show k < xs.length by lia], ei, by lia, fun _ => rfl, fun q => by lia⟩
  · split at ei
    · rename_i q
      exact ⟨(k + xs.length).toNat, by simp [seqIndex?, q.1, show 0 ≤ k + xs.length by lia, show k + (xs.length : Int) < xs.length by lia], by rw [Int.add_comm]; exact ei, by lia, fun q => by lia, fun q => ⟨rfl, by lia⟩⟩
    · cases ei
theorem WY {P : AP} {k : Int} {t : Tok} {value slice : Expr} (r : PR P s.heap v x) (e : seqOf x = some xs) (ei : idxD xs k = some y) (h : ∀ w, PR P s.heap w y → Q w s) (hs : subscripted slice false v (.int k t) = operate [v, .int k t] (getItem v (.int k t))) : c.wp (subscriptTail value slice v (.int k t)) Q s := by
  obtain ⟨j, hj, hy, ⟨lo, hi⟩, n1, n2⟩ := Uu ei
  cases x with
  | list ys =>
    cases e
    obtain ⟨a, vs, n, rfl, _, ho, q⟩ := r.inv
    obtain ⟨v, hv, rv⟩ := q.get hy
    have hl : s.heap.IsList a vs := ⟨_, ho, rfl, n, rfl⟩
    rw [Array.getElem?_toList] at hv
    refine tail_any hl.typeIs slot_list_getitem.lookup ?_ hs
    by_cases z : 0 ≤ k
    · exact wpAny_getItem_list hl z hi (n1 z ▸ hv) (h v rv)
    · have z := Int.not_le.mp z
      exact wpAny_getItem_list_neg hl z (by rw [q.size]; exact (n2 z).2) lo (by rw [q.size, ← (n2 z).1]; exact hv) (h v rv)
  | tuple ys =>
    cases e
    obtain ⟨a, vs, n, rfl, _, ho, q⟩ := r.inv
    obtain ⟨v, hv, rv⟩ := q.get hy
    have hl : IsTup s.heap a vs := ⟨_, ho, rfl, n, rfl⟩
    rw [Array.getElem?_toList] at hv
    exact tail_any hl.typeIs slot_tuple_getitem.lookup (PyProof.Rows.getItem_tuple hl lo hi (by rw [q.size]; exact hj) hv (h v rv)) hs
  | _ => cases e
theorem ZAb (a : AtC c s) (r : PR c.fr s.heap v y) : c.R s v (low y) := by
  unfold low
  cases f : flat y with
  | false => exact r
  | true => exact Xm a.dom r f
theorem ZJt (W : WfC c) (a : At c s) (r : c.R s v u) {k : Int} {t : Tok} {value slice : Expr} (kk : Fin c s K Q) (w : got (idxV u k) K) (hs : subscripted slice false v (.int k t) = operate [v, .int k t] (getItem v (.int k t))) : c.wp (subscriptTail value slice v (.int k t)) Q s := by
  refine ZR w fun u' e w => ?_
  have kk : ∀ w', c.R s w' u' → Q w' s := fun w' r' => kk w' s u' a (Ext.refl _ _) r' w
  have plain : ∀ {y}, PR c.hid s.heap v y → ((seqOf y).bind (idxD · k)).map V.d = some u' → c.wp (subscriptTail value slice v (.int k t)) Q s := fun {y} r e => by
    obtain ⟨z, e', rfl⟩ := Option.map_eq_some_iff.mp e
    obtain ⟨zs, e1, e2⟩ := Option.bind_eq_some_iff.mp e'
    exact WY r e1 e2 kk hs
  cases u with
  | d y => exact plain r e
  | own y => exact plain (W.keep a.toAtC r y rfl) e
  | brw y =>
    obtain ⟨z, e', rfl⟩ := Option.map_eq_some_iff.mp e
    obtain ⟨zs, e1, e2⟩ := Option.bind_eq_some_iff.mp e'
    exact WY r e1 e2 (fun w' r' => kk w' (ZAb a.toAtC r')) hs
  | oh y z => exact r.elim
  | ot y z =>
    obtain ⟨t', v1, v2, m, rfl, nt, ht, r1, r2⟩ := r
    have hl : IsTup s.heap t' #[v1, v2] := ⟨_, ht, rfl, m, rfl⟩
    have ptR : ∀ {w' x}, PtV c.b.heap c.hid s.heap w' x → c.R s w' (pt x) := fun {w' x} r => by cases x <;> exact r
    by_cases k0 : k = 0
    · subst k0
      obtain rfl : pt y = u' := Option.some.inj e
      exact tail_any hl.typeIs slot_tuple_getitem.lookup (PyProof.Rows.getItem_tuple hl (show -(2 ^ 63 : Int) ≤ 0 by decide) (show (0 : Int) < 2 ^ 63 by decide) rfl rfl (kk _ (ptR r1))) hs
    · by_cases k1 : k = 1
      · subst k1
        obtain rfl : pt z = u' := Option.some.inj e
        exact tail_any hl.typeIs slot_tuple_getitem.lookup (PyProof.Rows.getItem_tuple hl (show -(2 ^ 63 : Int) ≤ 1 by decide) (show (1 : Int) < 2 ^ 63 by decide) rfl rfl (kk _ (ptR r2))) hs
      · replace e : cond (decide (k = 0)) (some (pt y)) (cond (decide (k = 1)) (some (pt z)) none) = some u' := e
        rw [decide_eq_false k0, decide_eq_false k1] at e
        exact nomatch e
  | exc k => exact nomatch e
  | rg n => exact nomatch e
theorem ZFt (a : AtC c s) (h : IsL c.hid s.heap v xs) (hz : xs.length < lim) {vl vu : Value} {lo hi : Option Int} {value slice : Expr} (pl : IsPart vl lo) (pu : IsPart vu hi) (hp : ∀ vs : Array Value, PRs c.hid s.heap vs.toList xs → PRs c.hid s.heap (slicePick vs lo hi none).toList ys) (k : Ret c s (.own (.list ys)) Q)
    (hs : subscripted slice false v (.ref s.heap.objs.size) = operate [.ref s.heap.objs.size, v] (getItem v (.ref s.heap.objs.size))) :
    c.wp (subscriptTail value slice v (.ref s.heap.objs.size)) Q { s with heap := s.heap.push { cls := .type "slice", data := .fields #[vl, vu, .none] } } := by
  obtain ⟨l, vs, n, rfl, ho, r⟩ := h
  have hl : s.heap.IsList l vs := ⟨_, ho, rfl, n, rfl⟩
  refine tail_any (Heap.IsList.typeIs (s := { s with heap := s.heap.push { cls := .type "slice", data := .fields #[vl, vu, .none] } }) (hl.push _)) list_getitem_lookup
    (wpAny_getItem_list_slice (hl.push _) (Heap.IsSliceOf.new ..) pl pu .none (by simp) ?_ (by rw [r.size]; exact QE hz (by rw [sizeLine_eq]; decide))) hs
  exact Ret.push (s := { s with heap := s.heap.push { cls := .type "slice", data := .fields #[vl, vu, .none] } }) (fun v s' x m => k v s' ((Ext.of (JU _ _)).trans x) m) (a.go (Ext.of (JU _ _)) ⟨rfl, rfl⟩) 0 ((hp vs r).move fun b o hb e => ⟨hb, JU _ _ b o e⟩)
theorem ZBh {P : AP} {h : Heap} {k : Int} (hk : 0 ≤ k) (vs : Array Value) (r : PRs P h vs.toList xs) : PRs P h (slicePick vs (some k) none none).toList (xs.drop k.toNat) := by
  obtain ⟨j, rfl⟩ := Int.eq_ofNat_of_zero_le hk
  show PRs P h (slicePick vs (some (j : Int)) none none).toList _
  rw [slicePick_from']
  simpa using r.drop j
theorem ZBi {P : AP} {h : Heap} {k : Int} (hk : 0 ≤ k) (vs : Array Value) (r : PRs P h vs.toList xs) : PRs P h (slicePick vs none (some k) none).toList (xs.take k.toNat) := by
  obtain ⟨j, rfl⟩ := Int.eq_ofNat_of_zero_le hk
  show PRs P h (slicePick vs none (some (j : Int)) none).toList _
  rw [slicePick_upto']
  simpa using r.take j
theorem fits (vs : List Value) (h : vs.length < 1000) : vs.toArray.size ≤ sizeLine := by rw [List.size_toArray, sizeLine_eq]; lia
theorem Gj (a : AtC c s) {vs : List Value} (r : PRs c.hid s.heap vs xs) (hz : vs.length < 1000) (k : Ret c s (.own (.list xs)) Q) : c.wp (newList vs) Q s := wpAny_newObj_type (k.push a 0 r) (fits vs hz)
theorem Uq (W : WfC c) (a : AtC c s) {vs : List Value} (r : PRs c.hid s.heap vs xs) (hz : vs.length < 1000) (k : Ret c s (.d (.tuple xs)) Q) : c.wp (newTuple vs) Q s := wpAny_newObj_type (W.tup k a 0 r) (fits vs hz)

noncomputable def tyStr : Ty → String
  | .int => "int"
  | .bool => "bool"
  | .list => "list"
  | .tuple => "tuple"
  | _ => "ValueError"
theorem ZDn (r : PR c.fr s.heap v x) (ty : Ty) (k : Ret c s (.d (.bool (ty.has x))) Q) : ty ≠ .valueError → (∀ j, ty ≠ .exc j) → c.wp (call (.builtin "isinstance") [v, .type (tyStr ty)]) Q s := fun n1 n2 => by
  cases x with
  | none => obtain rfl := r.inv; cases ty with
    | int => exact PySem.IsiPair.NoneType_int (k.bool _)
    | bool => exact PySem.IsiPair.NoneType_bool (k.bool _)
    | list => exact PySem.IsiPair.NoneType_list (k.bool _)
    | tuple => exact PySem.IsiPair.NoneType_tuple (k.bool _)
    | exc j => exact absurd rfl (n2 j)
    | valueError => exact absurd rfl n1
  | bool b => obtain rfl := r.inv; cases ty with
    | int => exact PySem.IsiPair.bool_int k.bool'
    | bool => exact PySem.IsiPair.bool_bool k.bool'
    | list => exact PySem.IsiPair.bool_list (k.bool _)
    | tuple => exact PySem.IsiPair.bool_tuple (k.bool _)
    | exc j => exact absurd rfl (n2 j)
    | valueError => exact absurd rfl n1
  | int b => obtain ⟨t, rfl⟩ := r.inv; cases ty with
    | int => exact PySem.IsiPair.int_int k.bool'
    | bool => exact PySem.IsiPair.int_bool (k.bool _)
    | list => exact PySem.IsiPair.int_list (k.bool _)
    | tuple => exact PySem.IsiPair.int_tuple (k.bool _)
    | exc j => exact absurd rfl (n2 j)
    | valueError => exact absurd rfl n1
  | str b => obtain ⟨t, rfl⟩ := r.inv; cases ty with
    | int => exact PySem.IsiPair.str_int (k.bool _)
    | bool => exact PySem.IsiPair.str_bool (k.bool _)
    | list => exact PySem.IsiPair.str_list (k.bool _)
    | tuple => exact PySem.IsiPair.str_tuple (k.bool _)
    | exc j => exact absurd rfl (n2 j)
    | valueError => exact absurd rfl n1
  | list b =>
    obtain ⟨a, vs, n, rfl, _, ho, _⟩ := r.inv
    have hl : s.heap.IsList a vs := ⟨_, ho, rfl, n, rfl⟩
    cases ty with
    | int => exact PySem.IsiPair.isList_int hl (fun _ _ e => e) (k.bool _)
    | bool => exact PySem.IsiPair.isList_bool hl (fun _ _ e => e) (k.bool _)
    | list => exact PySem.IsiPair.isList_list hl (fun _ _ e => e) k.bool'
    | tuple => exact PySem.IsiPair.isList_tuple hl (fun _ _ e => e) (k.bool _)
    | exc j => exact absurd rfl (n2 j)
    | valueError => exact absurd rfl n1
  | tuple b =>
    obtain ⟨a, vs, n, rfl, _, ho, _⟩ := r.inv
    have hl : s.heap.IsTuple a vs := ⟨_, ho, rfl, n, rfl⟩
    cases ty with
    | int => exact PySem.IsiPair.isTuple_int hl (fun _ _ e => e) (k.bool _)
    | bool => exact PySem.IsiPair.isTuple_bool hl (fun _ _ e => e) (k.bool _)
    | list => exact PySem.IsiPair.isTuple_list hl (fun _ _ e => e) (k.bool _)
    | tuple => exact PySem.IsiPair.isTuple_tuple hl (fun _ _ e => e) k.bool'
    | exc j => exact absurd rfl (n2 j)
    | valueError => exact absurd rfl n1
  | dict b =>
    obtain ⟨a, vs, n, rfl, _, ho, _⟩ := r.inv
    cases ty with
    | int => exact PySem.IsiPair.dict_int ho rfl (k.bool _)
    | bool => exact PySem.IsiPair.dict_bool ho rfl (k.bool _)
    | list => exact PySem.IsiPair.dict_list ho rfl (k.bool _)
    | tuple => exact PySem.IsiPair.dict_tuple ho rfl (k.bool _)
    | exc j => exact absurd rfl (n2 j)
    | valueError => exact absurd rfl n1
theorem ZAy {P : AP} {h : Heap} (r : PR P h v x) : (v == .none) = isNon x := by
  have := r.inv
  cases x with
  | none => rw [show v = .none from this]; rfl
  | bool b => rw [show v = .bool b from this]; rfl
  | int b => obtain ⟨_, rfl⟩ := this; rfl
  | str b => obtain ⟨_, rfl⟩ := this; rfl
  | list b => obtain ⟨_, _, _, rfl, _⟩ := this; rfl
  | tuple b => obtain ⟨_, _, _, rfl, _⟩ := this; rfl
  | dict b => obtain ⟨_, _, _, rfl, _⟩ := this; rfl
end
end TC

namespace TC
open PySem PySem.W PyProof.Rows

section
variable {G : Gl} {A : Around} {E : Value → Shared → Prop} {s : Shared} {C : Addr} {M : Model}
set_option maxRecDepth 100000 in
theorem Hh {prog : Program} {w : World} {K : Frag} {x : Addr} {ox : Obj} {Q : Option Value → Shared → Prop} (X : K.In s.heap) (I : InstAt s.heap x ox C none) (hga : findIn K (.ref C) "__getattribute__" = some (some (.builtin "BaseException.__getattribute__"))) (hgt : findIn K (.ref C) "__getattr__" = some none)
    (hf : findObj K C none "__class__" = some (.bind (.builtin "getset_descriptor.__get__") (.builtin "object.__class__"))) (hmB : mroIn K C (.type "BaseException") = some true) (hm : mroIn K C (.type "object") = some true)
    (h : Q (some (.ref C)) { s with toks := s.toks + 1 }) : wpAny (model prog w) A (getAttr? (.ref x) "__class__") Q E s := by
  obtain ⟨hh, g, d, t, os⟩ := s
  have L0 := I.type (M := model prog w)
  have L1 := looks_findIn (M := model prog w) X hga
  have L2 := looks_findIn (M := model prog w) X hgt
  have L3 := looks_find (M := model prog w) X I hf
  have L4 := looks_mroIn (M := model prog w) X hmB
  unfold getAttr? getAttrBy? getAttrBy
  refine wpAny_bind (wpAny_mkText (wpAny_bind (wpAny_attempt (wpAny_holding (wpAny_bind (L0.at (wpAny_bind (L1.at ?_))))))))
  have hx2 : (Value.builtin "BaseException.__getattribute__" == Value.builtin "object.__getattribute__") = false := by decide +kernel
  have hx1 : (onTheHeap (Value.ref C) && Value.builtin "BaseException.__getattribute__" == Value.builtin "object.__getattribute__") = false := by rw [hx2]; rfl
  dsimp only
  rw [if_neg (by rw [hx1]; decide)]
  unfold getAttrByItsOwn hookBefore
  rw [if_pos (show onTheHeap (Value.ref C) = true from rfl)]
  refine wpAny_bind (L2.at (wpAny_bind (wpAny_attempt (wpAny_holding ?_))))
  unfold callGetattribute
  rw [if_neg (by decide)]
  unfold boundAndCalled
  rw [PySem.F.attr_ValueError.ga.bind (.ref x)]
  refine wpAny_bind (wpAny_pure (wpAny_call ?_))
  refine codeAny_call_builtin PySem.F.attr_ValueError.ga.plain PySem.F.entry_bexc_ga ?_
  have hk : builtinKind "BaseException.__getattribute__" = some .slot := by decide +kernel
  have hsplit : splitId "BaseException.__getattribute__" = some ("BaseException", "__getattribute__") := by decide +kernel
  have ha := PySem.F.args_bexc_ga (.ref x) (Value.str (Str.ofString "__class__") t)
  show wpAny _ _ (checkBuiltinCall _ ⟨[.ref x, Value.str (Str.ofString "__class__") t], []⟩) _ _ _
  simp only [checkBuiltinCall, hk, hsplit]
  unfold isInstance
  refine wpAny_bind (wpAny_bind (L0.at (L4.at ?_)))
  repeat (first | assumption | wp_step)
  refine wpAny_loadPart_at I.at_ ?_
  rw [I.cls]
  refine wpAny_pure (wpAny_bind (L3.at ?_))
  dsimp only
  repeat (first | assumption | wp_step)
  exact class_get (ox := ox) (od := none) X I hm (wpAny_pure (handed_on rfl (wpAny_pure h)))

theorem XI (O : G.Ok) {c : Nat} (hc : G.ca[c]? = some C) : (findIn G.K (.ref C) "__getattribute__" = some (some (.builtin "BaseException.__getattribute__")) ∧ findIn G.K (.ref C) "__getattr__" = some none ∧ mroIn G.K C (.type "BaseException") = some true) ∧ (clsIn G.K C).isSome = true ∧ findIn G.K (.ref C) "__class__" = some (some (.builtin "object.__class__")) ∧ specialIn G.K (.builtin "object.__class__") "__get__" = some (some (.builtin "getset_descriptor.__get__"))
    ∧ takesIn G.K (.builtin "object.__class__") = some true ∧ mroIn G.K C (.type "object") = some true ∧ mroIn G.K C (.type "ValueError") = some true ∧ typeIn G.K (.ref C) = some (.type "type") := by
  have q := O.cok c C hc
  unfold ownOk1 at q
  simp only [Bool.and_eq_true, beq_iff_eq] at q
  obtain ⟨⟨⟨⟨⟨⟨⟨⟨⟨q1, q1'⟩, q1''⟩, q2⟩, q3⟩, q4⟩, q5⟩, q6⟩, q7⟩, q8⟩ := q
  exact ⟨⟨q1, q1', q1''⟩, q2, q3, q4, q5, q6, q7, q8⟩
theorem VG (O : G.Ok) {c : Nat} {h : Heap} (hc : G.ca[c]? = some C) (X : G.K.In h) : Looks M h (isType (.ref C)) true := by
  obtain ⟨cd, e⟩ := Option.isSome_iff_exists.mp (XI O hc).2.1
  unfold clsIn at e
  split at e
  · rename_i ho
    exact fun A' Q' E' s' k q => wpAny_bind (wpAny_loadPart (k _ _ (X _ _ ho)) (wpAny_pure q))
  · cases e
theorem Hs (O : G.Ok) {c : Nat} {x : Addr} {o : Obj} {v : Value} {b : Bool} (hc : G.ca[c]? = some C) (X : G.K.In s.heap) (I : InstAt s.heap x o C none) (hb : (Value.ref C == v) = true → b = true) (hty : Looks (model G.prog G.w) s.heap (typeOf v) (.type "type")) (his : Looks (model G.prog G.w) s.heap (isType v) true)
    (hsub : Looks (model G.prog G.w) s.heap (isSubtype (.ref C) v) b) {Q : Value → Shared → Prop} (h : ∀ tk, Q (.bool b) { s with toks := tk }) : wpAny (model G.prog G.w) A (call (.builtin "isinstance") [.ref x, v]) Q E s := by
  obtain ⟨hg, hcl, ha, hn, htk, hm, _, _⟩ := XI O hc
  obtain ⟨cdD, hcD⟩ := Option.isSome_iff_exists.mp hcl
  have hf : findObj G.K C none "__class__" = some (.bind (.builtin "getset_descriptor.__get__") (.builtin "object.__class__")) := by
    unfold findObj; rw [hcD, ha]; simp only [Option.bind_some, hn, htk]
  have hit := VG (M := model G.prog G.w) O hc X
  refine call_isinstance_of ?_ (by intro q; cases q)
  have LT := I.type (M := model G.prog G.w)
  have LI : Looks (model G.prog G.w) s.heap (isInstance (.ref x) v) b := LT.andThen hsub
  unfold Builtin.«isinstance.nested»
  refine wpAny_bind (LT.at ?_)
  by_cases q : (Value.ref C == v) = true
  · rw [if_pos q]
    have e := hb q
    subst e
    exact wpAny_bind (wpAny_rule (wpAny_pure (h s.toks)))
  · rw [if_neg q]
    refine wpAny_bind (hty.at ?_)
    rw [if_pos (by decide)]
    k_delta "plainIsInstance"
    refine wpAny_bind (wpAny_bind (his.at ?_))
    rw [if_neg (by decide)]
    refine wpAny_bind (LI.at ?_)
    cases b with
    | true => exact wpAny_pure (wpAny_pure (h s.toks))
    | false =>
      rw [if_neg (by decide)]
      refine wpAny_bind (Hh X I hg.1 hg.2.1 hf hg.2.2 hm ?_)
      refine wpAny_bind (hit.at ?_)
      rw [if_neg (by decide)]
      exact wpAny_bind (wpAny_rule (hsub.at (wpAny_pure (h _))))
theorem VC : typeOf (.type "ValueError") = pure (.type "type") := by
  show (pure (Value.type ((Manifest.find? "ValueError").elim "type" fun x => x.metatype)) : Sem Value) = _
  rw [show ((Manifest.find? "ValueError").elim "type" fun x => x.metatype) = "type" from by kernel_rfl]
theorem WT {ca : List Addr} {c : Nat} {h : Heap} {v : Value} (x : ExcAt ca c h v) : ∃ e C, v = .ref e ∧ ca[c]? = some C ∧ ∃ o, InstAt h e o C none := by
  obtain ⟨e, o, vs, C, rfl, h1, h2, h3, h4, h5⟩ := x
  exact ⟨e, C, rfl, h1, o, h2, h3, by unfold notCls; rw [h5], by rw [h4]; trivial⟩
end
section
variable {c : Cf} {s : Shared} {v : Value} {u : V} {K : V → Prop} {Q : Value → Shared → Prop}
theorem WfC.inK (W : WfC c) (a : AtC c s) : c.G.K.In s.heap := W.ok.inK.keeps a.stk.base
theorem Un (W : WfC c) (a : AtC c s) {k k' : Nat} {C' : Addr} (x : ExcAt c.G.ca k s.heap v) (hc' : c.G.ca[k']? = some C') (h : Ret c s (.d (.bool (k' == 0 || k == k'))) Q) : c.wp (call (.builtin "isinstance") [v, .ref C']) Q s := by
  obtain ⟨e, C, rfl, hc, o, i⟩ := WT x
  have hs := W.ok.csub _ _ _ _ hc hc'
  have X := W.inK a
  refine Hs W.ok hc X i (fun q => ?_) (looks_typeIn X (XI W.ok hc').2.2.2.2.2.2.2) (VG W.ok hc' X) (looks_mroIn X hs) fun tk => h.bool tk
  have e1 : C = C' := Value.ref.inj (beq_iff_eq.mp q)
  subst e1
  have h1 := W.ok.csub _ _ _ _ hc hc
  rw [hs] at h1
  simpa using h1
theorem VZ (W : WfC c) (a : AtC c s) {k : Nat} (x : ExcAt c.G.ca k s.heap v) (h : Ret c s (.d (.bool true)) Q) : c.wp (call (.builtin "isinstance") [v, .type "ValueError"]) Q s := by
  obtain ⟨e, C, rfl, hc, o, i⟩ := WT x
  have X := W.inK a
  exact Hs W.ok hc X i (fun _ => rfl) (Looks.of_pure VC) (Looks.of_pure rfl) (looks_mroIn X (XI W.ok hc).2.2.2.2.2.2.1) fun tk => h.bool tk

theorem Jo {cx : Cx} {x : Str} {i : Nat} (h : cx.var x = some i) : (x == ("__debug__" : Str)) = false ∧ cx.tb.lookup x = some i ∧ isVar (cx.kd.lookup x) = true := by
  unfold Cx.var at h
  cases e : (x != "__debug__" && isVar (cx.kd.lookup x)) with
  | false => rw [e] at h; cases h
  | true =>
    rw [e] at h
    have q := Bool.and_eq_true_iff.mp e
    exact ⟨Bool.eq_false_iff.mpr fun z => bne_iff_ne.mp q.1 (beq_iff_eq.mp z), h, q.2⟩
theorem QC {x : Str} {pos : Pos} (O : EnvOk c.G c.cx c.env) (hd : (x == ("__debug__" : Str)) = false) (a : varAt c.env s.heap x v) (h : Q v s) : c.wp (eval (.Name x pos) c.env) Q s := by
  refine wpAny_Name ?_ hd
  rcases a with ⟨k, m, hn, hv⟩ | ⟨k | k, z, hc, hv⟩
  · exact wpAny_loadName_local O.kind k hn hv h
  · exact wpAny_loadName_cell O.kind k hc hv h
  · exact wpAny_loadName_free O.kind k hc hv h (O.nocd x (by rw [← O.names]; exact k))
theorem ZLa (W : Wf c) {x : Str} {pos : Pos} : All (c.cx.var x) fun i => OkE c (.Name x pos) (.nm i) := fun i hv s K Q a w k => by
  obtain ⟨h1, h2, _⟩ := Jo hv
  refine ZR w fun o e1 w => ZR w fun u e2 w => ?_
  obtain ⟨v, va, r⟩ := a.envr x i h2 u (e2 ▸ e1)
  exact QC W.envok h1 va (k v s _ a (Ext.refl _ _) r w)
theorem WV {cx : Cx} {x : Str} (h : cx.glob x = true) : cx.kd.lookup x = some .globalImplicit ∧ (x == ("__debug__" : Str)) = false ∧ x ≠ "__name__" := by
  unfold Cx.glob at h
  simp only [Bool.and_eq_true, beq_iff_eq, bne_iff_ne, ne_eq] at h
  exact ⟨h.1.1, Bool.eq_false_iff.mpr fun q => h.1.2 (beq_iff_eq.mp q), h.2⟩
theorem Xh (W : Wf c) (a : AtC c s) {x : Str} {pos : Pos} (hg : c.cx.glob x = true) (e : nsIn c.G.K mainGlobals x = some (some v)) (h : Q v s) : c.wp (eval (.Name x pos) c.env) Q s := by
  obtain ⟨h1, h2, _⟩ := WV hg
  refine Calls.Name_function_global W.envok.kind (by unfold Env.kindOf; rw [W.envok.names]; exact h1) (Calls.loadGlobal_global (mg := c.G.mg) ?_ (mg_of W.ok.inK W.ok.top.g e) h) h2
  rw [W.envok.glob]
  exact W.ok.top.g.keeps a.stk.base
theorem QF (W : Wf c) (a : AtC c s) {x : Str} {pos : Pos} (hg : c.cx.glob x = true) (m : x ∈ usedNames) (hv : bootBuiltins x = some v) (h : Q v s) : c.wp (eval (.Name x pos) c.env) Q s := by
  obtain ⟨h1, h2, h3⟩ := WV hg
  refine Calls.Name_function_global W.envok.kind (by unfold Env.kindOf; rw [W.envok.names]; exact h1) (Calls.loadGlobal_builtin (mg := c.G.mg) (mb := c.G.mb) ?_ (mg_none_of W.ok.inK W.ok.top.g (W.ok.bnm x m)) ?_ ((W.ok.top.builtins x h3).trans hv) h) h2
  · rw [W.envok.glob]; exact W.ok.top.g.keeps a.stk.base
  · rw [W.envok.bns]; exact W.ok.top.b.keeps a.stk.base

noncomputable abbrev Plain (pe : Expr) : Prop := ∀ env rest, starEach (pe :: rest) env = (false, eval pe env) :: starEach rest env
noncomputable abbrev NoSl (pe : Expr) : Prop := ∀ v w, subscripted pe false v w = operate [v, w] (getItem v w)
structure Ok (c : Cf) (pe : Expr) (e : E) : Prop where
  ev : OkE c pe e
  ts : OkT c pe e
  pl : Plain pe
  ns : NoSl pe
noncomputable def OkL (c : Cf) : List Expr → Es → Prop
  | [], .nil => True
  | p :: ps, .cons e es => Ok c p e ∧ OkL c ps es
  | _, _ => False
theorem QV {f : Expr → Option TC.E} {es : List Expr} (h : ∀ pe, All (f pe) (Ok c pe)) : All (lowL f es) (OkL c es) := by
  induction es with
  | nil => exact .so trivial
  | cons e es ih => exact .bind fun a h1 => .map fun b h2 => ⟨h e a h1, ih b h2⟩
inductive Rs (R : Value → V → Prop) : List Value → List V → Prop
  | nil : Rs R [] []
  | cons {v u vs us} : R v u → Rs R vs us → Rs R (v :: vs) (u :: us)
theorem Rs.imp {R R' : Value → V → Prop} (k : ∀ v u, R v u → R' v u) {vs : List Value} {us : List V} (r : Rs R vs us) : Rs R' vs us :=
  Rs.rec (motive := fun vs us _ => Rs R' vs us) .nil (fun a _ b => .cons (k _ _ a) b) r
theorem Rs.length {R : Value → V → Prop} {vs : List Value} {us : List V} (r : Rs R vs us) : vs.length = us.length :=
  Rs.rec (motive := fun vs us _ => vs.length = us.length) rfl (fun _ _ b => congrArg Nat.succ b) r
theorem Rs.keep {R : Value → V → Prop} {P : AP} {h : Heap} (k : ∀ v u, R v u → All (kp u) (PR P h v)) {vs : List Value} {us : List V} (r : Rs R vs us) : All (keepAll us) (PRs P h vs) :=
  Rs.rec (motive := fun vs us _ => All (keepAll us) (PRs P h vs)) (.so .nil) (fun a _ b => .bind fun x h1 => .map fun xs h2 => .cons (k _ _ a x h1) (b xs h2)) r
noncomputable abbrev Φ (c : Cf) : Call := wpCall c.G.tab c.dep
theorem Ug (W : Wf c) {pos : Pos} {es : List Expr} : ∀ {es' : Es} {s : Shared} {K : List V → Prop} {Q : List Value → Shared → Prop}, OkL c es es' → At c s → seqW (wpL (Φ c) c.hm c.X es' c.ρ) K →
    (∀ vs s' us, At c s' → Ext c.fr s.heap s'.heap → Rs (c.R s') vs us → us.length = es.length → K us → Q vs s') → c.wp (spliced (backTo pos (starEach es c.env))) Q s := by
  induction es with
  | nil =>
    intro es' s K Q h a w k
    cases es' with
    | nil => exact args_nil (k [] s [] a (Ext.refl _ _) .nil rfl w)
    | cons => exact h.elim
  | cons e es ih =>
    intro es' s K Q h a w k
    cases es' with
    | nil => exact h.elim
    | cons e' es' =>
      exact args_cons (h.1.ev s _ _ a w fun v s₁ u a₁ x₁ r w₁ => ih h.2 a₁ w₁ fun vs s₂ us a₂ x₂ rs l w₂ =>
        k (v :: vs) s₂ (u :: us) a₂ (x₁.trans x₂) (.cons (W.R r x₂) rs) (congrArg Nat.succ l) w₂) (h.1.pl _ _)
end
end TC

namespace TC
open PySem PySem.W PyProof.Rows

section
variable {c : Cf} {l r : Expr} {a b : TC.E} {pos p : Pos}
theorem QU {u : V} {P Q : Prop} {R : Prop} (w : ifB u P Q) (h : ∀ b, boolV u = some b → (b = true → P) → (b = false → Q) → R) : R :=
  ZR w fun b e w => h b e (fun q => by subst q; exact w) (fun q => by subst q; exact w)
theorem ZCu (W : Wf c) (h1 : Ok c l a) (h2 : Ok c r b) {po : Operator} {o : Op} (lo : lowOp po = some o) : OkE c (.BinOp l po r pos) (.op o a b) := fun s K Q A w k =>
  wpAny_BinOp (h1.ev s _ _ A w fun v1 s₁ u1 a1 x1 r1 w1 => h2.ev s₁ _ _ a1 w1 fun v2 s₂ u2 a2 x2 r2 w2 => ZJi W.toWfC a2 (k.at (x1.trans x2)) (W.R r1 x2) r2 lo w2)
theorem ZDl {po : Operator} (h : isPow po = true) : po = .Pow := by
  cases po with
  | Pow => rfl
  | _ => exact nomatch h
theorem ZEt (W : Wf c) {po : Operator} (hp : isPow po = true) : All (lowPow (asIntC l) (asIntC r)) (OkE c (.BinOp l po r pos)) := by
  refine .bind fun i e1 => .bind fun j e2 => .ite fun q => .so fun s K Q A w k => ?_
  obtain ⟨_, _, rfl⟩ := Qz l i e1
  obtain ⟨_, _, rfl⟩ := Qz r j e2
  rw [ZDl hp]
  simp only [Bool.and_eq_true, decide_eq_true_eq] at q
  exact wpAny_BinOp (wpAny_Constant_int (wpAny_Constant_int (PyProof.Rows.pow_int_small (by omega) (by omega) (by omega) ((W.toWfC.ret A k w).int _ _))))

inductive Chn (c : Cf) : List CmpOp → List Op → List Expr → Es → Prop
  | one {p o e e'} : lowCmp p = some o → Ok c e e' → Chn c [p] [o] [e] (.cons e' .nil)
  | more {p o e e' p2 ps o2 os e2 es e2' es'} : lowCmp p = some o → Ok c e e' → Chn c (p2 :: ps) (o2 :: os) (e2 :: es) (.cons e2' es') → Chn c (p :: p2 :: ps) (o :: o2 :: os) (e :: e2 :: es) (.cons e' (.cons e2' es'))
noncomputable def chnP (c : Cf) (ps : List CmpOp) (rs : List Expr) (q : List Op × Es) : Prop := Chn c ps q.1 rs q.2 ∧ ∃ o os e es, q = (o :: os, .cons e es)
theorem We {f : Expr → Option TC.E} (h : ∀ pe, All (f pe) (Ok c pe)) : ∀ ps rs, All (lowCs f ps rs) (chnP c ps rs)
  | [p], [e] => .bind fun o h1 => .map fun a h2 => ⟨.one h1 (h e a h2), _, _, _, _, rfl⟩
  | p :: p2 :: ps, e :: e2 :: rs => .bind fun o h1 => .bind fun a h2 => .map fun q h3 => by
      obtain ⟨h4, o2, os, e', es, rfl⟩ := We h (p2 :: ps) (e2 :: rs) q h3
      exact ⟨.more h1 (h e a h2) h4, _, _, _, _, rfl⟩
  | [], _ => .no
  | [_], [] => .no
  | [_], _ :: _ :: _ => .no
  | _ :: _ :: _, [] => .no
  | _ :: _ :: _, [_] => .no
noncomputable def ChnOk (c : Cf) (pos : Pos) (ps : List CmpOp) (os : List Op) (rs : List Expr) (es : Es) : Prop := ∀ s v u K, At c s → c.R s v u → cmpW os (wpL (Φ c) c.hm c.X es c.ρ) u K →
    (∀ Q, Fin c s K Q → c.wp (compareChain pos v ps (evalEach rs c.env)) Q s) ∧ ∀ Q, (∀ u, K u → ∃ b, u = .d (.bool b)) → FinB c s K Q → c.wp (testChain pos v ps (evalEach rs c.env)) Q s
theorem WJ (W : Wf c) {ps : List CmpOp} {os : List Op} {rs : List Expr} {es : Es} (h : Chn c ps os rs es) : ChnOk c pos ps os rs es := by
  induction h with
  | one h1 h2 =>
    refine fun s v u K A r w => ⟨fun Q k => chain_last (h2.ev s _ _ A w fun v2 s₂ u2 a2 x2 r2 w2 => WK W.toWfC a2 (k.at x2) (W.R r x2) r2 h1 w2), fun Q kb k => test_last (h2.ev s _ _ A w fun v2 s₂ u2 a2 x2 r2 w2 => WK W.toWfC a2 (fun v3 s₃ u3 a3 x3 r3 hk => ?_) (W.R r x2) r2 h1 w2)⟩
    obtain ⟨b, rfl⟩ := kb u3 hk
    rw [PR.inv r3]
    exact wpAny_truthy_bool (k b s₃ a3 (x2.trans x3) hk)
  | more h1 h2 h3 ih =>
    refine fun s v u K A r w => ⟨fun Q k => chain_link (h2.ev s _ _ A w fun v2 s₂ u2 a2 x2 r2 w2 => WK W.toWfC a2 (fun v3 s₃ u3 a3 x3 r3 w3 => ?_) (W.R r x2) r2 h1 w2), fun Q kb k => test_link (h2.ev s _ _ A w fun v2 s₂ u2 a2 x2 r2 w2 => WK W.toWfC a2 (fun v3 s₃ u3 a3 x3 r3 w3 => ?_) (W.R r x2) r2 h1 w2)⟩
    · refine QU w3 fun b e w4 w5 => ?_
      rw [r3.bool e]
      refine wpAny_truthy_bool ?_
      cases b with
      | true => exact (ih s₃ v2 u2 K a3 (W.R r2 x3) (w4 rfl)).1 Q (k.at (x2.trans x3))
      | false => exact k _ s₃ (.d (.bool false)) a3 (x2.trans x3) (PR.bool false) (w5 rfl)
    · refine QU w3 fun b e w4 w5 => ?_
      rw [r3.bool e]
      refine wpAny_truthy_bool ?_
      cases b with
      | true => exact (ih s₃ v2 u2 K a3 (W.R r2 x3) (w4 rfl)).2 Q kb fun b s' a x => k b s' a ((x2.trans x3).trans x)
      | false => exact k false s₃ a3 (x2.trans x3) (w5 rfl)
theorem ZCz (W : Wf c) (h1 : Ok c l a) {ps : List CmpOp} {os : List Op} {rs : List Expr} {es : Es} (hm : lastMarks ps rs = false) (hl : Chn c ps os rs es) : OkE c (.Compare l ps rs pos) (.cmp a os es) := fun s K Q A w k => by
  have go : ∀ {pos}, c.wp (eval l c.env) (fun v s₁ => c.wp (compareChain pos v ps (evalEach rs c.env)) Q s₁) s := fun {pos} =>
    h1.ev s _ _ A w fun v1 s₁ u1 a1 x1 r1 w1 => (WJ W hl s₁ v1 u1 K a1 r1 w1).1 Q (k.at x1)
  cases hl with
  | one =>
    rw [eval_Compare1, markedBehindIn_of_false hm]
    exact wpAny_bind go
  | more => exact Compare_chain go hm
theorem ZDa (W : Wf c) (h1 : Ok c l a) {ps : List CmpOp} {os : List Op} {rs : List Expr} {es : Es} (hm : lastMarks ps rs = false) (hl : Chn c ps os rs es) : OkT c (.Compare l ps rs pos) (.cmp a os es) := fun s K Q A w kb k => by
  show c.wp (do testChain pos (← eval l c.env) ps (markedEach ps rs (evalEach rs c.env))) Q s
  rw [markedEach_of_false _ _ _ hm]
  exact wpAny_bind (h1.ev s _ _ A w fun v1 s₁ u1 a1 x1 r1 w1 => (WJ W hl s₁ v1 u1 K a1 r1 w1).2 Q kb fun b s' a x => k b s' a (x1.trans x))
end
end TC

namespace TC
open PySem PySem.W PyProof.Rows

section
variable {c : Cf} {l r : Expr} {a b : TC.E} {pos p : Pos} {es : List Expr} {es' : Es}
theorem ZCn (W : Wf c) : ∀ {es' : Es}, OkL c es es' → OkE c (.BoolOp .And es pos) (.and es') := by
  induction es with
  | nil => intro es' h s K Q A w k; cases es' with | nil => exact w.elim | cons => exact h.elim
  | cons e es ih =>
    intro es' h s K Q A w k
    cases es' with
    | nil => exact h.elim
    | cons e' es' =>
    cases es with
    | nil => cases es' with
      | cons => exact h.2.elim
      | nil =>
        refine BoolOp_one (h.1.ev s _ _ A w fun v1 s₁ u1 a1 x1 r1 w1 => QU w1 fun b e w2 w3 => ?_)
        rw [XA u1 b e] at r1
        cases b with
        | true => exact k _ _ _ a1 x1 r1 (w2 rfl)
        | false => exact k _ _ _ a1 x1 r1 (w3 rfl)
    | cons e2 es => cases es' with
      | nil => exact h.2.elim
      | cons e2' es' =>
        refine BoolOp_and (h.1.ev s _ _ A w fun v1 s₁ u1 a1 x1 r1 w1 => QU w1 fun b e w2 w3 => ?_)
        rw [r1.bool e]
        refine wpAny_truthy_bool ?_
        cases b with
        | true => exact ih h.2 s₁ K Q a1 (w2 rfl) (k.at x1)
        | false => exact k _ s₁ (.d (.bool false)) a1 x1 (PR.bool false) (w3 rfl)
theorem ZIp (W : Wf c) : ∀ {es' : Es}, OkL c es es' → OkE c (.BoolOp .Or es pos) (.or es') := by
  induction es with
  | nil => intro es' h s K Q A w k; cases es' with | nil => exact w.elim | cons => exact h.elim
  | cons e es ih =>
    intro es' h s K Q A w k
    cases es' with
    | nil => exact h.elim
    | cons e' es' =>
    cases es with
    | nil => cases es' with
      | cons => exact h.2.elim
      | nil =>
        refine BoolOp_one (h.1.ev s _ _ A w fun v1 s₁ u1 a1 x1 r1 w1 => QU w1 fun b e w2 w3 => ?_)
        rw [XA u1 b e] at r1
        cases b with
        | true => exact k _ _ _ a1 x1 r1 (w2 rfl)
        | false => exact k _ _ _ a1 x1 r1 (w3 rfl)
    | cons e2 es => cases es' with
      | nil => exact h.2.elim
      | cons e2' es' =>
        refine BoolOp_or (h.1.ev s _ _ A w fun v1 s₁ u1 a1 x1 r1 w1 => QU w1 fun b e w2 w3 => ?_)
        rw [r1.bool e]
        refine wpAny_truthy_bool ?_
        cases b with
        | false => exact ih h.2 s₁ K Q a1 (w3 rfl) (k.at x1)
        | true => exact k _ s₁ (.d (.bool true)) a1 x1 (PR.bool true) (w2 rfl)
theorem Qs {u : V} {P Q : Prop} (w : ifB u P Q) : ∃ b, u = .d (.bool b) := QU w fun b e _ _ => ⟨b, XA u b e⟩
theorem ZCo {whole : Sem Value} : ∀ {es' : Es}, OkL c es es' → ∀ s K Q, At c s → andW (wpL (Φ c) c.hm c.X es' c.ρ) K → FinB c s K Q → c.wp (isTrue (.BoolOp .And es pos) c.env whole) Q s := by
  induction es with
  | nil => intro es' h s K Q A w k; cases es' with | nil => exact w.elim | cons => exact h.elim
  | cons e es ih =>
    intro es' h s K Q A w k
    cases es' with
    | nil => exact h.elim
    | cons e' es' =>
    cases es with
    | nil => cases es' with
      | cons => exact h.2.elim
      | nil => exact isTrue_and (h.1.ts s _ _ A w (fun u => Qs) fun b s₁ a1 x1 w1 => by
          cases b with
          | false => exact k false s₁ a1 x1 w1
          | true => exact isTrue_and_nil (k true s₁ a1 x1 w1))
    | cons e2 es => cases es' with
      | nil => exact h.2.elim
      | cons e2' es' => exact isTrue_and (h.1.ts s _ _ A w (fun u => Qs) fun b s₁ a1 x1 w1 => by
          cases b with
          | false => exact k false s₁ a1 x1 w1
          | true => exact ih h.2 s₁ K Q a1 w1 fun b s' a x => k b s' a (x1.trans x))
theorem ZIq {whole : Sem Value} : ∀ {es' : Es}, OkL c es es' → ∀ s K Q, At c s → orW (wpL (Φ c) c.hm c.X es' c.ρ) K → FinB c s K Q → c.wp (isTrue (.BoolOp .Or es pos) c.env whole) Q s := by
  induction es with
  | nil => intro es' h s K Q A w k; cases es' with | nil => exact w.elim | cons => exact h.elim
  | cons e es ih =>
    intro es' h s K Q A w k
    cases es' with
    | nil => exact h.elim
    | cons e' es' =>
    cases es with
    | nil => cases es' with
      | cons => exact h.2.elim
      | nil => exact isTrue_or (h.1.ts s _ _ A w (fun u => Qs) fun b s₁ a1 x1 w1 => by
          cases b with
          | true => exact k true s₁ a1 x1 w1
          | false => exact isTrue_or_nil (k false s₁ a1 x1 w1))
    | cons e2 es => cases es' with
      | nil => exact h.2.elim
      | cons e2' es' => exact isTrue_or (h.1.ts s _ _ A w (fun u => Qs) fun b s₁ a1 x1 w1 => by
          cases b with
          | true => exact k true s₁ a1 x1 w1
          | false => exact ih h.2 s₁ K Q a1 w1 fun b s' a x => k b s' a (x1.trans x))
theorem ZEn (h : Ok c l a) : OkE c (.UnaryOp .Not l pos) (.f1 .not a) := fun s K Q A w k => UnaryOp_ (h.ev s _ _ A w fun v1 s₁ u1 a1 x1 r1 w1 => ZR (QZ w1).2 fun b e w2 => by
  rw [r1.bool e]
  exact not_of (wpAny_truthy_bool (k _ s₁ (.d (.bool !b)) a1 x1 (PR.bool _) w2)))
theorem ZEo (h : Ok c l a) : OkT c (.UnaryOp .Not l pos) (.f1 .not a) := fun s K Q A w kb k => isTrue_not (h.ts s _ _ A w (fun u w1 => ZR (QZ w1).2 fun b e _ => ⟨b, XA u b e⟩) fun b s₁ a1 x1 w1 => k _ s₁ a1 x1 (QZ w1).2)
theorem ZAx {x : Const} (h : isNoneC x = true) : x = .none := by
  cases x with
  | none => rfl
  | _ => exact nomatch h
theorem ZAv (W : Wf c) {neg : Bool} {s : Shared} {v : Value} {u : V} {K : V → Prop} {Q : Value → Shared → Prop} (A : At c s) (r : c.R s v u) (w : qW (F1.quiet (cond neg .notNone .isNone)) c.hm (F1.W (cond neg .notNone .isNone) u K)) (k : Fin c s K Q) : c.wp (compareOp (cond neg .IsNot .Is) v .none) Q s := by
  cases neg with
  | false => exact ZR (QZ w).2 fun x e w => is_none_gen (ZAy (W.rdf r x e) ▸ k _ s (.d (.bool (isNon x))) A (Ext.refl _ _) (PR.bool _) w)
  | true => exact ZR (QZ w).2 fun x e w => isnot_none_gen (ZAy (W.rdf r x e) ▸ k _ s (.d (.bool !isNon x)) A (Ext.refl _ _) (PR.bool _) w)
theorem ZAw (W : Wf c) (h : Ok c l a) (hn : isC isNoneC r = true) {neg : Bool} : OkE c (.Compare l [cond neg .IsNot .Is] [r] pos) (.f1 (cond neg .notNone .isNone) a) := fun s K Q A w k => by
  obtain ⟨x, _, _, rfl, h2⟩ := VH hn
  rw [ZAx h2]
  exact wpAny_Compare1 (h.ev s _ _ A w fun v1 s₁ u1 a1 x1 r1 w1 => PyProof.Rows.Constant_none (ZAv W a1 r1 w1 (k.at x1))) (by cases neg <;> rfl)
theorem ZAz (W : Wf c) (h : Ok c l a) (hn : isC isNoneC r = true) {neg : Bool} : OkT c (.Compare l [cond neg .IsNot .Is] [r] pos) (.f1 (cond neg .notNone .isNone) a) := fun s K Q A w kb k => by
  obtain ⟨x, i, p, rfl, h2⟩ := VH hn
  rw [ZAx h2]
  show c.wp (do testChain pos (← eval l c.env) [cond neg .IsNot .Is] (markedEach [cond neg .IsNot .Is] [.Constant .none i p] (evalEach [.Constant .none i p] c.env))) Q s
  rw [markedEach_of_false _ _ _ (by cases neg <;> rfl)]
  refine wpAny_bind (h.ev s _ _ A w fun v1 s₁ u1 a1 x1 r1 w1 => test_last (PyProof.Rows.Constant_none (ZAv W a1 r1 w1 fun v2 s₂ u2 a2 x2 r2 w2 => ?_)))
  obtain ⟨b, rfl⟩ := kb u2 w2
  rw [PR.inv r2]
  exact wpAny_truthy_bool (k b s₂ a2 (x1.trans x2) w2)
theorem ZFm (W : Wf c) (h : OkL c es es') (hz : es.length < 1000) {i : Nat} : OkE c (.Tuple es i pos) (.tup es') := fun s K Q A w k => Tuple_ (Ug W h A w fun vs s' us a x rs l w1 => ZR w1 fun xs e w2 =>
  Uq W.toWfC a.toAtC (rs.keep (fun _ _ r => W.keep a.toAtC r) xs e) (by rw [rs.length, l]; exact hz) (W.ret a (k.at x) w2))
theorem ZEd (W : Wf c) (h : OkL c es es') (hz : es.length < 1000) : OkE c (.List es pos) (.lst es') := fun s K Q A w k => List_ (Ug W h A w fun vs s' us a x rs l w1 => ZR w1 fun xs e w2 =>
  Gj a.toAtC (rs.keep (fun _ _ r => W.keep a.toAtC r) xs e) (by rw [rs.length, l]; exact hz) (W.ret a (k.at x) w2))
theorem ZDk (W : Wf c) (h1 : Ok c l a) (h2 : Ok c r b) : OkE c (.Subscript l r pos) (.idx a b) := fun s K Q A w k => Subscript_ (h1.ev s _ _ A w fun v1 s₁ u1 a1 x1 r1 w1 => h2.ev s₁ _ _ a1 w1 fun v2 s₂ u2 a2 x2 r2 w2 => ZR w2 fun i e w3 => by
  obtain ⟨t, rfl⟩ := r2.int e
  exact ZJt W.toWfC a2 (W.R r1 x2) (k.at (x1.trans x2)) w3 (h2.ns _ _))
theorem Hl (W : Wf c) (h1 : Ok c l a) (h2 : Ok c r b) : OkE c (.Subscript l (.Slice (some r) none none p) pos) (.sfrom a b) := fun s K Q A w k => Subscript_ (h1.ev s _ _ A w fun v1 s₁ u1 a1 x1 r1 w1 => wpAny_Slice (h2.ev s₁ _ _ a1 w1 fun v2 s₂ u2 a2 x2 r2 w2 => ZR w2 fun i e w3 => ZR w3 fun xs e1 w4 => by
  obtain ⟨t, rfl⟩ := r2.int e
  rw [evalPart_none]
  exact wpAny_pure (wpAny_pure (ZFt a2.toAtC (W.ls a2.toAtC (W.R r1 x2) xs e1) w4.1.2.2 (.int i t) .none (ZBh w4.1.1) (W.ret a2 (k.at (x1.trans x2)) w4.2) rfl))))
theorem ZCe (W : Wf c) (h1 : Ok c l a) (h2 : Ok c r b) : OkE c (.Subscript l (.Slice none (some r) none p) pos) (.sto a b) := fun s K Q A w k => Subscript_ (h1.ev s _ _ A w fun v1 s₁ u1 a1 x1 r1 w1 => wpAny_Slice (by
  rw [evalPart_none]
  exact wpAny_pure (h2.ev s₁ _ _ a1 w1 fun v2 s₂ u2 a2 x2 r2 w2 => ZR w2 fun i e w3 => ZR w3 fun xs e1 w4 => by
    obtain ⟨t, rfl⟩ := r2.int e
    exact wpAny_pure (ZFt a2.toAtC (W.ls a2.toAtC (W.R r1 x2) xs e1) w4.1.2.2 .none (.int i t) (ZBi w4.1.1) (W.ret a2 (k.at (x1.trans x2)) w4.2) rfl))))
theorem ZFe (W : Wf c) {f : Expr → Option TC.E} (h : ∀ pe, All (f pe) (Ok c pe)) : All (lowSub f l r (view r)) (OkE c (.Subscript l r pos)) := by
  have q := Jd r
  have gen : All ((f l).bind fun a => (f r).map fun i => TC.E.idx a i) (OkE c (.Subscript l r pos)) := .bind fun a h1 => .map fun b h2 => ZDk W (h l a h1) (h r b h2)
  revert q
  cases view r with
  | slice i j k p =>
    intro q
    rw [← q]
    rcases i with _ | i <;> rcases j with _ | j <;> rcases k with _ | k
    · exact .no
    · exact .no
    · exact .bind fun a h1 => .map fun b h2 => ZCe W (h l a h1) (h j b h2)
    · exact .no
    · exact .bind fun a h1 => .map fun b h2 => Hl W (h l a h1) (h i b h2)
    · exact .no
    · exact .no
    · exact .no
  | _ => exact fun _ => gen
theorem WE {s : Shared} {Q : Value → Shared → Prop} {cal : Value} {pe : Expr} {rest : List Expr} (hc : isBT cal = true) (he : Plain pe) (hp : (backTo pos (starEach rest c.env)).any (·.1) = false)
    (h : c.wp (spliced (backTo pos (starEach (pe :: rest) c.env))) (fun vs s₁ => c.wp (call cal vs) Q s₁) s) : c.wp (callWith pos cal [] (backTo pos (starEach (pe :: rest) c.env)) []) Q s := by
  cases cal with
  | builtin id => exact PyProof.Rows.callWith_builtin1 h (he _ _) hp
  | type T => exact PyProof.Rows.callWith_type1 h (he _ _) hp
  | _ => exact nomatch hc
theorem Ql {α : Type} {l : List (Str × α)} {x : Str} {a : α} (h : l.lookup x = some a) : (x, a) ∈ l := mem_of_lookup h
theorem ZHa (W : Wf c) (h : Ok c l a) {f : Str} {g : F1} (hg : c.cx.glob f = true) (lo : f1Names.lookup f = some g) : OkE c (.Call (.Name f p) [l] [] pos) (.f1 g a) := fun s K Q A w k => by
  obtain ⟨b1, b2, b3⟩ := Um (f, g) (Ql lo)
  exact PyProof.Rows.Call_ (QF W A.toAtC hg b2 b1 (WE b3 h.pl rfl (args_cons (h.ev s _ _ A w fun v1 s₁ u1 a1 x1 r1 w1 => args_nil (ZGz W.toWfC a1 r1 (k.at x1) b3 (QZ w1).1 (QZ w1).2)) (h.pl _ _))))
theorem ZHd (W : Wf c) (h1 : Ok c l a) (h2 : Ok c r b) {f : Str} {g : F2} (hg : c.cx.glob f = true) (lo : f2Names.lookup f = some g) : OkE c (.Call (.Name f p) [l, r] [] pos) (.f2 g a b) := fun s K Q A w k => by
  obtain ⟨b1, b2, b3⟩ := ZHb (f, g) (Ql lo)
  exact PyProof.Rows.Call_ (QF W A.toAtC hg b2 b1 (WE b3 h1.pl (by rw [h2.pl]; rfl) (args_cons (h1.ev s _ _ A w fun v1 s₁ u1 a1 x1 r1 w1 =>
    args_cons (h2.ev s₁ _ _ a1 w1 fun v2 s₂ u2 a2 x2 r2 w2 => args_nil (ZHc W.toWfC a2 (W.R r1 x2) r2 ((QZ w2).1 rfl) (k.at (x1.trans x2)) b3 (QZ w2).2)) (h2.pl _ _)) (h1.pl _ _))))
theorem GV (W : Wf c) {x : Str} {np ap : Pos} (hl : (ap.endLine == pos.line) = true) (h1 : Ok c (.Name x np) a) (h2 : Ok c r b) : OkE c (.Call (.Attribute (.Name x np) "index" ap) [r] [] pos) (.index a b) := fun s K Q A w k => by
  refine Call_method1 rfl (h2.pl _ _) hl (h1.ev s _ _ A w fun v1 s₁ u1 a1 x1 r1 w1 => ZR w1 fun y e1 w => ZR w fun xs e2 w => ZR w fun is e3 w => ?_)
  have L := (W.rdf r1 y e1).isL e2
  obtain ⟨z, vs, n, rfl, ho, rs⟩ := L
  have hL : s₁.heap.IsList z vs := ⟨_, ho, rfl, n, rfl⟩
  refine ⟨"list", "list.index", PySem.F.plainAttrs_list, PySem.F.slot_list_index, PySem.F.type_list_index, hL.typeIs, fun b e => ?_, ?_⟩
  · cases e; exact ⟨_, ho, rfl⟩
  · refine Calls.callWith_builtin rfl (Calls.evalArgs_plain (Calls.spliced_cons (h2.ev s₁ _ _ a1 w fun v2 s₂ u2 a2 x2 r2 w2 => Calls.spliced_nil (ZR w2 fun k' e4 w => ?_))))
    obtain ⟨t, rfl⟩ := r2.int e4
    exact GU ((W.rdf (W.R r1 x2) y e1).isL e2) e3 w.1.1 w.1.2 (W.ret a2 (k.at (x1.trans x2)) w.2)
theorem UY (W : Wf c) (h : Ok c l a) (hg : c.cx.glob "sorted" = true) {kw : Keyword} (hk : asTrueKw kw = some "reverse") : OkE c (.Call (.Name "sorted" p) [l] [kw] pos) (.f1 .sortedR a) := fun s K Q A w k => by
  obtain ⟨ka, kv, kp⟩ := kw
  obtain ⟨x, e1, e2⟩ := Option.bind_eq_some_iff.mp hk
  have hv : isC isTrueC kv = true := by cases q : isC isTrueC kv with | true => rfl | false => rw [q] at e2; cases e2
  rw [hv] at e2
  cases e1
  cases e2
  obtain ⟨y, i, p1, rfl, h2⟩ := VH hv
  have hy : y = .bool true := by cases y <;> first | exact congrArg Const.bool h2 | cases h2
  subst hy
  show c.wp (do callWith pos (← eval (.Name "sorted" p) c.env) [] (backTo pos (starEach [l] c.env)) (backToKw pos (keywordEach [⟨some "reverse", .Constant (.bool true) i p1, kp⟩] c.env))) Q s
  refine wpAny_bind (QF W A.toAtC hg (by decide) (Um ("sorted", .sorted) (.tail _ (.tail _ (.tail _ (.tail _ (.tail _ (.tail _ (.head _)))))))).1 (callWith_kw (args_cons (h.ev s _ _ A w fun v1 s₁ u1 a1 x1 r1 w1 => args_nil ?_) (h.pl _ _)) (by rw [h.pl]; rfl) (by rw [h.pl]; rfl) rfl rfl))
  refine ZR (QZ w1).2 fun x e1 w => ZR w fun xs e2 w => ZR w fun is e3 w => ?_
  have fin := UX a1.toAtC ((W.rdf r1 x e1).isL e2) e3 w.1 (W.ret a1 (k.at x1) w.2)
  show c.wp (evalAll [do let v ← eval (.Constant (.bool true) i p1) c.env; standAt pos; pure v]) _ s₁
  unfold evalAll
  exact wpAny_bind (wpAny_bind (PyProof.Rows.Constant_bool (wpAny_bind (wpAny_standAt (wpAny_pure (wpAny_bind (wpAny_holding (wpAny_pure (wpAny_pure fin)))))))))
end
end TC

namespace TC
open PySem PySem.W PyProof.Rows

structure Fm (env : Env) (own : List (Str × Addr)) (h : Heap) : Prop where
  kf : env.scope.kind = .function
  ns : ∃ m, h.Ns env.locals m
  cell : ∀ x a, own.lookup x = some a → ∃ v, h.IsCell a v
  look : ∀ x a, own.lookup x = some a → env.cells.lookup x = some a
  inj : ∀ y a, env.cells.lookup y = some a → ∀ x, own.lookup x = some a → x = y
noncomputable def pls (env : Env) (own : List (Str × Addr)) : AP := fun b => b = env.locals ∨ ∃ x, own.lookup x = some b
theorem ZBc {h : Heap} {a : Addr} {m : Str → Option Value} (n : h.Ns a m) : ∃ o es ep, h.get? a = some o ∧ o.data = .dict es ep := by
  obtain ⟨o, es, ep, ho, hd, _⟩ := n; exact ⟨o, es, ep, ho, hd⟩
theorem Qy {h : Heap} {a z : Addr} {m : Str → Option Value} {v : Option Value} (n : h.Ns a m) (q : h.IsCell z v) : z ≠ a := fun e => by
  obtain ⟨o, es, ep, ho, hd⟩ := ZBc n
  obtain ⟨o', ho', hd'⟩ := q
  rw [e, ho] at ho'; cases ho'; rw [hd] at hd'; cases hd'
theorem Fm.data {env : Env} {own : List (Str × Addr)} {h : Heap} (F : Fm env own h) {b : Addr} (hb : pls env own b) : ∃ o, h.get? b = some o ∧ NT o ∧ ∀ vs, o.data ≠ .fields vs := by
  rcases hb with rfl | ⟨x, q⟩
  · obtain ⟨m, n⟩ := F.ns
    obtain ⟨o, es, ep, ho, hd⟩ := ZBc n
    exact ⟨o, ho, (fun _ vs k q => by rw [hd] at q; cases q), fun vs q => by rw [hd] at q; cases q⟩
  · obtain ⟨v, o, ho, hd⟩ := F.cell x b q
    exact ⟨o, ho, (fun _ vs k q => by rw [hd] at q; cases q), fun vs q => by rw [hd] at q; cases q⟩
theorem Fm.is {env : Env} {own : List (Str × Addr)} {h : Heap} (F : Fm env own h) {b : Addr} (hb : pls env own b) : Is h b := by
  obtain ⟨o, e, n, _⟩ := F.data hb; exact ⟨o, e, n⟩
theorem Fm.on {env : Env} {own : List (Str × Addr)} {h h' : Heap} (F : Fm env own h) (k : ∀ b o, pls env own b → h.get? b = some o → h'.get? b = some o) : Fm env own h' := by
  obtain ⟨m, n⟩ := F.ns
  refine ⟨F.kf, ⟨m, n.at' fun o e => k _ o (.inl rfl) e⟩, fun x a e => ?_, F.look, F.inj⟩
  obtain ⟨v, o, h1, h2⟩ := F.cell x a e
  exact ⟨v, o, k a o (.inr ⟨x, e⟩) h1, h2⟩
theorem Fm.ext {env : Env} {own : List (Str × Addr)} {h h' : Heap} {fr : AP} (F : Fm env own h) (x : Ext fr h h') : Fm env own h' := by
  obtain ⟨m, n⟩ := F.ns
  exact ⟨F.kf, ⟨m, x.ns n⟩, fun y a e => let ⟨w, z⟩ := F.cell y a e; ⟨w, x.cell z⟩, F.look, F.inj⟩
noncomputable def Bindable (env : Env) (own : List (Str × Addr)) (x : Str) : Prop := env.kindOf x = some .local ∨ (env.kindOf x = some .cell ∧ ∃ a, own.lookup x = some a)
section
variable {prog : Program} {w : World} {env : Env} {hm : Bool} {A : Around} {s : Shared} {E : Value → Shared → Prop} {v : Value} {own : List (Str × Addr)} {M : Model}
theorem Vm {x : Str} {Q : Unit → Shared → Prop} (F : Fm env own s.heap) (hx : Bindable env own x)
    (h : ∀ h' tk, Fm env own h' → (∀ b o, ¬ pls env own b → s.heap.get? b = some o → h'.get? b = some o) → varAt env h' x v → (∀ y w, y ≠ x → varAt env s.heap y w → varAt env h' y w) → Q () { s with heap := h', toks := tk }) :
    wpAny M A (storeName env x v) Q E s := by
  obtain ⟨m, n⟩ := F.ns
  rcases hx with hl | ⟨hl, a, ha⟩
  · refine wpAny_storeName_local hl n (fun h' n' sb => h h' _ ?_ (fun b o hb e => sb.extBut b o (fun q => hb (.inl q)) e) (.inl ⟨hl, _, n', by simp⟩) fun y w ne z => ?_) (by rw [F.kf]; rfl)
    · refine ⟨F.kf, ⟨_, n'⟩, fun y a e => ?_, F.look, F.inj⟩
      obtain ⟨w, q⟩ := F.cell y a e
      exact ⟨w, q.sameBut sb (Qy n q)⟩
    · rcases z with ⟨k, m2, n2, hv⟩ | ⟨k, a, ha, q⟩
      · refine .inl ⟨k, _, n', ?_⟩
        simp only [if_neg ne]
        obtain ⟨o1, es1, ep1, a1, a2, _, a3⟩ := n
        obtain ⟨o2, es2, ep2, b1, b2, _, b3⟩ := n2
        rw [a1] at b1; cases b1
        rw [a2] at b2; cases b2
        rw [← a3, b3, hv]
      · exact .inr ⟨k, a, ha, q.sameBut sb (Qy n q)⟩
  · obtain ⟨v0, q0⟩ := F.cell x a ha
    have off := Qy n q0
    refine wpAny_storeName_cell F.kf hl (F.look x a ha) q0 fun h' q' sb => h h' s.toks ?_ (fun b o hb e => sb.extBut b o (fun q => hb (.inr ⟨x, q ▸ ha⟩)) e) (.inr ⟨.inl hl, a, F.look x a ha, q'⟩) fun y w ne z => ?_
    · refine ⟨F.kf, ⟨m, n.sameBut sb (Ne.symm off)⟩, fun y b e => ?_, F.look, F.inj⟩
      by_cases z : b = a
      · subst z; exact ⟨_, q'⟩
      · obtain ⟨w, q⟩ := F.cell y b e
        exact ⟨w, q.sameBut sb z⟩
    · rcases z with ⟨k, m2, n2, hv⟩ | ⟨k, b, hb, q⟩
      · exact .inl ⟨k, m2, n2.sameBut sb (Ne.symm off), hv⟩
      · refine .inr ⟨k, b, hb, q.sameBut sb fun z => ne ?_⟩
        subst z
        exact (F.inj y b hb x ha).symm

theorem Ud {t : Addr} {items : Array Value} {n : Nat} {targets : List (Bool × (Value → Sem Unit))} {Q : Unit → Shared → Prop} (hk : HOk hm A s.heap) (ho : s.heap.get? t = some (tupObj items n)) (hn : targets.length = items.size) (hs : targets.findIdx? (·.1) = none)
    (h : ∀ h', (∀ b o, s.heap.get? b = some o → h'.get? b = some o) → wpAny (model prog w) A (assignInOrder (targets.map (·.2)) items.toList) Q E { s with heap := h' }) : wpAny (model prog w) A (unpack (.ref t) targets) Q E s := by
  have ht : s.heap.IsTuple t items := ⟨_, ho, rfl, n, rfl⟩
  have hlt : t ≠ s.heap.objs.size := Nat.ne_of_lt (Heap.lt_size ho)
  unfold unpack
  rw [hn, hs]
  refine wpAny_bind (wpAny_holding ?_)
  unfold unpackItems
  refine wpAny_bind ?_
  unfold notIterableAtAll
  refine wpAny_bind (wpAny_specialOf ht.typeIs F.slot_tuple_iter.lookup ?_)
  refine wpAny_pure ?_
  simp only [Bool.false_eq_true, if_false]
  refine wpAny_bind (wpAny_holding (wpAny_pyIter_tuple ht ?_))
  refine wpAny_bind (wpAny_holding (wpAny_draw_tuple hlt items.size 0 _ _ ⟨_, Heap.get?_push_size _ rfl, rfl, rfl⟩ (ht.push _) (by lia) fun h₁ hit₁ hs₁ => ?_))
  have hall : List.take items.size (List.drop 0 items.toList) = items.toList := by
    rw [List.drop_zero]; exact List.take_of_length_le (by simp)
  rw [hall]
  rw [if_neg (by simp)]
  have ht₁ : h₁.IsTuple t items := (ht.push _).extBut hs₁.extBut hlt
  have old : ∀ b o, s.heap.get? b = some o → h₁.get? b = some o := fun b o e => hs₁.extBut b o (Nat.ne_of_lt (Heap.lt_size e)) (Heap.get?_push_of_some _ e)
  refine wpAny_bind (wpAny_holding (Uc (s := { s with heap := h₁ }) (hk.at fun b hb o e => old b o e) (fun e q z => ?_) hit₁ ht₁ (by simp) fun h₂ he₂ => ?_))
  · have := hk.lt e q
    rw [z] at this; exact Nat.lt_irrefl _ this
  simp only [Option.isSome_none, Bool.false_eq_true, if_false]
  exact wpAny_pure (h h₂ fun b o e => he₂ b o (Nat.ne_of_lt (Heap.lt_size e)) (old b o e))

noncomputable def VarsAt (env : Env) (h : Heap) (xs : List Str) (vs : List Value) : Prop := ∀ (i : Nat) x w, xs[i]? = some x → vs[i]? = some w → varAt env h x w
theorem GE {Q : Unit → Shared → Prop} {xs : List Str} : ∀ {ps : List Pos} {vs : List Value} {s : Shared}, xs.length = vs.length → xs.length = ps.length → xs.Nodup → Fm env own s.heap → (∀ x ∈ xs, Bindable env own x) →
    (∀ h' tk, Fm env own h' → (∀ b o, ¬ pls env own b → s.heap.get? b = some o → h'.get? b = some o) → VarsAt env h' xs vs → (∀ y w, y ∉ xs → varAt env s.heap y w → varAt env h' y w) → Q () { s with heap := h', toks := tk }) →
    wpAny M A (assignInOrder ((xs.zip ps).map fun p => assign (.Name p.1 p.2) env) vs) Q E s := by
  induction xs with
  | nil =>
    intro ps vs s l _ _ F _ h
    cases vs with
    | nil => exact wpAny_pure (h s.heap s.toks F (fun _ _ _ e => e) (fun i x w e => nomatch e) fun _ _ _ a => a)
    | cons => exact nomatch l
  | cons x xs ih =>
    intro ps vs s l l2 nd F hb h
    cases vs with
    | nil => exact nomatch l
    | cons v vs =>
    cases ps with
    | nil => exact nomatch l2
    | cons p ps =>
      obtain ⟨nx, nd⟩ := List.nodup_cons.mp nd
      refine wpAny_bind (wpAny_holding (wpAny_bind (wpAny_standAt (wpAny_bindName (Vm F (hb x (.head _)) fun h1 tk F1 k1 a1 o1 => ?_)))))
      refine ih (ps := ps) (vs := vs) (s := { s with heap := h1, toks := tk }) (Nat.succ.inj l) (Nat.succ.inj l2) nd F1 (fun y hy => hb y (.tail _ hy)) fun h2 tk2 F2 k2 a2 o2 => ?_
      refine h h2 tk2 F2 (fun b o hb e => k2 b o hb (k1 b o hb e)) (fun i y w e1 e2 => ?_) fun y w hy a => o2 y w (fun q => hy (.tail _ q)) (o1 y w (fun q => hy (q ▸ .head _)) a)
      cases i with
      | zero => cases e1; cases e2; exact o2 x v nx a1
      | succ i => exact a2 i y w e1 e2
end
theorem ZEl {es : List Expr} : All (asNames es) fun l => ∃ ps : List Pos, l.length = ps.length ∧ es = (l.zip ps).map fun p => .Name p.1 p.2 := by
  induction es with
  | nil => exact .so ⟨[], rfl, rfl⟩
  | cons e es ih =>
    refine .bind fun x h1 => .map fun l h2 => ?_
    obtain ⟨p, rfl⟩ := QI e x h1
    obtain ⟨ps, h3, rfl⟩ := ih l h2
    exact ⟨p :: ps, congrArg Nat.succ h3, rfl⟩
theorem XZ {env : Env} (l : List (Str × Pos)) : (assignEach (l.map fun p => Expr.Name p.1 p.2) env) = l.map fun p => (false, assign (.Name p.1 p.2) env) := by
  induction l with
  | nil => rfl
  | cons p l ih => exact congrArg ((false, assign (.Name p.1 p.2) env) :: ·) ih
theorem ZIf {α : Type} (l : List (Str × Pos)) (f : Str × Pos → α) : (l.map fun p => (false, f p)).findIdx? (·.1) = none := by
  induction l with
  | nil => rfl
  | cons p l ih => rw [List.map_cons, List.findIdx?_cons, ih]; rfl

section
variable {c : Cf} {s : Shared} {v : Value} {u : V} {own : List (Str × Addr)}
inductive IsT (c : Cf) (s : Shared) (v : Value) (us : List V) : Prop
  | mk (t : Addr) (items : Array Value) (m : Nat) : v = .ref t → s.heap.get? t = some (tupObj items m) → ¬ c.fr t → Rs (c.R s) items.toList us → IsT c s v us
theorem PRs.rs {P : AP} {R : Value → V → Prop} {f : PyData → V} {h : Heap} (k : ∀ v x, PR P h v x → R v (f x)) {xs : List PyData} : ∀ {vs : List Value}, PRs P h vs xs → Rs R vs (xs.map f) := by
  induction xs with
  | nil => intro vs r; rw [show vs = [] from r.inv]; exact .nil
  | cons x xs ih => intro vs r; obtain ⟨v, ws, rfl, a, b⟩ := r.inv; exact .cons (k v x a) (ih b)
theorem Vf (W : WfC c) (a : AtC c s) (r : c.R s v u) (n : Nat) : All (partsV u n) (IsT c s v) := by
  cases u with
  | d x => cases x with
    | tuple xs =>
      intro us e
      obtain ⟨_, rfl⟩ := Jn e
      obtain ⟨t, vs, m, h1, h2, h3, h4⟩ := PR.inv r
      exact ⟨t, vs, m, h1, h3, fun q => h2 (W.sub t q), h4.rs fun _ _ q => q⟩
    | _ => exact .no
  | brw x => cases x with
    | tuple xs =>
      intro us e
      obtain ⟨_, rfl⟩ := Jn e
      obtain ⟨t, vs, m, h1, h2, h3, h4⟩ := PR.inv r
      exact ⟨t, vs, m, h1, h3, h2, h4.rs fun _ _ q => ZAb a q⟩
    | _ => exact .no
  | ot y z => exact .no
  | oh y z => exact .no
  | own x => exact .no
  | exc k => exact .no
  | rg k => exact .no
theorem Qg {n : Nat} : All (partsV u n) fun us => us.length = n := by
  cases u with
  | d x => cases x with
    | tuple xs => exact fun us e => by obtain ⟨h, rfl⟩ := Jn e; rw [List.length_map, h]
    | _ => exact .no
  | brw x => cases x with
    | tuple xs => exact fun us e => by obtain ⟨h, rfl⟩ := Jn e; rw [List.length_map, h]
    | _ => exact .no
  | ot y z => exact .no
  | oh y z => exact .no
  | own x => exact .no
  | exc k => exact .no
  | rg k => exact .no
end
end TC

namespace TC
open PySem PySem.W PyProof.Rows

noncomputable def Pln (u : V) : Prop := (∃ x, u = .d x) ∨ ∃ x, u = .brw x
inductive Src (c : Cf) (s : Shared) (v₀ : Value) (h' : Heap) (us : List V) : Prop
  | mk (It : Nat → Value → Prop) (src : Value) : Itr c.G.prog c.G.w c.A s.heap.objs.size us.length It h' src → (∀ b, src = .ref b → v₀ = src ∧ ¬ c.fr b ∧ ∃ o, s.heap.get? b = some o ∧ ∀ vs, o.data ≠ .fields vs) → (∀ i v u, It i v → us[i]? = some u → c.R s v u) → (∀ u ∈ us, Pln u) → Src c s v₀ h' us
section
variable {c : Cf} {s : Shared} {v : Value} {u : V} {x : PyData} {xs : List PyData}
theorem Uv {P : AP} (a : At c s) (r : PR P s.heap v x) (s1 : ∀ b, c.fr b → P b) (e : seqOf x = some xs) {f : PyData → V} (hf : ∀ w y, PR P s.heap w y → c.R s w (f y)) (hp : ∀ y, Pln (f y)) {Q : Value → Shared → Prop} (k : ∀ h', Keep s.heap h' → Src c s v h' (xs.map f) → Q (.ref s.heap.objs.size) { s with heap := h' }) : c.wp (pyIter v) Q s := by
  refine XD (hm := c.hm) a.hok r e fun h' vs q kh it => k h' kh ⟨fun i w => vs[i]? = some w, v, (by rw [List.length_map]; exact it), fun b hb => ?_, fun i w u p hu => ?_, fun u hu => ?_⟩
  · subst hb
    have i := r.inv
    cases x with
    | list ys => obtain ⟨l, vs, n, e', na, ho, _⟩ := i; cases e'; exact ⟨rfl, fun z => na (s1 _ z), _, ho, fun _ e => nomatch e⟩
    | tuple ys => obtain ⟨l, vs, n, e', na, ho, _⟩ := i; cases e'; exact ⟨rfl, fun z => na (s1 _ z), _, ho, fun _ e => nomatch e⟩
    | _ => exact nomatch e
  · rw [← Array.getElem?_toList] at p
    obtain ⟨y, h1, h2⟩ := q.get' p
    rw [List.getElem?_map, h1] at hu
    exact Option.some.inj hu ▸ hf w y h2
  · obtain ⟨y, _, rfl⟩ := List.mem_map.mp hu; exact hp y
theorem ZAc (y : PyData) : Pln (low y) := by
  unfold low
  cases flat y with
  | true => exact .inl ⟨y, rfl⟩
  | false => exact .inr ⟨y, rfl⟩
theorem Va (W : WfC c) (a : At c s) (r : c.R s v u) : All (itemsV c.hm u) fun us => ∀ Q : Value → Shared → Prop, (∀ h', Keep s.heap h' → Src c s v h' us → Q (.ref s.heap.objs.size) { s with heap := h' }) → c.wp (pyIter v) Q s := by
  cases u with
  | d x => exact .map fun xs e Q k => Uv (f := V.d) a r W.sub e (fun _ _ q => q) (fun y => .inl ⟨y, rfl⟩) k
  | own x => exact .map fun xs e Q k => Uv (f := V.d) a (W.keep a.toAtC r x rfl) W.sub e (fun _ _ q => q) (fun y => .inl ⟨y, rfl⟩) k
  | brw x => exact .map fun xs e Q k => Uv a r (fun _ q => q) e (fun _ _ q => ZAb a.toAtC q) ZAc k
  | rg n =>
    unfold itemsV
    cases hh : c.hm with
    | true => exact .no
    | false =>
      refine .so fun Q k => ?_
      obtain ⟨r, t1, t2, t3, rfl, nr, l, ir⟩ := r
      refine GX (hh ▸ a.hok) ir l fun h' kh it => k h' kh ⟨fun i w => ∃ t, w = .int i t, .none, ?_, (fun b hb => nomatch hb), fun i w u p hu => ?_, fun u hu => ?_⟩
      · rw [List.length_map, rangeL, List.length_map, List.length_range]; exact it
      · obtain ⟨t, rfl⟩ := p
        rw [List.getElem?_map, rangeL, List.getElem?_map] at hu
        obtain ⟨z, e1, rfl⟩ := Option.map_eq_some_iff.mp hu
        obtain ⟨j, e2, rfl⟩ := Option.map_eq_some_iff.mp e1
        obtain ⟨_, e3⟩ := List.getElem?_eq_some_iff.mp e2
        rw [List.getElem_range] at e3
        exact e3 ▸ PR.int _ _
      · obtain ⟨z, _, rfl⟩ := List.mem_map.mp hu; exact .inl ⟨_, rfl⟩
  | ot y z => exact .no
  | oh y z => exact .no
  | exc k => exact .no
end
section
variable {A : Around} {s : Shared} {E : Value → Shared → Prop} {env : Env}
theorem Je : ∀ (names : List (Str × NameKind)) (n : Nat) (acc : List (Str × Addr)), cellsFrom n names acc = cellsFrom n names [] ++ acc
  | [], _, _ => rfl
  | (x, k) :: r, n, acc => by
    unfold cellsFrom
    split
    · rw [Je r (n + 1) ((x, n) :: acc), Je r (n + 1) [(x, n)]]; simp
    · exact Je r n acc
theorem QT : ∀ (names : List (Str × NameKind)) (n : Nat) (x : Str) (c : Addr), (x, c) ∈ cellsFrom n names [] → (x, NameKind.cell) ∈ names
  | [], _, _, _, h => by cases h
  | (y, k) :: r, n, x, c, h => by
    unfold cellsFrom at h
    split at h
    · rename_i q
      rw [Je] at h
      rcases List.mem_append.mp h with h | h
      · exact .tail _ (QT r _ x c h)
      · simp only [List.mem_singleton, Prod.mk.injEq] at h
        rw [h.1, beq_iff_eq.mp q]; exact .head _
    · exact .tail _ (QT r _ x c h)
theorem QA : ∀ (names : List (Str × NameKind)) (n : Nat) (x : Str), (x, NameKind.cell) ∈ names → ∃ c, (x, c) ∈ cellsFrom n names []
  | (y, k) :: r, n, x, h => by
    unfold cellsFrom
    rcases List.mem_cons.mp h with e | h
    · cases e
      rw [if_pos (by rfl), Je]
      exact ⟨n, List.mem_append_right _ (.head _)⟩
    · split
      · rw [Je]
        obtain ⟨c, hc⟩ := QA r (n + 1) x h
        exact ⟨c, List.mem_append_left _ hc⟩
      · exact QA r n x h
theorem JW {α : Type} : ∀ {l : List (Str × α)}, (l.map (·.1)).Nodup → ∀ {x : Str} {c : α}, (x, c) ∈ l → l.lookup x = some c
  | (y, d) :: r, nd, x, c, h => by
    obtain ⟨n1, n2⟩ := List.nodup_cons.mp nd
    rw [List.lookup_cons]
    rcases List.mem_cons.mp h with e | h
    · cases e; simp
    · cases hx : x == y with
      | true => rw [beq_iff_eq.mp hx] at h; exact absurd (List.mem_map.mpr ⟨_, h, rfl⟩) n1
      | false => exact JW n2 h
theorem Js : ∀ (names : List (Str × NameKind)) (n : Nat), (cellsFrom n names []).map (·.1) = ((names.filter (·.2 == .cell)).map (·.1)).reverse
  | [], _ => rfl
  | (x, k) :: r, n => by
    unfold cellsFrom
    split
    · rename_i q; rw [Je, List.map_append, Js r]; simp [q]
    · rename_i q; rw [Js r]; simp [q]
theorem Xo {target : Expr} {I : Addr} {v : Value} {o : Obj} {n : String} {M : Model} {Q : Unit → Shared → Prop} (h1 : s.heap.get? I = some o) (h2 : o.cls = .type n) (h3 : quietIt n = true) (h : Q () s) : wpAny M A (letOwnedTupleGo target (.ref I) v) Q E s := by
  have go : wpAny M A (letOwnedTupleGo target (.ref I) v) Q E s := by
    unfold letOwnedTupleGo
    have both : ∀ a : Addr, wpAny M A (do
        let o ← load I
        match o.cls, o.data with
        | .type n, .fields vs =>
          if ["enumerate", "zip", "dict_itemiterator", "dict_reverseitemiterator", "odict_iterator", "itertools.zip_longest", "itertools.pairwise"].contains n && vs[0]? == some (rawInt a) then
            rule "for.unpacks-the-owned-tuple"
            updateField I 0 .none
        | _, _ => pure ()) Q E s := fun a => by
      refine wpAny_bind (wpAny_load h1 ?_)
      rw [h2]
      replace h3 := (Bool.or_eq_false_iff.mp (by unfold quietIt at h3; rw [Bool.not_eq_true', List.contains_cons] at h3; exact h3)).2
      cases o.data with
      | fields vs => dsimp only; rw [h3, Bool.false_and, if_neg (by decide)]; exact wpAny_pure h
      | _ => exact wpAny_pure h
    cases target with
    | Tuple => cases v <;> first | exact both _ | exact wpAny_pure h
    | List => cases v <;> first | exact both _ | exact wpAny_pure h
    | _ => exact wpAny_pure h
  exact go

theorem Xj {prog : Program} {w : World} {l : Addr} {vs : Array Value} {n : Nat} {x : Value} {Q : Value → Shared → Prop} (ho : s.heap.get? l = some (listObj vs n)) (hsz : vs.size ≤ sizeLine)
    (h : ∀ h' n', h'.get? l = some (listObj (vs.push x) n') → (∀ b o, b ≠ l → s.heap.get? b = some o → h'.get? b = some o) → Q .none { s with heap := h' }) : wpAny (model prog w) A (call (.builtin "list.append") [.ref l, x]) Q E s := by
  have hl : s.heap.IsList l vs := ⟨_, ho, rfl, n, rfl⟩
  refine wpAny_call_entry slot_list_append hl.typeIs entry_list_append ?_ (args_list_append _ _)
  show wpAny _ _ (updateSeq l (·.push x) >>= fun _ => ret .none) _ _ s
  refine wpAny_bind ?_
  obtain ⟨n', hd'⟩ := Obj.data_mapSeq (o := listObj vs n) rfl (·.push x)
  refine wpAny_updateSeq ho rfl (wpAny_pure ⟨.none, rfl, h _ n' ?_ fun b o hb e => (Heap.get?_update_other _ _ (Ne.symm hb)).trans e⟩)
  have e := Heap.get?_update_self (Obj.mapSeq (·.push x)) ho (Obj.isFreed_of_seq hd')
  rw [e]
  have : Obj.mapSeq (·.push x) (listObj vs n) = listObj (vs.push x) n' := by
    unfold Obj.mapSeq at hd' ⊢
    simp only at hd' ⊢
    injection hd' with _ q
    rw [← q]
  rw [this]

theorem GZ {prog : Program} {w : World} {elt target iter : Expr} {ifs : List Expr} {scope : Scope} {pos : Pos} {it acc : Value} {env : Env} {R : Result → Shared → Prop} (I : Nat → Shared → Prop)
    (turn : ∀ n s, I n s → wpAny (model prog w) A (pyNext it) (fun r s₁ => match r with
      | none => R (.ok .next) s₁
      | some v => wpAny (model prog w) A (letOwnedTupleGo target it v) (fun _ s₁' => wpAny (model prog w) A (assign target env v) (fun _ s₂ =>
          wpAny (model prog w) A (forIn ifs true fun c r => if r = true then do let ok ← isTrue c env (eval c env); pure (ForInStep.yield ok) else pure (ForInStep.yield r)) (fun ok s₃ =>
            if ok = true then wpAny (model prog w) A (eval elt env) (fun x s₄ =>
              wpAny (model prog w) A (call (.builtin "list.append") [acc, x]) (fun _ s₅ => ∃ m, m < n ∧ I m s₅) (notedBy (model prog w) A env fun e s' => R (.error e) s') s₄) (notedBy (model prog w) A env fun e s' => R (.error e) s') s₃
            else ∃ m, m < n ∧ I m s₃) (notedBy (model prog w) A env fun e s' => R (.error e) s') s₂) (notedBy (model prog w) A env fun e s' => R (.error e) s') s₁') (notedBy (model prog w) A env fun e s' => R (.error e) s') s₁) (notedBy (model prog w) A env fun e s' => R (.error e) s') s)
    (n : Nat) (h : I n s) : codeAny (model prog w) A (.compLoop (.ListComp elt [⟨target, iter, ifs, 0⟩] scope pos) 0 it acc env) R s := by
  refine codeAny_loop rfl I (fun n s hI => ?_) n h
  show wpAny _ A ((compTurn (.ListComp elt [⟨target, iter, ifs, 0⟩] scope pos) 0 it acc env).onRaise (fun x => do noteFrame x env; theTreesLotGoes x)) _ _ s
  refine wpAny_noted ?_
  rw [compTurn_list]
  refine wpAny_bind (wpAny_standAt (wpAny_bind (wpAny_mono (turn n s hI) (fun r s₁ h₁ => ?_) fun _ _ h' => h')))
  cases r with
  | none => exact wpAny_pure h₁
  | some v =>
    refine wpAny_bind (wpAny_mono h₁ (fun _ s₁' h₁' => ?_) fun _ _ h' => h')
    refine wpAny_bind (wpAny_mono h₁' (fun _ s₂ h₂ => wpAny_bind (wpAny_mono h₂ (fun ok s₃ h₃ => ?_) fun _ _ h' => h')) fun _ _ h' => h')
    cases ok with
    | false => exact wpAny_pure ⟨rfl, h₃⟩
    | true =>
      exact wpAny_bind (wpAny_bind (wpAny_mono h₃ (fun x s₄ h₄ => wpAny_bind (wpAny_mono h₄ (fun _ s₅ h₅ => wpAny_pure (wpAny_pure ⟨rfl, h₅⟩)) fun _ _ h' => h')) fun _ _ h' => h'))

theorem ZDd {sc : Scope} {cl : List (Str × Addr)} {M : Model} {Q : Env → Shared → Prop}
    (h : Q { scope := sc, locals := s.heap.objs.size, globals := env.globals, cells := cellsFrom (s.heap.objs.size + 1) sc.names [] ++ cl, qual := env.qual, func := none, code := env.code, frame := env.frame, builtins := env.builtins }
      { s with heap := pushCells (s.heap.push { cls := .type "dict", data := .dict #[] }) sc.names }) : wpAny M A (newFunctionEnv sc env.globals cl [] env.qual none .none (some env)) Q E s := by
  simp only [newFunctionEnv, Option.isSome_some, if_true]
  refine wpAny_bind (wpAny_alloc ?_)
  refine wpAny_bind (wpAny_layCells _ (fun name kind cells => by cases hkc : kind == NameKind.cell <;> simp [hkc]) _ _ _ _ ?_)
  rw [show ({ s with heap := s.heap.push { cls := .type "dict", data := .dict #[] } } : Shared).heap.objs.size = s.heap.objs.size + 1 from Heap.size_push ..]
  rw [Je]
  simp only [List.forIn_nil]
  exact wpAny_bind (wpAny_pure (wpAny_pure h))

end

theorem Qh (kd : List (Str × NameKind)) (names : List (Str × NameKind)) (x : Str) : (relab kd names).lookup x = (names.lookup x).map fun k => cond (k == .free && kd.lookup x == some .cell) .cell k := by
  induction names with
  | nil => rfl
  | cons p r ih =>
    obtain ⟨y, k⟩ := p
    show (List.lookup x ((if (k == .free && kd.lookup y == some .cell) = true then (y, .cell) else (y, k)) :: relab kd r)) = _
    cases hx : x == y with
    | true =>
      obtain rfl := beq_iff_eq.mp hx
      cases q : (k == NameKind.free && kd.lookup x == some .cell) <;> simp [List.lookup_cons, q]
    | false => split <;> rw [List.lookup_cons, List.lookup_cons, hx] <;> exact ih
theorem Uj {env : Env} (f : Str × NameKind → List (Str × Addr) → Sem (ForInStep (List (Str × Addr))))
    (hf : ∀ name kind cells, f (name, kind) cells = if kind == .free then (do let a ← cellOf env name; pure (.yield ((name, a) :: cells))) else pure (.yield cells)) :
    ∀ (names : List (Str × NameKind)) (acc : List (Str × Addr)), (∀ x, (x, NameKind.free) ∈ names → ∃ c, env.cells.lookup x = some c) → ∃ cl, (forIn names acc f : Sem _) = pure cl ∧ (∀ x, ((x, NameKind.free) ∈ names ∨ acc.lookup x = env.cells.lookup x) → cl.lookup x = env.cells.lookup x) ∧
      ∀ x c, cl.lookup x = some c → acc.lookup x = some c ∨ env.cells.lookup x = some c
  | [], acc, _ => ⟨acc, by rw [List.forIn_nil], fun x h => h.elim (fun q => by cases q) id, fun x c e => .inl e⟩
  | (y, k) :: r, acc, h => by
    rw [List.forIn_cons, hf]
    cases q : (k == NameKind.free) with
    | true =>
      obtain rfl := beq_iff_eq.mp q
      obtain ⟨c, hc⟩ := h y (.head _)
      obtain ⟨cl, h1, h2, h3⟩ := Uj f hf r ((y, c) :: acc) fun x hx => h x (.tail _ hx)
      refine ⟨cl, ?_, fun x hx => h2 x ?_, fun x d e => ?_⟩
      · rw [if_pos rfl]
        unfold cellOf
        rw [hc]
        exact h1
      · by_cases z : x = y
        · right; rw [z, List.lookup_cons]; simp [hc]
        · rcases hx with hx | hx
          · rcases List.mem_cons.mp hx with e | e
            · cases e; exact absurd rfl z
            · exact .inl e
          · right; rw [List.lookup_cons, show (x == y) = false from Bool.eq_false_iff.mpr fun q => z (beq_iff_eq.mp q)]; exact hx
      · rcases h3 x d e with q | q
        · rw [List.lookup_cons] at q
          cases hx : x == y with
          | true => rw [hx] at q; cases q; rw [beq_iff_eq.mp hx]; exact .inr hc
          | false => rw [hx] at q; exact .inl q
        · exact .inr q
    | false =>
      obtain ⟨cl, h1, h2, h3⟩ := Uj f hf r acc fun x hx => h x (.tail _ hx)
      refine ⟨cl, ?_, fun x hx => h2 x (hx.imp_left fun hx => ?_), h3⟩
      · rw [if_neg (by decide)]
        exact h1
      · rcases List.mem_cons.mp hx with e | e
        · cases e; cases q
        · exact e
theorem VF {env : Env} {sc : Scope} (h : ∀ x, (x, NameKind.free) ∈ sc.names → ∃ c, env.cells.lookup x = some c) :
    ∃ cl, closureFor sc env = pure cl ∧ (∀ x, (x, NameKind.free) ∈ sc.names → cl.lookup x = env.cells.lookup x) ∧ ∀ x c, cl.lookup x = some c → env.cells.lookup x = some c := by
  obtain ⟨cl, h1, h2, h3⟩ := Uj (env := env) (fun p cells => if p.2 == .free then (do let a ← cellOf env p.1; pure (.yield ((p.1, a) :: cells))) else pure (.yield cells)) (fun _ _ _ => rfl) sc.names [] h
  refine ⟨cl, ?_, fun x hx => h2 x (.inl hx), fun x c e => (h3 x c e).elim (fun q => by cases q) id⟩
  unfold closureFor
  refine Eq.trans (congrArg (· >>= fun cs => pure cs) (Eq.trans ?_ h1)) rfl
  refine congrArg (forIn sc.names []) (funext fun p => funext fun cells => ?_)
  obtain ⟨x, k⟩ := p
  show (if (k == NameKind.free) = true then _ else _) = (if (k == NameKind.free) = true then _ else _)
  split <;> first | rfl | simp

theorem Jt {cx cx' : Cx} {sc : Scope} {xs : List Str} (h : cx.inner sc xs = some cx') : sc.kind = .function ∧ (sc.names.map (·.1)).Nodup ∧ xs.Nodup ∧ (∀ x ∈ xs, sc.names.lookup x = some .local ∨ sc.names.lookup x = some .cell) ∧
    ∃ fs, freeOf cx.kd cx.tb cx.nx sc.names = some fs ∧ cx' = { cx with kd := relab cx.kd sc.names, tb := (xs.zip (List.range' cx.nx xs.length)) ++ fs, nx := cx.nx + xs.length, ow := [] } := by
  unfold Cx.inner at h
  cases q : (sc.kind == ScopeKind.function && decide (sc.names.map (·.1)).Nodup && decide xs.Nodup && xs.all (fun x => sc.names.lookup x == some .local || sc.names.lookup x == some .cell)) with
  | false => rw [q] at h; cases h
  | true =>
    rw [q] at h
    simp only [Bool.and_eq_true, beq_iff_eq, decide_eq_true_eq, List.all_eq_true, Bool.or_eq_true] at q
    obtain ⟨⟨⟨c1, c3⟩, c4⟩, c5⟩ := q
    obtain ⟨fs, h1, h2⟩ := Option.map_eq_some_iff.mp h
    exact ⟨c1, c3, c4, c5, fs, h1, h2.symm⟩
theorem XP {kd : List (Str × NameKind)} {tb : List (Str × Nat)} {nx : Nat} {names : List (Str × NameKind)} : All (freeOf kd tb nx names) fun fs =>
    (∀ x i, fs.lookup x = some i → tb.lookup x = some i ∧ i < nx ∧ (x, NameKind.free) ∈ names) ∧ ∀ x, (x, NameKind.free) ∈ names → kd.lookup x = some .cell ∨ kd.lookup x = some .free := by
  induction names with
  | nil => exact .so ⟨(fun x i e => nomatch e), fun x e => nomatch e⟩
  | cons p r ih =>
    obtain ⟨y, k⟩ := p
    refine .cond (fun hk => ?_) (fun hk fs h => ?_)
    · obtain rfl : k = .free := beq_iff_eq.mp hk
      refine .ite fun q => .bind fun i h1 => .ite fun lt => .map fun gs h3 => ?_
      obtain ⟨g1, g2⟩ := ih gs h3
      refine ⟨fun x j e => ?_, fun x e => ?_⟩
      · rw [List.lookup_cons] at e
        cases hx : x == y with
        | true => rw [hx] at e; cases e; rw [beq_iff_eq.mp hx]; exact ⟨h1, of_decide_eq_true lt, .head _⟩
        | false => rw [hx] at e; obtain ⟨a, b, z⟩ := g1 x j e; exact ⟨a, b, .tail _ z⟩
      · rcases List.mem_cons.mp e with e | e
        · cases e
          simp only [Bool.or_eq_true, beq_iff_eq] at q
          exact q
        · exact g2 x e
    · obtain ⟨g1, g2⟩ := ih fs h
      refine ⟨fun x j e => let ⟨a, b, z⟩ := g1 x j e; ⟨a, b, .tail _ z⟩, fun x e => ?_⟩
      rcases List.mem_cons.mp e with e | e
      · cases e; exact nomatch hk
      · exact g2 x e
end TC

namespace TC
open PySem PySem.W PyProof.Rows

theorem Jp {α : Type} (a b : List (Str × α)) (x : Str) : (a ++ b).lookup x = (a.lookup x).elim (b.lookup x) some := by
  induction a with
  | nil => rfl
  | cons p a ih =>
    rw [List.cons_append, List.lookup_cons, List.lookup_cons]
    cases x == p.1 with
    | true => rfl
    | false => exact ih
theorem HI {xs : List Str} : ∀ {m : Nat} {x : Str}, All ((xs.zip (List.range' m xs.length)).lookup x) fun j => ∃ i, xs[i]? = some x ∧ j = m + i := by
  induction xs with
  | nil => exact .no
  | cons y xs ih =>
    intro m x j e
    rw [List.length_cons, List.range'_succ, List.zip_cons_cons, List.lookup_cons] at e
    cases hx : x == y with
    | true => rw [hx] at e; cases e; exact ⟨0, by rw [beq_iff_eq.mp hx]; rfl, rfl⟩
    | false =>
      rw [hx] at e
      obtain ⟨i, h1, h2⟩ := ih j e
      exact ⟨i + 1, h1, by lia⟩
structure Cb where
  c : Cf
  s : Shared
  sc : Scope
  xs : List Str
  cx' : Cx
  cl : List (Str × Addr)
  D : Nat
noncomputable abbrev Cb.I (k : Cb) : Nat := k.s.heap.objs.size
noncomputable abbrev Cb.own (k : Cb) : List (Str × Addr) := cellsFrom (k.D + 1 + 1) k.sc.names []
noncomputable def Cb.env (k : Cb) : Env :=
  { scope := relabel k.sc k.c.env, locals := k.D + 1, globals := k.c.env.globals, cells := k.own ++ k.cl, qual := k.c.env.qual, func := none, code := k.c.env.code, frame := k.c.env.frame, builtins := k.c.env.builtins }
noncomputable def Cb.nw (k : Cb) : AP := fun b => b = k.I ∨ b = k.D ∨ pls k.env k.own b
structure Cb.Ok (k : Cb) : Prop where
  W : Wf k.c
  A : At k.c k.s
  inn : k.c.cx.inner k.sc k.xs = some k.cx'
  hcl : ∀ x, (x, NameKind.free) ∈ k.sc.names → k.cl.lookup x = k.c.env.cells.lookup x
  hcl2 : ∀ x a, k.cl.lookup x = some a → k.c.env.cells.lookup x = some a
  lt : k.I < k.D
  ge : ∀ x a, k.own.lookup x = some a → k.D + 1 < a
noncomputable def Cb.at (k : Cb) (us : List V) (t : Shared) (E : Value → Shared → Prop) : Cf :=
  { k.c with cx := k.cx', env := k.env, hid := fun b => k.nw b ∨ k.c.hid b, ρ := k.c.ρ ++ us.map some, b := t, X := fun _ => False, E := E }
section
variable {k : Cb} {t : Shared} {us : List V} {vs : List Value} {E : Value → Shared → Prop} {v : Value} {u : V}
theorem Cb.Ok.pl (h : k.Ok) {b : Addr} (q : pls k.env k.own b) : k.D < b := by
  rcases q with rfl | ⟨x, q⟩
  · exact Nat.lt_succ_self _
  · exact Nat.lt_trans (Nat.lt_succ_self _) (h.ge x b q)
theorem Cb.Ok.new (h : k.Ok) {b : Addr} (q : k.nw b) : k.s.heap.get? b = none := by
  refine Heap.get?_none_of_le ?_
  rcases q with rfl | rfl | q
  · exact Nat.le_refl _
  · exact Nat.le_of_lt h.lt
  · exact Nat.le_of_lt (Nat.lt_trans h.lt (h.pl q))
theorem Cb.Ok.off (h : k.Ok) {b : Addr} {P : Prop} {o : Obj} (q : k.nw b) (e : k.s.heap.get? b = some o) : P := JJ e (h.new q)
theorem Cb.Ok.nfr (h : k.Ok) {b : Addr} (q : k.nw b) : ¬ k.c.fr b := fun z => (h.A.dom b (h.W.sub b z)).not_none (h.new q)
noncomputable def Fix : V → Prop
  | .own _ => False
  | .ot _ _ => False
  | .oh _ _ => False
  | _ => True
theorem Cb.Ok.R (h : k.Ok) (x : Ext k.c.fr k.s.heap t.heap) (r : k.c.R k.s v u) (no : Fix u) : (k.at us t E).R t v u := by
  cases u with
  | d y => exact PR.move (fun b o n e => ⟨fun q => q.elim (fun q => h.off q e) n, (x b o e).1 fun q => n (h.W.sub b q)⟩) r
  | brw y => exact PR.move (XX x fun _ b => b) r
  | exc k => exact ExcAt.ext r x
  | rg n => obtain ⟨a, t1, t2, t3, e, n, l, r⟩ := r; exact ⟨a, t1, t2, t3, e, n, l, (x a _ r).1 n⟩
  | _ => exact no.elim
theorem ZKh (u : V) : Fix (nmV u) := by
  cases u with
  | brw x => show Fix (low x); unfold low; cases flat x <;> trivial
  | _ => trivial
theorem Cb.Ok.names (h : k.Ok) : k.env.scope.names = relab k.c.cx.kd k.sc.names := by
  show (relabel k.sc k.c.env).names = _
  unfold relabel relab Env.kindOf
  simp only [h.W.envok.kind, h.W.envok.names]
  refine List.map_congr_left fun p _ => ?_
  obtain ⟨x, q⟩ := p
  simp
theorem Cb.Ok.own_none (h : k.Ok) {x : Str} (q : (x, NameKind.free) ∈ k.sc.names) : k.own.lookup x = none := by
  obtain ⟨_, nd, _⟩ := Jt h.inn
  cases z : k.own.lookup x with
  | none => rfl
  | some a =>
    have e1 := JW nd q
    rw [JW nd (QT _ _ _ _ (mem_of_lookup z))] at e1
    cases e1
theorem Cb.Ok.cells (h : k.Ok) {x : Str} (q : (x, NameKind.free) ∈ k.sc.names) : k.env.cells.lookup x = k.c.env.cells.lookup x := by
  show (k.own ++ k.cl).lookup x = _
  rw [Jp, h.own_none q]; exact h.hcl x q
theorem Wn {names : List (Str × NameKind)} (nd : (names.map (·.1)).Nodup) {x : Str} (q : (x, NameKind.cell) ∈ names) (n : Nat) : ∃ a, (cellsFrom n names []).lookup x = some a := by
  obtain ⟨a, ha⟩ := QA names n x q
  refine ⟨a, JW ?_ ha⟩
  rw [Js]
  exact (List.reverse_perm _).nodup_iff.mpr (List.Nodup.sublist (List.Sublist.map _ List.filter_sublist) nd)
theorem Cb.Ok.envok (h : k.Ok) : EnvOk k.c.G k.cx' k.env := by
  obtain ⟨i1, i2, i3, i4, fs, i5, i6⟩ := Jt h.inn
  obtain ⟨f1, f2⟩ := XP fs i5
  have O := h.W.envok
  have kd : k.cx'.kd = relab k.c.cx.kd k.sc.names := by rw [i6]
  have look : ∀ y n, k.cx'.kd.lookup y = some n → ∃ m, k.sc.names.lookup y = some m ∧ cond (m == .free && k.c.cx.kd.lookup y == some .cell) .cell m = n := fun y n e => by
    rw [kd, Qh] at e; exact Option.map_eq_some_iff.mp e
  refine ⟨i1, kd ▸ h.names, O.glob, O.bns, by rw [i6]; exact O.fns, by rw [i6]; exact O.cls, by rw [i6]; exact O.cst, fun y hy => ?_, fun y hy => ?_⟩
  · have : (y, NameKind.cell) ∈ k.sc.names ∨ (y, NameKind.free) ∈ k.sc.names := by
      rcases hy with e | e <;> obtain ⟨m, h1, h2⟩ := look y _ e <;> have h3 := mem_of_lookup h1 <;> cases m <;> first | exact .inl h3 | exact .inr h3 | exact nomatch h2
    rcases this with q | q
    · obtain ⟨a, ha⟩ := Wn i2 q (k.D + 1 + 1)
      refine ⟨a, ?_⟩
      show (k.own ++ k.cl).lookup y = some a
      rw [Jp, ha]; rfl
    · obtain ⟨a, ha⟩ := O.cells y (f2 y q)
      exact ⟨a, (h.cells q).trans ha⟩
  · obtain ⟨m, h1, h2⟩ := look y _ hy
    have hm : m = .free := by cases m <;> first | rfl | exact nomatch h2
    subst hm
    refine O.nocd y ((f2 y (mem_of_lookup h1)).resolve_left fun z => ?_)
    rw [z] at h2; exact nomatch h2
theorem Cb.Ok.bnd (h : k.Ok) {y : Str} (hy : y ∈ k.xs) : Bindable k.env k.own y := by
  obtain ⟨i1, i2, i3, i4, fs, i5, i6⟩ := Jt h.inn
  have e : k.env.kindOf y = (relab k.c.cx.kd k.sc.names).lookup y := by unfold Env.kindOf; rw [h.names]
  unfold Bindable
  rw [e, Qh]
  rcases i4 y hy with q | q
  · rw [q]; exact .inl rfl
  · rw [q]; exact .inr ⟨rfl, Wn i2 (mem_of_lookup q) _⟩
theorem Cb.Ok.wf (h : k.Ok) (l : us.length = k.xs.length) (x : Ext k.c.fr k.s.heap t.heap) (is : ∀ b, k.nw b → Is t.heap b) : Wf (k.at us t E) := by
  obtain ⟨_, _, _, _, fs, _, i6⟩ := Jt h.inn
  refine ⟨⟨h.W.ok, h.W.depth, h.W.units, fun b q => .inr (h.W.sub b q), fun b q => q.elim (is b) fun q => (h.A.dom b q).ext x, fun _ _ _ _ _ f => f.elim⟩, h.envok, ?_⟩
  show (k.c.ρ ++ us.map some).length = k.cx'.nx
  rw [List.length_append, List.length_map, h.W.len, l, i6]
theorem Rs.at {R : Value → V → Prop} {us : List V} : ∀ {vs : List Value}, Rs R vs us → ∀ {i : Nat} {u : V}, us[i]? = some u → ∃ v, vs[i]? = some v ∧ R v u := by
  induction us with
  | nil => intro vs r i u e; exact nomatch e
  | cons w us ih =>
    intro vs r i u e
    cases r with
    | cons a b => cases i with
      | zero => cases e; exact ⟨_, rfl, a⟩
      | succ i => exact ih b e
theorem Cb.Ok.go (h : k.Ok) (l : us.length = k.xs.length) (x : Ext k.c.fr k.s.heap t.heap) (is : ∀ b, k.nw b → Is t.heap b) (va : VarsAt k.env t.heap k.xs vs) (r : Rs (k.c.R k.s) vs us) (ku : ∀ w ∈ us, Pln w) : At (k.at us t E) t := by
  have W := h.wf (E := E) l x is
  obtain ⟨i1, i2, i3, i4, fs, i5, i6⟩ := Jt h.inn
  obtain ⟨f1, f2⟩ := XP fs i5
  have a : AtC (k.at us t E) t := ⟨⟨h.A.stk.frames, (h.A.stk.ext x).funs, (h.A.stk.ext x).base⟩, h.A.hok.ext x, W.dom0, Ext.refl _ _, Same.refl _⟩
  refine ⟨a, fun y i hy u hu => ?_, fun y b e => ?_⟩
  · rw [show (k.at us t E).cx = k.cx' from rfl, i6] at hy
    replace hy : (k.xs.zip (List.range' k.c.cx.nx k.xs.length) ++ fs).lookup y = some i := hy
    rw [Jp] at hy
    replace hu : (k.c.ρ ++ us.map some)[i]? = some (some u) := hu
    cases q : (k.xs.zip (List.range' k.c.cx.nx k.xs.length)).lookup y with
    | some j =>
      rw [q] at hy; cases hy
      obtain ⟨m, h1, rfl⟩ := HI _ q
      rw [List.getElem?_append_right (by rw [h.W.len]; exact Nat.le_add_right _ _), h.W.len, Nat.add_sub_cancel_left, List.getElem?_map] at hu
      obtain ⟨w, e1, e2⟩ := Option.map_eq_some_iff.mp hu
      cases e2
      obtain ⟨v, e3, r3⟩ := r.at e1
      refine ⟨v, va m y v h1 e3, ?_⟩
      rcases ku u (List.mem_of_getElem? e1) with ⟨z, rfl⟩ | ⟨z, rfl⟩
      · exact h.R x r3 trivial
      · exact ZAb a (PR.move (XX x fun _ b => b) r3)
    | none =>
      rw [q] at hy
      obtain ⟨g1, g2, g3⟩ := f1 y i hy
      rw [List.getElem?_append_left (by rw [h.W.len]; exact g2)] at hu
      obtain ⟨v, va, r3⟩ := h.A.envr y i g1 u hu
      refine ⟨v, ?_, h.R x r3 (ZKh u)⟩
      have hk := f2 y g3
      rcases va with ⟨z, _⟩ | ⟨z, b, hb, hv⟩
      · unfold Env.kindOf at z
        rw [h.W.envok.names] at z
        rcases hk with q | q <;> rw [z] at q <;> cases q
      · refine .inr ⟨?_, b, (h.cells g3).trans hb, x.cell hv⟩
        show k.env.scope.names.lookup y = some .cell ∨ k.env.scope.names.lookup y = some .free
        rw [h.names, Qh, JW i2 g3]
        cases k.c.cx.kd.lookup y == some .cell with
        | true => exact .inl rfl
        | false => exact .inr rfl
  · replace e : (k.own ++ k.cl).lookup y = some b := e
    rw [Jp] at e
    cases q : k.own.lookup y with
    | some b' => rw [q] at e; cases e; obtain ⟨o, e, _⟩ := is b (.inr (.inr (.inr ⟨y, q⟩))); exact ⟨o, e⟩
    | none =>
      rw [q] at e
      obtain ⟨o, z⟩ := h.A.cok y b (h.hcl2 y b e)
      obtain ⟨_, z'⟩ := (x b o z).2
      exact ⟨_, z'⟩
end
end TC

namespace TC
open PySem PySem.W PyProof.Rows

section
variable {k : Cb} {t : Shared} {u : V} {v : Value}
theorem ZBg (hu : Pln u) (n : Nat) : All (partsV u n) fun us => ∀ w ∈ us, Pln w := by
  rcases hu with ⟨x, rfl⟩ | ⟨x, rfl⟩
  · cases x with
    | tuple xs => exact fun us e w hw => by obtain ⟨_, rfl⟩ := Jn e; obtain ⟨y, _, rfl⟩ := List.mem_map.mp hw; exact .inl ⟨y, rfl⟩
    | _ => exact .no
  · cases x with
    | tuple xs => exact fun us e w hw => by obtain ⟨_, rfl⟩ := Jn e; obtain ⟨y, _, rfl⟩ := List.mem_map.mp hw; exact ZAc y
    | _ => exact .no
theorem Cb.Ok.unp (h : k.Ok) {ps : List Pos} {i : Nat} {p : Pos} (l1 : k.xs.length = ps.length) (fm : Fm k.env k.own t.heap) (hok : HOk k.c.hm k.c.A t.heap) {a : Addr} {items : Array Value} {m : Nat} (ho : t.heap.get? a = some (tupObj items m)) (q2 : items.size = k.xs.length) {E : Value → Shared → Prop} {Q : Unit → Shared → Prop}
    (q : ∀ h' tk, Fm k.env k.own h' → (∀ b o, ¬ pls k.env k.own b → t.heap.get? b = some o → h'.get? b = some o) → VarsAt k.env h' k.xs items.toList → Q () { t with heap := h', toks := tk }) :
    wpAny k.c.M k.c.A (assign (.Tuple ((k.xs.zip ps).map fun q => .Name q.1 q.2) i p) k.env (.ref a)) Q E t := by
  obtain ⟨i1, i2, i3, i4, _⟩ := Jt h.inn
  rw [arm_assign_Tuple, XZ]
  refine wpAny_bind (wpAny_standAt (Ud (hm := k.c.hm) hok ho (by rw [List.length_map, List.length_zip, ← l1, Nat.min_self, q2]) (ZIf _ _) fun h1 k1 => ?_))
  rw [List.map_map]
  have f1 : Fm k.env k.own h1 := fm.on fun b o _ e => k1 b o e
  exact GE (s := { t with heap := h1 }) (vs := items.toList) (by rw [Array.length_toList, q2]) l1 i3 f1 (fun y hy => h.bnd hy) fun h2 tk F2 k2 a2 o2 => q h2 tk F2 (fun b o hb e => k2 b o hb (k1 b o e)) a2
theorem Cb.Ok.bind (h : k.Ok) {tg : Expr} {topt : Option Nat} (ht : tgtNames (view tg) = some (topt, k.xs)) (fm : Fm k.env k.own t.heap) (x : Ext k.c.fr k.s.heap t.heap) (r : k.c.R k.s v u) (hu : Pln u) {kk : Rho → Prop} (w : bindT topt u k.c.ρ kk) {E : Value → Shared → Prop} {Q : Unit → Shared → Prop}
    (q : ∀ h' tk vs us, Fm k.env k.own h' → (∀ b o, ¬ pls k.env k.own b → t.heap.get? b = some o → h'.get? b = some o) → VarsAt k.env h' k.xs vs → Rs (k.c.R k.s) vs us → us.length = k.xs.length → (∀ w ∈ us, Pln w) → kk (k.c.ρ ++ us.map some) → Q () { t with heap := h', toks := tk }) :
    wpAny k.c.M k.c.A (assign tg k.env v) Q E t := by
  obtain ⟨i1, i2, i3, i4, _⟩ := Jt h.inn
  have ve := Jd tg
  revert ht ve
  cases view tg with
  | name y p =>
    intro ht ve
    replace ve : Expr.Name y p = tg := ve
    subst ve
    injection ht with ht
    injection ht with h1 h2
    subst h1
    refine wpAny_bind (wpAny_standAt (wpAny_bindName (Vm fm (h.bnd (h2 ▸ .head _)) fun h1 tk F1 k1 a1 o1 => ?_)))
    refine q h1 tk [v] [u] F1 k1 (fun i y w e1 e2 => ?_) (.cons r .nil) (by rw [← h2]; rfl) (fun w hw => by rw [List.mem_singleton.mp hw]; exact hu) w
    rw [← h2] at e1
    cases i with
    | zero => cases e1; cases e2; exact a1
    | succ i => exact nomatch e1
  | tuple es i p =>
    intro ht ve
    replace ve : Expr.Tuple es i p = tg := ve
    subst ve
    obtain ⟨l, h1, h2⟩ := Option.map_eq_some_iff.mp ht
    injection h2 with h2 h3
    subst h2
    subst h3
    obtain ⟨ps, l1, rfl⟩ := ZEl _ h1
    refine ZR w fun us e w => ?_
    obtain ⟨a, items, m, rfl, ho, nf, q1⟩ := Vf h.W.toWfC h.A.toAtC r _ us e
    have q2 : us.length = k.xs.length := Qg us e
    have q3 := q1.length
    exact h.unp l1 fm (h.A.hok.ext x) ((x a _ ho).1 nf) (by rw [← q2, ← q3, Array.length_toList]) fun h' tk F k' va => q h' tk items.toList us F k' va q1 q2 (ZBg hu _ us e) w
  | _ => intro ht; exact nomatch ht
end
noncomputable def New (b : Bool) (h : Heap) (v : Value) : Prop := b = true → ∀ a, v = .ref a → h.get? a = none
noncomputable def OkN (b : Bool) (c : Cf) (pe : Expr) (e : TC.E) : Prop := ∀ s K Q, At c s → wpE (wpCall c.G.tab c.dep) c.hm c.X e c.ρ K → (∀ v s' u, At c s' → Ext c.fr s.heap s'.heap → c.R s' v u → New b s.heap v → K u → Q v s') → c.wp (eval pe c.env) Q s
theorem OkE.n {c : Cf} {pe : Expr} {e : TC.E} (h : OkE c pe e) : OkN false c pe e := fun s K Q a w k => h s K Q a w fun v s' u a' x r hk => k v s' u a' x r nofun hk
theorem ZJe {b : Bool} {c : Cf} {ifs : List Expr} {elt : Expr} {cs : Es} {e : TC.E} {s : Shared} (W : Wf c) (hz : ifs.length ≤ 1) (h1 : OkL c ifs cs) (h2 : OkN b c elt e) (a : At c s) {kk : Option PyData → Prop}
    (w : tstW (wpL (Φ c) c.hm c.X cs c.ρ) (wpE (Φ c) c.hm c.X e c.ρ fun v => got (kp v) fun y => kk (some y)) (kk none)) {P : Value → Shared → Prop} {Z : Shared → Prop}
    (q1 : ∀ v s' y, At c s' → Ext c.fr s.heap s'.heap → PR c.hid s'.heap v y → New b s.heap v → kk (some y) → P v s') (q2 : ∀ s', At c s' → Ext c.fr s.heap s'.heap → kk none → Z s') :
    c.wp (forIn ifs true fun x r => if r = true then do let ok ← isTrue x c.env (eval x c.env); pure (ForInStep.yield ok) else pure (ForInStep.yield r)) (fun ok s₃ => if ok = true then c.wp (eval elt c.env) P s₃ else Z s₃) s := by
  have el : ∀ s₃, At c s₃ → Ext c.fr s.heap s₃.heap → wpE (Φ c) c.hm c.X e c.ρ (fun v => got (kp v) fun y => kk (some y)) → c.wp (eval elt c.env) P s₃ := fun s₃ a₃ x₃ w => h2 s₃ _ _ a₃ w fun v s' u a' x' r nw w => ZR w fun y e w => q1 v s' y a' (x₃.trans x') (W.keep a'.toAtC r y e) (fun hb a e => x₃.gone (nw hb a e)) w
  rcases ifs with _ | ⟨i, _ | ⟨j, ifs⟩⟩
  · cases cs with
    | nil => rw [List.forIn_nil]; exact wpAny_pure (el s a (Ext.refl _ _) w)
    | cons => exact h1.elim
  · rcases cs with _ | ⟨c1, _ | ⟨c2, cs⟩⟩
    · exact h1.elim
    · refine wpAny_tests_one (h1.1.ts s _ _ a w (fun u => Qs) fun b s' a' x' w' => ?_)
      cases b with
      | false => exact q2 s' a' x' w'
      | true => exact el s' a' x' w'
    · exact h1.2.elim
  · exact absurd hz (by simp)
theorem Ext.on {fr : AP} {h h' h'' : Heap} {P : AP} (x : Ext fr h h') (k : ∀ b o, ¬ P b → h'.get? b = some o → h''.get? b = some o) (p : ∀ b, P b → h.get? b = none) : Ext fr h h'' := fun b o e => by
  have n : ¬ P b := fun q => JJ e (p b q)
  obtain ⟨x1, sl, x2⟩ := x b o e
  exact ⟨fun hb => k b o n (x1 hb), sl, k b _ n x2⟩

structure Cb.Lp (k : Cb) (P : AP) (ys : List PyData) (t : Shared) : Prop where
  x : Ext k.c.fr k.s.heap t.heap
  m : Same k.s t
  acc : IsL P t.heap (.ref k.D) ys
  fm : Fm k.env k.own t.heap
noncomputable abbrev Cb.hd (k : Cb) : AP := fun b => k.nw b ∨ k.c.hid b
structure Cb.Tx (k : Cb) (b : Bool) (tg : Expr) (topt : Option Nat) (ifs : List Expr) (elt : Expr) (cs : Es) (e : TC.E) : Prop where
  tg : tgtNames (view tg) = some (topt, k.xs)
  hz : ifs.length ≤ 1
  ok : ∀ us t E, Wf (k.at us t E) → OkL (k.at us t E) ifs cs ∧ OkN b (k.at us t E) elt e
noncomputable abbrev Cb.step (k : Cb) (cs : Es) (e : TC.E) (ρ : Rho) (kk : Option PyData → Prop) : Prop := tstW (wpL (Φ k.c) k.c.hm (fun _ => False) cs ρ) (wpE (Φ k.c) k.c.hm (fun _ => False) e ρ fun v => got (kp v) fun y => kk (some y)) (kk none)
section
variable {k : Cb} {tg iter elt : Expr} {topt : Option Nat} {ifs : List Expr} {cs : Es} {e : TC.E} {K : V → Prop} {us : List V} {v₀ : Value} {h' : Heap} {R : Result → Shared → Prop} {pos : Pos} {P : AP}
theorem Cb.Ok.plN (h : k.Ok) {b : Nat} (hb : b ≤ k.D) : ¬ pls k.env k.own b := fun q => absurd (h.pl q) (Nat.not_lt.mpr hb)
theorem Cb.Ok.free (h : k.Ok) {b : Nat} (hb : k.I ≤ b) : ¬ k.c.fr b := fun z => (h.A.dom b (h.W.sub b z)).not_none (Heap.get?_none_of_le hb)
theorem Cb.Ok.turn {b : Bool} (h : k.Ok) (X : k.Tx b tg topt ifs elt cs e) (sP : ∀ b, k.hd b → P b) {t : Shared} {ys : List PyData} (L : k.Lp P ys t) (is : ∀ b, k.nw b → Is t.heap b) {vs : List Value} {us : List V} (va : VarsAt k.env t.heap k.xs vs) (r : Rs (k.c.R k.s) vs us) (l : us.length = k.xs.length) (p : ∀ w ∈ us, Pln w) (ly : ys.length < lim)
    {kk : Option PyData → Prop} (hP : ∀ h v y, New b t.heap v → kk (some y) → PR k.hd h v y → PR P h v y) (w : k.step cs e (k.c.ρ ++ us.map some) kk) {E : Value → Shared → Prop} {Z : Shared → Prop}
    (again : ∀ s' r, k.Lp P (r.elim ys fun y => ys ++ [y]) s' → (∀ b o, b < k.D → ¬ k.c.fr b → t.heap.get? b = some o → s'.heap.get? b = some o) → kk r → Z s') :
    wpAny k.c.M k.c.A (forIn ifs true fun x r => if r = true then do let ok ← isTrue x k.env (eval x k.env); pure (ForInStep.yield ok) else pure (ForInStep.yield r)) (fun ok s₃ => if ok = true then wpAny k.c.M k.c.A (eval elt k.env) (fun x s₄ => wpAny k.c.M k.c.A (call (.builtin "list.append") [.ref k.D, x]) (fun _ s₅ => Z s₅) E s₄) E s₃ else Z s₃) E t := by
  have a7 := h.go (E := E) l L.x is va r p
  have W7 := h.wf (E := E) l L.x is
  obtain ⟨D, ws, nn, eD, hD, rD⟩ := L.acc
  cases eD
  have Dfr : ¬ k.c.fr k.D := h.nfr (.inr (.inl rfl))
  have sfr : ∀ b, k.c.fr b → P b := fun b q => sP b (.inr (h.W.sub b q))
  refine ZJe (kk := kk) W7 X.hz (X.ok _ _ _ W7).1 (X.ok _ _ _ W7).2 a7 w (fun v7 s7 y a8 x7 r7 nw7 w7 => ?_) fun s7 a8 x7 w7 => ?_
  · have r7' : PRs P s7.heap ws.toList ys := rD.move (XX x7 sfr)
    refine Xj ((x7 _ _ hD).1 Dfr) ?_ fun h8 n8 hd8 k8 => ?_
    · rw [r7'.size]; exact QE ly (by rw [sizeLine_eq]; decide)
    · have kk : Mv P P s7.heap h8 := fun b o n e => ⟨n, k8 b o (fun q => n (sP b (.inl (.inr (.inl q))))) e⟩
      refine again { s7 with heap := h8 } (some y) ⟨(L.x.trans x7).on (P := (· = k.D)) k8 fun b q => h.new (.inr (.inl q)), L.m.trans ⟨a8.same.1, a8.same.2⟩, ⟨_, _, n8, rfl, hd8, ?_⟩, (L.fm.ext x7).on fun b o hb e => k8 b o (fun q => h.plN (Nat.le_refl _) (q ▸ hb)) e⟩ (fun b o lt nf e => k8 b o (Nat.ne_of_lt lt) ((x7 b o e).1 nf)) w7
      rw [Array.toList_push]
      exact PRs.append (.cons ((hP _ _ _ nw7 w7 r7).move kk) .nil) (r7'.move kk)
  · exact again s7 none ⟨L.x.trans x7, L.m.trans ⟨a8.same.1, a8.same.2⟩, ⟨_, _, nn, rfl, (x7 _ _ hD).1 Dfr, rD.move (XX x7 sfr)⟩, L.fm.ext x7⟩ (fun b o lt nf e => (x7 b o e).1 nf) w7
theorem Cb.Ok.loop (h : k.Ok) (X : k.Tx false tg topt ifs elt cs e) (sr : Src k.c k.s v₀ h' us) (lu : us.length < lim) (w : compW (k.step cs e) topt k.c.ρ K us []) {t : Shared} (kt : Keep h' t.heap) (hk : ∀ b, b < h'.objs.size → b < k.D) (L : k.Lp k.hd [] t)
    (fin : ∀ t ys, k.Lp k.hd ys t → K (.own (.list ys)) → R (.ok .next) t) : codeAny k.c.M k.c.A (.compLoop (.ListComp elt [⟨tg, iter, ifs, 0⟩] k.sc pos) 0 (.ref k.I) (.ref k.D) k.env) R t := by
  obtain ⟨It, src, ⟨fp, St, Wk, st0, hfp, hIt⟩, hsrc, hR, hP⟩ := sr
  have fpD : ∀ b ∈ fp, b < k.D := fun b hb => hk b (hfp b hb).1
  have fpfr : ∀ b ∈ fp, ¬ k.c.fr b := fun b hb => by
    rcases (hfp b hb).2 with rfl | q | q
    · exact h.nfr (.inl rfl)
    · obtain ⟨o, vs, e1, e2⟩ := h.A.hok.rec b q
      exact fun z => let ⟨_, o', e3, e4⟩ := h.A.stk.funs.mem z; absurd e2 (by rw [e1] at e3; cases e3; exact e4 vs)
    · exact (hsrc b q).2.1
  let Inv : Nat → Shared → Prop := fun j t => ∃ i ys, i + j = us.length ∧ St i t.heap ∧ k.Lp k.hd ys t ∧ ys.length ≤ i ∧ compW (k.step cs e) topt k.c.ρ K (us.drop i) ys
  refine GZ Inv (fun j t inv => ?_) us.length ⟨0, [], Nat.zero_add _, Wk.frame 0 h' t.heap st0 fun b hb o e => kt b o e, L, Nat.le_refl _, w⟩
  obtain ⟨i, ys, e1, st, L, l1, w1⟩ := inv
  have offI : ∀ b, b ∈ [k.I] → k.s.heap.get? b = none := fun b q => h.new (.inl (List.mem_singleton.mp q))
  have go : ∀ h5 tk, (∀ b o, b ∉ [k.I] → t.heap.get? b = some o → h5.get? b = some o) → k.Lp k.hd ys { t with heap := h5, toks := tk } := fun h5 tk k5 => by
    have k5' : ∀ b o, b ≠ k.I → t.heap.get? b = some o → h5.get? b = some o := fun b o n e => k5 b o (fun q => n (List.mem_singleton.mp q)) e
    obtain ⟨D, ws, nn, eD, hD, rD⟩ := L.acc
    cases eD
    exact ⟨L.x.on (P := (· ∈ [k.I])) k5 offI, L.m.trans ⟨rfl, rfl⟩, ⟨_, ws, nn, rfl, k5' _ _ (Nat.ne_of_gt h.lt) hD, rD.move fun b o n e => ⟨n, k5' b o (fun q => n (.inl (.inl q))) e⟩⟩, L.fm.on fun b o hb e => k5' b o (fun q => h.plN (Nat.le_of_lt h.lt) (q ▸ hb)) e⟩
  by_cases lt : i < us.length
  · refine Wk.item i t _ _ lt st fun v h5 tk p st5 k5 => ?_
    rw [List.drop_eq_getElem_cons lt] at w1
    have L5 := go h5 tk k5
    obtain ⟨oI, nm, q1, q2, q3, q4⟩ := hIt (i + 1) h5 st5
    refine Xo (s := { t with heap := h5, toks := tk }) q1 q2 q3 ?_
    refine h.bind (t := { t with heap := h5, toks := tk }) X.tg L5.fm L5.x (hR i v _ p (List.getElem?_eq_getElem lt)) (hP _ (List.getElem_mem lt)) w1 fun h6 tk6 vs us' F6 k6 a6 r6 l6 p6 w2 => ?_
    obtain ⟨D, ws, nn, eD, hD, rD⟩ := L5.acc
    cases eD
    have hD6 : h6.get? k.D = some (listObj ws nn) := k6 k.D _ (h.plN (Nat.le_refl _)) hD
    have is6 : ∀ b, k.nw b → Is h6 b := fun b q => by
      rcases q with rfl | rfl | q
      · exact ⟨oI, k6 _ _ (h.plN (Nat.le_of_lt h.lt)) q1, q4⟩
      · exact ⟨_, hD6, .list _ _⟩
      · exact F6.is q
    refine h.turn X (fun _ q => q) (t := { t with heap := h6, toks := tk6 }) (ys := ys) ⟨L5.x.on (P := pls k.env k.own) k6 fun b q => h.new (.inr (.inr q)), L.m.trans ⟨rfl, rfl⟩, ⟨_, _, nn, rfl, hD6, rD.move fun b o n e => ⟨n, k6 b o (fun q => n (.inl (.inr (.inr q)))) e⟩⟩, F6⟩ is6 a6 r6 l6 p6 (Nat.lt_of_le_of_lt l1 (Nat.lt_trans lt lu)) (fun _ _ _ _ _ q => q) w2 fun s' r L' kf w' => ?_
    exact ⟨j - 1, by lia, i + 1, _, by lia, Wk.frame (i + 1) h5 _ st5 fun b hb o e => kf b o (fpD b hb) (fpfr b hb) (k6 b o (h.plN (Nat.le_of_lt (fpD b hb))) e), L', by cases r with | none => exact Nat.le_succ_of_le l1 | some y => show (ys ++ [y]).length ≤ i + 1; rw [List.length_append]; exact Nat.succ_le_succ l1, w'⟩
  · have ei : i = us.length := by lia
    refine Wk.done t _ _ (ei ▸ st) fun h5 tk k5 => ?_
    rw [List.drop_eq_nil_of_le (by lia)] at w1
    exact fin { t with heap := h5, toks := tk } ys (go h5 tk k5) w1.2

end
end TC

namespace TC
open PySem PySem.W PyProof.Rows

section
variable {c : Cf} {s : Shared} {tg iter elt : Expr} {topt : Option Nat} {ifs : List Expr} {cs : Es} {e src : TC.E} {K : V → Prop} {us : List V} {v₀ : Value} {h' : Heap} {pos p : Pos} {sc : Scope} {xs : List Str} {cx' : Cx} {cl : List (Str × Addr)}
theorem ZFd (sr : Src c s v₀ h' us) {t : Shared} (k3 : Keep h' t.heap) {Q : Value → Shared → Prop} {E : Value → Shared → Prop} (q : Q (.ref s.heap.objs.size) t) : wpAny c.M c.A (pyIter (.ref s.heap.objs.size)) Q E t := by
  obtain ⟨It, src, ⟨fp, St, Wk, st0, hfp, hIt⟩, hsrc, hR, hP⟩ := sr
  exact Wk.self 0 t _ _ (Wk.frame 0 h' t.heap st0 fun b hb o e => k3 b o e) q
noncomputable abbrev Blk (c : Cf) (cx' : Cx) (ifs : List Expr) (elt : Expr) (cs : Es) (e : TC.E) : Prop := ∀ c', c'.dep = c.dep → c'.cx = cx' → Wf c' → OkL c' ifs cs ∧ Ok c' elt e
theorem ZKr {c' : Cf} (T : Blk c cx' ifs elt cs e) (W' : Wf c') (h1 : c'.dep = c.dep) (h2 : c'.cx = cx') : OkL c' ifs cs ∧ OkN false c' elt e := ⟨(T c' h1 h2 W').1, (T c' h1 h2 W').2.ev.n⟩
theorem GK (W : Wf c) (a : At c s) (hi : c.cx.inner sc xs = some cx') (hcl : ∀ x, (x, NameKind.free) ∈ sc.names → cl.lookup x = c.env.cells.lookup x) (hcl2 : ∀ x a, cl.lookup x = some a → c.env.cells.lookup x = some a) (lt : s.heap.objs.size < h'.objs.size) (kh : Keep s.heap h') {it : Value} {P : Nat → AP} {R : Value → Addr → Result → Shared → Prop}
    (self : ∀ (t : Shared) (Q : Value → Shared → Prop) (E : Value → Shared → Prop), Keep h' t.heap → Q it t → wpAny c.M c.A (pyIter it) Q E t)
    (loop : ∀ D t, h'.objs.size = D → Cb.Ok ⟨c, s, sc, xs, cx', cl, D⟩ → Keep h' t.heap → Cb.Lp ⟨c, s, sc, xs, cx', cl, D⟩ (P D) [] t → codeAny c.M c.A (.compLoop (.ListComp elt [⟨tg, iter, ifs, 0⟩] sc pos) 0 it (.ref D) (Cb.env ⟨c, s, sc, xs, cx', cl, D⟩)) (R (.ref D) (D + 1)) t) :
    c.wp (newList []) (fun acc s₃ => c.wp (newFunctionEnv sc c.env.globals cl [] c.env.qual none .none (some c.env)) (fun cenv s₄ =>
      codeAny c.M c.A (.compStart (.ListComp elt [⟨tg, iter, ifs, 0⟩] sc pos) 0 it acc { cenv with scope := relabel sc c.env }) (R acc cenv.locals) s₄) s₃) { s with heap := h' } := by
  obtain ⟨i1, i2, _⟩ := Jt hi
  refine wpAny_newObj_type (ZDd ?_) (by size_fits)
  dsimp only
  generalize hD : h'.objs.size = D at lt loop
  have eC : (h'.push { cls := .type "list", dict := none, data := .seq ([] : List Value).toArray }).objs.size = D + 1 := by rw [Heap.size_push, hD]
  simp only [eC]
  have ok := cellsFrom_ok sc.names ((h'.push { cls := .type "list", dict := none, data := .seq ([] : List Value).toArray }).push { cls := .type "dict", data := .dict #[] }) (D + 1 + 1) [] ⟨(fun _ _ hm => nomatch hm), List.Pairwise.nil⟩ (by rw [Heap.size_push, eC]; exact Nat.le_refl _)
  rw [show ((h'.push { cls := .type "list", dict := none, data := .seq ([] : List Value).toArray }).push { cls := .type "dict", data := .dict #[] }).objs.size = D + 1 + 1 from by rw [Heap.size_push, eC]] at ok
  generalize h3e : pushCells ((h'.push { cls := .type "list", dict := none, data := .seq ([] : List Value).toArray }).push { cls := .type "dict", data := .dict #[] }) sc.names = h3 at ok ⊢
  have k3 : Keep h' h3 := fun b o e => by rw [← h3e]; exact pushCells_keeps _ _ b o (Heap.get?_push_of_some _ (Heap.get?_push_of_some _ e))
  have hD3 : h3.get? D = some (listObj #[] 0) := by
    rw [← h3e]; refine pushCells_keeps _ _ _ _ (Heap.get?_push_of_some _ ?_)
    rw [← hD]; exact Heap.get?_push_size _ rfl
  have hC3 : h3.Ns (D + 1) (fun _ => none) := by
    rw [← h3e]
    have := (Heap.Ns.new (h'.push { cls := .type "list", dict := none, data := .seq ([] : List Value).toArray }) (.type "dict"))
    rw [eC] at this
    exact this.keeps (pushCells_keeps _ _)
  let k : Cb := ⟨c, s, sc, xs, cx', cl, D⟩
  have h : k.Ok := ⟨W, a, hi, hcl, hcl2, lt, fun x b q => (ok.empty x b (mem_of_lookup q)).2⟩
  have fm : Fm k.env k.own h3 := by
    refine ⟨i1, ⟨_, hC3⟩, fun x b e => ⟨none, (ok.empty x b (mem_of_lookup e)).1⟩, fun x b e => ?_, fun y b e x ex => ?_⟩
    · show (k.own ++ cl).lookup x = some b
      rw [Jp, e]; rfl
    · replace e : (k.own ++ cl).lookup y = some b := e
      rw [Jp] at e
      cases q : k.own.lookup y with
      | some b' => rw [q] at e; cases e; exact name_of_addr ok.apart (mem_of_lookup ex) (mem_of_lookup q)
      | none =>
        rw [q] at e
        obtain ⟨o, z⟩ := a.cok y b (hcl2 y b e)
        exact h.off (.inr (.inr (.inr ⟨x, ex⟩))) z
  have L : ∀ t : Shared, t.heap = h3 → Same s t → k.Lp (P D) [] t := fun t e m => ⟨e ▸ Ext.of fun b o q => k3 b o (kh b o q), m, ⟨D, #[], 0, rfl, e ▸ hD3, .nil⟩, e ▸ fm⟩
  have loop : ∀ t : Shared, t.heap = h3 → Same s t → codeAny c.M c.A (.compLoop (.ListComp elt [⟨tg, iter, ifs, 0⟩] sc pos) 0 it (.ref D) k.env) (R (.ref D) (D + 1)) t := fun t e m => loop D t rfl h (e ▸ k3) (L t e m)
  exact codeAny_compStart_list (loop _ rfl ⟨rfl, rfl⟩) (self _ _ _ k3 (loop _ rfl ⟨rfl, rfl⟩))
inductive CompOk (c : Cf) (elt : Expr) (gs : List Comprehension) (sc : Scope) (e : TC.E) : Prop
  | mk (tg iter : Expr) (ifs : List Expr) (xs : List Str) (cx' : Cx) : gs = [⟨tg, iter, ifs, 0⟩] →
    (∀ s p pos K use Q, At c s → wpE (Φ c) c.hm c.X e c.ρ K → (∀ s₁ cl D t ys, Ext c.fr s.heap s₁.heap → Cb.Ok ⟨c, s₁, sc, xs, cx', cl, D⟩ → Cb.Lp ⟨c, s₁, sc, xs, cx', cl, D⟩ (Cb.hd ⟨c, s₁, sc, xs, cx', cl, D⟩) ys t → K (.own (.list ys)) → compPost c.M c.A c.E use Q (.ref D) (D + 1) (.ok .next) t) →
      c.wp (comprehension (.ListComp elt [⟨tg, iter, ifs, 0⟩] sc pos) sc c.env p (newList []) false (eval iter c.env) use) Q s) → CompOk c elt gs sc e
theorem ZDc (W : Wf c) (hs : Ok c iter src) (hf : ∀ x, foldedSetIterable iter c.env x = pure x) (ht : tgtNames (view tg) = some (topt, xs)) (hi : c.cx.inner sc xs = some cx') (hz : ifs.length ≤ 1) (T : Blk c cx' ifs elt cs e) : CompOk c elt [⟨tg, iter, ifs, 0⟩] sc (.comp topt src cs e) := ⟨tg, iter, ifs, xs, cx', rfl, fun s p pos K use Q a w fin => by
  obtain ⟨i1, i2, i3, i4, fs, i5, _⟩ := Jt hi
  obtain ⟨f1, f2⟩ := XP fs i5
  obtain ⟨cl, c1, c2, c3⟩ := VF (env := c.env) (sc := sc) fun x hx => W.envok.cells x (f2 x hx)
  refine wpAny_comprehension_free (g := ⟨tg, iter, ifs, 0⟩) (gs := []) rfl hf c1 i1 (fun x hx q => ?_) (hs.ev s _ _ a w fun v s₁ u a₁ x₁ r w₁ => ZR w₁ fun us e w₂ => Va W.toWfC a₁ r us e _ fun h' kh sr => ?_)
  · obtain ⟨y, k⟩ := x; cases q; exact JW i2 hx
  · have lt : s₁.heap.objs.size < h'.objs.size := by
      obtain ⟨It, src, ⟨fp, St, Wk, st0, hfp, hIt⟩, _⟩ := sr
      exact (hfp _ (Wk.sub _ (.head _))).1
    exact GK (P := fun D => Cb.hd ⟨c, s₁, sc, xs, cx', cl, D⟩) (R := compPost c.M c.A c.E use Q) W a₁ hi c2 c3 lt kh (fun t Q E k q => ZFd sr k q) fun D t hD h kt L => h.loop ⟨ht, hz, fun us t E W' => ZKr T W' rfl rfl⟩ sr w₂.1 w₂.2 kt (fun b q => hD ▸ q) L fun t ys L hk => fin s₁ cl D t ys x₁ h L hk⟩
theorem HW {gs : List Comprehension} (W : Wf c) (h : CompOk c elt gs sc e) : OkE c (.ListComp elt gs sc pos) e := fun s K Q a w k => by
  obtain ⟨tg, iter, ifs, xs, cx', rfl, h⟩ := h
  rw [eval_ListComp]
  refine h s _ _ K none Q a w fun s₁ cl D t ys x₁ h L hk => ?_
  obtain ⟨m, n⟩ := L.fm.ns
  refine ⟨m, n, fun h' sb => ?_⟩
  have kp : ∀ b o, b ≠ D + 1 → t.heap.get? b = some o → h'.get? b = some o := fun b o hb e => (sb.2 b hb).trans e
  have x2 : Ext c.fr s₁.heap h' := L.x.on (P := (· = D + 1)) kp fun b q => h.new (.inr (.inr (.inl q)))
  obtain ⟨_, ws, nn, eD, hD, rD⟩ := L.acc
  cases eD
  have nD : s₁.heap.get? D = none := h.new (.inr (.inl rfl))
  refine k _ { t with heap := h' } (.own (.list ys)) (W.go h.A x2 ⟨L.m.1, L.m.2⟩) (x₁.trans x2) ⟨D, rfl, h.A.ext.gone nD, ws, nn, kp D _ (Nat.ne_of_lt (Nat.lt_succ_self D)) hD, rD.move fun b o n e => ⟨fun q => n (q.elim (fun q => .inl (.inr (.inl q))) .inr), kp b o (fun q => n (.inl (.inr (.inr (.inl q))))) e⟩⟩ hk
end

section
variable {c : Cf} {pos p : Pos}
theorem ZGn {s : Shared} {v : Value} {u : V} (W : WfC c) (a : AtC c s) (r : c.R s v u) : All (argV u) fun u' => VR c.G.ca s.heap c.hid c.fr s.heap v u' ∧ argV u' = some u' := by
  cases u with
  | d x => exact .so ⟨r, rfl⟩
  | own x => exact .so ⟨W.keep a r x rfl, rfl⟩
  | brw x => exact .so ⟨r, rfl⟩
  | ot y z => exact .so ⟨W.keep a r _ rfl, rfl⟩
  | oh y z => exact .no
  | exc k => exact .so ⟨r, rfl⟩
  | rg n => exact .no
theorem ZJh {s : Shared} (W : WfC c) (a : AtC c s) {vs : List Value} {us : List V} (r : Rs (c.R s) vs us) : All (argAll us) (Rs (fun v u => VR c.G.ca s.heap c.hid c.fr s.heap v u ∧ argV u = some u) vs) :=
  Rs.rec (motive := fun vs us _ => All (argAll us) (Rs (fun v u => VR c.G.ca s.heap c.hid c.fr s.heap v u ∧ argV u = some u) vs)) (.so .nil) (fun q _ ih => .bind fun u' h1 => .map fun us' h2 => .cons (ZGn W a q u' h1) (ih us' h2)) r
noncomputable def Calls (c : Cf) : Prop := ∀ s f z vs us K Q, c.G.fa[f]? = some z → AtC c s → Rs (fun v u => VR c.G.ca s.heap c.hid c.fr s.heap v u ∧ argV u = some u) vs us → Φ c c.hm f us K c.X → (∀ v s' u, AtC c s' → Ext c.fr s.heap s'.heap → VR c.G.ca s.heap c.hid c.fr s'.heap v u → K u → Q v s') → c.wp (call (.ref z) vs) Q s
theorem VR.back {ca : List Addr} {h₀ h₁ h : Heap} {hid fr : AP} {v : Value} {u : V} (r : VR ca h₁ hid fr h v u) (x : Ext fr h₀ h₁) : VR ca h₀ hid fr h v u := by
  cases u with
  | own y => obtain ⟨a, e, n, r⟩ := r; exact ⟨a, e, x.gone n, r⟩
  | ot y z => exact OtV.move r (fun _ q => x.gone q) (fun _ _ _ e => e) fun _ _ n e => ⟨n, e⟩
  | _ => exact r
theorem ZKt (O : c.G.Ok) {k : Nat} {z : Addr} (h : c.G.fa[k]? = some z) : ∃ o fd, c.G.B.get? z = some o ∧ o.data = .func fd := by
  obtain ⟨d, fn, ow, h1, h2, h3, h4, h5⟩ := O.fok k z h
  obtain ⟨a', o, pm, code, doc, q1, q2, q3, q4⟩ := O.top.fn d h1
  have := mg_of O.inK O.top.g h2
  rw [q1] at this
  cases this
  exact ⟨o, _, q2, q3⟩
theorem ZHw {s : Shared} {v : Value} {u : V} (W : WfC c) (r : VR c.G.ca s.heap c.hid c.fr s.heap v u ∧ argV u = some u) : VR c.G.ca s.heap c.hid c.fr s.heap v (lend u) ∧ argV (lend u) = some (lend u) := by
  cases u with
  | d x =>
    show VR _ _ _ _ _ v (low x) ∧ argV (low x) = some (low x)
    unfold low
    cases flat x with
    | true => exact r
    | false => exact ⟨PR.anti r.1 W.sub, rfl⟩
  | _ => exact r
theorem ZDx {s : Shared} (W : WfC c) {vs : List Value} {us : List V} (r : Rs (fun v u => VR c.G.ca s.heap c.hid c.fr s.heap v u ∧ argV u = some u) vs us) : Rs (fun v u => VR c.G.ca s.heap c.hid c.fr s.heap v u ∧ argV u = some u) vs (us.map lend) :=
  Rs.rec (motive := fun vs us _ => Rs (fun v u => VR c.G.ca s.heap c.hid c.fr s.heap v u ∧ argV u = some u) vs (us.map lend)) .nil (fun a _ b => .cons (ZHw W a) b) r
theorem WI (W : Wf c) (C : Calls c) {f : Str} {args : List Expr} {es : Es} {k : Nat} (hg : c.cx.glob f = true) (lf : c.cx.fns.lookup f = some k) (hl : OkL c args es) {g : List V → List V} (gr : ∀ (s : Shared) (vs : List Value) (us : List V), Rs (fun v u => VR c.G.ca s.heap c.hid c.fr s.heap v u ∧ argV u = some u) vs us → Rs (fun v u => VR c.G.ca s.heap c.hid c.fr s.heap v u ∧ argV u = some u) vs (g us))
    (s : Shared) (K : V → Prop) (Q : Value → Shared → Prop) (a : At c s) (w : seqW (wpL (Φ c) c.hm c.X es c.ρ) fun vs => got (argAll vs) fun us => Φ c c.hm k (g us) K c.X) (kk : Fin c s K Q) : c.wp (eval (.Call (.Name f p) args [] pos) c.env) Q s := by
  obtain ⟨z, h1, h2⟩ := W.ok.fnm f k (by rw [← W.envok.fns]; exact lf)
  obtain ⟨o, fd, h3, h4⟩ := ZKt W.ok h1
  refine PyProof.Rows.Call_ (Xh W a.toAtC hg h2 (Calls.callWith_function (o := o) (fd := fd) ?_))
  have fin : ∀ vs s' us, At c s' → Ext c.fr s.heap s'.heap → Rs (c.R s') vs us → us.length = args.length → got (argAll us) (fun us => Φ c c.hm k (g us) K c.X) → (s'.heap.get? z = some o ∧ o.data = .func fd) ∧ c.wp (call (.ref z) vs) Q s' := fun vs s' us a' x r l w' =>
    ⟨⟨a'.stk.base _ _ h3, h4⟩, ZR w' fun us' e w'' => C s' k z vs (g us') K Q h1 a'.toAtC (gr _ _ _ (ZJh W.toWfC a'.toAtC r us' e)) w'' fun v s₂ u a₂ x₂ r₂ hk => kk v s₂ u (W.go a' x₂ (Same.mk' a'.same a₂.same)) (x.trans x₂) (r₂.back a'.ext) hk⟩
  cases args with
  | nil => cases es with
    | nil => exact PyProof.Rows.evalArgs_none (fin [] s [] a (Ext.refl _ _) .nil rfl w)
    | cons => exact hl.elim
  | cons e args =>
    have := Ug (pos := pos) W hl a w fin
    cases es with
    | nil => exact hl.elim
    | cons e' es =>
      rw [hl.1.pl] at this ⊢
      exact Calls.evalArgs_plain this
theorem HR (W : Wf c) (C : Calls c) {f : Str} {args : List Expr} {es : Es} {k : Nat} (hg : c.cx.glob f = true) (lf : c.cx.fns.lookup f = some k) (hl : OkL c args es) : OkE c (.Call (.Name f p) args [] pos) (.call k es) := fun s K Q a w kk => WI W C hg lf hl (g := fun us => us) (fun _ _ _ r => r) s K Q a w kk
theorem GH (W : Wf c) (C : Calls c) {f : Str} {args : List Expr} {es : Es} {k : Nat} (hg : c.cx.glob f = true) (lf : c.cx.fns.lookup f = some k) (hl : OkL c args es) : OkE c (.Call (.Name f p) args [] pos) (.callb k es) := fun s K Q a w kk => WI W C hg lf hl (g := fun us => us.map lend) (fun _ _ _ r => ZDx W.toWfC r) s K Q a w kk

theorem ZJf : ∀ q ∈ tyNames, bootBuiltins q.1 = some (.type (tyStr q.2)) ∧ q.1 ∈ usedNames := by decide +kernel
noncomputable def isExcT : Ty → Bool
  | .exc _ => true
  | _ => false
theorem ZKo : ∀ q ∈ tyNames, isExcT q.2 = false := by decide +kernel
theorem ZJw {s : Shared} {v : Value} {u : V} {K : V → Prop} {Q : Value → Shared → Prop} (W : WfC c) (a : At c s) (r : c.R s v u) (ty : Ty) (nt : ∀ j, ty ≠ .exc j) (k : Fin c s K Q) (w : got (isiV ty u) fun b => K (.d (.bool b))) : c.wp (call (.builtin "isinstance") [v, .type (tyStr ty)]) Q s := by
  have data : ∀ x, rd u = some x → (ty ≠ .valueError → K (.d (.bool (ty.has x)))) → ty ≠ .valueError → c.wp (call (.builtin "isinstance") [v, .type (tyStr ty)]) Q s := fun x e h n => ZDn (W.rdf r x e) ty (W.ret a k (h n)) n nt
  refine ZR w fun b e w => ?_
  have gen : ((rd u).map fun x => ty.has x) = some b → ty ≠ .valueError → c.wp (call (.builtin "isinstance") [v, .type (tyStr ty)]) Q s := fun e n => by
    obtain ⟨x, e1, e2⟩ := Option.map_eq_some_iff.mp e
    exact data x e1 (fun _ => e2 ▸ w) n
  cases u with
  | exc j => cases ty with
    | valueError => cases e; exact VZ W a.toAtC r (W.ret a k w)
    | exc j => exact absurd rfl (nt j)
    | _ => exact nomatch e
  | ot y z => cases ty <;> exact nomatch e
  | oh y z => exact r.elim
  | _ => cases ty with
    | exc j => exact absurd rfl (nt j)
    | valueError => exact nomatch e
    | _ => exact gen e nofun
theorem ZDm (W : Wf c) {l : Expr} {a : TC.E} (h : Ok c l a) (hg : c.cx.glob "isinstance" = true) {t : Str} (ht : c.cx.glob t = true) {q : Pos} : All (lowTy c.cx t) fun ty => OkE c (.Call (.Name "isinstance" p) [l, .Name t q] [] pos) (.f1 (.isi ty) a) := fun ty lo s K Q A w k => by
  refine PyProof.Rows.Call_ (QF W A.toAtC hg (by decide) (v := .builtin "isinstance") (by decide +kernel) (WE rfl h.pl rfl (args_cons (h.ev s _ _ A w fun v1 s₁ u1 a1 x1 r1 w1 => args_cons ?_ rfl) (h.pl _ _))))
  unfold lowTy at lo
  cases e : tyNames.lookup t with
  | some ty' =>
    rw [e] at lo
    cases lo
    obtain ⟨b1, b2⟩ := ZJf (t, ty) (Ql e)
    refine QF W a1.toAtC ht b2 b1 (args_nil (ZJw W.toWfC a1 r1 ty (fun j z => ?_) (k.at x1) (QZ w1).2))
    subst z
    exact nomatch ZKo _ (Ql e)
  | none =>
    rw [e] at lo
    obtain ⟨j, hj, rfl⟩ := Option.map_eq_some_iff.mp lo
    obtain ⟨z, h1, h2⟩ := W.ok.cnm t j (by rw [← W.envok.cls]; exact hj)
    refine Xh W a1.toAtC ht h2 (args_nil (ZR (QZ w1).2 fun b e w => ?_))
    cases u1 with
    | exc i => cases e; exact Un W.toWfC a1.toAtC r1 h1 (W.ret a1 (k.at x1) w)
    | _ => exact nomatch e
end
end TC

namespace TC
open PySem PySem.W PyProof.Rows

section
variable {c : Cf} {pe l r : Expr} {e : TC.E} {pos p : Pos}
noncomputable abbrev PlainT (c : Cf) (pe : Expr) : Prop := isTrue pe c.env (eval pe c.env) = (do let v ← eval pe c.env; standAt pe.pos; holding [v] (truthy v))
theorem Ok.of (h : OkE c pe e) (he : PlainT c pe) (pl : Plain pe) (ns : NoSl pe) : Ok c pe e := ⟨h, fun s K Q a w kb k => isTrue_plain (h s K _ a w fun v s' u a' x r hk => by
  obtain ⟨b, rfl⟩ := kb u hk
  rw [PR.inv r]
  exact wpAny_truthy_bool (k b s' a' x hk)) he, pl, ns⟩
theorem GL (W : Wf c) (x : Const) {i : Nat} : All (constD x) fun y => OkE c (.Constant x i pos) (.k y) := by
  cases x with
  | int j => exact .so fun s K Q a w k => wpAny_Constant_int ((W.ret a k w).int _ _)
  | str j => exact .so fun s K Q a w k => Calls.Constant_str (W.ret a k w _ { s with toks := _ } (Ext.refl _ _) ⟨rfl, rfl⟩ (PR.str _ _))
  | bool j => exact .so fun s K Q a w k => PyProof.Rows.Constant_bool (W.ret a k w).bool'
  | none => exact .so fun s K Q a w k => PyProof.Rows.Constant_none (W.ret a k w _ s (Ext.refl _ _) (Same.refl _) PR.non)
  | _ => exact .no
theorem ZAq (W : Wf c) (x : Str) : All ((c.cx.var x).elim (cond (c.cx.glob x) ((c.cx.cst.lookup x).map fun i => TC.E.k (.int i)) none) fun i => some (.nm i)) (OkE c (.Name x pos)) := by
  cases h : c.cx.var x with
  | some i => exact .so (ZLa W i h)
  | none =>
    refine .ite fun hg => .map fun i h1 => fun s K Q a w k => ?_
    obtain ⟨tk, h2⟩ := W.ok.cnst x i (by rw [← W.envok.cst]; exact h1)
    exact Xh W a.toAtC hg h2 (W.ret a k w _ s (Ext.refl _ _) (Same.refl _) (PR.int _ _))
theorem ZCf (W : Wf c) : All ((asIntC l).map fun i => TC.E.k (.int (-i))) (OkE c (.UnaryOp .USub l pos)) := .map fun i h s K Q a w k => by
  obtain ⟨_, _, rfl⟩ := Qz l i h
  exact UnaryOp_ (wpAny_Constant_int (PyProof.Rows.neg_int ((W.ret a k w).int _ _)))
theorem ZHq (o : CmpOp) : All (isOp o) fun neg => o = cond neg .IsNot .Is := by
  cases o with
  | Is => exact .so rfl
  | IsNot => exact .so rfl
  | _ => exact .no
variable {f : Expr → Option TC.E}
theorem Vx (W : Wf c) (h : ∀ pe, All (f pe) (Ok c pe)) (os : List CmpOp) (rs : List Expr) : All (lowCompare f l os rs) fun e => OkE c (.Compare l os rs pos) e ∧ OkT c (.Compare l os rs pos) e := by
  have gen : All (lowCmps f l os rs) fun e => OkE c (.Compare l os rs pos) e ∧ OkT c (.Compare l os rs pos) e := .ite fun hm => .bind fun a h1 => .map fun q h2 => by
    have hm : lastMarks os rs = false := by cases z : lastMarks os rs with | false => rfl | true => rw [z] at hm; cases hm
    have hc := (We h os rs q h2).1
    exact ⟨ZCz W (h l a h1) hm hc, ZDa W (h l a h1) hm hc⟩
  rcases os with _ | ⟨o, _ | ⟨o2, os⟩⟩
  · exact gen
  · rcases rs with _ | ⟨r, _ | ⟨r2, rs⟩⟩
    · exact gen
    · refine .cond (fun _ => .bind fun neg hn => .ite fun hr => .map fun a h1 => ?_) fun _ => gen
      rw [ZHq o neg hn]
      exact ⟨ZAw W (h l a h1) hr, ZAz W (h l a h1) hr⟩
    · exact gen
  · exact gen
theorem HP (W : Wf c) (h : ∀ pe, All (f pe) (Ok c pe)) (o : Operator) : All (lowBin f l o r) (OkE c (.BinOp l o r pos)) :=
  .cond (fun hp => ZEt W hp) fun _ => .bind fun o' ho => .bind fun a h1 => .map fun b h2 => ZCu W (h l a h1) (h r b h2) ho
theorem GF (W : Wf c) (h : ∀ pe, All (f pe) (Ok c pe)) {g : Str} (hg : c.cx.glob g = true) (args : List Expr) (kws : List Keyword) : All (lowBuilt f c.cx g args kws) (OkE c (.Call (.Name g p) args kws pos)) := by
  rcases args with _ | ⟨a, _ | ⟨b, _ | ⟨d, args⟩⟩⟩
  · exact .no
  · rcases kws with _ | ⟨k, _ | ⟨k2, kws⟩⟩
    · exact .bind fun f1 hf => .map fun e h1 => ZHa W (h a e h1) hg hf
    · refine .bind fun kn hk => .ite fun q => .map fun e h1 => ?_
      have q := Bool.and_eq_true_iff.mp q
      rw [beq_iff_eq.mp q.2] at hk
      rw [beq_iff_eq.mp q.1] at hg ⊢
      exact UY W (h a e h1) hg hk
    · exact .no
  · rcases kws with _ | ⟨k, kws⟩
    · refine .cond (fun q => .bind fun t ht => .ite fun hgt => .bind fun ty hty => .map fun e h1 => ?_) fun _ => .bind fun f2 hf => .bind fun e1 h1 => .map fun e2 h2 => ZHd W (h a e1 h1) (h b e2 h2) hg hf
      rw [beq_iff_eq.mp q] at hg ⊢
      obtain ⟨pp, rfl⟩ := QI b t ht
      exact ZDm W (h a e h1) hg hgt ty hty
    · exact .no
  · exact .no
theorem GG (W : Wf c) (C : Calls c) (h : ∀ pe, All (f pe) (Ok c pe)) (x : Str) {q : Pos} (args : List Expr) (kws : List Keyword) : All (lowCallE f c.cx x args kws) (OkE c (.Call (.Name x q) args kws pos)) := .ite fun hg => by
  cases hl : c.cx.fns.lookup x with
  | none => exact GF W h hg args kws
  | some k =>
    refine .ite fun hk => .map fun es h1 => ?_
    cases kws with
    | nil =>
      unfold mkCall
      cases lent.contains x with
      | true => exact GH W C hg hl (QV h es h1)
      | false => exact HR W C hg hl (QV h es h1)
    | cons => exact nomatch hk
theorem GI (W : Wf c) (C : Calls c) (h : ∀ pe, All (f pe) (Ok c pe)) (g : Expr) (args : List Expr) (kws : List Keyword) : All (lowCalls f c.cx args kws pos (view g)) (OkE c (.Call g args kws pos)) := by
  have ve := Jd g
  revert ve
  cases view g with
  | name x q => intro ve; replace ve : Expr.Name x q = g := ve; subst ve; exact GG W C h x args kws
  | attr a m ap =>
    intro ve
    replace ve : Expr.Attribute a m ap = g := ve
    subst ve
    rcases args with _ | ⟨k, _ | ⟨k2, args⟩⟩
    · exact .no
    · refine .ite fun q => .bind fun e1 h1 => .map fun e2 h2 => ?_
      have q := Bool.and_eq_true_iff.mp q
      have q1 := Bool.and_eq_true_iff.mp q.1
      have q2 := Bool.and_eq_true_iff.mp q1.1
      obtain rfl := beq_iff_eq.mp q.2
      obtain ⟨x, hx⟩ := Option.isSome_iff_exists.mp q1.2
      obtain ⟨np, rfl⟩ := QI a x hx
      cases kws with
      | nil => exact GV W q2.2 (h _ e1 h1) (h k e2 h2)
      | cons => exact nomatch q2.1
    · exact .no
  | _ => exact fun _ => .no
end
noncomputable abbrev SE (dep n : Nat) : Prop := ∀ c, c.dep = dep → Wf c → ∀ pe, All (lowE n c.cx pe) (Ok c pe)
theorem UE {n : Nat} {cx : Cx} {env : Env} (pe : Expr) : All (lowE n cx pe) fun _ => ∀ x, foldedSetIterable pe env x = pure x := by
  cases n with
  | zero => exact .no
  | succ n =>
    have ve := Jd pe
    show All (lowV (lowE n) cx (view pe)) _
    revert ve
    cases view pe with
    | other => exact fun _ => .no
    | slice => exact fun _ => .no
    | attr => exact fun _ => .no
    | _ => exact fun ve _ _ x => by rw [← ve]; rfl
theorem WN {dep n : Nat} (IH : SE dep n) {c : Cf} (hd : c.dep = dep) (W : Wf c) {elt : Expr} {sc : Scope} (gs : List Comprehension) : All (lowCompE (lowE n) c.cx elt sc gs) (CompOk c elt gs sc) := by
  rcases gs with _ | ⟨⟨t, iter, ifs, ia⟩, _ | ⟨g2, gs⟩⟩
  · exact .no
  · refine .ite fun q => .bind fun tn ht => .bind fun cx' hi => .bind fun e he => .bind fun cs hc => ?_
    have q := Bool.and_eq_true_iff.mp q
    rw [beq_iff_eq.mp q.1]
    have B : Blk c cx' ifs elt cs e := fun c' d' e' W' => by
      subst e'
      have h' := IH c' (d'.trans hd) W'
      exact ⟨QV h' cs hc, h' elt e he⟩
    unfold lowSrc
    exact .map fun src hs => ZDc W (IH c hd W iter src hs) (UE iter src hs) ht hi (of_decide_eq_true q.2) B
  · exact .no
theorem ZAt {c : Cf} (W : WfC c) {s : Shared} (a : AtC c s) : (s.heap.objs.size == sysModules) = false := by
  obtain ⟨o, es, ep, ho, _⟩ := W.ok.top.g
  have := Heap.lt_size (a.stk.base _ _ ho)
  exact beq_false_of_ne fun e => by rw [e] at this; exact absurd this (by decide)
theorem HZ {c : Cf} (W : Wf c) {pos : Pos} : OkE c (.Dict [] [] pos) .dic0 := fun s K Q a w k =>
  wpAny_Dict_empty (W.ret a k w _ { s with heap := _ } (Ext.of (JU _ _)) ⟨rfl, rfl⟩ ⟨_, rfl, a.ext.gone (Jc _), #[], 0, Heap.get?_push_size _ rfl, .nil, .nil, .nil (ZAt W.toWfC a.toAtC)⟩)
theorem Ha {c : Cf} (W : Wf c) {kx : Expr} {k' : TC.E} {i : Nat} {p pos : Pos} (hk : OkE c kx k') : OkE c (.Dict [some kx] [.Constant (.bool true) i p] pos) (.dic1 k') := fun s K Q a w k => by
  have new := Jc s.heap
  have off := ZAt W.toWfC a.toAtC
  generalize hd : s.heap.objs.size = d at new off
  refine wpAny_Dict_walk (knd := intKind c.G.prog c.G.w) rfl rfl (by simp) (by simp) (pairTrees_cons_walk ?_)
  rw [hd]
  have x0 : Ext c.fr s.heap (s.heap.push { cls := .type "dict", data := .dict #[] }) := Ext.of (JU _ _)
  have hD : (s.heap.push { cls := .type "dict", data := .dict #[] }).get? d = some (dictObj #[] 0) := hd ▸ Heap.get?_push_size _ rfl
  refine hk { s with heap := s.heap.push { cls := .type "dict", data := .dict #[] } } _ _ (W.go a (s' := { s with heap := s.heap.push { cls := .type "dict", data := .dict #[] } }) x0 ⟨rfl, rfl⟩) w fun v s₁ u a₁ x₁ r w₁ => ZR w₁ fun j e w => ?_
  obtain ⟨t, rfl⟩ := r.int e
  have nf : ¬ c.fr d := W.new_fr (a.ext.gone new)
  have hD1 := (x₁ d _ hD).1 nf
  refine wpAny_Constant_bool (pairTrees_nil_walk ⟨[(j, .bool true)], ⟨intKind_is _ _ j t, rfl, trivial⟩, ⟨_, #[], 0, hD1, ⟨rfl, rfl, rfl⟩, rfl, (fun _ h => absurd h (by simp)), .nil, .nil⟩, fun h' hm sb => ?_⟩)
  have x2 : Ext c.fr s.heap h' := (x0.trans x₁).on (P := (· = d)) (fun b o n e => (sb.2 b n).trans e) fun b q => q ▸ new
  exact W.ret a k w _ { s₁ with heap := h', toks := _ } x2 (Same.mk' a.same a₁.same) ⟨d, rfl, a.ext.gone new, ZBe hm (fun p hp => by rw [List.mem_singleton.mp hp]) off⟩
theorem GM {c : Cf} {n : Nat} (W : Wf c) (h : ∀ pe, All (lowE n c.cx pe) (Ok c pe)) {pos : Pos} (ks : List (Option Expr)) (vs : List Expr) : All (lowDict (lowE n c.cx) ks vs) (OkE c (.Dict ks vs pos)) := by
  rcases ks with _ | ⟨_ | k, _ | ⟨k2, ks⟩⟩ <;> rcases vs with _ | ⟨v, _ | ⟨v2, vs⟩⟩ <;> try exact .no
  · exact .so (HZ W)
  · refine .ite fun q => .map fun k' hk => ?_
    obtain ⟨y, i, p, rfl, hy⟩ := VH q
    cases y with
    | bool b => cases (show b = true from hy); exact Ha W (h k k' hk).ev
    | _ => exact nomatch hy
theorem ZIx {dep n : Nat} (IC : ∀ c, c.dep = dep → WfC c → Calls c) (IH : SE dep n) : SE dep (n + 1) := fun c hd W pe => by
  have h := IH c hd W
  have ve := Jd pe
  show All (lowV (lowE n) c.cx (view pe)) _
  revert ve
  cases view pe with
  | name x p => intro ve; replace ve : Expr.Name x p = pe := ve; subst ve; exact (ZAq W x).imp fun e h => .of h rfl (fun _ _ => rfl) fun _ _ => rfl
  | const x i p => intro ve; replace ve : Expr.Constant x i p = pe := ve; subst ve; exact .map ((GL W x).imp fun e h => .of h rfl (fun _ _ => rfl) fun _ _ => rfl)
  | unary o e p =>
    intro ve; replace ve : Expr.UnaryOp o e p = pe := ve; subst ve
    cases o with
    | Not => exact .map fun a h1 => ⟨ZEn (h e a h1), ZEo (h e a h1), fun _ _ => rfl, fun _ _ => rfl⟩
    | USub => exact (ZCf W).imp fun e h => .of h rfl (fun _ _ => rfl) fun _ _ => rfl
    | _ => exact .no
  | bin l o r p => intro ve; replace ve : Expr.BinOp l o r p = pe := ve; subst ve; exact (HP W h o).imp fun e h => .of h rfl (fun _ _ => rfl) fun _ _ => rfl
  | bool o es p =>
    intro ve; replace ve : Expr.BoolOp o es p = pe := ve; subst ve
    cases o with
    | And => exact .map fun a h1 => ⟨ZCn W (QV h a h1), fun s K Q A w _ k => ZCo (QV h a h1) s K Q A w k, fun _ _ => rfl, fun _ _ => rfl⟩
    | Or => exact .map fun a h1 => ⟨ZIp W (QV h a h1), fun s K Q A w _ k => ZIq (QV h a h1) s K Q A w k, fun _ _ => rfl, fun _ _ => rfl⟩
  | cmp l os rs p => intro ve; replace ve : Expr.Compare l os rs p = pe := ve; subst ve; exact (Vx W h os rs).imp fun e h => ⟨h.1, h.2, fun _ _ => rfl, fun _ _ => rfl⟩
  | tuple es i p => intro ve; replace ve : Expr.Tuple es i p = pe := ve; subst ve; exact .ite fun hz => .map fun a h1 => .of (ZFm W (QV h a h1) (of_decide_eq_true hz)) rfl (fun _ _ => rfl) fun _ _ => rfl
  | list es p => intro ve; replace ve : Expr.List es p = pe := ve; subst ve; exact .ite fun hz => .map fun a h1 => .of (ZEd W (QV h a h1) (of_decide_eq_true hz)) rfl (fun _ _ => rfl) fun _ _ => rfl
  | dict ks vs p =>
    intro ve; replace ve : Expr.Dict ks vs p = pe := ve; subst ve
    exact (GM W h ks vs).imp fun e h => .of h rfl (fun _ _ => rfl) fun _ _ => rfl
  | sub l r p => intro ve; replace ve : Expr.Subscript l r p = pe := ve; subst ve; exact (ZFe W h).imp fun e h => .of h rfl (fun _ _ => rfl) fun _ _ => rfl
  | call g args kws p => intro ve; replace ve : Expr.Call g args kws p = pe := ve; subst ve; exact (GI W (IC c hd W.toWfC) h g args kws).imp fun e h => .of h rfl (fun _ _ => rfl) fun _ _ => rfl
  | comp e gs sc p => intro ve; replace ve : Expr.ListComp e gs sc p = pe := ve; subst ve; exact (WN IH hd W gs).imp fun e h => .of (HW W h) rfl (fun _ _ => rfl) fun _ _ => rfl
  | slice => exact fun _ => .no
  | attr => exact fun _ => .no
  | other => exact fun _ => .no
theorem Wq {dep : Nat} (IC : ∀ c, c.dep = dep → WfC c → Calls c) (n : Nat) : SE dep n := by
  induction n with
  | zero => exact fun _ _ _ _ => .no
  | succ n ih => exact ZIx IC ih
end TC

namespace TC
open PySem PySem.W PyProof.Rows

structure Ff where
  G : Gl
  dep : Nat
  cx : Cx
  env : Env
  own : List (Str × Addr)
  s₀ : Shared
  hid0 : AP
  envs0 : List Env
  hm : Bool
  A : Around
  X : XS
  E : Value → Shared → Prop
  lam : Option (Addr × Addr)
structure Sg where
  pl : AP
  op : Nat → AP
  ρ : Rho
noncomputable abbrev Ff.h₀ (f : Ff) : Heap := f.s₀.heap
noncomputable abbrev Ff.fr0 (f : Ff) : AP := frOf f.envs0
noncomputable abbrev Ff.fr (f : Ff) : AP := frOf (f.env :: f.envs0)
noncomputable abbrev Ff.pls (f : Ff) : AP := TC.pls f.env f.own
noncomputable abbrev Ff.hid (f : Ff) (σ : Sg) : AP := fun b => σ.pl b ∨ f.pls b ∨ f.hid0 b
noncomputable def Ff.isLam (f : Ff) : AP := fun b => ∃ c, f.lam = some (c, b)
noncomputable abbrev Ff.mine (f : Ff) : AP := fun b => f.pls b ∨ f.isLam b
noncomputable def CodeC (h : Heap) (cv : Value) (q : Str) : Prop := ∃ c o vs t, cv = .ref c ∧ h.get? c = some o ∧ o.data = .fields vs ∧ vs[1]? = some (.str q t) ∧ o.cls = .type "code"
inductive LamAt (c P : Addr) (q : Str) (h : Heap) : Prop
  | mk (ps : Array Value) : h.IsCode c P ps → h.TableAt c P ps → (∀ pos cv, codeAmong pos ps.toList = some cv → CodeC h cv q) → LamAt c P q h
noncomputable abbrev RecK (L : AP) (h h' : Heap) : Prop := ∀ b o vs, o.data = .fields vs → (L b ∨ o.cls = .type "code") → h.get? b = some o → h'.get? b = some o
theorem LamAt.move {c P : Addr} {q : Str} {h h' : Heap} (x : LamAt c P q h) (k : RecK (· = P) h h') : LamAt c P q h' := by
  obtain ⟨ps, ⟨o, vs, file, tf, flags, tg, inF, text, tt, op, ho, hd, h11, h2, h7, h9, h10, hop, hpd, r⟩, ⟨⟨o', vs', a1, a2, a3, a4⟩, a5⟩, cs⟩ := x
  have hc : o.cls = .type "code" := by rw [ho] at a1; cases a1; exact a2
  exact ⟨ps, ⟨o, vs, file, tf, flags, tg, inF, text, tt, op, k _ _ _ hd (.inr hc) ho, hd, h11, h2, h7, h9, h10, k _ _ _ hpd (.inl rfl) hop, hpd, r⟩, ⟨⟨o', vs', k _ _ _ a3 (.inr a2) a1, a2, a3, a4⟩, k _ _ _ rfl (.inl rfl) a5⟩, fun p v e => let ⟨c', o2, v2, t, e1, e2, e3, e4, e5⟩ := cs p v e; ⟨c', o2, v2, t, e1, k _ _ _ e3 (.inr e5) e2, e3, e4, e5⟩⟩
noncomputable def LamOk (f : Ff) (pl : AP) (h : Heap) : Prop := ∀ c P, f.lam = some (c, P) → pl P ∧ LamAt c P (f.env.qual ++ "<lambda>") h
theorem LamOk.move {f : Ff} {pl pl' : AP} {h h' : Heap} (x : LamOk f pl h) (s : ∀ b, f.isLam b → pl b → pl' b) (k : RecK f.isLam h h') : LamOk f pl' h' := fun c P e => ⟨s P ⟨c, e⟩ (x c P e).1, (x c P e).2.move fun b o vs d q => k b o vs d (Or.imp_left (fun z : b = P => ⟨c, z ▸ e⟩) q)⟩
noncomputable abbrev Ff.wp {α : Type} (f : Ff) (m : Sem α) (Q : α → Shared → Prop) (s : Shared) : Prop := wpAny (model f.G.prog f.G.w) f.A m Q f.E s
noncomputable def NR (h : Heap) (b : Addr) : Prop := ∃ o, h.get? b = some o ∧ ∀ vs, o.data ≠ .fields vs
theorem NR.ext {fr : AP} {h h' : Heap} {b : Addr} (i : NR h b) (x : Ext fr h h') : NR h' b := by
  obtain ⟨o, e, n⟩ := i
  obtain ⟨_, q⟩ := (x b o e).2
  exact ⟨_, q, n⟩
theorem OwnAt.nr {P : AP} {h : Heap} {a : Addr} {x : PyData} (r : OwnAt P h a x) : NR h a := by
  cases x with
  | list xs => exact let ⟨_, _, e, _⟩ := r; ⟨_, e, nofun⟩
  | dict kvs => exact let ⟨_, _, e, _⟩ := r; ⟨_, e, nofun⟩
  | _ => exact r.elim
inductive OhS (P : AP) (h : Heap) (O : AP) (v : Value) (x : Str) (ys : List PyData) : Prop
  | mk (t a : Addr) (k : Tok) (m : Nat) : v = .ref t → h.get? t = some (tupObj #[.str x k, .ref a] m) → ¬ P t → O a → (∀ b, O b → b = a) → OwnAt P h a (.list ys) → OhS P h O v x ys
theorem OhS.move {P P' : AP} {h h' : Heap} {O : AP} {v : Value} {x : Str} {ys : List PyData} (d : OhS P h O v x ys) (k : Mv P P' h h') (kO : ∀ a, O a → ∀ ws m, h.get? a = some (listObj ws m) → h'.get? a = some (listObj ws m)) : OhS P' h' O v x ys := by
  obtain ⟨t, a, tk, m, e, ht, nt, oa, ob, vs, n, ho, r⟩ := d
  exact ⟨t, a, tk, m, e, (k t _ nt ht).2, (k t _ nt ht).1, oa, ob, vs, n, kO a oa vs n ho, r.move k⟩
theorem OhS.pr {P P' : AP} {h : Heap} {O : AP} {v : Value} {x : Str} {ys : List PyData} (d : OhS P h O v x ys) (n : ∀ b, O b → ¬ P' b) (s : ∀ b, P' b → P b) : PR P' h v (.tuple [.str x, .list ys]) := by
  obtain ⟨t, a, tk, m, rfl, ht, nt, oa, ob, r⟩ := d
  exact .tuple (fun q => nt (s t q)) ht (.cons (.str x tk) (.cons (r.pr (n a oa) s) .nil))
noncomputable def SlR (f : Ff) (P : AP) (h : Heap) (O : AP) (v : Value) : V → Prop
  | .d x => PR P h v x
  | .own x => ∃ a, v = .ref a ∧ O a ∧ (∀ b, O b → b = a) ∧ OwnAt P h a x
  | .brw x => PR f.fr0 f.h₀ v x
  | .exc k => ExcAt f.G.ca k h v
  | .oh x ys => OhS P h O v x ys
  | _ => False
theorem SlR.move {f : Ff} {P P' : AP} {h h' : Heap} {O : AP} {v : Value} {u : V} (r : SlR f P h O v u) (k : Mv P P' h h') (kO : ∀ a, O a → ∀ o, h.get? a = some o → h'.get? a = some o) (ke : ∀ j, ExcAt f.G.ca j h v → ExcAt f.G.ca j h' v) : SlR f P' h' O v u := by
  cases u with
  | d x => exact PR.move k r
  | own x => obtain ⟨a, e, h1, h2, r⟩ := r; exact ⟨a, e, h1, h2, r.move k (kO a h1)⟩
  | brw x => exact r
  | exc j => exact ke j r
  | oh y l => exact OhS.move r k fun a q ws m e => kO a q _ e
  | _ => exact r.elim
structure StR (f : Ff) (σ : Sg) (s : Shared) : Prop where
  ext : Ext f.fr0 f.h₀ s.heap
  same : Same f.s₀ s
  fm : Fm f.env f.own s.heap
  hok : HOk f.hm f.A s.heap
  newl : ∀ b, σ.pl b → f.h₀.get? b = none
  dpl : ∀ b, σ.pl b → ¬ f.pls b ∧ Is s.heap b
  ops : ∀ i b, σ.op i b → σ.pl b ∧ NR s.heap b
  dis : ∀ i j, i ≠ j → ∀ b, σ.op i b → ¬ σ.op j b
  len : σ.ρ.length = f.cx.nx
  slots : ∀ x i, f.cx.tb.lookup x = some i → ∀ u, σ.ρ[i]? = some (some u) → ∃ v, varAt f.env s.heap x v ∧ SlR f (f.hid σ) s.heap (σ.op i) v u
  lam : LamOk f σ.pl s.heap
structure WfF (f : Ff) : Prop where
  ok : f.G.Ok
  depth : f.A.depth + f.dep ≤ 900
  units : f.A.units + 20 * f.dep ≤ 9000
  frames : f.A.frames = some (f.env :: f.envs0)
  frame : f.env.frame = some f.env.locals
  funs0 : f.h₀.FunFrames f.G.B f.envs0
  base0 : f.G.B.StaysIn f.h₀
  sub0 : ∀ b, f.fr0 b → f.hid0 b
  dom0 : ∀ b, f.hid0 b → Is f.h₀ b
  newp : ∀ b, f.pls b → f.h₀.get? b = none
  envok : EnvOk f.G f.cx f.env
  cells : ∀ x a, f.env.cells.lookup x = some a → f.own.lookup x = some a
  inj : ∀ x y i, f.cx.tb.lookup x = some i → f.cx.tb.lookup y = some i → x = y
  bnd : ∀ x i, f.cx.var x = some i → Bindable f.env f.own x
  lamx : ∀ c P, f.lam = some (c, P) → hAddr f.A = [] ∧ ∀ k ρ, ¬ f.X k ρ
  lamc : f.cx.lm = true → ∃ c P, f.lam = some (c, P) ∧ f.env.code = .ref c
section
variable {f : Ff} {σ : Sg} {s s' : Shared} {v : Value} {u : V}
theorem Qc (W : WfF f) {b : Addr} : f.fr b ↔ b = f.env.locals ∨ f.fr0 b := by
  show b ∈ (f.env :: f.envs0).filterMap (·.frame) ↔ _
  rw [List.filterMap_cons]; simp only [W.frame, List.mem_cons]; rfl
theorem WfF.sub (W : WfF f) (b : Addr) (h : f.fr b) : f.hid σ b := ((Qc W).mp h).elim (fun q => .inr (.inl (.inl q))) fun q => .inr (.inr (W.sub0 b q))
theorem WfF.new0 (W : WfF f) {b : Addr} (n : f.h₀.get? b = none) : ¬ f.hid0 b ∧ ¬ f.fr0 b := ⟨fun q => (W.dom0 b q).not_none n, fun q => (W.dom0 b (W.sub0 b q)).not_none n⟩
theorem StR.dom (R : StR f σ s) (W : WfF f) (b : Addr) (h : f.hid σ b) : Is s.heap b := by
  rcases h with h | h | h
  · exact (R.dpl b h).2
  · exact R.fm.is h
  · exact (W.dom0 b h).ext R.ext
theorem StR.plfr (R : StR f σ s) (W : WfF f) {b : Addr} (h : σ.pl b) : ¬ f.fr b := fun q => ((Qc W).mp q).elim (fun q => (R.dpl b h).1 (.inl q)) (W.new0 (R.newl b h)).2
theorem StR.stk (R : StR f σ s) (W : WfF f) : s.heap.FunFrames f.G.B (f.env :: f.envs0) ∧ f.G.B.StaysIn s.heap := by
  obtain ⟨m, n⟩ := R.fm.ns
  refine ⟨Heap.FunFrames.cons (by rw [W.envok.kind]; decide) W.frame n ?_ (W.funs0.of_keeps fun b o q _ => let ⟨_, y⟩ := (R.ext b o q).2; ⟨_, y, rfl⟩), fun b o e => (R.ext b o (W.base0 b o e)).1 fun q => JJ e (W.funs0.mem q).1⟩
  exact Qe fun o e => JJ (W.base0 _ o e) (W.newp _ (.inl rfl))
theorem StR.recs (R : StR f σ s) (W : WfF f) {h' : Heap} (x : Ext f.fr s.heap h') : RecK f.isLam s.heap h' := fun b o vs d _ e => (x b o e).1 fun q => by
  obtain ⟨_, o', ho, n⟩ := (R.stk W).1.mem q
  rw [e] at ho; cases ho; exact n vs d
theorem StR.lamNR (R : StR f σ s) {b : Addr} (i : NR s.heap b) : ¬ f.isLam b := fun ⟨c, e⟩ => by
  obtain ⟨ps, _, ⟨_, h⟩, _⟩ := (R.lam c b e).2
  obtain ⟨o, e1, n⟩ := i
  rw [h] at e1; cases e1; exact n ps rfl
noncomputable def Ff.ec (f : Ff) (σ : Sg) (s : Shared) : Cf := { G := f.G, dep := f.dep, cx := f.cx, env := f.env, hm := f.hm, A := f.A, envs := f.env :: f.envs0, hid := f.hid σ, ρ := σ.ρ, b := s, X := (f.X · σ.ρ), E := f.E }
noncomputable abbrev Thr (f : Ff) : Prop := ∀ e s' k C fl σ, StR f σ s' → f.G.ca[k]? = some C → (fl = .none ∨ fl = rawInt f.env.locals) → Fly f.h₀ e C fl s'.heap → f.X k σ.ρ → f.E (.ref e) s'
theorem Ext.down {fr fr0 : AP} {h h' h₀ : Heap} (x : Ext fr h h') (x0 : Ext fr0 h₀ h) (n : ∀ b, fr b → ¬ fr0 b → h₀.get? b = none) : Ext fr0 h₀ h' := fun b o e => by
  obtain ⟨y1, sl, y2⟩ := x0 b o e
  obtain ⟨z1, sl', z2⟩ := x b _ y2
  exact ⟨fun hb => (x b o (y1 hb)).1 fun q => JJ e (n b q hb), sl', z2⟩
theorem StR.grow (R : StR f σ s) (W : WfF f) (x : Ext f.fr s.heap s'.heap) (m : Same s s') (N : AP) (hN : ∀ b, N b → s.heap.get? b = none ∧ Is s'.heap b) : StR f { σ with pl := fun b => N b ∨ σ.pl b } s' := by
  refine ⟨x.down R.ext fun b q n => ((Qc W).mp q).elim (fun q => W.newp b (.inl q)) fun q => absurd q n, R.same.trans m, R.fm.ext x, R.hok.ext x, fun b q => q.elim (fun q => R.ext.gone (hN b q).1) (R.newl b), fun b q => ?_, fun i b q => ⟨.inr (R.ops i b q).1, (R.ops i b q).2.ext x⟩, R.dis, R.len, fun y i hy u hu => ?_, R.lam.move (fun _ _ q => .inr q) (R.recs W x)⟩
  · rcases q with q | q
    · exact ⟨fun z => (R.fm.is z).not_none (hN b q).1, (hN b q).2⟩
    · exact ⟨(R.dpl b q).1, (R.dpl b q).2.ext x⟩
  · obtain ⟨v, va, r⟩ := R.slots y i hy u hu
    exact ⟨v, va.ext x, r.move (fun b o n e => ⟨fun q => q.elim (fun q => q.elim (fun q => JJ e (hN b q).1) fun q => n (.inl q)) fun q => n (.inr q), (x b o e).1 fun q => n (W.sub b q)⟩) (fun a ha o e => (x a o e).1 (R.plfr W (R.ops i a ha).1)) fun j q => q.ext x⟩
theorem StR.step (R : StR f σ s) (W : WfF f) (x : Ext f.fr s.heap s'.heap) (m : Same s s') : StR f σ s' := by
  have := R.grow W x m (fun _ => False) (fun _ q => q.elim)
  simpa only [false_or] using this
theorem StR.at (R : StR f σ s) (W : WfF f) : At (f.ec σ s) s := by
  refine ⟨⟨⟨W.frames, (R.stk W).1, (R.stk W).2⟩, R.hok, R.dom W, Ext.refl _ _, Same.refl _⟩, fun x i hx u hu => ?_, fun x a e => ?_⟩
  · obtain ⟨v, va, r⟩ := R.slots x i hx u hu
    refine ⟨v, va, ?_⟩
    cases u with
    | d y => exact r
    | own y => obtain ⟨a, rfl, h1, h2, r⟩ := r; exact r.pr (R.plfr W (R.ops i a h1).1) W.sub
    | brw y =>
      refine ZAb (c := f.ec σ s) ⟨⟨W.frames, (R.stk W).1, (R.stk W).2⟩, R.hok, R.dom W, Ext.refl _ _, Same.refl _⟩ (PR.move (fun b o n e => ⟨fun q => ?_, (R.ext b o e).1 n⟩) r)
      exact ((Qc W).mp q).elim (fun q => JJ e (W.newp b (.inl q))) n
    | exc j => exact r
    | oh y l => exact OhS.pr r (fun b q => R.plfr W (R.ops i b q).1) W.sub
    | _ => exact r.elim
  · obtain ⟨_, o, e, _⟩ := R.fm.cell x a (W.cells x a e)
    exact ⟨o, e⟩
theorem StR.wf (R : StR f σ s) (W : WfF f) (T : Thr f) : Wf (f.ec σ s) :=
  ⟨⟨W.ok, W.depth, W.units, W.sub, R.dom W, fun e s' k h m hx => by
    obtain ⟨C, h1, h2, h3⟩ := h
    exact T e s' k C _ σ (R.step W h3 m) h1 (.inl rfl) (h2.back R.ext) hx⟩, W.envok, R.len⟩
theorem StR.put (R : StR f σ s) (W : WfF f) {x : Str} {i : Nat} (hx : f.cx.tb.lookup x = some i) {Z P : AP} (kz : ∀ b o, ¬ Z b → s.heap.get? b = some o → s'.heap.get? b = some o) (m : Same s s') (hZ : ∀ b, Z b → f.hid σ b ∧ f.h₀.get? b = none ∧ NR s.heap b) (fm : Fm f.env f.own s'.heap)
    (isZ : ∀ b, σ.pl b → Z b → Is s'.heap b ∧ NR s'.heap b) (hP : ∀ b, P b → σ.pl b ∧ NR s'.heap b) (hd : ∀ j, j ≠ i → ∀ b, P b → ¬ σ.op j b) (hO : ∀ j, j ≠ i → ∀ b, σ.op j b → ¬ Z b) (va : varAt f.env s'.heap x v) (vo : ∀ y w, y ≠ x → varAt f.env s.heap y w → varAt f.env s'.heap y w)
    (sl : SlR f (f.hid σ) s'.heap P v u) : StR f ⟨σ.pl, fun j b => (j = i ∧ P b) ∨ (j ≠ i ∧ σ.op j b), σ.ρ.set i (some u)⟩ s' := by
  have keep : ∀ b, σ.pl b → Is s'.heap b := fun b q => by
    by_cases z : Z b
    · exact (isZ b q z).1
    · obtain ⟨o, e, n⟩ := (R.dpl b q).2; exact ⟨o, kz b o z e, n⟩
  have ke : ∀ j w, ExcAt f.G.ca j s.heap w → ExcAt f.G.ca j s'.heap w := fun j w q => by
    obtain ⟨e, o, vs, C, h1, h2, h3, h4, h5, h6⟩ := q
    refine ⟨e, o, vs, C, h1, h2, kz e o (fun z => ?_) h3, h4, h5, h6⟩
    obtain ⟨o', e1, e2⟩ := (hZ e z).2.2
    rw [h3] at e1; cases e1; exact e2 vs h6
  refine ⟨R.ext.on kz fun b q => (hZ b q).2.1, R.same.trans m, fm, R.hok.at fun b hb o e => kz b o (fun z => ?_) e, R.newl, fun b q => ⟨(R.dpl b q).1, keep b q⟩, fun j b q => ?_, fun j l ne b q z => ?_, by rw [List.length_set]; exact R.len, fun y j hy w hw => ?_, R.lam.move (fun _ _ q => q) fun b o vs d _ e => kz b o (fun z => ?_) e⟩
  · obtain ⟨o', vs, e1, e2⟩ := R.hok.rec b hb
    obtain ⟨o2, e3, e4⟩ := (hZ b z).2.2
    rw [e1] at e3; cases e3; exact e4 vs e2
  · rcases q with ⟨_, q⟩ | ⟨ne, q⟩
    · exact hP b q
    · obtain ⟨h1, o, h2, h3⟩ := R.ops j b q; exact ⟨h1, o, kz b o (hO j ne b q) h2, h3⟩
  · rcases q with ⟨rfl, q⟩ | ⟨n1, q⟩ <;> rcases z with ⟨rfl, z⟩ | ⟨n2, z⟩
    · exact ne rfl
    · exact hd l n2 b q z
    · exact hd j n1 b z q
    · exact R.dis j l ne b q z
  · by_cases q : j = i
    · subst q
      obtain rfl := W.inj y x j hy hx
      by_cases lt : j < σ.ρ.length
      · rw [List.getElem?_set_self lt] at hw
        cases hw
        have e : (fun b => (j = j ∧ P b) ∨ (j ≠ j ∧ σ.op j b)) = P := funext fun b => propext ⟨fun q => q.elim (·.2) fun q => absurd rfl q.1, fun q => .inl ⟨rfl, q⟩⟩
        exact ⟨v, va, by show SlR f (f.hid σ) s'.heap (fun b => (j = j ∧ P b) ∨ (j ≠ j ∧ σ.op j b)) v u; rw [e]; exact sl⟩
      · rw [List.set_eq_of_length_le (Nat.le_of_not_lt lt), List.getElem?_eq_none (Nat.le_of_not_lt lt)] at hw; cases hw
    · rw [List.getElem?_set_ne (Ne.symm q)] at hw
      obtain ⟨w', va', r'⟩ := R.slots y j hy w hw
      refine ⟨w', vo y w' (fun z => ?_) va', ?_⟩
      · subst z; rw [hx] at hy; cases hy; exact q rfl
      · have e : (fun b => (j = i ∧ P b) ∨ (j ≠ i ∧ σ.op j b)) = σ.op j := funext fun b => propext ⟨fun z => z.elim (fun z => absurd z.1 q) (·.2), fun z => .inr ⟨q, z⟩⟩
        show SlR f (f.hid σ) s'.heap (fun b => (j = i ∧ P b) ∨ (j ≠ i ∧ σ.op j b)) w' w
        rw [e]
        exact r'.move (fun b o n e => ⟨n, kz b o (fun z => n (hZ b z).1) e⟩) (fun a ha o e => kz a o (hO j q a ha) e) fun k => ke k w'
  · obtain ⟨o', e1, n⟩ := (hZ b z).2.2
    rw [e] at e1; cases e1; exact n vs d
end
end TC

namespace TC
open PySem PySem.W PyProof.Rows

structure Adv (f : Ff) (σ : Sg) (h : Heap) (σ' : Sg) (h' : Heap) : Prop where
  keep : ∀ b o, ¬ f.fr b → ¬ f.mine b → (∀ i, ¬ σ.op i b) → h.get? b = some o → h'.get? b = some o ∧ ∀ i, ¬ σ'.op i b
  out : ∀ b o, ¬ f.hid σ b → h.get? b = some o → ¬ f.hid σ' b
  junk : ∀ b, σ.pl b → ¬ f.isLam b → (∀ i, ¬ σ.op i b) → σ'.pl b
structure Out (f : Ff) (σ : Sg) (s : Shared) (K : KS) (Q : PySem.Flow → Shared → Prop) : Prop where
  nxt : ∀ s' σ', StR f σ' s' → Adv f σ s.heap σ' s'.heap → K .nxt σ'.ρ → Q .next s'
  ret : ∀ s' v u σ' ρ, StR f σ' s' → VR f.G.ca f.h₀ (fun b => f.pls b ∨ f.hid0 b) f.fr0 s'.heap v u → K (.ret u) ρ → Q (.ret v) s'
noncomputable abbrev ΦF (f : Ff) : Call := wpCall f.G.tab f.dep
noncomputable def OkS (f : Ff) (st : Stmt) (t : TC.S) : Prop := ∀ σ s K Q, StR f σ s → wpS (ΦF f) f.hm t σ.ρ K f.X → Out f σ s K Q → f.wp (exec st f.env) Q s
noncomputable def OkF (f : Ff) (pe : Expr) (e : TC.E) : Prop := ∀ σ s, StR f σ s → Ok (f.ec σ s) pe e
noncomputable def Sg.put (σ : Sg) (i : Nat) (P : AP) (u : V) : Sg := ⟨σ.pl, fun j b => (j = i ∧ P b) ∨ (j ≠ i ∧ σ.op j b), σ.ρ.set i (some u)⟩
noncomputable def Sg.more (σ : Sg) (N : AP) : Sg := { σ with pl := fun b => N b ∨ σ.pl b }
section
variable {f : Ff} {σ σ' σ'' : Sg} {s s₁ s' : Shared} {h h' h'' : Heap} {v : Value} {u : V} {K : KS} {Q : PySem.Flow → Shared → Prop} {x : Str} {i : Nat} {pos p : Pos}
theorem Adv.refl (f : Ff) (σ : Sg) (h : Heap) : Adv f σ h σ h := ⟨fun _ _ _ _ z e => ⟨e, z⟩, fun _ _ q _ => q, fun _ q _ _ => q⟩
theorem StR.vis (R : StR f σ s) {b : Addr} (n : ¬ f.hid σ b) : ¬ f.mine b := fun q => q.elim (fun q => n (.inr (.inl q))) fun ⟨c, q⟩ => n (.inl (R.lam c b q).1)
theorem StR.adv (R : StR f σ s) (W : WfF f) (a : Adv f σ s.heap σ' h') (b : Adv f σ' h' σ'' h'') : Adv f σ s.heap σ'' h'' := by
  refine ⟨fun b' o q1 q2 q3 e => ?_, fun b' o q e => ?_, fun b' q l z => ?_⟩
  · obtain ⟨e1, z1⟩ := a.keep b' o q1 q2 q3 e
    exact b.keep b' o q1 q2 z1 e1
  · exact b.out b' o (a.out b' o q e) (a.keep b' o (fun z => q (W.sub b' z)) (R.vis q) (fun i z => q (.inl (R.ops i b' z).1)) e).1
  · obtain ⟨n, o, e, _⟩ := R.dpl b' q
    exact b.junk b' (a.junk b' q l z) l (a.keep b' o (R.plfr W q) (fun y => y.elim n l) z e).2
theorem StR.advGrow (R : StR f σ s) (x : Ext f.fr s.heap h') {N : AP} (hN : ∀ b, N b → s.heap.get? b = none) : Adv f σ s.heap (σ.more N) h' :=
  ⟨fun b o q1 _ q3 e => ⟨(x b o e).1 q1, q3⟩, fun b o q e z => q (z.elim (fun z => z.elim (fun z => JJ e (hN b z)) .inl) .inr), fun b q _ _ => .inr q⟩
theorem StR.advStep (R : StR f σ s) (x : Ext f.fr s.heap h') : Adv f σ s.heap σ h' := ⟨fun b o q1 _ q3 e => ⟨(x b o e).1 q1, q3⟩, fun b o q e z => q z, fun b q _ _ => q⟩
theorem Adv.put (a : Adv f σ h σ' h') {Z P : AP} (kz : ∀ b o, ¬ Z b → h'.get? b = some o → h''.get? b = some o) (hZ : ∀ b, Z b → f.pls b ∨ σ.op i b) (hP : ∀ b, P b → h.get? b = none ∨ σ.op i b) : Adv f σ h (σ'.put i P u) h'' := by
  refine ⟨fun b o q1 q2 q3 e => ?_, a.out, a.junk⟩
  obtain ⟨e1, z1⟩ := a.keep b o q1 q2 q3 e
  exact ⟨kz b o (fun z => (hZ b z).elim (fun z => q2 (.inl z)) (q3 i)) e1, fun j z => z.elim (fun z => (hP b z.2).elim (JJ e) (q3 i)) fun z => z1 j z.2⟩
theorem Out.from (o : Out f σ s K Q) (R : StR f σ s) (W : WfF f) (a : Adv f σ s.heap σ' s₁.heap) : Out f σ' s₁ K Q := ⟨fun s' σ'' R' a' k => o.nxt s' σ'' R' (R.adv W a a') k, o.ret⟩
theorem StR.store (R : StR f σ s) (W : WfF f) (hv : f.cx.var x = some i) {P : AP} (sl : SlR f (f.hid σ) s.heap P v u) (hP : ∀ b, P b → σ.pl b ∧ NR s.heap b) (hd : ∀ j, j ≠ i → ∀ b, P b → ¬ σ.op j b) {M : Model} {A : Around} {E : Value → Shared → Prop} {Q : Unit → Shared → Prop}
    (h : ∀ s', StR f (σ.put i P u) s' → (∀ b o, ¬ f.pls b → s.heap.get? b = some o → s'.heap.get? b = some o) → Q () s') : wpAny M A (storeName f.env x v) Q E s := by
  obtain ⟨v1, v2, v3⟩ := Jo hv
  refine Vm R.fm (W.bnd x i hv) fun h' tk fm k a o => h { s with heap := h', toks := tk } ?_ k
  have off : ∀ b, σ.pl b → ∀ o, s.heap.get? b = some o → h'.get? b = some o := fun b q o e => k b o (R.dpl b q).1 e
  refine R.put W v2 (s' := { s with heap := h', toks := tk }) (Z := f.pls) k ⟨rfl, rfl⟩ (fun b q => ⟨.inr (.inl q), W.newp b q, ?_⟩) fm (fun b q z => absurd z (R.dpl b q).1) (fun b q => ⟨(hP b q).1, ?_⟩) hd (fun j ne b q => (R.dpl b (R.ops j b q).1).1) a o (sl.move (fun b o n e => ⟨n, k b o (fun z => n (.inr (.inl z))) e⟩) (fun b q => off b (hP b q).1) fun j q => ?_)
  · obtain ⟨o, e, _, n⟩ := R.fm.data q; exact ⟨o, e, n⟩
  · obtain ⟨o, e, n⟩ := (hP b q).2; exact ⟨o, off b (hP b q).1 o e, n⟩
  · obtain ⟨e, o, vs, C, h1, h2, h3, h4, h5, h6⟩ := q
    refine ⟨e, o, vs, C, h1, h2, k e o (fun z => ?_) h3, h4, h5, h6⟩
    obtain ⟨o', e1, _, e2⟩ := R.fm.data z
    rw [h3] at e1; cases e1; exact e2 vs h6
theorem Hw (R : StR f σ s) (W : WfF f) (T : Thr f) (a : At (f.ec σ s) s₁) (r : (f.ec σ s).R s₁ v u) (o : Bool) : All (keepV o u) fun u' => ∃ N : AP, (∀ b, N b → s.heap.get? b = none ∧ Is s₁.heap b ∧ NR s₁.heap b) ∧ SlR f (f.hid (σ.more N)) s₁.heap N v u' := by
  have Wc := R.wf W T
  have plain : All ((kp u).map V.d) fun u' => ∃ N : AP, (∀ b, N b → s.heap.get? b = none ∧ Is s₁.heap b ∧ NR s₁.heap b) ∧ SlR f (f.hid (σ.more N)) s₁.heap N v u' := .map fun y e =>
    ⟨fun _ => False, fun _ q => q.elim, (Wc.keep a.toAtC r y e).anti fun b q => q.elim (fun q => .inl (q.resolve_left id)) .inr⟩
  cases o with
  | false => exact plain
  | true =>
    cases u with
    | own y =>
      refine .so ?_
      obtain ⟨z, rfl, n, q⟩ := r
      exact ⟨fun b => b = z, fun b e => e ▸ ⟨n, q.is, q.nr⟩, z, rfl, rfl, fun b e => e, q.move (fun b o n e => ⟨fun q => n (q.elim (fun q => q.elim .inl fun q => .inr (.inl q)) fun q => .inr (.inr q)), e⟩) fun o e => e⟩
    | oh y l => exact r.elim
    | ot y z =>
      cases y with
      | str y =>
        cases z with
        | list l =>
          refine .so ?_
          obtain ⟨t, v1, v2, m, rfl, nt, ht, r1, z, rfl, na, ro⟩ := r
          obtain ⟨tk, rfl⟩ : ∃ tk, v1 = .str y tk := PR.inv r1
          refine ⟨fun b => b = z, fun b e => e ▸ ⟨na, ro.is, ro.nr⟩, t, z, tk, m, rfl, ht, fun q => ?_, rfl, fun b e => e, ro.move (fun b o n e => ⟨fun q => n (q.elim (fun q => q.elim .inl fun q => .inr (.inl q)) fun q => .inr (.inr q)), e⟩) fun o e => e⟩
          rcases q with (q | q) | q
          · exact Qx (q ▸ ro.is) ht
          · exact Qx (a.dom t (.inl q)) ht
          · exact Qx (a.dom t (.inr q)) ht
        | _ => exact plain
      | _ => exact plain
    | _ => exact plain
theorem HN (R : StR f σ s) (W : WfF f) (T : Thr f) (hv : f.cx.var x = some i) {o : Bool} (a : At (f.ec σ s) s₁) (x₁ : Ext f.fr s.heap s₁.heap) (r : (f.ec σ s).R s₁ v u) (w : got (keepV o u) fun u => K .nxt (σ.ρ.set i (some u))) (out : Out f σ s K Q) : f.wp (storeName f.env x v) (fun _ => Q .next) s₁ := by
  refine ZR w fun u' e w => ?_
  obtain ⟨N, hN, sl⟩ := Hw R W T a r o u' e
  exact (R.grow W x₁ a.same N fun b q => ⟨(hN b q).1, (hN b q).2.1⟩).store W hv sl (fun b q => ⟨.inl q, (hN b q).2.2⟩) (fun j _ b q z => (R.dpl b (R.ops j b z).1).2.not_none (hN b q).1) fun s' R' k =>
    out.nxt s' _ R' ((R.advGrow x₁ fun b q => (hN b q).1).put k (fun b q => .inl q) fun b q => .inl (hN b q).1) w
theorem HM (W : WfF f) (T : Thr f) {val : Expr} {e : TC.E} {o : Bool} (hv : f.cx.var x = some i) (h : OkF f val e) (hs : swapsWith val (some (.Name x p)) pos.line f.env = pure false) : OkS f (.Assign [.Name x p] val pos) (.asg o i e) := fun σ s K Q R w out =>
  wpAny_Assign_Name ((h σ s R).ev s _ _ (R.at W) w fun v s₁ u a₁ x₁ r w₁ => HN R W T hv a₁ x₁ r w₁ out) hs
theorem StR.junk (R : StR f σ s) (W : WfF f) {Z pl' : AP} (kz : ∀ b o, ¬ Z b → s.heap.get? b = some o → s'.heap.get? b = some o) (m : Same s s') (hZ : ∀ b, Z b → σ.pl b ∧ ∀ i, ¬ σ.op i b) (hH : ∀ b ∈ hAddr f.A, ¬ Z b) (hE : ∀ b, Z b → ∀ o vs C, s.heap.get? b = some o → o.cls = .ref C → o.data ≠ .fields vs)
    (sub : ∀ b, pl' b → σ.pl b ∧ (Z b → Is s'.heap b)) (ops : ∀ i b, σ.op i b → pl' b) (hl : LamOk f pl' s'.heap) : StR f { σ with pl := pl' } s' := by
  have pz : ∀ b, f.pls b → ¬ Z b := fun b q z => (R.dpl b (hZ b z).1).1 q
  have vk : ∀ y w, varAt f.env s.heap y w → varAt f.env s'.heap y w := fun y w va => va.imp (fun ⟨q, mm, nn, hv⟩ => ⟨q, mm, nn.at' fun o e => kz _ o (pz _ (.inl rfl)) e, hv⟩) fun ⟨q, a, ha, o, q1, q2⟩ => ⟨q, a, ha, o, kz a o (pz a (.inr ⟨y, W.cells y a ha⟩)) q1, q2⟩
  refine ⟨R.ext.on kz fun b q => R.newl b (hZ b q).1, R.same.trans m, R.fm.on fun b o q e => kz b o (pz b q) e, R.hok.at fun b hb o e => kz b o (hH b hb) e, fun b q => R.newl b (sub b q).1, fun b q => ⟨(R.dpl b (sub b q).1).1, ?_⟩, fun i b q => ⟨ops i b q, ?_⟩, R.dis, R.len, fun y i hy u hu => ?_, hl⟩
  · by_cases z : Z b
    · exact (sub b q).2 z
    · obtain ⟨o, e, n⟩ := (R.dpl b (sub b q).1).2; exact ⟨o, kz b o z e, n⟩
  · obtain ⟨_, o, e, n⟩ := R.ops i b q; exact ⟨o, kz b o (fun z => (hZ b z).2 i q) e, n⟩
  · obtain ⟨v, va, r⟩ := R.slots y i hy u hu
    refine ⟨v, vk y v va, r.move (fun b o n e => ⟨fun q => n (q.elim (fun q => .inl (sub b q).1) .inr), kz b o (fun z => n (.inl (hZ b z).1)) e⟩) (fun b q o e => kz b o (fun z => (hZ b z).2 i q) e) fun j q => ?_⟩
    obtain ⟨e, o, vs, C, h1, h2, h3, h4, h5, h6⟩ := q
    exact ⟨e, o, vs, C, h1, h2, kz e o (fun z => hE e z o vs C h3 h4 h6) h3, h4, h5, h6⟩
end
end TC

namespace TC
open PySem PySem.W PyProof.Rows

section
variable {f : Ff} {σ : Sg} {s s₁ s' : Shared} {v : Value} {u : V} {K : KS} {Q : PySem.Flow → Shared → Prop} {x : Str} {i : Nat} {pos p : Pos}
theorem ZCs (W : WfF f) (T : Thr f) {elt : Expr} {gs : List Comprehension} {sc : Scope} {p0 : Pos} {e : TC.E} {o : Bool} (hv : f.cx.var x = some i) (hc : ∀ σ s, StR f σ s → CompOk (f.ec σ s) elt gs sc e) (hsw : swapsWith (.ListComp elt gs sc p0) (some (.Name x p)) pos.line f.env = pure true) :
    OkS f (.Assign [.Name x p] (.ListComp elt gs sc p0) pos) (.asg o i e) := fun σ s K Q R w out => by
  rw [exec_Assign_Name_used _ _ _ _ hsw]
  refine wpAny_bind (wpAny_standAt (wpAny_bind ?_))
  obtain ⟨tg, iter, ifs, xs, cx', rfl, hcc⟩ := hc σ s R
  rw [arm_evalThenUse_ListComp]
  refine wpAny_bind (hcc s _ _ _ (some (assign (.Name x p) f.env)) _ (R.at W) w fun s₁ cl D t ys x₁ h L hk => ?_)
  obtain ⟨_, ws, nn, eD, hD, rD⟩ := L.acc
  cases eD
  have nD : s.heap.get? D = none := x₁.gone (h.new (.inr (.inl rfl)))
  have nC : s.heap.get? (D + 1) = none := x₁.gone (h.new (.inr (.inr (.inl rfl))))
  have CD : D + 1 ≠ D := Nat.ne_of_gt (Nat.lt_succ_self D)
  have m : Same s t := h.A.same.trans L.m
  obtain ⟨mC, nsC⟩ := L.fm.ns
  obtain ⟨oC, eC, ntC, nrC⟩ := L.fm.data (.inl rfl)
  refine ZR hk fun u e1 hk => ?_
  have key : ∃ N : AP, (∀ b, N b → b = D) ∧ SlR f (f.hid (σ.more fun b => N b ∨ b = D + 1)) t.heap N (.ref D) u := by
    have sub : ∀ {N : AP}, (∀ b, N b → b = D) → ∀ b, f.hid (σ.more fun b => N b ∨ b = D + 1) b → Cb.nw ⟨f.ec σ s, s₁, sc, xs, cx', cl, D⟩ b ∨ f.hid σ b := fun hN b q => by
      rcases q with ((q | q) | q) | q
      · exact .inl (.inr (.inl (hN b q)))
      · exact .inl (.inr (.inr (.inl q)))
      · exact .inr (.inl q)
      · exact .inr (.inr q)
    cases o with
    | true => cases e1; exact ⟨fun b => b = D, fun b q => q, D, rfl, rfl, fun b q => q, ws, nn, hD, rD.anti (sub fun b q => q)⟩
    | false =>
      cases e1
      refine ⟨fun _ => False, fun _ q => q.elim, PR.list (fun q => ?_) hD (rD.anti (sub fun _ q => q.elim))⟩
      rcases q with ((q | q) | q) | q | q
      · exact q
      · exact CD q.symm
      · exact (R.dpl D q).2.not_none nD
      · exact (R.fm.is q).not_none nD
      · exact ((W.dom0 D q).ext R.ext).not_none nD
  obtain ⟨N, hN, sl⟩ := key
  have x2 : Ext f.fr s.heap t.heap := x₁.trans L.x
  have new : ∀ b, N b ∨ b = D + 1 → s.heap.get? b = none := fun b q => q.elim (fun q => hN b q ▸ nD) fun q => q ▸ nC
  have R1 := R.grow W x2 m (fun b => N b ∨ b = D + 1) fun b q => ⟨new b q, q.elim (fun q => hN b q ▸ ⟨_, hD, .list _ _⟩) fun q => q ▸ ⟨oC, eC, ntC⟩⟩
  have ad := R.advGrow x2 new
  show f.wp (do standAt p; bindName f.env x (.ref D)) _ t
  refine wpAny_bind (wpAny_standAt (wpAny_bindName (R1.store W hv sl (fun b q => ⟨.inl (.inl q), hN b q ▸ ⟨_, hD, nofun⟩⟩) (fun j _ b q z => (R.dpl b (R.ops j b z).1).2.not_none (new b (.inl q))) fun s2 R2 k2 => ?_)))
  have Cp : ¬ f.pls (D + 1) := (R1.dpl (D + 1) (.inl (.inr rfl))).1
  refine ⟨mC, nsC.at' fun o e => k2 _ o Cp e, fun h3 sb => wpAny_pure (wpAny_pure ?_)⟩
  have k3 : ∀ b o, ¬ b = D + 1 → s2.heap.get? b = some o → h3.get? b = some o := fun b o hb e => (sb.2 b hb).trans e
  have CN : ¬ N (D + 1) := fun q => CD (hN _ q)
  have opC : ∀ j, ¬ ((σ.more fun b => N b ∨ b = D + 1).put i N u).op j (D + 1) := fun j z => z.elim (fun z => CN z.2) fun z => (R.dpl _ (R.ops j _ z.2).1).2.not_none nC
  have opN : ∀ j b, ((σ.more fun b => N b ∨ b = D + 1).put i N u).op j b → N b ∨ σ.pl b := fun j b z => z.elim (fun z => .inl z.2) fun z => .inr (R.ops j b z.2).1
  have dC := k2 _ _ Cp eC
  refine out.nxt { s2 with heap := h3 } _ (R2.junk W (s' := { s2 with heap := h3 }) (Z := (· = D + 1)) (pl' := fun b => N b ∨ σ.pl b) k3 ⟨rfl, rfl⟩ (fun b q => ⟨.inl (.inr q), fun j z => opC j (q ▸ z)⟩) (fun b hb q => ?_) (fun b q o vs C e _ d => ?_) (fun b q => ⟨q.elim (fun q => .inl (.inl q)) .inr, fun z => ?_⟩) opN (R2.lam.move (fun b l q => q.elim (fun q => q.elim .inl fun q => absurd l (R2.lamNR (q ▸ ⟨_, dC, nrC⟩))) .inr) fun b o vs d _ e => k3 b o (fun z => ?_) e)) ⟨fun b o q1 q2 q3 e => ?_, fun b o q e z => ?_, fun b q _ _ => .inr q⟩ hk
  · obtain ⟨o, vs, e1, e2⟩ := R2.hok.rec b hb
    rw [q, dC] at e1; cases e1; exact nrC vs e2
  · rw [q, dC] at e; cases e; exact nrC vs d
  · exact q.elim (fun q => absurd (z ▸ q) CN) fun q => (R.dpl b q).2.not_none (z ▸ nC)
  · rw [z, dC] at e; cases e; exact nrC vs d
  · obtain ⟨e1, z1⟩ := ad.keep b o q1 q2 q3 e
    exact ⟨k3 b o (fun z => JJ (z ▸ e) nC) (k2 b o (fun z => q2 (.inl z)) e1), fun j z => z.elim (fun z => JJ e (new b (.inl z.2))) fun z => q3 j z.2⟩
  · exact q (z.elim (fun z => z.elim (fun z => JJ e (new b (.inl z))) .inl) .inr)
theorem ZCr {dep n : Nat} (IC : ∀ c, c.dep = dep → WfC c → Calls c) (hd : f.dep = dep) (W : WfF f) (T : Thr f) {val : Expr} (hv : f.cx.var x = some i) {o : Bool} : All (lowE n f.cx val) fun e => OkS f (.Assign [.Name x p] val pos) (.asg o i e) := fun e he => by
  have IE := Wq IC n
  have hF : ∀ {m : Nat} {pe : Expr} {e : TC.E}, lowE m f.cx pe = some e → OkF f pe e := fun {m pe e} he σ s R => Wq IC m (f.ec σ s) hd (R.wf W T) pe e he
  have ve := Jd val
  obtain ⟨b, hb⟩ : ∃ b, swapsWith val (some (.Name x p)) pos.line f.env = pure b := by cases val <;> exact ⟨_, rfl⟩
  cases b with
  | false => exact HM W T hv (hF he) hb
  | true =>
    cases n with
    | zero => exact nomatch he
    | succ n =>
      replace he : lowV (lowE n) f.cx (view val) = some e := he
      revert ve he hb
      cases view val with
      | comp elt gs sc p0 =>
        intro ve hb he
        replace ve : Expr.ListComp elt gs sc p0 = val := ve
        subst ve
        exact ZCs W T hv (fun σ s R => WN (Wq IC n) (c := f.ec σ s) hd (R.wf W T) gs e he) hb
      | other => exact fun _ _ he => nomatch he
      | slice => exact fun _ _ he => nomatch he
      | attr => exact fun _ _ he => nomatch he
      | _ => intro ve hb _; rw [← ve] at hb; exact nomatch hb
end
end TC

namespace TC
open PySem PySem.W PyProof.Rows

section
variable {A : Around} {s : Shared} {E : Value → Shared → Prop}
theorem Gv {prog : Program} {w : World} {l : Addr} {vs : Array Value} {n : Nat} {k : Int} {t : Tok} {v : Value} {Q : Unit → Shared → Prop} (ho : s.heap.get? l = some (listObj vs n)) (h0 : 0 ≤ k) (hj : k < vs.size) (hf : k < 2 ^ 63)
    (h : ∀ h' n', h'.get? l = some (listObj (vs.setIfInBounds k.toNat v) n') → (∀ b o, b ≠ l → s.heap.get? b = some o → h'.get? b = some o) → Q () { s with heap := h' }) : wpAny (model prog w) A (setItem (.ref l) (.int k t) v) Q E s := by
  have hl : s.heap.IsList l vs := ⟨_, ho, rfl, n, rfl⟩
  unfold setItem
  try with_reducible refine wpAny_holding ?_
  first | refine wpAny_bind (wpAny_pure ?_) | skip
  refine wpAny_bind (wpAny_sequenceKey hl.typeIs (by decide) ?_)
  refine wpAny_bind (wpAny_callSpecial?_slot (name := Str.ofString "__setitem__") hl.typeIs slot_list_setitem
    (wpAny_call_entry slot_list_setitem hl.typeIs entry_list_setitem ?_ (args_list_setitem _ _ _)))
  show wpAny _ _ (Builtin.List.listSubscript? (.int k t) >>= _) _ _ s
  refine wpAny_bind (wpAny_listSubscript_int (fitsIndex_of h0 hf) ?_)
  clear hf
  obtain ⟨j, rfl⟩ := Int.eq_ofNat_of_zero_le h0
  have hj : j < vs.size := by lia
  have hx' : vs[j]? = some vs[j] := Array.getElem?_eq_getElem hj
  show wpAny _ _ ((seqItemAt l j >>= fun r => pure (r.map (j, ·))) >>= _) _ _ s
  refine wpAny_bind (wpAny_bind (wpAny_seqItemAt ho rfl (wpAny_pure ?_)))
  rw [hx']
  show wpAny _ _ (setSeqItemAt l j v >>= _) _ _ s
  obtain ⟨n', hd'⟩ := Obj.data_mapSeq (o := listObj vs n) rfl (·.setIfInBounds j v)
  have e := Heap.get?_update_self (Obj.mapSeq (·.setIfInBounds j v)) ho (Obj.isFreed_of_seq hd')
  have eo : Obj.mapSeq (·.setIfInBounds j v) (listObj vs n) = listObj (vs.setIfInBounds j v) n' := by
    unfold Obj.mapSeq at hd' ⊢
    simp only at hd' ⊢
    injection hd' with _ q
    rw [← q]
  rw [eo] at e
  have fin := h _ n' e fun b o hb e => (Heap.get?_update_other _ _ (Ne.symm hb)).trans e
  refine wpAny_bind (wpAny_setSeqItemAt ho rfl ?_)
  first
    | exact wpAny_bind (wpAny_pure (wpAny_pure ⟨.none, rfl, wpAny_pure fin⟩))
    | exact wpAny_pure ⟨.none, rfl, wpAny_pure fin⟩
end
section
variable {f : Ff} {σ : Sg} {s s₁ s' : Shared} {v : Value} {u : V} {K : KS} {Q : PySem.Flow → Shared → Prop} {x : Str} {i : Nat} {pos p : Pos}
theorem ZKk (R : StR f σ s) (W : WfF f) (T : Thr f) (a : At (f.ec σ s) s₁) (r : (f.ec σ s).R s₁ v u) : All (retO u) (VR f.G.ca f.h₀ (fun b => f.pls b ∨ f.hid0 b) f.fr0 s₁.heap v) := by
  have Wc := R.wf W T
  have plain : All ((kp u).map V.d) (VR f.G.ca f.h₀ (fun b => f.pls b ∨ f.hid0 b) f.fr0 s₁.heap v) := .map fun y e => (Wc.keep a.toAtC r y e).anti fun b q => .inr q
  cases u with
  | own y => obtain ⟨z, e, n, r⟩ := r; exact .so ⟨z, e, R.ext.gone n, r.move (fun b o n e => ⟨fun q => n (q.imp_right .inr), e⟩) fun o e => e⟩
  | ot y z => exact .so (OtV.move r (fun _ q => R.ext.gone q) (fun _ _ _ e => e) fun b o n e => ⟨fun q => n (.inr q), e⟩)
  | _ => exact plain
theorem Wp (W : WfF f) (T : Thr f) {val : Expr} {e : TC.E} (h : OkF f val e) : OkS f (.Return (some val) pos) (.ret e) := fun σ s K Q R w out =>
  wpAny_Return_some ((h σ s R).ev s _ _ (R.at W) w fun v s₁ u a₁ x₁ r w₁ => ZR w₁ fun u' e1 hk => out.ret s₁ v u' σ σ.ρ (R.step W x₁ a₁.same) (ZKk R W T a₁ r u' e1) hk)
theorem ZBl (W : WfF f) (hv : f.cx.var x = some i) : OkS f (.Return (some (.Name x p)) pos) (.retm i) := fun σ s K Q R w out => by
  obtain ⟨h1, h2, h3⟩ := Jo hv
  refine ZR w fun su e1 w => ZR w fun u e2 w => ZR w fun u' e3 w => ?_
  obtain ⟨v, va, r⟩ := R.slots x i h2 u (e2 ▸ e1)
  refine wpAny_Return_some (QC (c := f.ec σ s) W.envok h1 va (out.ret s v u' σ σ.ρ R ?_ w))
  have sub : ∀ b, f.pls b ∨ f.hid0 b → f.hid σ b := fun b q => .inr q
  cases u with
  | d y => cases e3; exact PR.anti r sub
  | own y =>
    cases e3
    obtain ⟨a, e, h1, h2, r⟩ := r
    exact ⟨a, e, R.newl a (R.ops i a h1).1, r.move (fun b o n e => ⟨fun q => n (q.elim (fun q => .inl (q ▸ (R.ops i a h1).1)) .inr), e⟩) fun o e => e⟩
  | brw y =>
    obtain ⟨z, e4, rfl⟩ := Option.map_eq_some_iff.mp e3
    obtain ⟨fl, rfl⟩ := Jn e4
    exact Xm (fun b q => R.dom W b (sub b q)) (PR.move (XX R.ext fun _ q => q) r) fl
  | exc j => exact nomatch e3
  | oh y l => exact nomatch e3
  | _ => exact r.elim
theorem Xw (W : WfF f) : interactive f.env = false := by unfold interactive; rw [W.envok.kind]; rfl
theorem Hc (W : WfF f) {g : Str} {args : List Expr} {kws : List Keyword} {e : TC.E} {p2 : Pos} (h : OkF f (.Call (.Name g p) args kws p2) e) : OkS f (.Expr (.Call (.Name g p) args kws p2) pos) (.drop e) := fun σ s K Q R w out =>
  wpAny_Expr_any ((h σ s R).ev s _ _ (R.at W) w fun v s₁ u a₁ x₁ r w₁ => out.nxt s₁ σ (R.step W x₁ a₁.same) (R.advStep x₁) w₁) (Xw W) rfl
noncomputable def OkSs (f : Ff) (sts : List Stmt) (ts : Ss) : Prop := ∀ σ s K Q, StR f σ s → wpSs (ΦF f) f.hm ts σ.ρ K f.X → Out f σ s K Q → f.wp (execs sts f.env) Q s
theorem ZBo (W : WfF f) {ls : Stmt → Option TC.S} (h : ∀ st, All (ls st) (OkS f st)) {sts : List Stmt} : All (lowSs ls sts) (OkSs f sts) := by
  induction sts with
  | nil => exact .so fun σ s K Q R w out => wpAny_execs_nil (out.nxt s σ R (Adv.refl _ _ _) w)
  | cons st sts ih => exact .bind fun a h1 => .map fun b h2 σ s K Q R w out => wpAny_execs_cons (h st a h1 σ s _ _ R w ⟨fun s' σ' R' ad w' => ih b h2 σ' s' K Q R' w' (out.from R W ad), fun s' v u σ' ρ R' r w' => out.ret s' v u σ' ρ R' r w'⟩)
theorem ZDo (W : WfF f) {t : Expr} {a b : List Stmt} {c : TC.E} {a' b' : Ss} (ht : OkF f t c) (ha : OkSs f a a') (hb : OkSs f b b') : OkS f (.If t a b pos) (.ite c a' b') := fun σ s K Q R w out =>
  wpAny_If ((ht σ s R).ts s _ _ (R.at W) w (fun u => Qs) fun b s₁ a₁ x₁ w₁ => by
    have R₁ := R.step W x₁ a₁.same
    have out₁ := out.from R W (s₁ := s₁) (R.advStep x₁)
    cases b with
    | true => exact ha σ s₁ K Q R₁ w₁ out₁
    | false => exact hb σ s₁ K Q R₁ w₁ out₁)

inductive OwnL (f : Ff) (σ : Sg) (s : Shared) (x : Str) (i : Nat) (xs : List PyData) : Prop
  | mk (a : Addr) (vs : Array Value) (m : Nat) : varAt f.env s.heap x (.ref a) → σ.op i a → (∀ b, σ.op i b → b = a) → s.heap.get? a = some (listObj vs m) → PRs (f.hid σ) s.heap vs.toList xs → OwnL f σ s x i xs
theorem Qm (R : StR f σ s) (hv : f.cx.var x = some i) {k : List PyData → Prop} {P : Prop} (w : ownS σ.ρ i k) (h : ∀ xs, (∀ s', StR f σ s' → OwnL f σ s' x i xs) → k xs → P) : P := by
  refine ZR w fun su e1 w => ZR w fun u e2 w => ?_
  cases u with
  | own y =>
    refine ZR w fun xs e3 w => h xs (fun s' R' => ?_) w
    obtain ⟨v, va, a, rfl, h1, h2, r⟩ := R'.slots x i (Jo hv).2.1 _ (e2 ▸ e1)
    rw [Xp y xs e3] at r
    obtain ⟨vs, m, ho, r⟩ := r
    exact ⟨a, vs, m, va, h1, h2, ho, r⟩
  | _ => exact w.elim
theorem ZIi {h : Heap} {a : Addr} {m m' : Str → Option Value} (n : h.Ns a m) (n' : h.Ns a m') : m = m' := by
  obtain ⟨o1, es1, ep1, a1, a2, _, a3⟩ := n
  obtain ⟨o2, es2, ep2, b1, b2, _, b3⟩ := n'
  rw [a1] at b1; cases b1
  rw [a2] at b2; cases b2
  exact funext fun x => (a3 x).symm.trans (b3 x)
theorem varAt.uniq {env : Env} {h : Heap} {v v' : Value} (a : varAt env h x v) (b : varAt env h x v') : v = v' := by
  rcases a with ⟨k, m, n, q⟩ | ⟨k, z, e, o, q1, q2⟩ <;> rcases b with ⟨k', m', n', q'⟩ | ⟨k', z', e', o', q1', q2'⟩
  · rw [ZIi n n'] at q; exact Option.some.inj (q.symm.trans q')
  · rcases k' with k' | k' <;> rw [k] at k' <;> cases k'
  · rcases k with k | k <;> rw [k] at k' <;> cases k'
  · rw [e] at e'; cases e'
    rw [q1] at q1'; cases q1'
    rw [q2] at q2'; cases q2'; rfl
theorem StR.mut (R : StR f σ s) (W : WfF f) (hv : f.cx.var x = some i) {a : Addr} {vs ws : Array Value} {m m' : Nat} {ys : List PyData} (va : varAt f.env s.heap x (.ref a)) (h1 : σ.op i a) (h2 : ∀ b, σ.op i b → b = a) (ho : s.heap.get? a = some (listObj vs m)) (ho' : s'.heap.get? a = some (listObj ws m'))
    (k : ∀ b o, b ≠ a → s.heap.get? b = some o → s'.heap.get? b = some o) (sm : Same s s') (r : PRs (f.hid σ) s.heap ws.toList ys) : StR f (σ.put i (σ.op i) (.own (.list ys))) s' := by
  have hpl := (R.ops i a h1).1
  have ap : ∀ b, f.pls b → b ≠ a := fun b q z => (R.dpl a hpl).1 (z ▸ q)
  have vk : ∀ y w, varAt f.env s.heap y w → varAt f.env s'.heap y w := fun y w va => va.imp (fun ⟨q, mm, nn, hv⟩ => ⟨q, mm, nn.at' fun o e => k _ o (ap _ (.inl rfl)) e, hv⟩) fun ⟨q, b, hb, o, q1, q2⟩ => ⟨q, b, hb, o, k b o (ap b (.inr ⟨y, W.cells y b hb⟩)) q1, q2⟩
  refine R.put W (Jo hv).2.1 (Z := (· = a)) k sm (fun b q => q ▸ ⟨.inl hpl, R.newl a hpl, _, ho, nofun⟩) (R.fm.on fun b o q e => k b o (ap b q) e) (fun b _ q => q ▸ ⟨⟨_, ho', .list _ _⟩, _, ho', nofun⟩) (fun b q => ⟨(R.ops i b q).1, h2 b q ▸ ⟨_, ho', nofun⟩⟩) (fun j ne b q => R.dis i j (Ne.symm ne) b q) (fun j ne b q z => R.dis j i ne b q (z ▸ h1)) (vk x _ va) (fun y w _ => vk y w)
    ⟨a, rfl, h1, h2, ws, m', ho', r.move fun b o n e => ⟨n, k b o (fun z => n (.inl (z ▸ hpl))) e⟩⟩
theorem Adv.mut (R : StR f σ s) (x₁ : Ext f.fr s.heap s₁.heap) {a : Addr} {h' : Heap} (h1 : σ.op i a) (k : ∀ b o, b ≠ a → s₁.heap.get? b = some o → h'.get? b = some o) : Adv f σ s.heap (σ.put i (σ.op i) u) h' :=
  (R.advStep x₁).put (Z := (· = a)) k (fun b q => .inr (q ▸ h1)) fun b q => .inr q
theorem ZAj (W : WfF f) {name : Str} {id : String} {arg : Expr} {e : TC.E} {apos np pos' : Pos} {Q' : V → Prop} {xs : List PyData} (hline : (apos.endLine == pos.line) = true) (hv : f.cx.var x = some i) (he : OkF f arg e) (sl : Slot "list" name id) (hty : typeOf (.builtin id) = pure (.type "method_descriptor")) (R : StR f σ s)
    (ol : ∀ s', StR f σ s' → OwnL f σ s' x i xs) (w : wpE (ΦF f) f.hm (f.X · σ.ρ) e σ.ρ Q')
    (k : ∀ a vs m v s' u, At (f.ec σ s) s' → Ext f.fr s.heap s'.heap → (f.ec σ s).R s' v u → Q' u → varAt f.env s'.heap x (.ref a) → σ.op i a → (∀ b, σ.op i b → b = a) → s'.heap.get? a = some (listObj vs m) → PRs (f.hid σ) s'.heap vs.toList xs → f.wp (call (.builtin id) [.ref a, v]) (fun _ => Q .next) s') :
    f.wp (exec (.Expr (.Call (.Attribute (.Name x np) name apos) [arg] [] pos) pos') f.env) Q s := by
  obtain ⟨h1, h2, h3⟩ := Jo hv
  obtain ⟨a, vs, m, va, o1, o2, ho, r⟩ := ol s R
  refine wpAny_Expr_any ?_ (Xw W) rfl
  have hl : s.heap.IsList a vs := ⟨_, ho, rfl, m, rfl⟩
  refine Call_method1 rfl ((he σ s R).pl _ _) hline (QC (c := f.ec σ s) W.envok h1 va ⟨"list", id, PySem.F.plainAttrs_list, sl, hty, hl.typeIs, fun b e => ?_, ?_⟩)
  · cases e; exact ⟨_, ho, rfl⟩
  · refine Calls.callWith_builtin rfl (Calls.evalArgs_plain (Calls.spliced_cons ((he σ s R).ev s _ _ (R.at W) w fun v s' u a' x' r w => Calls.spliced_nil ?_)))
    obtain ⟨b, vs', m', vb, p1, p2, hb, r'⟩ := ol s' (R.step W x' a'.same)
    cases vb.uniq (va.ext x')
    exact k a vs' m' v s' u a' x' ‹_› w vb p1 p2 hb r'
theorem ZCq (W : WfF f) (T : Thr f) {arg : Expr} {e : TC.E} {apos np pos' : Pos} (hline : (apos.endLine == pos.line) = true) (hv : f.cx.var x = some i) (he : OkF f arg e) : OkS f (.Expr (.Call (.Attribute (.Name x np) "append" apos) [arg] [] pos) pos') (.app i e) := fun σ s K Q R w out =>
  Qm R hv w fun xs ol w => ZAj W hline hv he PySem.slot_list_append PySem.F.type_list_append R ol w fun a vs m v s' u a' x' r w va o1 o2 ho rs => ZR w fun y e1 w => by
    refine Xj ho (by rw [rs.size]; exact QE w.1 (by rw [sizeLine_eq]; decide)) fun h2 n2 e2 k2 => ?_
    refine out.nxt { s' with heap := h2 } _ ((R.step W x' a'.same).mut W hv (s' := { s' with heap := h2 }) va o1 o2 ho e2 k2 ⟨rfl, rfl⟩ ?_) (Adv.mut R x' o1 k2) w.2
    rw [Array.toList_push]
    exact PRs.append (.cons ((R.wf W T).keep a'.toAtC r y e1) .nil) rs
theorem PRs.set {P : AP} {h : Heap} {vs : List Value} {xs : List PyData} (r : PRs P h vs xs) {v : Value} {y : PyData} (q : PR P h v y) (j : Nat) : PRs P h (vs.set j v) (xs.set j y) :=
  PRs.of (by rw [List.length_set, List.length_set, r.length]) fun k w z e1 e2 => by
    rw [List.getElem?_set] at e1 e2
    by_cases c : j = k
    · rw [if_pos c] at e1 e2
      split at e1
      · rw [if_pos (r.length ▸ ‹_›)] at e2; cases e1; cases e2; exact q
      · cases e1
    · rw [if_neg c] at e1 e2; exact r.at k w z e1 e2
theorem ZEx (W : WfF f) (T : Thr f) {kx val : Expr} {k' v' : TC.E} {np sp : Pos} (hv : f.cx.var x = some i) (hk : OkF f kx k') (he : OkF f val v') (hs : swapsWith val (some (.Subscript (.Name x np) kx sp)) pos.line f.env = pure false) : OkS f (.Assign [.Subscript (.Name x np) kx sp] val pos) (.set i k' v') := fun σ s K Q R w out =>
  Qm R hv w fun xs ol w => wpAny_Assign_Subscript ((he σ s R).ev s _ _ (R.at W) w fun v s₁ u a₁ x₁ r w₁ => by
    have R₁ := R.step W x₁ a₁.same
    obtain ⟨a, vs, m, va, o1, o2, ho, rs⟩ := ol s₁ R₁
    refine QC (c := f.ec σ s) W.envok (Jo hv).1 va ((hk σ s₁ R₁).ev s₁ _ _ (R₁.at W) w₁ fun vk s₂ uk a₂ x₂ rk w₂ => ZR w₂ fun y e1 w => ZR w fun j e2 w => ?_)
    obtain ⟨t, rfl⟩ := rk.int e2
    have R₂ := R₁.step W x₂ a₂.same
    obtain ⟨b, vs', m', vb, p1, p2, hb, rs'⟩ := ol s₂ R₂
    cases vb.uniq (va.ext x₂)
    have Wc := R.wf W T
    have A2 := Wc.go a₁ x₂ a₂.same
    have hj := w.1.2.2
    rw [QX] at hj
    refine Gv hb w.1.1 (by rw [rs'.size]; exact w.1.2.1) (by lia) fun h3 n3 e3 k3 => ?_
    refine out.nxt { s₂ with heap := h3 } _ (R₂.mut W hv (s' := { s₂ with heap := h3 }) vb p1 p2 hb e3 k3 ⟨rfl, rfl⟩ ?_) (Adv.mut R (x₁.trans x₂) p1 k3) w.2
    rw [Array.toList_setIfInBounds]
    exact rs'.set (Wc.keep A2.toAtC (Wc.R r x₂) y e1) _) hs
theorem ZBk (W : WfF f) {y : Str} {j tn : Nat} {np yp tp : Pos} (hv : f.cx.var x = some i) (hw : f.cx.var y = some j) : OkS f (.Return (some (.Tuple [.Name x np, .Name y yp] tn tp)) pos) (.ret2 i j) := fun σ s K Q R w out =>
  Qm R hv w fun xs ol w => Qm R hw w fun ys ol2 w => wpAny_Return_some (Tuple_ (by
    obtain ⟨a, vs, m, va, o1, o2, ho, r⟩ := ol s R
    obtain ⟨b, vs', m', vb, p1, p2, hb, r'⟩ := ol2 s R
    refine args_cons (QC (c := f.ec σ s) W.envok (Jo hv).1 va (args_cons (QC (c := f.ec σ s) W.envok (Jo hw).1 vb (args_nil ?_)) rfl)) rfl
    refine wpAny_newObj_type ?_ (fits [.ref a, .ref b] (show 2 < 1000 by decide))
    refine out.ret { s with heap := _ } _ (.ot (.list xs) (.list ys)) σ σ.ρ (R.step W (Ext.of (JU _ _)) ⟨rfl, rfl⟩) ⟨_, .ref a, .ref b, 0, rfl, R.ext.gone (Jc _), Heap.get?_push_size _ rfl, ⟨a, rfl, R.newl a (R.ops i a o1).1, vs, m, JU _ _ a _ ho, r.move fun b o n e => ⟨fun q => n (q.elim (fun q => .inl (q ▸ (R.ops i a o1).1)) .inr), JU _ _ b o e⟩⟩, ⟨b, rfl, R.newl b (R.ops j b p1).1, vs', m', JU _ _ b _ hb, r'.move fun b' o n e => ⟨fun q => n (q.elim (fun q => .inl (q ▸ (R.ops j b p1).1)) .inr), JU _ _ b' o e⟩⟩⟩ w.2))
theorem ZIt (W : WfF f) (T : Thr f) {s1 : Shared} (R1 : StR f σ s1) (a₁ : At (f.ec σ s1) s₁) (x₁ : Ext f.fr s1.heap s₁.heap) (r₁ : (f.ec σ s1).R s₁ v u) (tk : Tok) (sx : Str) : All (mkp sx u) (VR f.G.ca f.h₀ (fun b => f.pls b ∨ f.hid0 b) f.fr0 (s₁.heap.push (tupObj #[.str sx tk, v] 0)) (.ref s₁.heap.objs.size)) := by
  have R₁ := R1.step W x₁ a₁.same
  have nt := Jc s₁.heap
  have plain : All ((kp u).map fun y => V.d (.tuple [.str sx, y])) (VR f.G.ca f.h₀ (fun b => f.pls b ∨ f.hid0 b) f.fr0 (s₁.heap.push (tupObj #[.str sx tk, v] 0)) (.ref s₁.heap.objs.size)) := .map fun y e2 => by
    have r : PR (fun b => f.pls b ∨ f.hid0 b) (s₁.heap.push (tupObj #[.str sx tk, v] 0)) v y := PR.move (fun b o n e => ⟨fun q => n (.inr q), JU _ _ b o e⟩) ((R1.wf W T).keep a₁.toAtC r₁ y e2)
    exact PR.tuple (fun q => (R₁.dom W _ (.inr q)).not_none nt) (Heap.get?_push_size _ rfl) (.cons (.str sx tk) (.cons r .nil))
  cases u with
  | own y => cases y with
    | list ys =>
      refine .so ?_
      obtain ⟨a, rfl, na, ro⟩ := r₁
      exact ⟨_, .str sx tk, .ref a, 0, rfl, R₁.ext.gone nt, Heap.get?_push_size _ rfl, PR.str sx tk, a, rfl, R1.ext.gone na, ro.move (fun b o n e => ⟨fun q => n (q.imp_right .inr), JU _ _ b o e⟩) fun o e => JU _ _ a o e⟩
    | _ => exact plain
  | _ => exact plain
theorem ZBm (W : WfF f) (T : Thr f) {e2 : Expr} {e : TC.E} {sx : Str} {ci tn : Nat} {cp tp : Pos} (he : OkF f e2 e) : OkS f (.Return (some (.Tuple [.Constant (.str sx) ci cp, e2] tn tp)) pos) (.rets sx e) := fun σ s K Q R w out =>
  wpAny_Return_some (Tuple_ (by
    refine args_cons (Calls.Constant_str ?_) rfl
    generalize hs1 : ({ s with toks := _ } : Shared) = s1
    have R1 : StR f σ s1 := hs1 ▸ R.step W (Ext.refl _ _) ⟨rfl, rfl⟩
    refine args_cons ((he σ s1 R1).ev s1 _ _ (R1.at W) w fun v s₁ u a₁ x₁ r₁ w₁ => args_nil (ZR w₁ fun u' e1 w => ?_)) ((he σ s1 R1).pl _ _)
    refine wpAny_newObj_type ?_ (fits [.str sx _, v] (show 2 < 1000 by decide))
    exact out.ret { s₁ with heap := _ } _ u' σ σ.ρ ((R1.step W x₁ a₁.same).step W (Ext.of (JU _ _)) ⟨rfl, rfl⟩) (ZIt W T R1 a₁ x₁ r₁ _ sx u' e1) w))
theorem Hi {prog : Program} {w : World} {A : Around} {E : Value → Shared → Prop} {l b : Addr} {vs ws : Array Value} {n n2 : Nat} {Q : Value → Shared → Prop} (ho : s.heap.get? l = some (listObj vs n)) (hb : s.heap.get? b = some (listObj ws n2)) (hz : vs.size + ws.size ≤ sizeLine)
    (h : ∀ h' n', h'.get? l = some (listObj (vs ++ ws) n') → (∀ b o, b ≠ l → s.heap.get? b = some o → h'.get? b = some o) → Q .none { s with heap := h' }) : wpAny (model prog w) A (call (.builtin "list.extend") [.ref l, .ref b]) Q E s := by
  refine call_meets PySem.F.slot_list_extend ⟨_, ho, rfl⟩ PySem.F.entry_list_extend (PySem.F.args_list_extend_2 _ _) (PySem.AutoSeq1.list_extend_list_list_0 l vs n b ws n2 (extend_door hz) (Nat.le_trans (Nat.le_add_right _ _) hz) (Nat.le_succ_of_le hz)) ⟨ho, hb, ?_⟩
  exact h _ _ (by rw [Heap.get?_update_self _ ho (by rw [mapSeq_app]; rfl), mapSeq_app]) fun b o hb e => (Heap.get?_update_other _ _ (Ne.symm hb)).trans e
theorem ZDf (W : WfF f) (T : Thr f) {arg : Expr} {e : TC.E} {apos np pos' : Pos} (hline : (apos.endLine == pos.line) = true) (hv : f.cx.var x = some i) (he : OkF f arg e) : OkS f (.Expr (.Call (.Attribute (.Name x np) "extend" apos) [arg] [] pos) pos') (.ext i e) := fun σ s K Q R w out =>
  Qm R hv w fun xs ol w => ZAj W hline hv he PySem.F.slot_list_extend PySem.F.type_list_extend R ol w fun a vs m v s' u a' x' r w va o1 o2 ho rs => ZR w fun ys e1 w => by
    obtain ⟨b, ws, n2, rfl, hb, r2⟩ := (R.wf W T).ls a'.toAtC r ys e1
    refine Hi ho hb (by rw [rs.size, r2.size]; exact QE w.1 (by rw [sizeLine_eq]; decide)) fun h2 n2 e2 k2 => ?_
    refine out.nxt { s' with heap := h2 } _ ((R.step W x' a'.same).mut W hv (s' := { s' with heap := h2 }) va o1 o2 ho e2 k2 ⟨rfl, rfl⟩ ?_) (Adv.mut R x' o1 k2) w.2
    rw [Array.toList_append]
    exact PRs.append r2 rs
end
end TC

namespace TC
open PySem PySem.W PyProof.Rows

structure Sk (B : Heap) (A : Around) (h : Heap) (envs : List Env) : Prop where
  frames : A.frames = some envs
  funs : h.FunFrames B envs
section
variable {B : Heap} {A : Around} {E : Value → Shared → Prop} {s : Shared} {fr : AP} {outer : List Env} {env : Env} {L e C : Addr} {h₀ : Heap} {fl : Value} {M : Model}
theorem Sk.slots {envs : List Env} {h h' : Heap} (k : Heap.SlotsOnly (envs.filterMap (·.frame)) h h') : Ext (frOf envs) h h' := fun b o q => ⟨fun hb => (k.2.1 b hb).trans q, let ⟨sl, z⟩ := k.2.2 b o q; ⟨sl, z⟩⟩
theorem Sk.notFields {envs : List Env} {h : Heap} (S : Sk B A h envs) {b : Addr} {o : Obj} {vs : Array Value} (q : h.get? b = some o) (d : o.data = .fields vs) : ¬ frOf envs b := fun hb => by
  obtain ⟨_, o', ho, hnf⟩ := S.funs.mem hb
  rw [q] at ho; cases ho; exact hnf vs d
noncomputable def Nt (fr : AP) (h h' : Heap) : Prop := ∀ b o, h.get? b = some o → ((∀ vs, o.data ≠ .fields vs) → (¬ fr b → h'.get? b = some o) ∧ ∃ sl, h'.get? b = some { o with slots := sl }) ∧
  ∀ vs, o.data = .fields vs → ∃ o' vs', h'.get? b = some o' ∧ o'.cls = o.cls ∧ o'.dict = o.dict ∧ o'.data = .fields vs' ∧ vs'[2]? = vs[2]?
theorem Nt.refl (fr : AP) (h : Heap) : Nt fr h h := fun b o e => ⟨fun _ => ⟨fun _ => e, o.slots, e⟩, fun vs d => ⟨o, vs, e, rfl, rfl, d, rfl⟩⟩
theorem Nt.trans {fr : AP} {h₁ h₂ h₃ : Heap} (x : Nt fr h₁ h₂) (y : Nt fr h₂ h₃) : Nt fr h₁ h₃ := fun b o e => by
  refine ⟨fun nf => ?_, fun vs d => ?_⟩
  · obtain ⟨x1, sl, x2⟩ := (x b o e).1 nf
    obtain ⟨y1, sl', y2⟩ := (y b _ x2).1 nf
    exact ⟨fun hb => ((y b o (x1 hb)).1 nf).1 hb, sl', y2⟩
  · obtain ⟨o1, vs1, e1, c1, d1, f1, g1⟩ := (x b o e).2 vs d
    obtain ⟨o2, vs2, e2, c2, d2, f2, g2⟩ := (y b o1 e1).2 vs1 f1
    exact ⟨o2, vs2, e2, c2.trans c1, d2.trans d1, f2, g2.trans g1⟩
theorem Nt.ext {fr : AP} {h h' : Heap} (x : Ext fr h h') : Nt fr h h' := fun b o e => ⟨fun _ => ⟨(x b o e).1, (x b o e).2⟩, fun vs d => let ⟨sl, q⟩ := (x b o e).2; ⟨_, vs, q, rfl, rfl, d, rfl⟩⟩
theorem Nt.field {fr : AP} {h : Heap} {e : Addr} {oe : Obj} {vs : Array Value} {k : Nat} {w : Value} (he : h.get? e = some oe) (hd : oe.data = .fields vs) (hk : k ≠ 2) : Nt fr h (h.update e (Obj.mapFields (·.setIfInBounds k w))) := fun b o q => by
  by_cases z : b = e
  · subst z
    rw [he] at q; cases q
    refine ⟨fun nf => absurd hd (nf vs), fun vs' d => ?_⟩
    rw [hd] at d; cases d
    have hd₃ := Obj.data_mapFields hd (·.setIfInBounds k w)
    refine ⟨_, _, Heap.get?_update_self _ he (Obj.isFreed_of_fields hd₃), Obj.cls_mapFields _ _, ?_, hd₃, by rw [Array.getElem?_setIfInBounds_ne hk]⟩
    unfold Obj.mapFields; split <;> rfl
  · have e1 := (Heap.get?_update_other h (Obj.mapFields (·.setIfInBounds k w)) (Ne.symm z)).trans q
    exact ⟨fun _ => ⟨fun _ => e1, o.slots, e1⟩, fun vs d => ⟨o, vs, e1, rfl, rfl, d, rfl⟩⟩

theorem WR {oe : Obj} {vs : Array Value} {head : Value} {hadNext : Bool} {Q : Unit → Shared → Prop} (S : Sk B A s.heap (env :: outer)) (hfr : frOf (env :: outer) = fr) (hf : env.frame = some L) (x : Ext fr h₀ s.heap) (n : h₀.get? e = none)
    (he : s.heap.get? e = some oe) (hc : oe.cls = .ref C) (hdi : oe.dict = none) (hd : oe.data = .fields vs) (hsz : 1 < vs.size) (h2 : vs[2]? = some .none) (h : ∀ h', Ext fr h₀ h' → Fly h₀ e C (rawInt L) h' → Nt fr s.heap h' → Q () { s with heap := h' }) :
    wpAny M A (do let a ← frameOf env; let pl ← entryPlaceOf L hadNext; let b ← EntryCells.newEntry head a .none (rawInt L) .none pl; setField (.ref e) 1 b) Q E s := by
  refine wpAny_bind (wpAny_frameOf_fun S.frames S.funs hf fun h₁ hs₁ => ?_)
  have X1 : Ext fr s.heap h₁ := hfr ▸ Sk.slots hs₁
  refine wpAny_bind (wpAny_entryPlaceOf fun pl hpl => ?_)
  unfold EntryCells.newEntry newFields
  refine wpAny_bind (wpAny_newObj_type ?_ (hpl.sizeOk5 _ _ _ _ _))
  have he₁ : h₁.get? e = some oe := (X1 e oe he).1 (hfr ▸ S.notFields he hd)
  have he₂ := Heap.get?_push_of_some (h := h₁) { cls := .type "traceback", dict := none, data := .fields ([head, .ref L, .none, rawInt L, .none] ++ (if pl.isEmpty then List.replicate 6 Value.none else pl)).toArray } he₁
  refine wpAny_setField he₂ hd hsz (h _ ?_ ?_ (((Nt.ext X1).trans (Nt.ext (Ext.of (JU _ _)))).trans (Nt.field he₂ hd (by decide))))
  · intro b o q
    have hbe : b ≠ e := fun z => by rw [z, n] at q; cases q
    have go : ∀ o', h₁.get? b = some o' → ((h₁.push { cls := .type "traceback", dict := none, data := .fields ([head, .ref L, .none, rawInt L, .none] ++ (if pl.isEmpty then List.replicate 6 Value.none else pl)).toArray }).update e (Obj.mapFields (·.setIfInBounds 1 (Value.ref h₁.objs.size)))).get? b = some o' := fun o' z => by
      rw [Heap.get?_update_other _ _ (Ne.symm hbe)]
      exact Heap.get?_push_of_some _ z
    obtain ⟨y1, sl, y2⟩ := (x.trans X1) b o q
    exact ⟨fun hb => go _ (y1 hb), sl, go _ y2⟩
  · have hTe : h₁.objs.size ≠ e := Nat.ne_of_gt (Heap.lt_size he₁)
    have hd₃ := Obj.data_mapFields hd (·.setIfInBounds 1 (Value.ref h₁.objs.size))
    have he₃ := Heap.get?_update_self (Obj.mapFields (·.setIfInBounds 1 (Value.ref h₁.objs.size))) he₂ (Obj.isFreed_of_fields hd₃)
    have hT₃ := (Heap.get?_update_other (h₁.push { cls := .type "traceback", dict := none, data := .fields ([head, .ref L, .none, rawInt L, .none] ++ (if pl.isEmpty then List.replicate 6 Value.none else pl)).toArray })
      (Obj.mapFields (·.setIfInBounds 1 (Value.ref h₁.objs.size))) (Ne.symm hTe)).trans (Heap.get?_push_size h₁ rfl)
    refine ⟨_, _, n, he₃, (Obj.cls_mapFields _ _).trans hc, ?_, hd₃, by rw [Array.getElem?_setIfInBounds_ne (by decide)]; exact h2, .at h₁.objs.size _ _ (by simp [hsz]) ((x.trans X1).gone (Jc h₁)) hTe hT₃ rfl (by first | (simp; done) | (rcases hpl with rfl | ⟨_, _, _, _, _, _, _, rfl⟩ <;> simp))⟩
    · unfold Obj.mapFields; split <;> exact hdi

theorem ZIh {Q : Unit → Shared → Prop} (S : Sk B A s.heap (env :: outer)) (hfr : frOf (env :: outer) = fr) (hf : env.frame = some L) (x : Ext fr h₀ s.heap) (F : Fly h₀ e C .none s.heap) (h : ∀ h', Ext fr h₀ h' → Fly h₀ e C (rawInt L) h' → Nt fr s.heap h' → Q () { s with heap := h' }) :
    wpAny M A (noteFrame (.ref e) env) Q E s := by
  obtain ⟨oe, vs, n, he, hc, hdi, hd, h2, F⟩ := F
  have hsz : 1 < vs.size := Nat.lt_of_succ_lt (Array.getElem?_eq_some_iff.mp h2).1
  unfold noteFrame
  simp only [hf]
  rcases F with ⟨_, h1⟩ | ⟨T, oT, ts, h1, hnT, hTe, hT, hdT, h3⟩
  · refine wpAny_bind (wpAny_field he hd h1 ?_)
    rw [if_neg (by decide)]
    exact WR S hfr hf x n he hc hdi hd hsz h2 h
  · refine wpAny_bind (wpAny_field he hd h1 ?_)
    rw [if_pos (show (Value.ref T != Value.none) = true from by simp)]
    refine wpAny_bind (wpAny_field hT hdT h3 ?_)
    rw [if_neg (show ¬ ((Value.none == rawInt L) = true) from by simp [rawInt])]
    refine wpAny_bind (wpAny_setField hT hdT (Array.getElem?_eq_some_iff.mp h3).1 ?_)
    have other : ∀ b, b ≠ T → (s.heap.update T (Obj.mapFields (·.setIfInBounds 3 Value.none))).get? b = s.heap.get? b := fun b hb => Heap.get?_update_other _ _ (Ne.symm hb)
    have X : Ext fr h₀ (s.heap.update T (Obj.mapFields (·.setIfInBounds 3 Value.none))) := fun b o q => by
      have hb : b ≠ T := fun z => by rw [z, hnT] at q; cases q
      rw [other b hb]
      exact x b o q
    have S' : Sk B A (s.heap.update T (Obj.mapFields (·.setIfInBounds 3 Value.none))) (env :: outer) :=
      ⟨S.frames, S.funs.of_keeps fun b o q hnf => ⟨o, (other b fun z => by rw [z, hT] at q; cases q; exact hnf ts hdT).trans q, rfl⟩⟩
    exact WR (s := { s with heap := s.heap.update T (Obj.mapFields (·.setIfInBounds 3 Value.none)) }) S' hfr hf X n ((other e (Ne.symm hTe)).trans he) hc hdi hd hsz h2 fun h' x1 x2 x3 => h h' x1 x2 ((Nt.field hT hdT (by decide)).trans x3)

theorem Gm {Q : Unit → Shared → Prop} (hf : env.frame = some L) (F : Fly h₀ e C (rawInt L) s.heap) (h : Q () s) : wpAny M A (noteFrame (.ref e) env) Q E s := by
  obtain ⟨oe, vs, n, he, hc, hdi, hd, h2, ⟨q, _⟩ | ⟨T, oT, ts, h1, hnT, hTe, hT, hdT, h3⟩⟩ := F
  · cases q
  · exact wpAny_noteFrame_inFlight hf he hd h1 hT hdT h3 h
theorem UD {Q : Unit → Shared → Prop} {fo : Option Addr} (x : Ext fr h₀ s.heap) (F : Fly h₀ e C fl s.heap) (hf : fl = .none → fo = none) (h : ∀ h', Ext fr h₀ h' → Fly h₀ e C (fo.elim .none fun f => rawInt f) h' → Nt fr s.heap h' → Q () { s with heap := h' }) : wpAny M A (setFlight (.ref e) fo) Q E s := by
  obtain ⟨oe, vs, n, he, hc, hdi, hd, h2, F⟩ := F
  rcases F with ⟨z, h1⟩ | ⟨T, oT, ts, h1, hnT, hTe, hT, hdT, h3⟩
  · have := hf z; subst this
    unfold setFlight
    refine wpAny_bind (wpAny_field he hd h1 ?_)
    rw [if_neg (by decide)]
    exact wpAny_pure (h s.heap x ⟨oe, vs, n, he, hc, hdi, hd, h2, .no rfl h1⟩ (Nt.refl _ _))
  · have hsz : 3 < ts.size := (Array.getElem?_eq_some_iff.mp h3).1
    unfold setFlight
    refine wpAny_bind (wpAny_field he hd h1 ?_)
    rw [if_pos (show (Value.ref T != Value.none) = true from by simp)]
    refine wpAny_setField hT hdT hsz (h _ (fun b o q => ?_) ⟨oe, vs, n, (Heap.get?_update_other _ _ hTe).trans he, hc, hdi, hd, h2, .at T _ _ h1 hnT hTe (Heap.get?_update_self _ hT (Obj.isFreed_of_fields (Obj.data_mapFields hdT _))) (Obj.data_mapFields hdT _) (by simp [hsz])⟩ (Nt.field hT hdT (by decide)))
    have hb : b ≠ T := fun z => by rw [z, hnT] at q; cases q
    rw [Heap.get?_update_other _ _ (Ne.symm hb)]
    exact x b o q
theorem Wi {Q : Unit → Shared → Prop} (S : Sk B A s.heap (env :: outer)) (hfr : frOf (env :: outer) = fr) (hf : env.frame = some L) (x : Ext fr h₀ s.heap) (hl : fl = .none ∨ fl = rawInt L) (F : Fly h₀ e C fl s.heap) (h : ∀ h', Ext fr h₀ h' → Fly h₀ e C (rawInt L) h' → Nt fr s.heap h' → Q () { s with heap := h' }) :
    wpAny M A (noteFrame (.ref e) env) Q E s := by
  rcases hl with rfl | rfl
  · exact ZIh S hfr hf x F h
  · exact Gm hf F (h s.heap x F (Nt.refl _ _))
theorem ZGp {Q : Unit → Shared → Prop} (hf : env.frame = some L) (x : Ext fr h₀ s.heap) (F : Fly h₀ e C (rawInt L) s.heap) (h : ∀ h', Ext fr h₀ h' → Fly h₀ e C (rawInt L) h' → Nt fr s.heap h' → Q () { s with heap := h' }) :
    wpAny M A (do
      if (← field (.ref e) 1) == .none then unsupported "frame.own-activation:exception-without-traceback"
      setFlight (.ref e) env.frame) Q E s := by
  have F' := F
  obtain ⟨oe, vs, n, he, hc, hdi, hd, h2, ⟨z, h1⟩ | ⟨T, oT, ts, h1, hnT, hTe, hT, hdT, h3⟩⟩ := F
  · cases z
  · refine wpAny_bind (wpAny_field he hd h1 ?_)
    rw [if_neg (by simp)]
    rw [hf]
    exact UD x F' (fun q => by cases q) h
theorem ZDv {Q : Unit → Shared → Prop} (S : Sk B A s.heap (env :: outer)) (hfr : frOf (env :: outer) = fr) (hf : env.frame = some L) (x : Ext fr h₀ s.heap) (hl : fl = .none ∨ fl = rawInt L) (F : Fly h₀ e C fl s.heap) (h : ∀ h', Ext fr h₀ h' → Fly h₀ e C .none h' → Q () { s with heap := h' }) :
    wpAny M A (leaving env (.ref e)) Q E s := by
  unfold leaving
  exact wpAny_bind (Wi S hfr hf x hl F fun h' x' F' _ => UD (fo := none) (s := { s with heap := h' }) x' F' (fun _ => rfl) fun h'' x'' F'' _ => h h'' x'' F'')

theorem ZEe {h h' : Heap} {args : List Value} (m : Heap.MadeExcOf h h' e (.ref C) args) : Fly h e C .none h' ∧ Ext fr h h' := by
  obtain ⟨k, n, t, h1, h2, h3⟩ := m
  exact ⟨⟨_, _, n, h1, rfl, rfl, rfl, rfl, .no rfl rfl⟩, Ext.of k⟩

end
section
variable {f : Ff} {σ : Sg} {s s' : Shared} {e C : Addr} {fl : Value}
theorem Nt.pr {P fr : AP} {h h' : Heap} (x : Nt fr h h') (sub : ∀ b, fr b → P b) {v : Value} {y : PyData} (r : PR P h v y) : PR P h' v y :=
  PR.rec (motive_1 := fun v x _ => PR P h' v x) (motive_2 := fun vs xs _ => PRs P h' vs xs) .non .bool .int .str
    (fun n e _ r => .list n (((x _ _ e).1 nofun).1 fun q => n (sub _ q)) r) (fun n e _ r => .tuple n (((x _ _ e).1 nofun).1 fun q => n (sub _ q)) r) (fun n e _ _ d r q => .dict n (((x _ _ e).1 nofun).1 fun q => n (sub _ q)) r q d) .nil (fun _ _ a b => .cons a b) r
theorem Nt.prs {P fr : AP} {h h' : Heap} (x : Nt fr h h') (sub : ∀ b, fr b → P b) {vs : List Value} {xs : List PyData} (r : PRs P h vs xs) : PRs P h' vs xs :=
  PRs.of r.length.symm.symm (fun k v y e1 e2 => x.pr sub (r.at k v y e1 e2))
theorem Nt.is {fr : AP} {h h' : Heap} (x : Nt fr h h') {b : Addr} (i : Is h b) : Is h' b := by
  obtain ⟨o, e, n⟩ := i
  by_cases q : ∀ vs, o.data ≠ .fields vs
  · obtain ⟨_, sl, e'⟩ := (x b o e).1 q
    exact ⟨_, e', n⟩
  · obtain ⟨vs, q⟩ := Classical.not_forall.mp q
    obtain ⟨o', vs', e', _, _, d, _⟩ := (x b o e).2 vs (Classical.not_not.mp q)
    exact ⟨o', e', .of d⟩
theorem Nt.nr {fr : AP} {h h' : Heap} (x : Nt fr h h') {b : Addr} (i : NR h b) : NR h' b := by
  obtain ⟨o, e, n⟩ := i
  obtain ⟨_, sl, e'⟩ := (x b o e).1 n
  exact ⟨_, e', n⟩
theorem StR.noted (R : StR f σ s) (W : WfF f) (x0 : Ext f.fr f.h₀ s'.heap) (m : Same s s') (x : Nt f.fr s.heap s'.heap) (hn : f.lam = none) : StR f σ s' := by
  have ns : ∀ {a : Addr} {m : Str → Option Value}, s.heap.Ns a m → s'.heap.Ns a m := fun n => by
    obtain ⟨o, es, ep, ho, hd, r⟩ := n
    obtain ⟨_, sl, e'⟩ := (x _ o ho).1 fun vs q => by rw [hd] at q; cases q
    exact ⟨_, es, ep, e', hd, r⟩
  have cell : ∀ {a : Addr} {v : Option Value}, s.heap.IsCell a v → s'.heap.IsCell a v := fun n => by
    obtain ⟨o, ho, hd⟩ := n
    obtain ⟨_, sl, e'⟩ := (x _ o ho).1 fun vs q => by rw [hd] at q; cases q
    exact ⟨_, e', hd⟩
  obtain ⟨mm, nn⟩ := R.fm.ns
  refine ⟨x0.down (Ext.refl _ _) (fun b q n => ((Qc W).mp q).elim (fun q => W.newp b (.inl q)) fun q => absurd q n), R.same.trans m, ⟨R.fm.kf, ⟨mm, ns nn⟩, fun y a e => let ⟨w, z⟩ := R.fm.cell y a e; ⟨w, cell z⟩, R.fm.look, R.fm.inj⟩, ?_, R.newl, fun b q => ⟨(R.dpl b q).1, x.is (R.dpl b q).2⟩, fun i b q => ⟨(R.ops i b q).1, x.nr (R.ops i b q).2⟩, R.dis, R.len, fun y i hy u hu => ?_, fun c P e => (nomatch hn.symm.trans e)⟩
  · rcases R.hok with q | ⟨q, a, e1, o, vs, q1, q2, q3⟩
    · exact .inl q
    · obtain ⟨o', vs', p1, _, _, p4, p5⟩ := (x a o q1).2 vs q2
      exact .inr ⟨q, a, e1, o', vs', p1, p4, p5.trans q3⟩
  · obtain ⟨v, va, r⟩ := R.slots y i hy u hu
    refine ⟨v, va.imp (fun ⟨q, m, n, hv⟩ => ⟨q, m, ns n, hv⟩) fun ⟨q, b, hb, z⟩ => ⟨q, b, hb, cell z⟩, ?_⟩
    cases u with
    | d y => exact x.pr W.sub r
    | own y =>
      obtain ⟨a, e, h1, h2, r⟩ := r
      have af := R.plfr W (R.ops i a h1).1
      refine ⟨a, e, h1, h2, ?_⟩
      cases y with
      | list xs => obtain ⟨vs, n, e, q⟩ := r; exact ⟨vs, n, ((x a _ e).1 nofun).1 af, x.prs W.sub q⟩
      | dict kvs => obtain ⟨vs, n, e, q1, q2, q3⟩ := r; exact ⟨vs, n, ((x a _ e).1 nofun).1 af, x.prs W.sub q1, x.prs W.sub q2, q3⟩
      | _ => exact r.elim
    | brw y => exact r
    | exc j =>
      obtain ⟨a, o, vs, C, h1, h2, h3, h4, h5, h6⟩ := r
      obtain ⟨o', vs', p1, p2, p3, p4, p5⟩ := (x a o h3).2 vs h6
      exact ⟨a, o', vs', C, h1, h2, p1, p2.trans h4, p3.trans h5, p4⟩
    | oh y l =>
      obtain ⟨t, a, tk, mm, e, ht, nt, oa, ob, vs, n, ho, q⟩ := r
      exact ⟨t, a, tk, mm, e, ((x t _ ht).1 nofun).1 (fun z => nt (W.sub t z)), nt, oa, ob, vs, n, ((x a _ ho).1 nofun).1 (R.plfr W (R.ops i a oa).1), x.prs W.sub q⟩
    | _ => exact r.elim
theorem WfF.nolam (W : WfF f) {k : Nat} {ρ : Rho} (h : f.X k ρ) : f.lam = none := by
  cases e : f.lam with
  | none => rfl
  | some p => exact absurd h ((W.lamx p.1 p.2 e).2 k ρ)
theorem StR.sk (R : StR f σ s) (W : WfF f) : Sk f.G.B f.A s.heap (f.env :: f.envs0) := ⟨W.frames, (R.stk W).1⟩
theorem StR.extF (R : StR f σ s) (W : WfF f) : Ext f.fr f.h₀ s.heap := R.ext.mono fun b q => (Qc W).mpr (.inr q)
theorem loopExc (W : WfF f) (T : Thr f) {k : Nat} (R : StR f σ s) (hC : f.G.ca[k]? = some C) (hl : fl = .none ∨ fl = rawInt f.env.locals) (F : Fly f.h₀ e C fl s.heap) (hx : f.X k σ.ρ) : notedBy (model f.G.prog f.G.w) f.A f.env (fun e s' => cameBackBy (model f.G.prog f.G.w) f.A f.env f.E e s') (.ref e) s := by
  unfold notedBy
  refine Wi (R.sk W) rfl W.frame (R.extF W) hl F fun h1 x1 F1 n1 => ?_
  unfold cameBackBy
  refine ZGp (s := { s with heap := h1 }) W.frame x1 F1 fun h2 x2 F2 n2 => ?_
  exact T e { s with heap := h2 } k C _ σ (R.noted W (s' := { s with heap := h2 }) x2 ⟨rfl, rfl⟩ (n1.trans n2) (W.nolam hx)) hC (.inr rfl) F2 hx
end
end TC

namespace TC
open PySem PySem.W PyProof.Rows

noncomputable def Kp (P : AP) (h : Heap) (v : Value) (u : V) : Prop := ∀ x, kp u = some x → PR P h v x
theorem ZCg {cx : Cx} {env : Env} {es : List Expr} : All (lowVars cx es) fun is => assignEach es env = es.map (fun e => (false, assign e env)) ∧ is.length = es.length := by
  induction es with
  | nil => exact .so ⟨rfl, rfl⟩
  | cons e es ih =>
    refine .bind fun x h1 => .bind fun i _ => .map fun is h2 => ?_
    obtain ⟨p, rfl⟩ := QI e x h1
    exact ⟨congrArg ((false, assign (.Name x p) env) :: ·) (ih is h2).1, congrArg Nat.succ (ih is h2).2⟩
theorem UB {α : Type} (es : List Expr) (g : Expr → α) : (es.map fun e => (false, g e)).findIdx? (·.1) = none := by
  induction es with
  | nil => rfl
  | cons p l ih => rw [List.map_cons, List.findIdx?_cons, ih]; rfl
section
variable {f : Ff} {σ σ' σ₁ : Sg} {s s₁ s' : Shared} {h' : Heap} {v : Value} {u : V} {K : KS} {Q : PySem.Flow → Shared → Prop} {x : Str} {i : Nat} {pos p : Pos}
theorem StR.kp (R : StR f σ s) (W : WfF f) (T : Thr f) (a : At (f.ec σ s) s₁) (r : (f.ec σ s).R s₁ v u) : Kp (f.hid σ) s₁.heap v u := fun x e => (R.wf W T).keep a.toAtC r x e
theorem StR.mv (R : StR f σ s) (W : WfF f) (a : Adv f σ s.heap σ' h') : Mv (f.hid σ) (f.hid σ') s.heap h' := fun b o n e =>
  ⟨a.out b o n e, (a.keep b o (fun z => n (W.sub b z)) (R.vis n) (fun i z => n (.inl (R.ops i b z).1)) e).1⟩
theorem Kp.move {P P' : AP} {h h' : Heap} (r : Kp P h v u) (k : Mv P P' h h') : Kp P' h' v u := fun x e => PR.move k (r x e)
theorem StR.storeD (R : StR f σ s) (W : WfF f) (hv : f.cx.var x = some i) {y : PyData} (r : PR (f.hid σ) s.heap v y) {M : Model} {A : Around} {E : Value → Shared → Prop} {Q : Unit → Shared → Prop}
    (h : ∀ s', StR f (σ.put i (fun _ => False) (.d y)) s' → Adv f σ s.heap (σ.put i (fun _ => False) (.d y)) s'.heap → Q () s') : wpAny M A (storeName f.env x v) Q E s :=
  R.store W hv (P := fun _ => False) (u := .d y) r (fun _ q => q.elim) (fun _ _ _ q => q.elim) fun s' R' k => h s' R' ((Adv.refl f σ s.heap).put k (fun b q => .inl q) fun _ q => q.elim)
theorem ZBz (W : WfF f) {M : Model} {A : Around} {E : Value → Shared → Prop} {Q : Unit → Shared → Prop} {k : Rho → Prop} {es : List Expr} : ∀ {is : List Nat} {us : List V} {vs : List Value} {σ : Sg} {s : Shared}, lowVars f.cx es = some is → StR f σ s → Rs (Kp (f.hid σ) s.heap) vs us → setAll σ.ρ k is us →
    (∀ s' σ', StR f σ' s' → Adv f σ s.heap σ' s'.heap → k σ'.ρ → Q () s') → wpAny M A (assignInOrder (es.map fun e => assign e f.env) vs) Q E s := by
  induction es with
  | nil =>
    intro is us vs σ s e R r w h
    cases e
    cases r with
    | nil => exact wpAny_pure (h s σ R (Adv.refl _ _ _) w)
    | cons => exact w.elim
  | cons e es ih =>
    intro is us vs σ s he R r w h
    suffices key : All (lowVars f.cx (e :: es)) fun is => setAll σ.ρ k is us → wpAny M A (assignInOrder ((e :: es).map fun e => assign e f.env) vs) Q E s from key is he w
    refine .bind fun x h1 => .bind fun i h2 => .map fun is h3 w => ?_
    obtain ⟨p, rfl⟩ := QI e x h1
    cases r with
    | nil => exact w.elim
    | cons a b =>
      refine ZR w fun y e1 w => ?_
      refine wpAny_bind (wpAny_holding (wpAny_bind (wpAny_standAt (wpAny_bindName (R.storeD W h2 (a y e1) fun s' R' a' => ?_)))))
      exact ih h3 R' (b.imp fun v u q => q.move (R.mv W a')) w fun s2 σ2 R2 a2 hk => h s2 σ2 R2 (R.adv W a' a2) hk
theorem VM (W : WfF f) (R : StR f σ s) {es : List Expr} {is : List Nat} (lv : lowVars f.cx es = some is) {t : Addr} {items : Array Value} {m n : Nat} {us : List V} (ho : s.heap.get? t = some (tupObj items m)) (r : Rs (Kp (f.hid σ) s.heap) items.toList us) (hl : us.length = is.length)
    {k : Rho → Prop} (w : setAll σ.ρ k is us) {E : Value → Shared → Prop} {Q : Unit → Shared → Prop} (h : ∀ s' σ', StR f σ' s' → Adv f σ s.heap σ' s'.heap → k σ'.ρ → Q () s') : wpAny (model f.G.prog f.G.w) f.A (assign (.Tuple es n p) f.env (.ref t)) Q E s := by
  obtain ⟨h1, h2⟩ := ZCg (env := f.env) is lv
  rw [arm_assign_Tuple, h1]
  have l3 : (es.map fun e => (false, assign e f.env)).length = items.size := by
    rw [List.length_map, ← h2, ← hl, ← r.length, Array.length_toList]
  refine wpAny_bind (wpAny_standAt (Ud R.hok ho l3 (UB _ _) fun h2 k2 => ?_))
  rw [List.map_map]
  have x2 : Ext f.fr s.heap h2 := Ext.of k2
  have R2 := R.step W (s' := { s with heap := h2 }) x2 ⟨rfl, rfl⟩
  exact ZBz W lv R2 (r.imp fun v u q => q.move fun b o n e => ⟨n, k2 b o e⟩) w fun s' σ' R' a' hk => h s' σ' R' (R.adv W (R.advStep x2) a') hk
theorem ZFn (W : WfF f) (T : Thr f) {ts : List Expr} {n : Nat} {tp : Pos} {val : Expr} {is : List Nat} {e : TC.E} (lv : lowVars f.cx ts = some is) (he : OkF f val e) (hs : swapsWithSole [.Tuple ts n tp] val pos.line f.env = pure false) (hw : swappedStores [.Tuple ts n tp] val f.env = pure none) : OkS f (.Assign [.Tuple ts n tp] val pos) (.unp is e) := fun σ s K Q R w out =>
  wpAny_Assign_stores ((he σ s R).ev s _ _ (R.at W) w fun v s₁ u a₁ x₁ r w₁ => ZR w₁ fun us e1 w => by
    obtain ⟨t, items, m, rfl, ho, nf, rs⟩ := Vf (R.wf W T).toWfC a₁.toAtC r is.length us e1
    show f.wp (assign (.Tuple ts n tp) f.env (.ref t)) _ s₁
    exact VM W (R.step W x₁ a₁.same) lv ho (rs.imp fun v u q => R.kp W T a₁ q) (Qg us e1) w fun s' σ' R' a' hk => out.nxt s' σ' R' (R.adv W (R.advStep x₁) a') hk) hs hw
theorem Ht (W : WfF f) (T : Thr f) (R₁ : StR f σ₁ s₁) (a : Adv f σ₁ s₁.heap σ s.heap) (R : StR f σ s) (r : (f.ec σ₁ s₁).R s₁ v u) {target : Expr} {tgt : Tgt} (lt : lowTgt f.cx (view target) = some tgt) {k : Rho → Prop} (w : bindF tgt u σ.ρ k) {E : Value → Shared → Prop} {Q : Unit → Shared → Prop}
    (h : ∀ s' σ', StR f σ' s' → Adv f σ s.heap σ' s'.heap → k σ'.ρ → Q () s') : wpAny (model f.G.prog f.G.w) f.A (assign target f.env v) Q E s := by
  have ve := Jd target
  revert ve lt
  cases view target with
  | name x p =>
    intro lt ve
    obtain ⟨i, h1, rfl⟩ := Option.map_eq_some_iff.mp lt
    replace ve : Expr.Name x p = target := ve
    subst ve
    refine ZR w fun y e1 w => wpAny_bind (wpAny_standAt (wpAny_bindName (R.storeD W h1 (R₁.kp W T (R₁.at W) r |>.move (R₁.mv W a) y e1) fun s' R' a' => h s' _ R' a' w)))
  | tuple es n p =>
    intro lt ve
    obtain ⟨is, h1, rfl⟩ := Option.map_eq_some_iff.mp lt
    replace ve : Expr.Tuple es n p = target := ve
    subst ve
    refine ZR w fun us e1 w => ?_
    obtain ⟨t, items, m, rfl, ho, nf, rs⟩ := Vf (R₁.wf W T).toWfC (R₁.at W).toAtC r is.length us e1
    have nt : ∀ {b : Addr}, Is s₁.heap b → b ≠ t := fun i z => by
      obtain ⟨o, e, q⟩ := i
      rw [z] at e
      exact absurd ((show s₁.heap.get? t = _ from ho).symm.trans e) (fun e => by cases e; exact q rfl _ _ rfl)
    refine VM W R h1 (a.keep t _ nf (fun q => q.elim (fun q => nt (R₁.fm.is q) rfl) fun ⟨c, q⟩ => nt (R₁.dpl t (R₁.lam c t q).1).2 rfl) (fun i q => nt (R₁.dpl t (R₁.ops i t q).1).2 rfl) ho).1 (rs.imp fun v u q => (R₁.kp W T (R₁.at W) q).move (R₁.mv W a)) (Qg us e1) w h
  | _ => exact fun lt => nomatch lt
noncomputable def Sg.frz (σ : Sg) (i : Nat) : Sg := ⟨fun b => σ.pl b ∧ ¬ σ.op i b, fun j b => j ≠ i ∧ σ.op j b, TC.frz i σ.ρ⟩
theorem StR.frz (R : StR f σ s) (W : WfF f) (i : Nat) : StR f (σ.frz i) s := by
  have sub : ∀ b, f.hid (σ.frz i) b → f.hid σ b := fun b q => q.imp_left And.left
  refine ⟨R.ext, R.same, R.fm, R.hok, fun b q => R.newl b q.1, fun b q => R.dpl b q.1, fun j b q => ⟨⟨(R.ops j b q.2).1, fun z => R.dis j i q.1 b q.2 z⟩, (R.ops j b q.2).2⟩, fun j l ne b q z => R.dis j l ne b q.2 z.2, ?_, fun y j hy w hw => ?_, R.lam.move (fun b l q => ⟨q, fun z => R.lamNR (R.ops i b z).2 l⟩) fun _ _ _ _ _ e => e⟩
  · show (σ.ρ.modify i _).length = _
    rw [List.length_modify]; exact R.len
  · replace hw : (σ.ρ.modify i (·.map frzV))[j]? = some (some w) := hw
    by_cases q : i = j
    · subst q
      rw [List.getElem?_modify_eq] at hw
      obtain ⟨o, e1, e2⟩ := Option.map_eq_some_iff.mp hw
      obtain ⟨u, rfl, rfl⟩ := Option.map_eq_some_iff.mp e2
      obtain ⟨v, va, r⟩ := R.slots y i hy u e1
      refine ⟨v, va, ?_⟩
      cases u with
      | d x => exact PR.anti r sub
      | own x =>
        obtain ⟨a, rfl, h1, h2, r⟩ := r
        exact r.pr (fun z => z.elim (fun z => z.2 h1) fun z => z.elim (R.dpl a (R.ops i a h1).1).1 (W.new0 (R.newl a (R.ops i a h1).1)).1) sub
      | brw x => exact r
      | exc k => exact r
      | oh y l => exact OhS.pr r (fun b h1 z => z.elim (fun z => z.2 h1) fun z => z.elim (R.dpl b (R.ops i b h1).1).1 (W.new0 (R.newl b (R.ops i b h1).1)).1) sub
      | _ => exact r.elim
    · rw [List.getElem?_modify_ne _ _ q] at hw
      obtain ⟨v, va, r⟩ := R.slots y j hy w hw
      refine ⟨v, va, ?_⟩
      have e : (fun b => j ≠ i ∧ σ.op j b) = σ.op j := funext fun b => propext ⟨And.right, fun z => ⟨Ne.symm q, z⟩⟩
      show SlR f (f.hid (σ.frz i)) s.heap (fun b => j ≠ i ∧ σ.op j b) v w
      rw [e]
      exact r.move (fun b o n e => ⟨fun z => n (sub b z), e⟩) (fun a _ o e => e) fun k q => q
end
end TC

namespace TC
open PySem PySem.W PyProof.Rows

section
variable {f : Ff} {σ σ' : Sg} {s s₁ s' : Shared} {h h' : Heap} {v : Value} {u : V} {K : KS} {Q : PySem.Flow → Shared → Prop} {x : Str} {i : Nat} {pos p : Pos} {b : Addr}
noncomputable abbrev Ff.to (f : Ff) (E : Value → Shared → Prop) : Ff := { f with E := E }
theorem StR.to (E : Value → Shared → Prop) (R : StR f σ s) : StR (f.to E) σ s := ⟨R.ext, R.same, R.fm, R.hok, R.newl, R.dpl, R.ops, R.dis, R.len, R.slots, R.lam⟩
theorem StR.fro {E : Value → Shared → Prop} (R : StR (f.to E) σ s) : StR f σ s := ⟨R.ext, R.same, R.fm, R.hok, R.newl, R.dpl, R.ops, R.dis, R.len, R.slots, R.lam⟩
theorem WfF.to (E : Value → Shared → Prop) (W : WfF f) : WfF (f.to E) := ⟨W.ok, W.depth, W.units, W.frames, W.frame, W.funs0, W.base0, W.sub0, W.dom0, W.newp, W.envok, W.cells, W.inj, W.bnd, W.lamx, W.lamc⟩
theorem Adv.fro {E : Value → Shared → Prop} (a : Adv (f.to E) σ h σ' h') : Adv f σ h σ' h' := ⟨a.keep, a.out, a.junk⟩
noncomputable def OkB (f : Ff) (sts : List Stmt) (ts : Ss) : Prop := ∀ f' : Ff, f'.dep = f.dep → f'.cx = f.cx → WfF f' → Thr f' → OkSs f' sts ts
noncomputable abbrev Ff.lE (f : Ff) : Value → Shared → Prop := notedBy (model f.G.prog f.G.w) f.A f.env fun e s' => cameBackBy (model f.G.prog f.G.w) f.A f.env f.E e s'
theorem Thr.loop (T : Thr f) (W : WfF f) : Thr (f.to f.lE) := fun e s' k C fl σ R hC hl F hx => loopExc W T R.fro hC hl F hx

structure Off (f : Ff) (σ : Sg) (b : Addr) : Prop where
  fr : ¬ f.fr b
  pls : ¬ f.mine b
  op : ∀ i, ¬ σ.op i b
theorem StR.off_new (R : StR f σ s) (W : WfF f) (n : s.heap.get? b = none) : Off f σ b := ⟨fun q => (R.dom W b (W.sub b q)).not_none n, fun q => q.elim (fun q => (R.fm.is q).not_none n) fun ⟨c, q⟩ => (R.dpl b (R.lam c b q).1).2.not_none n, fun i q => (R.dpl b (R.ops i b q).1).2.not_none n⟩
theorem StR.off_rec (R : StR f σ s) (W : WfF f) {o : Obj} {vs : Array Value} (e : s.heap.get? b = some o) (d : o.data = .fields vs) (nl : ¬ f.isLam b) : Off f σ b :=
  ⟨(R.sk W).notFields e d, fun q => q.elim (fun q => by obtain ⟨o', e', _, n⟩ := R.fm.data q; rw [e] at e'; cases e'; exact n vs d) nl, fun i q => by obtain ⟨o', e', n⟩ := (R.ops i b q).2; rw [e] at e'; cases e'; exact n vs d⟩
theorem StR.off_vis (R : StR f σ s) (W : WfF f) (n : ¬ f.hid σ b) : Off f σ b := ⟨fun q => n (W.sub b q), R.vis n, fun i q => n (.inl (R.ops i b q).1)⟩
theorem StR.off_old (R : StR f σ s) (W : WfF f) (nf : ¬ f.fr b) {o : Obj} (e : f.h₀.get? b = some o) : Off f σ b := ⟨nf, fun q => q.elim (fun q => JJ e (W.newp b q)) fun ⟨c, q⟩ => JJ e (R.newl b (R.lam c b q).1), fun i q => JJ e (R.newl b (R.ops i b q).1)⟩

inductive Lv (f : Ff) (σ₀ : Sg) (h₁ : Heap) (I : Addr) (fp : List Addr) (St : Nat → Heap → Prop) (us : List V) (w : List V → Rho → Prop) (j : Nat) (s' : Shared) : Prop
  | mk (i : Nat) (σ' : Sg) : i + j = us.length → St i s'.heap → StR f σ' s' → Adv f σ₀ h₁ σ' s'.heap → σ'.pl I → (∀ b ∈ fp, (∃ o, s'.heap.get? b = some o) ∧ ∀ i, ¬ σ'.op i b) → w (us.drop i) σ'.ρ → Lv f σ₀ h₁ I fp St us w j s'
theorem Wb (W : WfF f) (T : Thr f) {t : Expr} {body : List Stmt} {tgt : Tgt} {b : Ss} (ht : lowTgt f.cx (view t) = some tgt) (hb : OkB f body b) (R : StR f σ s) {s₀ : Shared} {v₀ : Value} {us : List V} (kh : Keep s.heap h') (sr : Src (f.ec σ s₀) s v₀ h' us) (hv : ∀ b, v₀ = .ref b → ¬ f.fr b → Off f σ b)
    (w : forW (fun x ρ' k => bindF tgt x ρ' fun ρ'' => wpSs (ΦF f) f.hm b ρ'' k f.X) K us σ.ρ) (out : Out f σ s K Q) :
    codeAny (model f.G.prog f.G.w) f.A (.forLoop t (.ref s.heap.objs.size) body [] f.env) (fun r s' => match r with | .ok fl => Q fl s' | .error e => cameBackBy (model f.G.prog f.G.w) f.A f.env f.E e s') { s with heap := h' } := by
  obtain ⟨It, src, ⟨fp, St, Wk, st0, hfp, hIt⟩, hsrc, hR, hP⟩ := sr
  have nI : s.heap.get? s.heap.objs.size = none := Jc s.heap
  generalize s.heap.objs.size = I at *
  have xI : Ext f.fr s.heap h' := Ext.of kh
  have off : ∀ b ∈ fp, Off f σ b ∧ ∃ o, h'.get? b = some o := fun b hb => by
    rcases (hfp b hb).2 with rfl | q | q
    · obtain ⟨o, _, e, _⟩ := hIt 0 h' st0; exact ⟨R.off_new W nI, o, e⟩
    · obtain ⟨o, vs, e, d⟩ := R.hok.rec b q; exact ⟨R.off_rec W e d (fun ⟨c, l⟩ => nomatch ((W.lamx c b l).1 ▸ q)), o, kh b o e⟩
    · obtain ⟨e0, nf, o, e, _⟩ := hsrc b q; exact ⟨hv b (e0.trans q) nf, o, kh b o e⟩
  have Ifp : I ∈ fp := Wk.sub I (.head _)
  have nI' : ∀ b o, s.heap.get? b = some o → b ≠ I := fun b o e z => JJ (z ▸ e) nI
  have hH : ∀ b ∈ hAddr f.A, ¬ b = I := fun b hb => let ⟨o, _, e, _⟩ := R.hok.rec b hb; nI' b o e
  have cls : ∀ {i h}, St i h → ∀ b, b = I → ∀ o vs C, h.get? b = some o → o.cls = .ref C → o.data ≠ .fields vs := fun st b z o vs C e c => by
    obtain ⟨o', _, e', c', _⟩ := hIt _ _ st
    rw [z, e'] at e; cases e; rw [c'] at c; cases c
  have inv0 : Lv f σ s.heap I fp St us (forW (fun x ρ' k => bindF tgt x ρ' fun ρ'' => wpSs (ΦF f) f.hm b ρ'' k f.X) K) us.length { s with heap := h' } := by
    obtain ⟨oI, _, eI, _, _, ntI⟩ := hIt 0 h' st0
    exact ⟨0, _, Nat.zero_add _, st0, R.grow W (s' := { s with heap := h' }) xI ⟨rfl, rfl⟩ (· = I) fun b q => q ▸ ⟨nI, oI, eI, ntI⟩, R.advGrow xI fun b q => q ▸ nI, .inl rfl, fun b hb => ⟨(off b hb).2, (off b hb).1.op⟩, w⟩
  refine codeAny_forLoop_any (Lv f σ s.heap I fp St us (forW (fun x ρ' k => bindF tgt x ρ' fun ρ'' => wpSs (ΦF f) f.hm b ρ'' k f.X) K)) (fun j s' inv => ?_) us.length inv0
  obtain ⟨i, σ', e1, st, R', a', hI', hf', w'⟩ := inv
  have opI := (hf' I Ifp).2
  have adv : ∀ {h5 : Heap} {pl' : AP}, (∀ b o, b ∉ [I] → s'.heap.get? b = some o → h5.get? b = some o) → (∀ b, pl' b → σ'.pl b) → (∀ b, σ'.pl b → b ≠ I → pl' b) → Adv f σ s.heap { σ' with pl := pl' } h5 := fun k5 s1 s2 =>
    ⟨fun b o q1 q2 q3 e => let ⟨y1, y2⟩ := a'.keep b o q1 q2 q3 e; ⟨k5 b o (fun z => nI' b o e (List.mem_singleton.mp z)) y1, y2⟩, fun b o q e z => a'.out b o q e (z.imp_left (s1 b)), fun b q l z => let ⟨o, e, _⟩ := (R.dpl b q).2; s2 b (a'.junk b q l z) (nI' b o e)⟩
  have lI : ¬ f.isLam I := fun l => (off I Ifp).1.pls (.inr l)
  have rk : ∀ {h5 : Heap}, (∀ b o, b ∉ [I] → s'.heap.get? b = some o → h5.get? b = some o) → RecK f.isLam s'.heap h5 := fun k5 b o vs d q e => k5 b o (fun z => by
    obtain rfl := List.mem_singleton.mp z
    obtain ⟨o', n, e', c', q', _⟩ := hIt _ _ st
    rw [e'] at e; cases e
    rcases q with q | q
    · exact lI q
    · rw [c'] at q; cases q; cases q') e
  by_cases lt : i < us.length
  · refine Wk.item i s' _ _ lt st fun v h5 tk p st5 k5 => ?_
    obtain ⟨oJ, nJ, q1, q2, q3, q4⟩ := hIt (i + 1) h5 st5
    have R5 := R'.junk W (s' := { s' with heap := h5, toks := tk }) (Z := (· = I)) (pl' := σ'.pl) (fun b o n e => k5 b o (fun z => n (List.mem_singleton.mp z)) e) ⟨rfl, rfl⟩ (fun b q => q ▸ ⟨hI', opI⟩) hH (cls st) (fun b q => ⟨q, fun z => z ▸ ⟨oJ, q1, q4⟩⟩) (fun i b q => (R'.ops i b q).1) (R'.lam.move (fun _ _ q => q) (rk k5))
    have a5 := adv k5 (fun b q => q) (fun b q _ => q)
    refine Xo (s := { s' with heap := h5, toks := tk }) q1 q2 q3 ?_
    rw [List.drop_eq_getElem_cons lt] at w'
    have gi := List.getElem?_eq_getElem lt
    have ri : (f.ec σ s).R s v us[i] := by
      have r := hR i v us[i] p gi
      rcases hP us[i] (List.getElem_mem lt) with ⟨y, z⟩ | ⟨y, z⟩ <;> rw [z] at r ⊢ <;> exact r
    refine Ht W T R a5 R5 ri ht w' fun s6 σ6 R6 a6 w6 => ?_
    have hf6 : ∀ b ∈ fp, (∀ o, h5.get? b = some o → s6.heap.get? b = some o) ∧ (∃ o, s6.heap.get? b = some o) ∧ ∀ i, ¬ σ6.op i b := fun b hb => by
      have ⟨o, e⟩ : ∃ o, h5.get? b = some o := by
        by_cases z : b = I
        · exact z ▸ ⟨oJ, q1⟩
        · obtain ⟨o, e⟩ := (hf' b hb).1; exact ⟨o, k5 b o (fun q => z (List.mem_singleton.mp q)) e⟩
      obtain ⟨y1, y2⟩ := a6.keep b o (off b hb).1.fr (off b hb).1.pls (hf' b hb).2 e
      exact ⟨fun o' e' => by rw [e] at e'; cases e'; exact y1, ⟨o, y1⟩, y2⟩
    refine hb (f.to f.lE) rfl rfl (W.to _) (T.loop W) σ6 s6 _ _ (R6.to _) w6 ⟨fun s7 σ7 R7 a7 w7 => ?_, fun s7 v7 u7 σ7 ρ7 R7 r7 w7 => out.ret s7 v7 u7 σ7 ρ7 R7.fro r7 w7⟩
    have hf7 : ∀ b ∈ fp, (∀ o, h5.get? b = some o → s7.heap.get? b = some o) ∧ (∃ o, s7.heap.get? b = some o) ∧ ∀ i, ¬ σ7.op i b := fun b hb => by
      obtain ⟨y0, ⟨o, e⟩, y3⟩ := hf6 b hb
      obtain ⟨y1, y2⟩ := a7.keep b o (off b hb).1.fr (off b hb).1.pls y3 e
      exact ⟨fun o' e' => by have z := y0 o' e'; rw [e] at z; cases z; exact y1, ⟨o, y1⟩, y2⟩
    exact ⟨j - 1, by lia, i + 1, σ7, by lia, Wk.frame (i + 1) h5 _ st5 fun b hb o e => (hf7 b hb).1 o e, R7.fro, R.adv W a5 (R5.adv W a6 a7.fro), a7.junk I (a6.junk I hI' lI opI) lI (hf6 I Ifp).2.2, fun b hb => (hf7 b hb).2, w7⟩
  · obtain rfl : i = us.length := by lia
    refine Wk.done s' _ _ st fun h5 tk k5 => ?_
    rw [List.drop_length] at w'
    exact wpAny_execs_nil (out.nxt { s' with heap := h5, toks := tk } _ (R'.junk W (s' := { s' with heap := h5, toks := tk }) (Z := (· = I)) (pl' := fun b => σ'.pl b ∧ b ≠ I) (fun b o n e => k5 b o (fun z => n (List.mem_singleton.mp z)) e) ⟨rfl, rfl⟩ (fun b q => q ▸ ⟨hI', opI⟩) hH (cls st) (fun b q => ⟨q.1, fun z => absurd z q.2⟩) (fun i b q => ⟨(R'.ops i b q).1, fun z => opI i (z ▸ q)⟩) (R'.lam.move (fun b l q => ⟨q, fun z => lI (z ▸ l)⟩) (rk k5))) (adv k5 (fun b q => q.1) fun b q z => ⟨q, z⟩) w')
end
end TC

namespace TC
open PySem PySem.W PyProof.Rows

theorem PR.vis {P : AP} {h : Heap} {z : Addr} {x : PyData} (r : PR P h (.ref z) x) : ¬ P z ∧ ∃ o, h.get? z = some o := by
  cases r with
  | list n e _ => exact ⟨n, _, e⟩
  | tuple n e _ => exact ⟨n, _, e⟩
  | dict n e _ _ _ => exact ⟨n, _, e⟩
section
variable {f : Ff} {σ σ' : Sg} {s s₁ s' : Shared} {h h' : Heap} {v : Value} {u : V} {K : KS} {Q : PySem.Flow → Shared → Prop} {x : Str} {i j : Nat} {pos p : Pos} {t iter : Expr} {body : List Stmt} {tgt : Tgt} {src : TC.E} {b : Ss}
theorem Hu {hm : Bool} : All (itemsL hm u) fun us => itemsV hm u = some us ∧ ∀ y, u ≠ .brw y := by
  cases u with
  | brw y => exact .no
  | _ => exact fun us e => ⟨e, fun y q => nomatch q⟩
theorem ZAa (W : WfF f) (T : Thr f) (ht : lowTgt f.cx (view t) = some tgt) (hs : OkF f iter src) (hf : ∀ x, foldedSetIterable iter f.env x = pure x) (hb : OkB f body b) : OkS f (.For t iter body [] pos) (.loop tgt src b) := fun σ s K Q R w out =>
  wpAny_For ((hs σ s R).ev s _ _ (R.at W) w fun v s₁ u a₁ x₁ r w₁ => ZR w₁ fun us e w => by
    have R₁ := R.step W x₁ a₁.same
    obtain ⟨e', nb⟩ := Hu us e
    refine Va (R.wf W T).toWfC a₁ r us e' _ fun h' kh sr => Wb W T ht hb R₁ kh sr (fun z hz nf => ?_) w.2 (out.from R W (R.advStep x₁))
    subst hz
    cases u with
    | d y => exact R₁.off_vis W (PR.vis r).1
    | own y => obtain ⟨a, e, n, _⟩ := r; cases e; exact R.off_new W n
    | brw y => exact absurd rfl (nb y)
    | rg n => obtain ⟨r, t1, t2, t3, e, nr, l, ir⟩ := r; cases e; exact R₁.off_rec W ir rfl fun ⟨c, l⟩ => by obtain ⟨_, _, ⟨_, h⟩, _⟩ := (R₁.lam c _ l).2; rw [ir] at h; cases h
    | _ => exact nomatch e') hf
theorem Hm : Adv f σ h (σ.frz i) h := ⟨fun b o q1 q2 q3 e => ⟨e, fun j z => q3 j z.2⟩, fun b o q e z => q (z.imp_left And.left), fun b q _ z => ⟨q, z i⟩⟩
theorem VW (W : WfF f) {st : Stmt} {t : TC.S} (h : OkS f st t) (l : List Nat) : OkS f st (fzs l t) := by
  induction l with
  | nil => exact h
  | cons i l ih => exact fun σ s K Q R w out => ih (σ.frz i) s K Q (R.frz W i) w (out.from R W Hm)
theorem Ga (W : WfF f) (T : Thr f) (ht : lowTgt f.cx (view t) = some tgt) (hv : f.cx.var x = some i) (hb : OkB f body b) : OkS f (.For t (.Name x p) body [] pos) (.loopn tgt i b) := fun σ s K Q R w out => by
  have R0 := R.frz W i
  refine ZR w fun su e1 w => ZR w fun u e2 w => ZR w fun us e3 w => ?_
  obtain ⟨h1, h2, h3⟩ := Jo hv
  obtain ⟨v, va, r⟩ := R0.slots x i h2 u (e2 ▸ e1)
  have key : (f.ec (σ.frz i) s).R s v u ∧ ∀ z, v = .ref z → ¬ f.fr z → Off f (σ.frz i) z := by
    cases u with
    | d y => exact ⟨r, fun z e _ => R0.off_vis W (PR.vis (e ▸ r)).1⟩
    | own y => obtain ⟨a, _, q, _⟩ := r; exact absurd rfl q.1
    | brw y =>
      refine ⟨PR.move (fun b o n e => ⟨fun q => ?_, (R.ext b o e).1 n⟩) r, fun z e nf => ?_⟩
      · exact ((Qc W).mp q).elim (fun q => JJ e (W.newp b (.inl q))) n
      · obtain ⟨_, o, e'⟩ := PR.vis (e ▸ r); exact R0.off_old W nf e'
    | exc k => exact nomatch e3
    | oh y l => exact nomatch e3
    | _ => exact r.elim
  exact wpAny_For (QC (c := f.ec (σ.frz i) s) W.envok h1 va (Va (R0.wf W T).toWfC (R0.at W) key.1 us e3 _ fun h' kh sr => Wb W T ht hb R0 kh sr key.2 w.2 (out.from R W Hm)))
inductive Wv (f : Ff) (σ₀ : Sg) (h₁ : Heap) (w : Nat → Rho → Prop) (n : Nat) (s' : Shared) : Prop
  | mk (σ' : Sg) : StR f σ' s' → Adv f σ₀ h₁ σ' s'.heap → w n σ'.ρ → Wv f σ₀ h₁ w n s'
theorem ZFp (W : WfF f) (T : Thr f) {c : Expr} {c' : TC.E} (hc : ∀ f' : Ff, f'.dep = f.dep → f'.cx = f.cx → WfF f' → Thr f' → OkF f' c c') (hb : OkB f body b) : OkS f (.While c body [] pos) (.whl c' b) := fun σ s K Q R w out => by
  obtain ⟨n, w⟩ := w
  refine wpAny_While (codeAny_whileLoop (Wv f σ s.heap (whlW (fun ρ' => wpE (ΦF f) f.hm (f.X · ρ') c' ρ') (fun ρ' k => wpSs (ΦF f) f.hm b ρ' k f.X) K)) (fun n s' inv => ?_) n ⟨σ, R, Adv.refl _ _ _, w⟩)
  obtain ⟨σ', R', a', w'⟩ := inv
  cases n with
  | zero => exact w'.elim
  | succ n =>
    refine ((hc (f.to f.lE) rfl rfl (W.to _) (T.loop W)) σ' s' (R'.to _)).ts s' _ _ ((R'.to _).at (W.to _)) w' (fun u => Qs) fun b s₁ a₁ x₁ w₁ => ?_
    have R₁ := R'.step W x₁ a₁.same
    cases b with
    | true => exact hb (f.to f.lE) rfl rfl (W.to _) (T.loop W) σ' s₁ _ _ (R₁.to _) w₁ ⟨fun s7 σ7 R7 a7 w7 => ⟨n, Nat.lt_succ_self n, σ7, R7.fro, R.adv W a' (R'.adv W (R'.advStep x₁) a7.fro), w7⟩, fun s7 v7 u7 σ7 ρ7 R7 r7 w7 => out.ret s7 v7 u7 σ7 ρ7 R7.fro r7 w7⟩
    | false => exact wpAny_execs_nil (out.nxt s₁ σ' R₁ (R.adv W a' (R'.advStep x₁)) w₁)
theorem GO {α : Type} (l : List α) : l.eraseIdx (l.length - 1) = l.take (l.length - 1) := by rw [List.eraseIdx_eq_take_drop_succ, List.drop_of_length_le (by lia), List.append_nil]
theorem ZKj {prog : Program} {w : World} {A : Around} {E : Value → Shared → Prop} {l : Addr} {vs : Array Value} {n : Nat} {y : Value} {Q : Value → Shared → Prop} (ho : s.heap.get? l = some (listObj vs n)) (hy : vs[vs.size - 1]? = some y) (hz : vs.size ≤ sizeLine)
    (h : ∀ h' n', h'.get? l = some (listObj (vs.eraseIdxIfInBounds (vs.size - 1)) n') → (∀ b o, b ≠ l → s.heap.get? b = some o → h'.get? b = some o) → Q y { s with heap := h' }) : wpAny (model prog w) A (call (.builtin "list.pop") [.ref l]) Q E s := by
  refine call_meets PySem.F.slot_list_pop ⟨_, ho, rfl⟩ PySem.F.entry_list_pop (PySem.F.args_list_pop_1 _) (MeetsSeq.list_pop_last l vs n y hy hz) ⟨ho, ?_⟩
  obtain ⟨n', hd'⟩ := Obj.data_mapSeq (o := listObj vs n) rfl (fun xs => xs.eraseIdxIfInBounds (vs.size - 1))
  have e := Heap.get?_update_self (Obj.mapSeq (fun xs => xs.eraseIdxIfInBounds (vs.size - 1))) ho (Obj.isFreed_of_seq hd')
  have eo : Obj.mapSeq (fun xs => xs.eraseIdxIfInBounds (vs.size - 1)) (listObj vs n) = listObj (vs.eraseIdxIfInBounds (vs.size - 1)) n' := by
    unfold Obj.mapSeq at hd' ⊢
    simp only at hd' ⊢
    injection hd' with _ q
    rw [← q]
  rw [eo] at e
  exact h _ n' e fun b o hb e => (Heap.get?_update_other _ _ (Ne.symm hb)).trans e
theorem ZEs (W : WfF f) {y : Str} {np apos cp : Pos} (hline : (apos.endLine == cp.line) = true) (hj : f.cx.var y = some j) (hv : f.cx.var x = some i) : OkS f (.Assign [.Name x p] (.Call (.Attribute (.Name y np) "pop" apos) [] [] cp) pos) (.pop i j) := fun σ s K Q R w out =>
  Qm R hj w fun xs ol w => ZR w fun z e1 w => by
    obtain ⟨a, vs, m, va, o1, o2, ho, r⟩ := ol s R
    refine wpAny_Assign_Name ?_ rfl
    have hl : s.heap.IsList a vs := ⟨_, ho, rfl, m, rfl⟩
    refine Call_method0 rfl hline (QC (c := f.ec σ s) W.envok (Jo hj).1 va ⟨"list", _, PySem.F.plainAttrs_list, PySem.F.slot_list_pop, PySem.F.type_list_pop, hl.typeIs, fun b e => ?_, ?_⟩)
    · cases e; exact ⟨_, ho, rfl⟩
    have ln := r.length
    rw [Array.length_toList] at ln
    rw [List.getLast?_eq_getElem?, ← ln] at e1
    obtain ⟨y, e2, q⟩ := r.get e1
    rw [Array.getElem?_toList] at e2
    refine Calls.callWith_builtin rfl (PySem.evalArgs_none (ZKj ho e2 (ln ▸ QE w.1 (by rw [sizeLine_eq]; decide)) fun h2 n2 e3 k2 => ?_))
    have R2 := R.mut W hj (s' := { s with heap := h2 }) (ys := xs.dropLast) va o1 o2 ho e3 k2 ⟨rfl, rfl⟩ (by
      rw [Array.toList_eraseIdxIfInBounds, ← Array.length_toList, GO, r.length, List.dropLast_eq_take]; exact r.take _)
    refine R2.storeD W hv (q.move fun b o n e => ⟨n, k2 b o (fun z => n (.inl (z ▸ (R.ops j a o1).1))) e⟩) fun s' R' a' => out.nxt s' _ R' (R.adv W (Adv.mut R (Ext.refl _ _) o1 k2) a') w.2
end
end TC

namespace TC
open PySem PySem.W PyProof.Rows

section
variable {f : Ff} {σ σ' : Sg} {s s₁ s' : Shared} {h h' : Heap} {v : Value} {u : V} {K : KS} {Q : PySem.Flow → Shared → Prop} {x : Str} {i j : Nat} {pos p : Pos} {body : List Stmt} {b : Ss} {G : Gl} {hm : Bool} {A : Around} {X : XS} {E : Value → Shared → Prop}
theorem ZGr (O : G.Ok) {k : Nat} {C : Addr} (hC : G.ca[k]? = some C) (b : G.B.StaysIn h) : ∃ bm N nm q bs hdct sn sub ab col dd k0 k1 k2 k3 k5 mN, h.get? C = some (excClassObj nm q C N bs bm hdct sn sub ab col dd k0 k1 k2 k3 k5 "ValueError.__new__") ∧ h.Ns N mN ∧ mN "__init__" = none ∧ OwnTail h bmV bm :=
  let ⟨_, o⟩ := O.cown k C hC
  (o.keeps b).obj
theorem ZBj (W : WfF f) (T : Thr f) {c msg : Str} {k : Nat} {p1 p2 p3 : Pos} {kd : Nat} (hg : f.cx.glob c = true) (hc : f.cx.cls.lookup c = some k) : OkS f (.Raise (some (.Call (.Name c p1) [.Constant (.str msg) kd p2] [] p3)) none pos) (.rais k) := fun σ s K Q R w out => by
  have O := W.ok
  have hh : f.A.handled = none := (w.1 ▸ R.hok : HOk false f.A s.heap).none
  obtain ⟨C, hC, hns⟩ := O.cnm c k (by rw [← W.envok.cls]; exact hc)
  obtain ⟨bm, N, nm, q, bs, hdct, sn, sub, ab, col, dd, k0, k1, k2, k3, k5, mN, hCo, hN, hni, TL⟩ := ZGr O hC (R.stk W).2
  refine wpAny_Raise_call_subT PySem.F.excBase_ValueError (C := C) (nm := nm) (q := q) (N := N) (bs := bs) (bm := bm) (hdct := hdct) (sn := sn) (sub := sub) (ab := ab) (col := col) (dd := dd) (k0 := k0) (k1 := k1) (k2 := k2) (k3 := k3) (k5 := k5) (mN := mN) (TL.hasType PySem.F.excBase_ValueError.hasBase) hh rfl hni (Xh (R.wf W T) (R.at W).toAtC hg hns ⟨rfl, ?_⟩)
  refine Calls.evalArgs_plain (args_cons (Calls.Constant_str (args_nil ⟨rfl, ?_, hCo, hN, TL, fun h' e m => ?_⟩)))
  · show 1 ≤ sizeLine; rw [sizeLine_eq]; decide
  · obtain ⟨fl, xt⟩ := ZEe (fr := f.fr) m
    exact T e { s with heap := h', toks := _ } k C .none σ (R.step W (s' := { s with heap := h', toks := _ }) xt ⟨rfl, rfl⟩) hC (.inl rfl) (fl.back (R.extF W)) w.2
end
end TC

namespace TC
open PySem PySem.W PyProof.Rows

section
variable {P : AP} {h : Heap} {a : Addr} {es : Array DictEntry} {kvs : List (PyData × PyData)} {prog : Program} {w : World}
theorem DictOk.shape {g : List PyData} (d : DictOk a es kvs) (e : kvs.map (·.1) = g) : kvs = g.map fun k => (k, PyData.bool true) := by
  subst e
  rw [List.map_map]
  exact (List.map_id' kvs).symm.trans (List.map_congr_left fun p hp => by rw [Function.comp, ← d.vals p hp])
theorem HC {ks : List Int} {k : Int} : (stored (ks.map fun k => (k, Value.bool true)) k (.bool true)).map (·.1) = cond (ks.contains k) ks (ks ++ [k]) := by
  have e : ((ks.map fun k => (k, Value.bool true)).any fun kv => kv.1 = k) = ks.contains k := by
    rw [List.any_map, List.contains_eq_any_beq]
    refine congrArg ks.any (funext fun x => ?_)
    show decide (x = k) = (k == x)
    by_cases q : x = k
    · rw [decide_eq_true q, q, beq_self_eq_true]
    · rw [decide_eq_false q, beq_false_of_ne (Ne.symm q)]
  have id1 : (ks.map fun k => (k, Value.bool true)).map (·.1) = ks := by rw [List.map_map]; exact List.map_id ks
  unfold stored
  rw [e]
  cases ks.contains k with
  | true =>
    rw [if_pos rfl, List.map_map]
    refine (List.map_congr_left fun p _ => ?_).trans id1
    show (if p.1 = k then (p.1, Value.bool true) else p).1 = p.1
    split <;> rfl
  | false => rw [if_neg (by decide), List.map_append, id1]; rfl
theorem HB {ks : List Int} {k : Int} : ∀ p ∈ stored (ks.map fun k => (k, Value.bool true)) k (.bool true), p.2 = Value.bool true := fun p hp => by
  unfold stored at hp
  have old : ∀ q ∈ ks.map fun k => (k, Value.bool true), q.2 = Value.bool true := fun q hq => by obtain ⟨x, _, rfl⟩ := List.mem_map.mp hq; rfl
  split at hp
  · obtain ⟨q, hq, rfl⟩ := List.mem_map.mp hp
    split
    · rfl
    · exact old q hq
  · rcases List.mem_append.mp hp with hp | hp
    · exact old p hp
    · rw [List.mem_singleton.mp hp]
end
section
variable {f : Ff} {σ : Sg} {s s₁ s' : Shared} {v : Value} {u : V} {x : Str} {i : Nat} {pos p : Pos}
theorem StR.mutO (R : StR f σ s) (W : WfF f) (hv : f.cx.var x = some i) {a : Addr} {y : PyData} (va : varAt f.env s.heap x (.ref a)) (h1 : σ.op i a) (h2 : ∀ b, σ.op i b → b = a) (k : ∀ b o, b ≠ a → s.heap.get? b = some o → s'.heap.get? b = some o) (sm : Same s s') (r : OwnAt (f.hid σ) s'.heap a y) : StR f (σ.put i (σ.op i) (.own y)) s' := by
  have hpl := (R.ops i a h1).1
  have ap : ∀ b, f.pls b → b ≠ a := fun b q z => (R.dpl a hpl).1 (z ▸ q)
  have vk : ∀ y w, varAt f.env s.heap y w → varAt f.env s'.heap y w := fun y w va => va.imp (fun ⟨q, mm, nn, hv⟩ => ⟨q, mm, nn.at' fun o e => k _ o (ap _ (.inl rfl)) e, hv⟩) fun ⟨q, b, hb, o, q1, q2⟩ => ⟨q, b, hb, o, k b o (ap b (.inr ⟨y, W.cells y b hb⟩)) q1, q2⟩
  exact R.put W (Jo hv).2.1 (Z := (· = a)) k sm (fun b q => q ▸ ⟨.inl hpl, R.newl a hpl, (R.ops i a h1).2⟩) (R.fm.on fun b o q e => k b o (ap b q) e) (fun b _ q => q ▸ ⟨r.is, r.nr⟩) (fun b q => ⟨(R.ops i b q).1, h2 b q ▸ r.nr⟩) (fun j ne b q => R.dis i j (Ne.symm ne) b q) (fun j ne b q z => R.dis j i ne b q (z ▸ h1)) (vk x _ va) (fun y w _ => vk y w) ⟨a, rfl, h1, h2, r⟩
theorem ZHs (W : WfF f) {d : Addr} {kvs : List (PyData × PyData)} {y : PyData} {Q : Unit → Shared → Prop} (hd : f.hid σ d) (ro : OwnAt (f.hid σ) s.heap d (.dict kvs)) (rk : PR (f.hid σ) s.heap v y) (hz : kvs.length < lim) : All (addKey y kvs) fun kvs' => (∀ h' tk, OwnAt (f.hid σ) h' d (.dict kvs') → (∀ b o, b ≠ d → s.heap.get? b = some o → h'.get? b = some o) → Q () { s with heap := h', toks := tk }) → f.wp (setItem (.ref d) v (.bool true)) Q s := by
  obtain ⟨es, n, ho, r1, r2, ok⟩ := ro
  refine .map fun b e k => ?_
  have lz : ∀ {m : Nat}, m = kvs.length → m ≤ sizeLine := fun q => q ▸ QE hz (by rw [sizeLine_eq]; decide)
  cases y with
  | int j =>
    obtain ⟨ks, e1, rfl⟩ := Option.map_eq_some_iff.mp e
    obtain ⟨t, rfl⟩ := rk.inv
    have hk := ok.shape (ok.ints e1).1
    refine wpAny_setItem_pairs (intKind_is f.G.prog f.G.w j t) (ZCb ho r1 r2 ok e1) (fun h' hm sb => ?_) (lz (by rw [hk, List.length_map, List.length_map, ofInts, List.length_map]))
    have := ZBe (P := f.hid σ) hm HB ok.off
    rw [HC] at this
    refine k h' _ ?_ fun b o n e => (sb.2 b n).trans e
    revert this
    cases ks.contains j with
    | true => intro this; rw [hk, ofInts, List.map_map]; exact this
    | false => intro this; rw [hk, ofInts, List.map_map]; rw [show (cond false ks (ks ++ [j])) = ks ++ [j] from rfl, List.map_append] at this; exact this
  | _ => exact nomatch e
theorem ZDq (W : WfF f) (T : Thr f) {kx : Expr} {k' : TC.E} {np sp cp : Pos} {ci : Nat} (hv : f.cx.var x = some i) (hk : OkF f kx k') : OkS f (.Assign [.Subscript (.Name x np) kx sp] (.Constant (.bool true) ci cp) pos) (.key i k') := fun σ s K Q R w out => by
  refine ZR w fun su e1 w => ZR w fun u e2 w => ?_
  cases u with
  | own y =>
    cases y with
    | dict kvs =>
      have ol : ∀ {s'}, StR f σ s' → ∃ d, varAt f.env s'.heap x (.ref d) ∧ σ.op i d ∧ (∀ b, σ.op i b → b = d) ∧ OwnAt (f.hid σ) s'.heap d (.dict kvs) := fun R' => by
        obtain ⟨v, va, d, rfl, h1, h2, r⟩ := R'.slots x i (Jo hv).2.1 _ (e2 ▸ e1)
        exact ⟨d, va, h1, h2, r⟩
      refine wpAny_Assign_Subscript (wpAny_Constant_bool ?_) rfl
      obtain ⟨d, va, _⟩ := ol R
      refine QC (c := f.ec σ s) W.envok (Jo hv).1 va ((hk σ s R).ev s _ _ (R.at W) w fun vk s₂ uk a₂ x₂ rk w₂ => ZR w₂ fun y e3 w => ZR w fun kvs' e4 w => ?_)
      have R₂ := R.step W x₂ a₂.same
      obtain ⟨d', vb, p1, p2, ro⟩ := ol R₂
      cases vb.uniq (va.ext x₂)
      refine ZHs W (.inl (R.ops i _ p1).1) ro ((R.wf W T).keep a₂.toAtC rk y e3) w.1 kvs' e4 fun h3 tk ro3 k3 => ?_
      exact out.nxt { s₂ with heap := h3, toks := tk } _ (R₂.mutO W hv (s' := { s₂ with heap := h3, toks := tk }) vb p1 p2 k3 ⟨rfl, rfl⟩ ro3) (Adv.mut R x₂ p1 k3) w.2
    | _ => exact w.elim
  | _ => exact w.elim
end
end TC

namespace TC
open PySem PySem.W PyProof.Rows

section
variable {s : Shared} {v : Value}
theorem ZIa (e : Expr) : All (natC e) fun k => ∃ i p, e = .Constant (.int k) i p := .bind fun z hz => .ite fun h0 => .so (by
  obtain ⟨i, p, rfl⟩ := Qz e z hz
  exact ⟨i, p, by rw [Int.toNat_of_nonneg (of_decide_eq_true h0)]⟩)
end
section
variable {f : Ff} {σ : Sg} {s s₁ s' : Shared} {v : Value} {u : V} {K : KS} {Q : PySem.Flow → Shared → Prop} {x y : Str} {i j : Nat} {pos p : Pos}
theorem ZFk (W : WfF f) (T : Thr f) {ci : Nat} {cp sp apos np pos' : Pos} {arg : Expr} {e : TC.E} (hline : (apos.endLine == pos.line) = true) (hv : f.cx.var x = some i) (he : OkF f arg e) : OkS f (.Expr (.Call (.Attribute (.Subscript (.Name x np) (.Constant (.int 1) ci cp) sp) "append" apos) [arg] [] pos) pos') (.tix i e) := fun σ s K Q R w out => by
    refine ZR w fun su e1 w1 => ZR w1 fun u e2 w2 => ZR w2 fun q e3 w => ?_
    have eu : u = .oh q.1 q.2 := by
      cases u with
      | oh y l => cases e3; rfl
      | _ => exact nomatch e3
    subst eu
    have ol : ∀ {s'}, StR f σ s' → ∃ v, varAt f.env s'.heap x v ∧ OhS (f.hid σ) s'.heap (σ.op i) v q.1 q.2 := fun R' => R'.slots x i (Jo hv).2.1 (.oh q.1 q.2) (e2 ▸ e1)
    obtain ⟨_, va, t, a, tk, m, rfl, ht, nt, oa, ob, vs, n, ho, r⟩ := ol R
    have hl : s.heap.IsList a vs := ⟨_, ho, rfl, n, rfl⟩
    refine wpAny_Expr_any ?_ (Xw W) rfl
    refine Call_method1 rfl ((he σ s R).pl _ _) hline (Subscript_ (QC (c := f.ec σ s) W.envok (Jo hv).1 va (wpAny_Constant_int ?_)))
    generalize hs1 : ({ s with toks := _ } : Shared) = s1
    have R1 : StR f σ s1 := hs1 ▸ R.step W (Ext.refl _ _) ⟨rfl, rfl⟩
    have eh : s1.heap = s.heap := by rw [← hs1]
    rw [← eh] at ht ho hl va
    have htp : IsTup s1.heap t #[.str q.1 tk, .ref a] := ⟨_, ht, rfl, m, rfl⟩
    refine tail_any htp.typeIs slot_tuple_getitem.lookup (PyProof.Rows.getItem_tuple htp (show -(2 ^ 63 : Int) ≤ 1 by decide) (show (1 : Int) < 2 ^ 63 by decide) rfl rfl ⟨"list", "list.append", PySem.F.plainAttrs_list, PySem.slot_list_append, PySem.F.type_list_append, hl.typeIs, fun b e => ?_, ?_⟩) rfl
    · cases e; exact ⟨_, ho, rfl⟩
    refine Calls.callWith_builtin rfl (Calls.evalArgs_plain (Calls.spliced_cons ((he σ s1 R1).ev s1 _ _ (R1.at W) w fun v s' u a' x' r' w => Calls.spliced_nil ?_)))
    refine ZR w fun y e5 w => ?_
    have R' := R1.step W x' a'.same
    have apl := (R.ops i a oa).1
    have ht' := (x' t _ ht).1 fun z => nt (W.sub t z)
    obtain ⟨v2, va', t2, a2, tk2, m2, rfl, ht2, _, oa2, _, vs', n', ho', rb⟩ := ol R'
    cases va'.uniq (va.ext x')
    obtain rfl := ob a2 oa2
    refine Xj ho' (by rw [rb.size]; exact QE w.1 (by rw [sizeLine_eq]; decide)) fun h2 n2 e6 k2 => ?_
    have ta : t ≠ a2 := fun z => Qx (⟨_, ho', .list _ _⟩ : Is s'.heap a2) (z ▸ ht')
    have ap : ∀ b', f.pls b' → b' ≠ a2 := fun b' q z => (R.dpl a2 apl).1 (z ▸ q)
    have vk : ∀ y w, varAt f.env s'.heap y w → varAt f.env h2 y w := fun y w va => va.imp (fun ⟨q, mm, nn, hv⟩ => ⟨q, mm, nn.at' fun o e => k2 _ o (ap _ (.inl rfl)) e, hv⟩) fun ⟨q, b, hb, o, q1, q2⟩ => ⟨q, b, hb, o, k2 b o (ap b (.inr ⟨y, W.cells y b hb⟩)) q1, q2⟩
    have mv : Mv (f.hid σ) (f.hid σ) s'.heap h2 := fun b o n e => ⟨n, k2 b o (fun z => n (.inl (z ▸ apl))) e⟩
    have x0 : Ext f.fr s.heap s'.heap := eh ▸ x'
    refine out.nxt { s' with heap := h2 } _ (R'.put W (Jo hv).2.1 (s' := { s' with heap := h2 }) (Z := (· = a2)) (P := σ.op i) k2 ⟨rfl, rfl⟩ (fun b' q => q ▸ ⟨.inl apl, R.newl a2 apl, _, ho', nofun⟩) (R'.fm.on fun b' o q e => k2 b' o (ap b' q) e) (fun b' _ q => q ▸ ⟨⟨_, e6, .list _ _⟩, _, e6, nofun⟩)
      (fun b' q => ⟨(R.ops i b' q).1, ob b' q ▸ ⟨_, e6, nofun⟩⟩) (fun l nl b' q z => R.dis i l (Ne.symm nl) b' q z) (fun l nl b' q z => R.dis l i nl b' q (z ▸ oa)) (vk x _ va') (fun y w _ => vk y w) (u := .oh q.1 (q.2 ++ [y])) ⟨t, a2, tk, m, rfl, k2 t _ ta ht', nt, oa, ob, _, n2, e6, ?_⟩)
      (Adv.mut R x0 oa k2) w.2
    rw [Array.toList_push]
    exact PRs.append (.cons (((R1.wf W T).keep a'.toAtC r' y e5).move mv) .nil) (rb.move mv)
end
end TC

set_option maxRecDepth 100000
set_option maxHeartbeats 4000000
namespace TC
open PySem PySem.W PyProof.Rows

section
variable {prog : Program} {w : World} {A : Around} {E : Value → Shared → Prop} {s : Shared}
theorem GT {R : Result → Shared → Prop} {S r : Addr} {a b c : Int} {t u v : Tok} {n : Nat} (hh : A.handled = none) (hr : IsRange s.heap r a b c t u v) (hsmall : Builtin.Range.small a b c = true) (hn : Builtin.Range.rangeSize a b c = n) (hlen : n ≤ 2 ^ 24) (hS : s.heap.get? S = some { cls := .type "list", data := .seq #[] })
    (hR : ∀ h' tk (acc : Array Value) c', (∀ b o, b ≠ S → s.heap.get? b = some o → h'.get? b = some o) → h'.get? S = some { cls := .type "list", data := .seq acc c' } → ItemsOf (fun i v => ∃ t, v = .int (a + i * c) t) acc n → R (.ok (.ret (.ref S))) { s with heap := h', toks := tk }) :
    codeAny (model prog w) A (.builtin "list.__iadd__" ⟨[.ref S, .ref r], []⟩) R s := by
  refine codeAny_builtin PySem.F.entry_list_iadd ?_
  rw [Around.under_plainId PySem.F.plain_list_iadd _]
  show wpAny _ A.in1 (Builtin.List.listExtendWith (.ref S) (.ref r) (.ref S)) _ _ _
  exact wpAny_extend_range hh hr hsmall hn hlen S (.ref S) 0 hS fun h' tk acc' c' hk hS' hacc => hR h' tk acc' c' hk hS' hacc
theorem VU {Q : List Value → Shared → Prop} {r : Addr} {a b c : Int} {t u v : Tok} {n : Nat} (hh : A.handled = none) (hr : IsRange s.heap r a b c t u v) (hsmall : Builtin.Range.small a b c = true) (hn : Builtin.Range.rangeSize a b c = n) (hlen : n ≤ 2 ^ 24)
    (hQ : ∀ h' tk (acc : Array Value), Keep s.heap h' → ItemsOf (fun i v => ∃ t, v = .int (a + i * c) t) acc n → Q acc.toList { s with heap := h', toks := tk }) : wpAny (model prog w) A (collect (.ref r)) Q E s := by
  unfold collect
  refine wpAny_bind (wpAny_runValue (codeAny_builtin PySem.F.entry_proto_collect ?_))
  rw [Around.under_plainId PySem.F.plain_proto_collect _]
  show wpAny _ A.in1 (newList [] >>= fun l => again (.builtin "list.__iadd__" ⟨[l, .ref r], []⟩)) _ _ s
  refine wpAny_bind (wpAny_newObj_type ?_)
  refine wpAny_pure ⟨plainId_quiet PySem.F.plain_list_iadd _, GT (s := { s with heap := s.heap.push { cls := .type "list", data := .seq #[] } }) hh (Heap.get?_push_of_some _ hr) hsmall hn hlen (Heap.get?_push_size _ rfl) fun h' tk acc' c' hk hS' hacc => ?_⟩
  show wpAny _ A (load s.heap.objs.size >>= _) _ _ _
  refine wpAny_bind (wpAny_load hS' ?_)
  exact wpAny_pure (hQ h' tk acc' (fun b o e => hk b o (Nat.ne_of_lt (Heap.lt_size e)) (Heap.get?_push_of_some _ e)) hacc)

noncomputable def skTail (a : Addr) (before : Nat) (keyStore : Value) (s : SortSt) : Sem PySem.Fin := do
  let sorted := (arrOf s).map (·.2)
  Builtin.List.listUpdate keyStore fun _ => #[]
  letGo ((arrOf s).map (·.1)).toList (failedOf s).toList
  let touched := (← seqEpoch a) != before
  Builtin.List.listUpdate (.ref a) fun _ => sorted
  if let some e := failedOf s then rule "list.sort.comparison-raised"; throw e
  if touched then rule "list.sort.modified"; raiseError "ValueError" "list modified during sort"
  ret .none
noncomputable def skEnd (a : Addr) (items : Array Value) (before : Nat) (keyStore : Value) (keys : Array Value) : Sem PySem.Fin := do
  let pairs := keys.zip items
  let kind ← if items.size < 2 then pure general' else keyKind' keys
  let ((), s) ← (if items.size < 2 then pure () else sortRuns').run (SortSt.mk' kind pairs #[] 7 none)
  skTail a before keyStore s
noncomputable def skRest (a : Addr) (f : Value) (items : Array Value) (before : Nat) (keyStore : Value) : Sem PySem.Fin := do
  rule "list.sort.key"
  for x in items do
    match ← (call f [x]).attempt with
    | .ok k => Builtin.List.listUpdate keyStore (·.push k)
    | .error e =>
      rule "list.sort.key-raised"
      let made ← Builtin.List.listItems keyStore
      Builtin.List.listUpdate keyStore fun _ => #[]
      letGo made.toList.reverse [e]
      Builtin.List.listUpdate (.ref a) fun _ => items; throw e
  let keys ← Builtin.List.listItems keyStore
  skEnd a items before keyStore keys
noncomputable def skTree (a : Addr) (f : Value) : Sem PySem.Fin := do
  let items ← Builtin.List.listItems (.ref a)
  Builtin.List.listUpdate (.ref a) fun _ => #[]
  let before ← seqEpoch a
  let held ← newTuple items.toList
  let keyStore ← newList []
  holding [held, keyStore] (skRest a f items before keyStore)
theorem ZBr (q a : Addr) : Builtin.«list.sort» ⟨[.ref a], [(Str.ofString "key", .ref q)]⟩ = skTree a (.ref q) := rfl
theorem HL (a v : Value) : argsOk "sorted" ⟨[a], [(Str.ofString "key", v)]⟩ := by unfold argsOk; kernel_rfl
theorem HK (a v : Value) : argsOk "list.sort" ⟨[a], [(Str.ofString "key", v)]⟩ := by unfold argsOk; kernel_rfl

noncomputable def IntA (vs : List Value) : Prop := ∃ ns, IntsAre vs ns
noncomputable abbrev KeyRes (s' : Shared) (v : Value) (s'' : Shared) : Prop := ∃ k t h' tk, v = .int k t ∧ s'' = { s' with heap := h', toks := tk } ∧ Keep s'.heap h'
theorem Hr {vs : List Value} {k : Int} {t : Tok} (h : IntA vs) : IntA (vs ++ [.int k t]) := by
  obtain ⟨ns, h⟩ := h
  refine ⟨ns ++ [k], ?_⟩
  induction h with
  | nil => exact .cons k t .nil
  | cons n' t' _ ih => exact .cons n' t' ih
theorem GY {M : Model} {body : Value → PUnit → Sem (ForInStep PUnit)} {Q : PUnit → Shared → Prop} {I : Nat → Shared → Prop} {vs : List Value} : ∀ {i : Nat} {s : Shared}, I i s →
    (∀ j x s', x ∈ vs → j < i + vs.length → I j s' → wpAny M A (body x ⟨⟩) (fun r s'' => r = .yield ⟨⟩ ∧ I (j + 1) s'') E s') → (∀ s', I (i + vs.length) s' → Q ⟨⟩ s') → wpAny M A (forIn vs PUnit.unit body) Q E s := by
  induction vs with
  | nil => intro i s hI _ done; rw [List.forIn_nil]; exact wpAny_pure (done s hI)
  | cons x vs ih =>
    intro i s hI step done
    have el : i + (x :: vs).length = i + 1 + vs.length := by rw [List.length_cons, Nat.add_comm vs.length, ← Nat.add_assoc]
    rw [el] at step done
    rw [List.forIn_cons]
    refine wpAny_bind (wpAny_mono (step i x s (.head _) (Nat.lt_of_lt_of_le (Nat.lt_succ_self i) (Nat.le_add_right _ _)) hI) (fun r s' h' => ?_) fun _ _ e => e)
    obtain ⟨rfl, hI'⟩ := h'
    exact ih hI' (fun j y s' hy => step j y s' (.tail _ hy)) done
theorem VN (keys : Array Value) (vs : List Value) : (keys.zip vs.toArray).toList = keys.toList.zip vs := by simp
variable {a kS : Addr} {vs : List Value} {keys : Array Value} {e e1 : Nat} {P : PySem.Fin → Shared → Prop}
theorem ZBs {st : SortSt} (hk : s.heap.get? kS = some (seqObj "list" keys e)) (ha : s.heap.get? a = some (seqObj "list" #[] e1)) (ne : kS ≠ a) (hsz : keys.size = vs.length) (h64 : vs.length < 64) (hp : (arrOf st).Perm (keys.zip vs.toArray)) (hfl : failedOf st = none)
    (h : ∀ h' tk out c, (∀ b o, b ≠ kS → b ≠ a → s.heap.get? b = some o → h'.get? b = some o) → h'.get? a = some (seqObj "list" out c) → out.toList.Perm vs → P (.done (.ret .none)) { s with heap := h', toks := tk }) : wpAny (model prog w) A (skTail a e1 (.ref kS) st) P E s := by
  have hsz2 : (arrOf st).size = vs.length := by rw [hp.size_eq, Array.size_zip, hsz, List.size_toArray, Nat.min_self]
  have s1 := Heap.SameBut.update s.heap kS (Obj.mapSeq fun _ => (#[] : Array Value))
  have na1 : (s.heap.update kS (Obj.mapSeq fun _ => (#[] : Array Value))).get? a = some (seqObj "list" #[] e1) := (s1.2 a ne.symm).trans ha
  have s2 := Heap.SameBut.update (s.heap.update kS (Obj.mapSeq fun _ => (#[] : Array Value))) a (Obj.mapSeq fun _ => (arrOf st).map (·.2))
  obtain ⟨c2, hc2⟩ : ∃ c2, ((s.heap.update kS (Obj.mapSeq fun _ => (#[] : Array Value))).update a (Obj.mapSeq fun _ => (arrOf st).map (·.2))).get? a = some (seqObj "list" ((arrOf st).map (·.2)) c2) := ⟨_, get?_update_seq na1 fun _ => (arrOf st).map (·.2)⟩
  unfold skTail
  dsimp only
  refine wpAny_bind (listUpdate_at hk rfl ?_ (by rw [hsz, sizeLine_eq]; lia) (Nat.zero_le _))
  refine wpAny_bind (wpAny_letGo ?_)
  refine wpAny_bind (seqEpoch_at na1 rfl ?_)
  refine wpAny_bind (listUpdate_at na1 rfl ?_ (Nat.zero_le _) (by rw [Array.size_map, hsz2, sizeLine_eq]; lia))
  rw [hfl]
  simp only [bne_self_eq_false, Bool.false_eq_true, if_false]
  refine wpAny_pure (h _ _ _ c2 (fun b o n1 n2 q => (s2.2 b n2).trans ((s1.2 b n1).trans q)) hc2 ?_)
  rw [Array.toList_map]
  have := (Array.perm_iff_toList_perm.mp hp).map (·.2)
  rwa [VN, List.map_snd_zip (Nat.le_of_eq (by rw [Array.length_toList]; exact hsz.symm))] at this
theorem ZKm (hk : s.heap.get? kS = some (seqObj "list" keys e)) (ha : s.heap.get? a = some (seqObj "list" #[] e1)) (ne : kS ≠ a) (hi : IntA keys.toList) (hsz : keys.size = vs.length) (h64 : vs.length < 64)
    (h : ∀ h' tk out c, (∀ b o, b ≠ kS → b ≠ a → s.heap.get? b = some o → h'.get? b = some o) → h'.get? a = some (seqObj "list" out c) → out.toList.Perm vs → P (.done (.ret .none)) { s with heap := h', toks := tk }) : wpAny (model prog w) A (skEnd a vs.toArray e1 (.ref kS) keys) P E s := by
  obtain ⟨ns, hi⟩ := hi
  have hzs : (keys.zip vs.toArray).size = vs.length := by rw [Array.size_zip, hsz, List.size_toArray, Nat.min_self]
  unfold skEnd
  dsimp only
  by_cases h2 : vs.toArray.size < 2
  · rw [if_pos h2, if_pos h2]
    refine wpAny_bind (wpAny_pure ?_)
    rw [StateT.run_pure]
    refine wpAny_bind (wpAny_pure ?_)
    exact ZBs (st := SortSt.mk' general' (keys.zip vs.toArray) #[] 7 none) hk ha ne hsz h64 (Array.Perm.refl _) rfl h
  · rw [if_neg h2, if_neg h2]
    rw [List.size_toArray] at h2
    have kk : keyKind' keys = pure oneType' := by
      obtain ⟨v₁, v₂, rest, q⟩ : ∃ v₁ v₂ rest, keys.toList = v₁ :: v₂ :: rest := by
        have hl : ¬ keys.toList.length < 2 := by rw [Array.length_toList, hsz]; exact h2
        rcases q : keys.toList with _ | ⟨v₁, _ | ⟨v₂, rest⟩⟩
        · rw [q] at hl; exact absurd (by decide) hl
        · rw [q] at hl; exact absurd (by simp) hl
        · exact ⟨v₁, v₂, rest, rfl⟩
      rw [show keys = (v₁ :: v₂ :: rest).toArray by rw [← q, Array.toArray_toList]]
      rw [q] at hi
      exact keyKind_ints hi
    rw [kk]
    refine wpAny_bind (wpAny_pure ?_)
    refine wpAny_bind (wpAny_mono (wpS_sortRuns (a₀ := keys.zip vs.toArray) (st := SortSt.mk' oneType' (keys.zip vs.toArray) #[] 7 none) (Q := fun _ st' => (arrOf st').Perm (keys.zip vs.toArray) ∧ failedOf st' = none)
      (fun p hp => by rw [VN] at hp; exact hi.all _ (List.of_mem_zip (a := p.1) (b := p.2) hp).1) ⟨Array.Perm.refl _, rfl, rfl, rfl⟩ (by rw [hzs]; lia) (by rw [hzs]; exact h64) fun st' a1 a2 _ => ⟨a1, a2⟩) ?_ fun _ _ e => e)
    rintro ⟨⟨⟩, st'⟩ s' ⟨rfl, hp, hf⟩
    exact ZBs hk ha ne hsz h64 hp hf h
theorem ZIz {f : Value} {n : Nat} {hb : Heap} (kb : Keep hb s.heap) (nb : hb.get? a = none) (ho : s.heap.get? a = some (seqObj "list" vs.toArray n)) (h64 : vs.length < 64)
    (turn : ∀ x ∈ vs, ∀ h tk, Keep hb h → wpAny (model prog w) A (call f [x]) (KeyRes { s with heap := h, toks := tk }) (fun _ _ => False) { s with heap := h, toks := tk })
    (h : ∀ h' tk out c, Keep hb h' → h'.get? a = some (seqObj "list" out c) → out.toList.Perm vs → P (.done (.ret .none)) { s with heap := h', toks := tk }) : wpAny (model prog w) A (skTree a f) P E s := by
  have s1 := Heap.SameBut.update s.heap a (Obj.mapSeq fun _ => (#[] : Array Value))
  obtain ⟨e1, ho1⟩ : ∃ e1, (s.heap.update a (Obj.mapSeq fun _ => (#[] : Array Value))).get? a = some (seqObj "list" #[] e1) := ⟨_, get?_update_seq ho fun _ => #[]⟩
  unfold skTree
  refine wpAny_bind (listItems_at ho rfl ?_)
  refine wpAny_bind (listUpdate_at ho rfl ?_ (by rw [List.size_toArray, sizeLine_eq]; lia) (Nat.zero_le _))
  refine wpAny_bind (seqEpoch_at ho1 rfl ?_)
  refine wpAny_bind (wpAny_newTuple ?_ (by show vs.length ≤ _; rw [sizeLine_eq]; lia))
  refine wpAny_bind (wpAny_newList ?_ (Nat.zero_le _))
  refine wpAny_holding ?_
  have kS0 : Keep hb (((s.heap.update a (Obj.mapSeq fun _ => (#[] : Array Value))).push (seqObj "tuple" vs.toArray 0)).push (seqObj "list" #[] 0)) := fun b o e => Heap.get?_push_of_some _ (Heap.get?_push_of_some _ ((s1.2 b fun z => JJ (z ▸ e) nb).trans (kb b o e)))
  have lz : ((s.heap.update a (Obj.mapSeq fun _ => (#[] : Array Value))).push (seqObj "tuple" vs.toArray 0)).objs.size = s.heap.objs.size + 1 := by rw [size_push', Heap.size_update]
  have ne : ((s.heap.update a (Obj.mapSeq fun _ => (#[] : Array Value))).push (seqObj "tuple" vs.toArray 0)).objs.size ≠ a := by rw [lz]; exact Nat.ne_of_gt (Nat.lt_succ_of_lt (Heap.lt_size ho))
  have nk : hb.get? ((s.heap.update a (Obj.mapSeq fun _ => (#[] : Array Value))).push (seqObj "tuple" vs.toArray 0)).objs.size = none := Qe fun o e => by
    have := Heap.lt_size (kb _ o e); rw [lz] at this; exact absurd this (Nat.not_lt.mpr (Nat.le_succ _))
  have hk0 : (((s.heap.update a (Obj.mapSeq fun _ => (#[] : Array Value))).push (seqObj "tuple" vs.toArray 0)).push (seqObj "list" #[] 0)).get? ((s.heap.update a (Obj.mapSeq fun _ => (#[] : Array Value))).push (seqObj "tuple" vs.toArray 0)).objs.size = some (seqObj "list" #[] 0) := Heap.get?_push_size _ rfl
  have ha0 : (((s.heap.update a (Obj.mapSeq fun _ => (#[] : Array Value))).push (seqObj "tuple" vs.toArray 0)).push (seqObj "list" #[] 0)).get? a = some (seqObj "list" #[] e1) := Heap.get?_push_of_some _ (Heap.get?_push_of_some _ ho1)
  generalize ((s.heap.update a (Obj.mapSeq fun _ => (#[] : Array Value))).push (seqObj "tuple" vs.toArray 0)).objs.size = kS at *
  show wpAny _ _ _ _ _ { s with heap := ((s.heap.update a (Obj.mapSeq fun _ => (#[] : Array Value))).push (seqObj "tuple" vs.toArray 0)).push (seqObj "list" #[] 0) }
  generalize (((s.heap.update a (Obj.mapSeq fun _ => (#[] : Array Value))).push (seqObj "tuple" vs.toArray 0)).push (seqObj "list" #[] 0)) = g0 at *
  unfold skRest
  refine wpAny_bind (wpAny_rule ?_)
  rw [← Array.forIn_toList]
  refine wpAny_bind (GY (vs := vs) (i := 0) (I := fun i s' => ∃ h' tk kA e, s' = { s with heap := h', toks := tk } ∧ Keep hb h' ∧ h'.get? kS = some (seqObj "list" kA e) ∧ h'.get? a = some (seqObj "list" #[] e1) ∧ kA.size = i ∧ IntA kA.toList)
    ⟨g0, s.toks, #[], 0, rfl, kS0, hk0, ha0, rfl, [], .nil⟩ ?step ?done)
  case step =>
    rintro j x s' hx lj ⟨h', tk, kA, e, rfl, k', hk, ha, hz, hi⟩
    rw [Nat.zero_add] at lj
    refine wpAny_bind (wpAny_attempt (wpAny_mono (turn x hx h' tk k') (fun v s'' he => ?_) fun _ _ hF => hF.elim))
    obtain ⟨k, t, g, tk2, rfl, rfl, k2⟩ := he
    dsimp only
    have nk' := k2 _ _ hk
    have s1 := Heap.SameBut.update g kS (Obj.mapSeq (·.push (.int k t)))
    obtain ⟨c2, hc2⟩ : ∃ c2, (g.update kS (Obj.mapSeq (·.push (.int k t)))).get? kS = some (seqObj "list" (kA.push (.int k t)) c2) := ⟨_, get?_update_seq nk' (·.push (.int k t))⟩
    refine wpAny_bind (listUpdate_at nk' rfl ?_ (by rw [sizeLine_eq]; lia) (Nat.le_trans (Nat.le_of_eq (Array.size_push ..)) (by rw [sizeLine_eq]; lia)))
    exact wpAny_pure ⟨rfl, _, _, kA.push (.int k t), c2, rfl, fun b o e => (s1.2 b fun z => JJ (z ▸ e) nk).trans (k2 b o (k' b o e)), hc2, (s1.2 a ne.symm).trans (k2 _ _ ha), by rw [Array.size_push, hz], by rw [Array.toList_push]; exact Hr hi⟩
  case done =>
    rintro s' ⟨h', tk, kA, e, rfl, k', hk, ha, hz, hi⟩
    rw [Nat.zero_add] at hz
    refine wpAny_bind (listItems_at hk rfl ?_)
    exact ZKm hk ha ne hi hz h64 fun h3 tk3 out c k3 a3 p3 => h h3 tk3 out c (fun b o e => k3 b o (fun z => JJ (z ▸ e) nk) (fun z => JJ (z ▸ e) nb) (k' b o e)) a3 p3
theorem ZHp {vs : List Value} (h : ∀ v ∈ vs, ∃ k t, v = .int k t) : IntsAre vs (vs.map numOf) := by
  induction vs with
  | nil => exact .nil
  | cons v vs ih =>
    obtain ⟨k, t, rfl⟩ := h v (.head _)
    exact .cons k t (ih fun v hv => h v (.tail _ hv))
theorem UZ {Q : Value → Shared → Prop} {q r : Addr} {m : Int} {n : Nat} {t u v : Tok} (hh : A.handled = none) (hr : IsRange s.heap r 0 m 1 t u v) (hsmall : Builtin.Range.small 0 m 1 = true) (hn : Builtin.Range.rangeSize 0 m 1 = n) (h64 : n < 64)
    (turn : ∀ (i : Nat) t, i < n → ∀ h tk, Keep s.heap h → wpAny (model prog w) A.in1.in1 (call (.ref q) [.int i t]) (KeyRes { s with heap := h, toks := tk }) (fun _ _ => False) { s with heap := h, toks := tk })
    (h : ∀ D h' tk out c (os : List Int), Keep s.heap h' → s.heap.get? D = none → h'.get? D = some (seqObj "list" out c) → IntsAre out.toList os → os.Perm ((List.range n).map fun (i : Nat) => (i : Int)) → Q (.ref D) { s with heap := h', toks := tk }) :
    wpAny (model prog w) A (call (.builtin "sorted") [.ref r] [(Str.ofString "key", .ref q)]) Q E s := by
  refine call_function_entry_kw kind_sorted plain_sorted entry_sorted (HL _ _) ?_
  unfold Builtin.«sorted»
  refine wpAny_bind (m := checkCount "sorted" 1 1 _) (wpAny_pure ?_)
  refine wpAny_bind (VU (A := A.in1) hh hr hsmall hn (Nat.le_of_lt (Nat.lt_trans h64 (by decide))) fun h1 tk1 acc k1 ia => ?_)
  have lz : acc.toList.length = n := by rw [Array.length_toList]; exact ia.1
  have it : ∀ (i : Nat) v, acc.toList[i]? = some v → ∃ t, v = .int i t := fun i v e => by
    obtain ⟨t, rfl⟩ := ia.2 i v (by rw [← Array.getElem?_toList]; exact e)
    exact ⟨t, by rw [Int.mul_one, Int.zero_add]⟩
  have en : acc.toList.map numOf = (List.range n).map fun (i : Nat) => (i : Int) := by
    refine List.ext_getElem? fun i => ?_
    rw [List.getElem?_map, List.getElem?_map]
    by_cases li : i < n
    · obtain ⟨t, e⟩ := it i _ (List.getElem?_eq_getElem (lz ▸ li))
      rw [List.getElem?_eq_getElem (lz ▸ li), List.getElem?_range li, e]; rfl
    · rw [List.getElem?_eq_none (by rw [lz]; exact Nat.le_of_not_lt li), List.getElem?_eq_none (by rw [List.length_range]; exact Nat.le_of_not_lt li)]; rfl
  have al : ∀ v ∈ acc.toList, ∃ i : Nat, i < n ∧ ∃ t, v = .int i t := fun v hv => by
    obtain ⟨i, e⟩ := List.getElem?_of_mem hv
    exact ⟨i, lz ▸ (List.getElem?_eq_some_iff.mp e).1, it i v e⟩
  refine wpAny_bind (wpAny_newList ?_ (by rw [lz, sizeLine_eq]; lia))
  have hoL : (h1.push (seqObj "list" acc.toList.toArray 0)).get? h1.objs.size = some (seqObj "list" acc.toList.toArray 0) := Heap.get?_push_size _ rfl
  refine wpAny_bind (wpAny_holding (wpAny_call_entry_kw slot_list_sort ⟨_, hoL, rfl⟩ entry_list_sort ?body (HK _ _)))
  case body =>
    show wpAny (model prog w) A.in1.in1 (Builtin.«list.sort» ⟨[.ref h1.objs.size], [(Str.ofString "key", .ref q)]⟩) _ _ _
    rw [ZBr]
    have nb : s.heap.get? h1.objs.size = none := Qe fun o e => absurd (Heap.lt_size (k1 _ o e)) (Nat.lt_irrefl _)
    refine ZIz (s := { s with heap := h1.push (seqObj "list" acc.toList.toArray 0), toks := tk1 }) (hb := s.heap) (fun b o e => Heap.get?_push_of_some _ (k1 b o e)) nb hoL (lz ▸ h64) (fun x hx h2 tk k2 => ?_) fun h' tk out c k' a' p' => ⟨_, rfl, ?_⟩
    · obtain ⟨i, li, t, rfl⟩ := al x hx
      exact turn i t li h2 tk k2
    · exact wpAny_pure ⟨_, rfl, h _ h' tk out c (out.toList.map numOf) k' nb a' (ZHp fun v hv => let ⟨i, _, t, e⟩ := al v (p'.mem_iff.mp hv); ⟨i, t, e⟩) (en ▸ p'.map numOf)⟩
end
end TC

set_option maxRecDepth 100000
set_option maxHeartbeats 1000000
namespace TC
open PySem PySem.W PyProof.Rows

noncomputable abbrev lamFn (q : Str) (x : Arg) (body : Expr) (sc : Scope) (cl : List (Str × Addr)) (pm cv ct : Value) : FuncData :=
  { name := "<lambda>", qualname := q, params := oneArg x, body := .expr body, scope := sc, globals := mainGlobals, closure := cl, defaults := .none, kwdefaults := .none, doc := .none, pyModule := pm, annotations := none, code := cv, closureTuple := ct, builtins := builtinsNs }
theorem ZCx (q : Str) {x : Arg} (hx : x.arg = "_law_point") (body : Expr) (sc : Scope) (cl : List (Str × Addr)) (pm cv ct v : Value) : bindArgs (lamFn q x body sc cl pm cv ct) ⟨[v], []⟩ = pure [(x.arg, v)] := by
  cases x
  cases hx
  kernel_rfl
theorem GB {pos : Pos} {a b : Int} {c cv : Value} {l : List Value} (h : TriplesOk l) (e : codeAmong pos (l ++ [rawInt a, rawInt b, c]) = some cv) : codeAmong pos l = some cv ∨ cv = c := by
  fun_induction TriplesOk l with
  | case1 =>
    simp only [List.nil_append, codeAmong, rawInt] at e
    split at e
    · cases e; exact .inr rfl
    · cases e
  | case2 a' t b' u x rest ih =>
    simp only [List.cons_append, codeAmong] at e ⊢
    split at e
    · rename_i hc; rw [if_pos hc]; exact .inl e
    · rename_i hc; rw [if_neg hc]; exact ih h e
  | case3 l h1 h2 => exact h.elim
section
variable {M : Model} {A : Around} {E : Value → Shared → Prop} {s : Shared}
noncomputable abbrev Made (c P : Addr) (q : Str) (x : Arg) (body : Expr) (sc : Scope) (cl : List (Str × Addr)) (h h' : Heap) (f : Addr) : Prop :=
  (∀ b o, b ≠ P → h.get? b = some o → h'.get? b = some o) ∧ LamAt c P q h' ∧ h.get? f = none ∧ ∃ pm cv ct, h'.get? f = some { cls := .type "function", data := .func (lamFn q x body sc cl pm cv ct) } ∧ CodeC h' cv q
theorem ZDu {env : Env} {c P : Addr} {q : Str} {x : Arg} {body : Expr} {sc : Scope} {cl : List (Str × Addr)} {mg : Str → Option Value} {pos : Pos} {line : Nat} {bm : Addr} {ob : Obj} {Q : Value → Shared → Prop} (hcl : closureFor sc env = pure cl) (hge : env.globals = mainGlobals) (hg : s.heap.Ns mainGlobals mg) (hc : env.code = .ref c) (L : LamAt c P q s.heap)
    (b1 : mg "__builtins__" = some (.ref bm)) (b2 : bm ≠ builtinsNs) (b3 : s.heap.get? bm = some ob) (b4 : ob.cls = .type "module") (b5 : ob.dict = some builtinsNs) (b6 : ob.data = .plain)
    (h : ∀ f h' tk, Made c P q x body sc cl s.heap h' f → Q (.ref f) { s with heap := h', toks := tk }) :
    wpAny M A (makeTail "<lambda>" q (oneArg x) (.expr body) sc env .none .none none pos line) Q E s := by
  unfold makeTail
  rw [hcl, hge]
  refine wpAny_bind (wpAny_pure ?_)
  have main : ∀ (ct : Value) (h1 : Heap), Keep s.heap h1 → wpAny M A (do
      let cv ← functionCode env pos line "<lambda>" q (oneArg x) sc (.expr body)
      let bs ← builtinsFor mainGlobals env.builtins
      let md ← nsGet mainGlobals "__name__"
      let doc ← (pure .none : Sem Value)
      newObj (.type "function") (.func { name := "<lambda>", qualname := q, params := oneArg x, body := .expr body, scope := sc, globals := mainGlobals, closure := cl, closureTuple := ct, code := cv, builtins := bs, defaults := .none, kwdefaults := .none, annotations := none, pyModule := md.getD .none, doc := doc })) Q E { s with heap := h1 } := by
    intro ct h1 k1
    obtain ⟨ps, ic, it, cs⟩ := L.move (h' := h1) fun b o vs _ _ e => k1 b o e
    have hgP : mainGlobals ≠ P := fun z => by
      obtain ⟨o, es, ep, e, d, _⟩ := hg
      have := it.2; rw [← z, k1 _ _ e] at this; cases this; cases d
    have hbP : bm ≠ P := fun z => by
      have := it.2; rw [← z, k1 _ _ b3] at this; cases this; cases b4
    have rest : ∀ (cv : Value) (h2 : Heap) (tk : Nat), (∀ b o, b ≠ P → h1.get? b = some o → h2.get? b = some o) → LamAt c P q h2 → h1.objs.size ≤ h2.objs.size → CodeC h2 cv q → wpAny M A (do
        let bs ← builtinsFor mainGlobals env.builtins
        let md ← nsGet mainGlobals "__name__"
        let doc ← (pure .none : Sem Value)
        newObj (.type "function") (.func { name := "<lambda>", qualname := q, params := oneArg x, body := .expr body, scope := sc, globals := mainGlobals, closure := cl, closureTuple := ct, code := cv, builtins := bs, defaults := .none, kwdefaults := .none, annotations := none, pyModule := md.getD .none, doc := doc })) Q E { s with heap := h2, toks := tk } := by
      intro cv h2 tk k2 L2 lz cc
      have hg2 : h2.Ns mainGlobals mg := by
        obtain ⟨o, es, ep, e, r⟩ := hg
        exact ⟨o, es, ep, k2 _ _ hgP (k1 _ _ e), r⟩
      refine wpAny_bind (wpAny_builtinsFor (s := { s with heap := h2, toks := tk }) hg2 b1 b2 (k2 _ _ hbP (k1 _ _ b3)) b4 b5 b6 ?_)
      refine wpAny_bind (wpAny_nsGet hg2 ?_)
      refine wpAny_bind (wpAny_pure (wpAny_newObj_type (h _ _ _ ⟨fun b o n e => Heap.get?_push_of_some _ (k2 b o n (k1 b o e)), L2.move fun b o vs _ _ e => Heap.get?_push_of_some _ e, ?_, _, cv, ct, Heap.get?_push_size _ rfl, ?_⟩) (by size_fits)))
      · refine Qe fun o e => ?_
        have := Heap.lt_size (k1 _ o e)
        exact absurd this (Nat.not_lt.mpr lz)
      · obtain ⟨c', o, vs, t, e1, e2, r⟩ := cc
        exact ⟨c', o, vs, t, e1, Heap.get?_push_of_some _ e2, r⟩
    cases ea : codeAmong pos ps.toList with
    | some cv => exact wpAny_bind (wpAny_functionCode_hit hc ic ea (rest cv h1 _ (fun _ _ _ e => e) ⟨ps, ic, it, cs⟩ (Nat.le_refl _) (cs pos cv ea)))
    | none =>
      refine wpAny_bind (wpAny_functionCodeX hc ic it ea fun c' h2 tk hx hge hlt ic2 hrec it2 hP' => ?_)
      obtain ⟨P', _, _, ⟨⟨o', vs', a1, a2, a3, a4⟩, _⟩⟩ := hP'
      have cc : CodeC h2 (.ref c') q := by
        obtain ⟨c2, o2, vs2, t2, e, g1, g2, g3⟩ := hrec
        cases e
        rw [a1] at g1; cases g1
        exact ⟨c', o', vs2, t2, rfl, a1, g2, g3, a2⟩
      refine rest (.ref c') h2 tk (fun b o n e => hx b o n e) ⟨_, ic2, it2, fun p v e => ?_⟩ (Nat.le_of_lt (Nat.lt_of_le_of_lt hge hlt)) cc
      rw [show (ps ++ #[rawInt pos.line, rawInt pos.col, Value.ref c']).toList = ps.toList ++ [rawInt pos.line, rawInt pos.col, .ref c'] by simp] at e
      obtain ⟨_, _, _, _, _, _, _, _, _, _, _, _, _, _, _, _, _, _, _, tr, _⟩ := ic
      rcases GB tr e with e | rfl
      · obtain ⟨c3, o3, v3, t3, e1, e2, e3, e4, e5⟩ := cs p v e
        exact ⟨c3, o3, v3, t3, e1, hx _ _ (fun z => by have := it.2; rw [← z, e2] at this; cases this; cases e5) e2, e3, e4, e5⟩
      · exact cc
  dsimp only
  cases cl.isEmpty with
  | true => exact wpAny_bind (wpAny_pure (main .none s.heap fun _ _ e => e))
  | false => exact wpAny_bind (wpAny_newTextTuple (main _ _ (JU _ _)))
theorem ZDt {env : Env} {c P : Addr} {x : Arg} {body : Expr} {sc : Scope} {cl : List (Str × Addr)} {mg : Str → Option Value} {pos : Pos} {bm : Addr} {ob : Obj} {Q : Value → Shared → Prop} (hcl : closureFor sc env = pure cl) (hge : env.globals = mainGlobals) (hg : s.heap.Ns mainGlobals mg) (hc : env.code = .ref c) (L : LamAt c P (env.qual ++ "<lambda>") s.heap)
    (b1 : mg "__builtins__" = some (.ref bm)) (b2 : bm ≠ builtinsNs) (b3 : s.heap.get? bm = some ob) (b4 : ob.cls = .type "module") (b5 : ob.dict = some builtinsNs) (b6 : ob.data = .plain)
    (h : ∀ f h' tk, Made c P (env.qual ++ "<lambda>") x body sc cl s.heap h' f → Q (.ref f) { s with heap := h', toks := tk }) : wpAny M A (eval (.Lambda (oneArg x) body sc pos) env) Q E s := by
  rw [arm_eval_Lambda]
  show wpAny M A (do let dv ← evalAll []; let kdv ← holding dv (evalAllOpt []); makeFunction "<lambda>" (env.qual ++ "<lambda>") (oneArg x) (.expr body) sc env dv kdv [] pos pos.line) Q E s
  refine wpAny_bind (wpAny_pure (wpAny_bind (wpAny_holding (wpAny_pure ?_))))
  rw [makeFunction_eq]
  simp only [List.zip_nil_right, List.filterMap_nil, List.isEmpty_nil, if_true, pure_bind]
  exact ZDu hcl hge hg hc L b1 b2 b3 b4 b5 b6 h
end
section
variable {prog : Program} {w : World} {A : Around} {s : Shared}
theorem ZDs {f : Addr} {q y : Str} {x : Arg} {yp np sp : Pos} {sc : Scope} {cl : List (Str × Addr)} {pm cv ct : Value} {z l : Addr} {vs : Array Value} {m i : Nat} {k : Int} {t tk : Tok} (hroom : A.depth < recursionLimit) (nl : s.heap.NoLimit)
    (ho : s.heap.get? f = some { cls := .type "function", data := .func (lamFn q x (.Subscript (.Name y yp) (.Name x.arg np) sp) sc cl pm cv ct) }) (cc : CodeC s.heap cv q) (hk : sc.kind = .function) (hco : sc.isCoroutine = false) (hgen : sc.isGenerator = false) (hcell : ∀ x ∈ sc.names, x.2 ≠ .cell)
    (hx : sc.names.lookup x.arg = some .local) (hy : sc.names.lookup y = some .free) (dx : x.arg = "_law_point") (dy : (y == ("__debug__" : Str)) = false) (ny : (y == ("__classdict__" : Str)) = false) (hz : cl.lookup y = some z) (hc : s.heap.IsCell z (some (.ref l)))
    (hl : s.heap.get? l = some (listObj vs m)) (li : (i : Int) < 2 ^ 63) (hv : vs[i]? = some (.int k tk)) : wpAny (model prog w) A (call (.ref f) [.int i t]) (KeyRes s) (fun _ _ => False) s := by
  obtain ⟨c, oc, fs, tq, rfl, e2, e3, e4, _⟩ := cc
  refine wpAny_call (codeAny_of_tree ?_)
  show wpAny _ A.in1 (callAny (.ref f) ⟨[.int i t], []⟩) _ _ s
  simp only [callAny]
  refine wpAny_bind (wpAny_load ho ?_)
  simp only [callFunction, hco, hgen]
  refine wpAny_bind (m := field (.ref c) 1) (wpAny_field e2 e3 e4 (wpAny_bind (wpAny_pure ?_)))
  rw [ZCx q dx]
  refine wpAny_bind (wpAny_pure ?_)
  refine wpAny_bind (wpAny_newFunctionEnv hcell (fun p hp => by rw [List.mem_singleton.mp hp]; exact hx) (fun h1 hns hsb => ?_) hk)
  have k1 : Keep s.heap h1 := fun b o e => hsb.extBut b o (Nat.ne_of_lt (Heap.lt_size e)) (Heap.get?_push_of_some _ e)
  refine wpAny_bind (wpAny_enterFrame (nl.fresh _ hsb) hroom (wpAny_pure ⟨rfl, codeAny_of_tree ?_⟩))
  show wpAny _ _ (do point; ret (← (eval (.Subscript (.Name y yp) (.Name x.arg np) sp) (newEnv sc s.heap.objs.size mainGlobals cl (q ++ ".<locals>.") (some f) (.ref c) none builtinsNs)).onRaise (leaving (newEnv sc s.heap.objs.size mainGlobals cl (q ++ ".<locals>.") (some f) (.ref c) none builtinsNs)))) _ _ _
  have hl1 : h1.IsList l vs := ⟨_, k1 _ _ hl, rfl, m, rfl⟩
  have hc1 : h1.IsCell z (some (.ref l)) := let ⟨o, e, d⟩ := hc; ⟨o, k1 _ _ e, d⟩
  refine wpAny_bind (wpAny_point (wpAny_bind (wpAny_onRaise (Subscript_ (wpAny_Name (wpAny_loadName_free (s := { s with heap := h1, toks := _ }) hk hy hz hc1 (wpAny_Name (wpAny_loadName_local (s := { s with heap := h1, toks := _ }) (v := .int i t) hk hx hns ?_ ?_) (dx ▸ rfl)) ny) dy)))))
  · show List.lookup x.arg [(x.arg, Value.int i t)] = _
    rw [List.lookup_cons, beq_self_eq_true]
  · refine tail_any (s := { s with heap := h1, toks := _ }) hl1.typeIs slot_list_getitem.lookup (wpAny_getItem_list hl1 (Int.natCast_nonneg i) li (by rw [Int.toNat_natCast]; exact hv) ?_) rfl
    exact wpAny_pure ⟨k, tk, h1, _, rfl, rfl, k1⟩
end
end TC

namespace TC
open PySem PySem.W PyProof.Rows

theorem Lam.inv {l : Lam} {cx : Cx} (h : l.ok cx = true) : l.sc.kind = .function ∧ l.sc.isCoroutine = false ∧ l.sc.isGenerator = false ∧ (∀ n ∈ l.sc.names, n.2 ≠ .cell) ∧ l.sc.names.lookup l.x.arg = some .local ∧ l.sc.names.lookup l.y = some .free ∧ l.x.arg = "_law_point" ∧ (l.y == ("__classdict__" : Str)) = false ∧ cx.kd.lookup l.y = some .cell ∧ ∀ n ∈ l.sc.names, n.2 = .free → cx.kd.lookup n.1 = some .cell := by
  unfold Lam.ok at h
  simp only [Bool.and_eq_true, beq_iff_eq, Bool.not_eq_true', List.all_eq_true, bne_iff_ne, Bool.or_eq_true] at h
  obtain ⟨⟨⟨⟨⟨⟨⟨⟨⟨h1, h2⟩, h3⟩, h4⟩, h5⟩, h6⟩, h7⟩, h8⟩, h9⟩, h10⟩ := h
  exact ⟨h1, h2, h3, h4, h5, h6, h7, beq_false_of_ne h8, h9, fun n hn e => (h10 n hn).resolve_left fun z => z e⟩
section
variable {f : Ff} {σ : Sg} {s s₁ s' : Shared} {v : Value} {u : V} {K : KS} {Q : PySem.Flow → Shared → Prop} {x : Str} {i j : Nat} {pos p : Pos}
theorem ZDr (W : WfF f) (T : Thr f) {r : Expr} {r' : TC.E} {l : Lam} {fp cp kp : Pos} (hv : f.cx.var x = some j) (lm : f.cx.lm = true) (hg : f.cx.glob "sorted" = true) (ok : l.ok f.cx = true) (hy : f.cx.var l.y = some i) (hr : OkF f r r') :
    OkS f (.Assign [.Name x p] (.Call (.Name "sorted" fp) [r] [⟨some "key", l.ex, kp⟩] cp) pos) (.kst j r' i) := fun σ s K Q R w out => by
  obtain ⟨c, P, hl, hc⟩ := W.lamc lm
  obtain ⟨s1, s2, s3, s4, s5, s6, s7, s8, s9, s10⟩ := Lam.inv ok
  have h := hr σ s R
  refine wpAny_Assign_Name ?_ rfl
  show f.wp (do callWith cp (← eval (.Name "sorted" fp) f.env) [] (backTo cp (starEach [r] f.env)) (backToKw cp (keywordEach [⟨some "key", l.ex, kp⟩] f.env))) _ s
  refine wpAny_bind (QF (R.wf W T) (R.at W).toAtC hg (by decide) (Um ("sorted", .sorted) (.tail _ (.tail _ (.tail _ (.tail _ (.tail _ (.tail _ (.head _)))))))).1 (callWith_kw (args_cons (h.ev s _ _ (R.at W) w fun v1 s₁ u1 a1 x1 r1 w1 => args_nil ?_) (h.pl _ _)) (by rw [h.pl]; rfl) (by rw [h.pl]; rfl) rfl rfl))
  refine ZR w1 fun n e1 w => ZR w fun su e2 w => ZR w fun u e3 w => ZR w fun y e4 w => ZR w fun xs e5 w => ZR w fun is e6 w => ?_
  have R₁ := R.step W x1 a1.same
  have eu : u1 = .rg n := by cases u1 with | rg k => cases e1; rfl | _ => exact nomatch e1
  subst eu
  obtain ⟨r, t1, t2, t3, rfl, nr, ll, ir⟩ := r1
  obtain ⟨vy, va, ry⟩ := (R₁.at W).envr l.y i (Jo hy).2.1 u (e3 ▸ e2)
  obtain ⟨a0, vs, m0, rfl, ho, rs⟩ := ((R₁.wf W T).rdf ry y e4).isL e5
  have I := rs.intsAre e6
  obtain ⟨cl, hcl, c1, c2⟩ := VF (env := f.env) (sc := l.sc) fun z hz => W.envok.cells z (.inl (s10 _ hz rfl))
  obtain ⟨z, hz, hcz⟩ : ∃ z, f.env.cells.lookup l.y = some z ∧ s₁.heap.IsCell z (some (.ref a0)) := by
    rcases va with ⟨k, _⟩ | ⟨_, z, hz, hc⟩
    · have k' : f.env.scope.names.lookup l.y = some .local := k
      rw [W.envok.names, s9] at k'; cases k'
    · exact ⟨z, hz, hc⟩
  have hh : f.A.handled = none := HOk.none (w.1.1 ▸ R₁.hok)
  obtain ⟨pP, LP⟩ := R₁.lam c P hl
  obtain ⟨bm, ob, b1, b2, b3, b4, b5, b6⟩ := W.ok.top.bmain
  have base := (R₁.stk W).2
  show f.wp (evalAll [do let v ← eval l.ex f.env; standAt cp; pure v]) _ s₁
  unfold evalAll
  refine wpAny_bind (wpAny_bind (ZDt hcl W.envok.glob (W.ok.top.g.keeps base) hc LP b1 b2 (base _ _ b3) b4 b5 b6 fun fa h2 tk2 Md => wpAny_bind (wpAny_standAt (wpAny_pure (wpAny_bind (wpAny_holding (wpAny_pure (wpAny_pure ?_))))))))
  obtain ⟨k2, L2, nfa, pm, cv, ct, hfa, cc⟩ := Md
  obtain ⟨psP, icP, itP, csP⟩ := LP
  have neP : ∀ {b : Addr} {o : Obj}, s₁.heap.get? b = some o → o.cls ≠ .none → b ≠ P := fun e n z => by
    have := itP.2; rw [← z, e] at this; cases this; exact n rfl
  have n0 := ll
  rw [QX] at n0
  have n64 : n.toNat < 64 := by have := w.1.2.2; lia
  have lis : n.toNat ≤ vs.size := by have := w.1.2.1; have := I.length; rw [Array.length_toList] at this; lia
  refine UZ (s := { s₁ with heap := h2, toks := tk2 }) hh (k2 r _ (neP ir nofun) ir) (small_one (by lia) (by lia) (by lia) (by lia)) (n := n.toNat) (by rw [rangeSize_one]; split <;> lia) n64 (fun i' t li h3 tk3 k3 => ?_) fun D h4 tk4 out' c' os k4 nD hD I4 p4 => ?_
  · have lt : i' < vs.size := Nat.lt_of_lt_of_le li lis
    obtain ⟨tv, ev⟩ := IntsAre.int_at I i' _ (by rw [Array.getElem?_toList]; exact Array.getElem?_eq_getElem lt)
    have bP : ∀ b o, f.G.B.get? b = some o → b ≠ P := fun b o e z => JJ (z ▸ W.base0 b o e) (R₁.newl P pP)
    have nl : h3.NoLimit := W.ok.top.nolimit.keeps fun b o e => k3 b o (k2 b o (bP b o e) (base b o e))
    have hc3 : h3.IsCell z (some (.ref a0)) := by
      obtain ⟨o, e, d⟩ := hcz
      refine ⟨o, k3 _ _ (k2 _ _ (fun q => ?_) e), d⟩
      have := itP.2; rw [← q, e] at this; cases this; cases d
    have cc3 : CodeC h3 cv (f.env.qual ++ "<lambda>") := by
      obtain ⟨c', o, fs, t', g1, g2, g3⟩ := cc
      exact ⟨c', o, fs, t', g1, k3 _ _ g2, g3⟩
    exact ZDs (A := f.A.in1.in1) (s := { s₁ with heap := h3, toks := tk3 }) (by have := W.depth; show f.A.depth < recursionLimit; have : recursionLimit = 1000 := rfl; lia) nl (k3 _ _ hfa) cc3 s1 s2 s3 s4 s5 s6 s7 (Jo hy).1 s8 ((c1 _ (mem_of_lookup s6)).trans hz) hc3 (k3 _ _ (k2 a0 _ (neP ho nofun) ho)) (by lia) (ev ▸ Array.getElem?_eq_getElem lt)
  · have R2 : StR f σ { s₁ with heap := h2, toks := tk2 } := by
      refine R₁.junk W (s' := { s₁ with heap := h2, toks := tk2 }) (Z := (· = P)) (pl' := σ.pl) (fun b o n e => k2 b o n e) ⟨rfl, rfl⟩ (fun b q => q ▸ ⟨pP, fun i z => R₁.lamNR (R₁.ops i P z).2 ⟨c, hl⟩⟩) (fun b hb => by rw [(W.lamx c P hl).1] at hb; cases hb) (fun b q o vs C e ec d => ?_) (fun b q => ⟨q, fun z => ?_⟩) (fun i b q => (R₁.ops i b q).1) fun c' P' e => ?_
      · have := itP.2; rw [← q, e] at this; cases this; cases ec
      · obtain ⟨_, _, it2, _⟩ := L2
        exact z ▸ ⟨_, it2.2, nofun⟩
      · rw [hl] at e; cases e; exact ⟨pP, L2⟩
    have R4 := R2.step W (s' := { s₁ with heap := h4, toks := tk4 }) (Ext.of k4) ⟨rfl, rfl⟩
    refine R4.storeD W hv (y := .list (ofInts os)) (PR.list (fun q => (R2.dom W D q).not_none nD) hD (Qd I4)) fun s' R' a' => out.nxt s' _ R' (R.adv W ⟨fun b o q1 q2 q3 e => ⟨k4 _ _ (k2 _ _ (fun z => q2 (.inr ⟨c, z ▸ hl⟩)) ((x1 b o e).1 q1)), q3⟩, fun b o q _ => q, fun b q _ _ => q⟩ a') (w.2 os p4)
end
end TC

namespace TC
open PySem PySem.W PyProof.Rows

noncomputable def SS (dep n : Nat) : Prop := ∀ f : Ff, f.dep = dep → WfF f → Thr f → ∀ st, All (lowS n f.cx st) (OkS f st)
theorem ZFg {v : Expr} {ts : List Expr} {n line : Nat} {p : Pos} {env : Env} : swapsWithSole [.Tuple ts n p] v line env = pure false := by
  show swapsWith v (some (.Tuple ts n p)) line env = pure false
  unfold swapsWith
  dsimp only
  split <;> rfl
theorem ZCa {v a k : Expr} {line : Nat} {p : Pos} {env : Env} : swapsWith v (some (.Subscript a k p)) line env = pure false := by
  unfold swapsWith
  dsimp only
  split <;> rfl
section
variable {f : Ff} {x : Str} {i j : Nat} {pos p : Pos} {dep n : Nat} {e v t : Expr}
inductive IsPop (cx : Cx) (v : Expr) (j : Nat) : Prop
  | mk (y : Str) (np ap cp : Pos) : v = .Call (.Attribute (.Name y np) "pop" ap) [] [] cp → (ap.endLine == cp.line) = true → cx.var y = some j → IsPop cx v j
theorem ZKi {cx : Cx} (v : Expr) : All (lowPop cx (view v)) (IsPop cx v) := by
  have vv := Jd v
  revert vv
  cases view v with
  | call g as kws cp =>
    intro vv
    cases as with
    | cons => exact .no
    | nil =>
      cases kws with
      | cons => exact .no
      | nil =>
        have vg := Jd g
        show All (popAttr cx cp (view g)) _
        revert vg
        cases view g with
        | attr a m ap =>
          intro vg
          refine .ite fun c => .bind fun y hy j hj => ?_
          obtain ⟨np, rfl⟩ := QI a y hy
          have c := Bool.and_eq_true_iff.mp c
          obtain rfl := beq_iff_eq.mp c.1
          exact ⟨y, np, ap, cp, vv.symm.trans (congrArg (Expr.Call · [] [] cp) vg.symm), c.2, hj⟩
        | _ => exact fun _ => .no
  | _ => exact fun _ => .no
theorem ZHt {j : Nat} (W : WfF f) (T : Thr f) (hv : f.cx.var x = some j) (hE : ∀ pe, All (lowE n f.cx pe) (OkF f pe)) : All (lowKst (lowE n f.cx) f.cx j (view v)) (OkS f (.Assign [.Name x p] v pos)) := by
  have vv := Jd v
  revert vv
  cases view v with
  | call fe as kws cp =>
    intro vv
    replace vv : Expr.Call fe as kws cp = v := vv
    subst vv
    rcases as with _ | ⟨r, _ | ⟨r2, as⟩⟩
    · exact .no
    · rcases kws with _ | ⟨⟨_ | ka, kv, kp⟩, _ | ⟨k2, kws⟩⟩
      · exact .no
      · exact .no
      · exact .no
      · refine .bind fun g hg => .ite fun c => .bind fun l hl => .ite fun ok => .bind fun i hy => .map fun r' hr => ?_
        obtain ⟨np, rfl⟩ := QI fe g hg
        simp only [Bool.and_eq_true, beq_iff_eq] at c
        obtain ⟨lm, rfl, gl, rfl⟩ := c
        rw [ZJy kv l hl]
        exact ZDr W T hv lm gl ok hy (hE r r' hr)
      · exact .no
    · exact .no
  | _ => exact fun _ => .no
theorem ZGo (IC : ∀ c, c.dep = dep → WfC c → Calls c) (hd : f.dep = dep) (W : WfF f) (T : Thr f) (hE : ∀ pe, All (lowE n f.cx pe) (OkF f pe)) : All (lowAsg (lowE n f.cx) f.cx v (view t)) (OkS f (.Assign [t] v pos)) := by
  have ve := Jd t
  revert ve
  cases view t with
  | name x p =>
    intro ve
    replace ve : Expr.Name x p = t := ve
    subst ve
    refine .bind fun i hv => ?_
    cases q : lowPop f.cx (view v) with
    | none =>
      cases qk : lowKst (lowE n f.cx) f.cx i (view v) with
      | none => exact (.map fun e he => VW W (ZCr IC hd W T hv e he) _ : All ((lowE n f.cx v).map fun e => fzs (srcOwn f.cx (view v)) (.asg (f.cx.ow.contains i) i e)) _)
      | some t => exact .so (ZHt W T hv hE t qk)
    | some j =>
      obtain ⟨y, np, ap, cp, rfl, h1, h2⟩ := ZKi v j q
      exact .so (ZEs W h1 h2 hv)
  | tuple ts k p =>
    intro ve
    replace ve : Expr.Tuple ts k p = t := ve
    subst ve
    refine .ite fun c => .bind fun is lv => .map fun e he => ZFn W T lv (hE v e he) ZFg ?_
    have vv := Jd v
    revert vv c
    cases view v with
    | call => exact fun _ vv => vv ▸ rfl
    | name => exact fun _ vv => vv ▸ rfl
    | sub => exact fun _ vv => vv ▸ rfl
    | _ => exact fun c => nomatch c
  | sub a k p =>
    intro ve
    replace ve : Expr.Subscript a k p = t := ve
    subst ve
    refine .bind fun x hx => .bind fun i hv => .bind fun k' hk => .cond (fun q => .so ?_) fun _ => .map fun v' hv' => ?_
    · obtain ⟨np, rfl⟩ := QI a x hx
      obtain ⟨y, ci, cp, rfl, hy⟩ := VH q
      cases y with
      | bool b => cases (show b = true from hy); exact ZDq W T hv (hE k k' hk)
      | _ => exact nomatch hy
    · obtain ⟨np, rfl⟩ := QI a x hx
      exact ZEx W T hv (hE k k' hk) (hE v v' hv') ZCa
  | _ => exact fun _ => .no
theorem ZJg {a : Expr} {ap np : Pos} (W : WfF f) (T : Thr f) (hl : (ap.endLine == p.line) = true) (hv : f.cx.var x = some i) (hE : ∀ pe, All (lowE n f.cx pe) (OkF f pe)) : All (lowApp (lowE n f.cx) f.cx i a) (OkS f (.Expr (.Call (.Attribute (.Name x np) "append" ap) [a] [] p) pos)) := by
  exact .map fun a' ha => VW W (ZCq W T hl hv (hE a a' ha)) _
theorem ZIr {a : Expr} {as : List Expr} {m : Str} {ap : Pos} (W : WfF f) (T : Thr f) (hl : (ap.endLine == p.line) = true) (hE : ∀ pe, All (lowE n f.cx pe) (OkF f pe)) : All (lowRecv (lowE n f.cx) f.cx m as (view a)) (OkS f (.Expr (.Call (.Attribute a m ap) as [] p) pos)) := by
  have va := Jd a
  revert va
  cases view a with
  | name x np =>
    intro va
    replace va : Expr.Name x np = a := va
    subst va
    rcases as with _ | ⟨a, _ | ⟨a2, as⟩⟩
    · exact .no
    · refine .bind fun i hv => .cond (fun q => ?_) fun _ => ?_
      · rw [beq_iff_eq.mp q]; exact ZJg W T hl hv hE
      · refine .ite fun q => .map fun a' ha => ?_
        rw [beq_iff_eq.mp q]; exact ZDf W T hl hv (hE a a' ha)
    · exact .no
  | sub a0 k sp =>
    intro va
    replace va : Expr.Subscript a0 k sp = a := va
    subst va
    refine .bind fun x hx => ?_
    obtain ⟨np, rfl⟩ := QI a0 x hx
    rcases as with _ | ⟨a, _ | ⟨a2, as⟩⟩
    · exact .no
    · refine .ite fun q => .bind fun i hv => .bind fun k' hk => .ite fun q1 => .map fun a' ha => ?_
      rw [beq_iff_eq.mp q]
      obtain ⟨ci, cp, rfl⟩ := ZIa k k' hk
      obtain rfl := beq_iff_eq.mp q1
      exact ZFk W T hl hv (hE a a' ha)
    · exact .no
  | _ => exact fun _ => .no
theorem ZGy (IC : ∀ c, c.dep = dep → WfC c → Calls c) (hd : f.dep = dep) (W : WfF f) (T : Thr f) (hE : ∀ pe, All (lowE n f.cx pe) (OkF f pe)) : All (lowExpr (lowE n f.cx) f.cx e (view e)) (OkS f (.Expr e pos)) := by
  have ve := Jd e
  revert ve
  cases view e with
  | call g as kws p =>
    intro ve
    replace ve : Expr.Call g as kws p = e := ve
    have vg := Jd g
    show All (lowExpr2 (lowE n f.cx) f.cx e as kws p (view g)) _
    revert vg
    cases view g with
    | attr a m ap =>
      intro vg
      replace vg : Expr.Attribute a m ap = g := vg
      subst vg
      subst ve
      refine .ite fun c => ?_
      have c := Bool.and_eq_true_iff.mp c
      cases kws with
      | cons => exact nomatch c.1
      | nil => exact ZIr W T c.2 hE
    | name g' gp =>
      intro vg
      replace vg : Expr.Name g' gp = g := vg
      subst vg
      subst ve
      exact .map fun e he => Hc W (hE _ e he)
    | _ => exact fun _ => .no
  | _ => exact fun _ => .no
theorem Wm {cx : Cx} (a : Expr) : All (ownNm cx (view a)) fun j => ∃ y yp, a = .Name y yp ∧ cx.var y = some j := by
  have va := Jd a
  revert va
  cases view a with
  | name y yp =>
    intro va
    replace va : Expr.Name y yp = a := va
    subst va
    exact .bind fun j' h1 => .ite fun _ => .so ⟨y, yp, rfl, h1⟩
  | _ => exact fun _ => .no
theorem ZIs (W : WfF f) (T : Thr f) (hE : ∀ pe, All (lowE n f.cx pe) (OkF f pe)) : All (lowRet (lowE n f.cx) f.cx e (view e)) (OkS f (.Return (some e) pos)) := by
  have ve := Jd e
  have plain : All ((lowE n f.cx e).map TC.S.ret) (OkS f (.Return (some e) pos)) := .map fun e' he => Wp W T (hE e e' he)
  revert ve
  cases view e with
  | name x p =>
    intro ve
    replace ve : Expr.Name x p = e := ve
    show All ((f.cx.var x).elim ((lowE n f.cx e).map TC.S.ret) fun i => some (TC.S.retm i)) _
    cases q : f.cx.var x with
    | none => exact plain
    | some i => exact .so (ve ▸ ZBl W q)
  | tuple es tn tp =>
    intro ve
    replace ve : Expr.Tuple es tn tp = e := ve
    have plain : All ((lowE n f.cx e).map fun e' => fzs (ownsIn f.cx (view e)) (TC.S.ret e')) (OkS f (.Return (some e) pos)) := .map fun e' he => VW W (Wp W T (hE e e' he)) _
    rcases es with _ | ⟨a, _ | ⟨b, _ | ⟨d, es⟩⟩⟩
    · exact plain
    · exact plain
    · show All ((asStrC a).elim ((ownNm f.cx (view a)).elim ((lowE n f.cx e).map fun e' => fzs (ownsIn f.cx (view e)) (TC.S.ret e')) fun j => (ownNm f.cx (view b)).map fun k => TC.S.ret2 j k) fun s => (lowE n f.cx b).map (TC.S.rets s)) _
      cases qs : asStrC a with
      | some sx =>
        subst ve
        refine .map fun e' he => ?_
        obtain ⟨z, hz, h2⟩ := Option.bind_eq_some_iff.mp qs
        obtain ⟨ci, cp, rfl⟩ := VV a z hz
        cases z with
        | str s' => cases h2; exact ZBm W T (hE b e' he)
        | _ => exact nomatch h2
      | none =>
        cases q : ownNm f.cx (view a) with
        | none => exact plain
        | some j =>
          subst ve
          refine .map fun k q2 => ?_
          obtain ⟨y, yp, rfl, h1⟩ := Wm a j q
          obtain ⟨y2, yp2, rfl, h2⟩ := Wm b k q2
          exact ZBk W h1 h2
    · exact plain
  | _ => exact fun _ => plain
theorem ZEu (W : WfF f) (T : Thr f) : All (lowRaise f.cx (view e)) (OkS f (.Raise (some e) none pos)) := by
  have ve := Jd e
  revert ve
  cases view e with
  | call g as kws p =>
    intro ve
    replace ve : Expr.Call g as kws p = e := ve
    subst ve
    rcases as with _ | ⟨a, _ | ⟨a2, as⟩⟩
    · exact .no
    · cases kws with
      | cons => exact .no
      | nil =>
        refine .ite fun c => .bind fun x hx => .ite fun hg => .map fun k hc => ?_
        obtain ⟨np, rfl⟩ := QI g x hx
        obtain ⟨y, k, q, rfl, hy⟩ := VH c
        cases y with
        | str msg => exact ZBj W T hg hc
        | _ => exact nomatch hy
    · exact .no
  | _ => exact fun _ => .no
theorem ZJn {tgt : Tgt} {b : Ss} {body : List Stmt} (W : WfF f) (T : Thr f) (hE : ∀ pe, All (lowE n f.cx pe) (OkF f pe)) (ht : lowTgt f.cx (view t) = some tgt) (hb : OkB f body b) : All (lowFor (lowE n f.cx) f.cx e tgt b (view e)) (OkS f (.For t e body [] pos)) := by
  have ve := Jd e
  have plain : All ((lowE n f.cx e).map fun src => TC.S.loop tgt src b) (OkS f (.For t e body [] pos)) := .map fun e' he => ZAa W T ht (hE e e' he) (UE e e' he) hb
  revert ve
  cases view e with
  | name x p =>
    intro ve
    replace ve : Expr.Name x p = e := ve
    exact .map fun i hv => ve ▸ Ga W T ht hv hb
  | _ => exact fun _ => plain
theorem ZJb (IC : ∀ c, c.dep = dep → WfC c → Calls c) (IS : SS dep n) : SS dep (n + 1) := fun f hd W T st => by
  have hE' : ∀ f' : Ff, f'.dep = f.dep → f'.cx = f.cx → WfF f' → Thr f' → ∀ pe, All (lowE n f.cx pe) (OkF f' pe) := fun f' d c W' T' pe e he σ s R => Wq IC n (f'.ec σ s) (d.trans hd) (R.wf W' T') pe e (by show lowE n f'.cx pe = some e; rw [c]; exact he)
  have hE := hE' f rfl rfl W T
  have hB : ∀ sts, All (lowSs (lowS n f.cx) sts) (OkB f sts) := fun sts ts h f' d c W' T' => ZBo W' (fun st => IS f' (d.trans hd) W' T' st) ts (c ▸ h)
  have hS : ∀ sts, All (lowSs (lowS n f.cx) sts) (OkSs f sts) := fun sts ts h => hB sts ts h f rfl rfl W T
  show All (lowSV (lowE n f.cx) (lowS n f.cx) f.cx st) (OkS f st)
  cases st with
  | Assign ts v pos =>
    rcases ts with _ | ⟨t, _ | ⟨t2, ts⟩⟩
    · exact .no
    · exact ZGo IC hd W T hE
    · exact .no
  | Expr e pos => exact ZGy IC hd W T hE
  | If t a b pos => exact .bind fun c h1 => .bind fun a' h2 => .map fun b' h3 => ZDo W (hE t c h1) (hS a a' h2) (hS b b' h3)
  | For t iter body orelse pos =>
    cases orelse with
    | nil => exact .bind fun tgt ht => .bind fun b hb => ZJn W T hE ht (hB body b hb)
    | cons => exact .no
  | While c body orelse pos =>
    cases orelse with
    | nil => exact .bind fun c' hc => .map fun b hb => ZFp W T (fun f' d e W' T' => hE' f' d e W' T' c c' hc) (hB body b hb)
    | cons => exact .no
  | Return e pos =>
    cases e with
    | none => exact .no
    | some e => exact ZIs W T hE
  | Raise e c pos =>
    cases e with
    | none => exact .no
    | some e =>
      cases c with
      | none => exact ZEu W T
      | some => exact .no
  | _ => exact .no
theorem ZGh (IC : ∀ c, c.dep = dep → WfC c → Calls c) (n : Nat) : SS dep n := by
  induction n with
  | zero => exact fun f _ _ _ st => .no
  | succ n ih => exact ZJb IC ih
end
end TC

namespace TC
open PySem PySem.W PyProof.Rows

theorem Xy {names : List (Str × NameKind)} : ∀ {n : Nat} {x : Str} {i : Nat}, (x, i) ∈ slotsOf names n → n ≤ i ∧ ((x, NameKind.local) ∈ names ∨ (x, NameKind.cell) ∈ names) := by
  induction names with
  | nil => intro n x i h; cases h
  | cons p r ih =>
    intro n x i h
    unfold slotsOf at h
    cases q : (p.2 == NameKind.local || p.2 == NameKind.cell) with
    | true =>
      rw [q] at h
      rcases List.mem_cons.mp h with e | h
      · cases e
        simp only [Bool.or_eq_true, beq_iff_eq] at q
        exact ⟨Nat.le_refl _, q.imp (fun e => by rw [← e]; exact .head _) fun e => by rw [← e]; exact .head _⟩
      · exact ⟨Nat.le_of_succ_le (ih h).1, (ih h).2.imp (.tail _) (.tail _)⟩
    | false => rw [q] at h; exact ⟨(ih h).1, (ih h).2.imp (.tail _) (.tail _)⟩
theorem UU {names : List (Str × NameKind)} : ∀ {n : Nat} {x y : Str} {i : Nat}, (x, i) ∈ slotsOf names n → (y, i) ∈ slotsOf names n → x = y := by
  induction names with
  | nil => intro n x y i h; cases h
  | cons p r ih =>
    intro n x y i h h'
    unfold slotsOf at h h'
    cases q : (p.2 == NameKind.local || p.2 == NameKind.cell) with
    | true =>
      rw [q] at h h'
      rcases List.mem_cons.mp h with e | h <;> rcases List.mem_cons.mp h' with e' | h'
      · cases e; cases e'; rfl
      · cases e; exact absurd (Xy h').1 (Nat.lt_irrefl _)
      · cases e'; exact absurd (Xy h).1 (Nat.lt_irrefl _)
      · exact ih h h'
    | false => rw [q] at h h'; exact ih h h'
theorem Ui {kd : Str → Option NameKind} {b : List (Str × Value)} : ∀ {m : Str → Option Value} {x : Str}, (∀ p ∈ b, p.1 ≠ x) → bindL kd b m x = m x := by
  induction b with
  | nil => exact fun _ => rfl
  | cons p r ih =>
    intro m x h
    unfold bindL
    rw [ih fun p hp => h p (.tail _ hp)]
    split
    · exact if_neg fun e => h p (.head _) e.symm
    · rfl
theorem ZCw {kd : Str → Option NameKind} {b : List (Str × Value)} : ∀ {m : Str → Option Value} {x : Str} {v : Value}, (b.map (·.1)).Nodup → (x, v) ∈ b → kd x = some .local → bindL kd b m x = some v := by
  induction b with
  | nil => exact fun _ h => nomatch h
  | cons p r ih =>
    intro m x v nd h hk
    obtain ⟨n1, n2⟩ := List.nodup_cons.mp nd
    unfold bindL
    rcases List.mem_cons.mp h with e | h
    · cases e
      rw [Ui fun p hp e => n1 (List.mem_map.mpr ⟨p, hp, e⟩), if_pos hk]
      exact if_pos rfl
    · exact ih n2 h hk
theorem Uh {kd : Str → Option NameKind} {b : List (Str × Value)} : ∀ {m : Str → Option Value} {x : Str}, (∀ p ∈ b, p.1 ≠ x) → bindC kd b m x = m x := by
  induction b with
  | nil => exact fun _ => rfl
  | cons p r ih =>
    intro m x h
    unfold bindC
    rw [ih fun p hp => h p (.tail _ hp)]
    split
    · rfl
    · exact if_neg fun e => h p (.head _) e.symm
theorem ZCv {kd : Str → Option NameKind} {b : List (Str × Value)} : ∀ {m : Str → Option Value} {x : Str} {v : Value}, (b.map (·.1)).Nodup → (x, v) ∈ b → kd x ≠ some .local → bindC kd b m x = some v := by
  induction b with
  | nil => exact fun _ h => nomatch h
  | cons p r ih =>
    intro m x v nd h hk
    obtain ⟨n1, n2⟩ := List.nodup_cons.mp nd
    unfold bindC
    rcases List.mem_cons.mp h with e | h
    · cases e
      rw [Uh fun p hp e => n1 (List.mem_map.mpr ⟨p, hp, e⟩), if_neg hk]
      exact if_pos rfl
    · exact ih n2 h hk
theorem ZCy {names : List (Str × NameKind)} {n : Nat} (nd : (names.map (·.1)).Nodup) : ((cellsFrom n names []).map (·.1)).Nodup := by
  rw [Js]
  unfold List.Nodup
  rw [List.pairwise_reverse]
  exact (nd.sublist (List.filter_sublist.map _)).imp Ne.symm
theorem VS {names : List (Str × NameKind)} {n : Nat} (nd : (names.map (·.1)).Nodup) {x : Str} (h : names.lookup x = some .cell) : ∃ c, (cellsFrom n names []).lookup x = some c := by
  obtain ⟨c, hc⟩ := QA names n x (mem_of_lookup h)
  exact ⟨c, JW (ZCy nd) hc⟩
structure Fits (lm : Bool) (fns cls : List (Str × Nat)) (cst : List (Str × Int)) (fn : Fn) (ow : List Nat) (params : Arguments) (scope : Scope) (body : List Stmt) (b : Ss) : Prop where
  kind : scope.kind = .function
  gen : scope.isGenerator = false
  co : scope.isCoroutine = false
  nd : (scope.names.map (·.1)).Nodup
  free : ∀ p ∈ scope.names, p.2 ≠ .free
  args : (params.args.map fun a => (slotsOf scope.names 0).lookup a.arg) = (List.range fn.np).map some
  ns : (slotsOf scope.names 0).length = fn.ns
  low : lowSs (lowS 40 { kd := scope.names, tb := slotsOf scope.names 0, nx := fn.ns, fns := fns, cls := cls, cst := cst, ow := ow, lm := lm }) body = some b
theorem Hj {lm : Bool} {fns cls : List (Str × Nat)} {cst : List (Str × Int)} {fn : Fn} {ow : List Nat} {params : Arguments} {scope : Scope} {body : List Stmt} : All (fnMatch lm fns cls cst fn ow params scope body) (Fits lm fns cls cst fn ow params scope body) := .ite fun q b h => by
  simp only [Bool.and_eq_true, beq_iff_eq, Bool.not_eq_true', decide_eq_true_eq, List.all_eq_true, bne_iff_ne] at q
  obtain ⟨⟨⟨⟨⟨⟨⟨⟨⟨⟨⟨q1, q2⟩, q3⟩, q4⟩, q5⟩, q6⟩, q7⟩, q8⟩, q9⟩, q10⟩, q11⟩, q12⟩ := q
  exact ⟨q1, q2, q3, q4, q5, q11, q12, h⟩
theorem Uf {names : List (Str × NameKind)} {args : List Arg} {np : Nat} (h : (args.map fun a => (slotsOf names 0).lookup a.arg) = (List.range np).map some) :
    (args.map (·.arg)).length = np ∧ (args.map (·.arg)).Nodup ∧ ∀ i nm, (args.map (·.arg))[i]? = some nm → (slotsOf names 0).lookup nm = some i := by
  have l : args.length = np := by have := congrArg List.length h; rwa [List.length_map, List.length_map, List.length_range] at this
  have e : (args.map (·.arg)).map ((slotsOf names 0).lookup ·) = (List.range np).map some := by rw [List.map_map]; exact h
  refine ⟨by rw [List.length_map, l], ?_, fun i nm q => ?_⟩
  · have nd : List.Nodup ((List.range np).map some) := List.Pairwise.map some (fun a b ne e => ne (Option.some.inj e)) List.nodup_range
    rw [← e] at nd
    exact List.Pairwise.of_map _ (fun a b ne e => ne (by rw [e])) nd
  · have lt : i < np := by have := (List.getElem?_eq_some_iff.mp q).1; rwa [List.length_map, l] at this
    have := congrArg (·[i]?) e
    rw [List.getElem?_map] at this q
    rw [List.getElem?_map, q, List.getElem?_map, List.getElem?_range lt] at this
    exact Option.some.inj this
theorem ZGk {α β : Type} {a : List α} : ∀ {b : List β} {p : α × β}, p ∈ a.zip b → ∃ i : Nat, a[i]? = some p.1 ∧ b[i]? = some p.2 := by
  induction a with
  | nil => exact fun h => nomatch h
  | cons x a ih =>
    intro b p h
    cases b with
    | nil => exact nomatch h
    | cons y b =>
      rcases List.mem_cons.mp h with rfl | h
      · exact ⟨0, rfl, rfl⟩
      · obtain ⟨i, h1, h2⟩ := ih h; exact ⟨i + 1, h1, h2⟩
theorem Vr {α β : Type} {a : List α} : ∀ {b : List β} {i : Nat} {x : α} {y : β}, a[i]? = some x → b[i]? = some y → (x, y) ∈ a.zip b := by
  induction a with
  | nil => exact fun h => nomatch h
  | cons x a ih =>
    intro b i x y h1 h2
    cases b with
    | nil => exact nomatch h2
    | cons y b =>
      cases i with
      | zero => cases h1; cases h2; exact .head _
      | succ i => exact .tail _ (ih (i := i) h1 h2)
theorem Vb {names : List (Str × NameKind)} (nd : (names.map (·.1)).Nodup) {x : Str} {i : Nat} (h : (slotsOf names 0).lookup x = some i) : names.lookup x = some .local ∨ names.lookup x = some .cell :=
  (Xy (mem_of_lookup h)).2.imp (JW nd) (JW nd)
theorem VR.outer {ca : List Addr} {h₁ : Heap} {pls hid fr : AP} {h : Heap} {v : Value} {u : V} (r : VR ca h₁ (fun b => pls b ∨ hid b) fr h v u) : VR ca h₁ hid fr h v u := by
  cases u with
  | d x => exact PR.anti r fun b q => .inr q
  | own x => obtain ⟨a, e, n, q⟩ := r; exact ⟨a, e, n, q.move (fun b o n e => ⟨fun q => n (q.imp_right .inr), e⟩) fun o e => e⟩
  | ot y z => exact OtV.move r (fun _ q => q) (fun _ _ _ e => e) fun b o n e => ⟨fun q => n (.inr q), e⟩
  | _ => exact r
end TC

namespace TC
open PySem PySem.W PyProof.Rows

noncomputable abbrev Cf.enter (c : Cf) (m : Nat) (cx : Cx) (env : Env) (s : Shared) (E : Value → Shared → Prop) : Ff := { G := c.G, dep := m, cx := cx, env := env, own := env.cells, s₀ := s, hid0 := c.hid, envs0 := c.envs, hm := c.hm, A := c.A.deeper env, X := fun k _ => c.X k, E := E, lam := none }
noncomputable abbrev cxOf (G : Gl) (lm : Bool) (fn : Fn) (ow : List Nat) (names : List (Str × NameKind)) : Cx := { kd := names, tb := slotsOf names 0, nx := fn.ns, fns := G.fns, cls := G.cls, cst := G.cst, ow := ow, lm := lm }
noncomputable abbrev envOf (d : DefRec) (pm code doc : Value) (L z : Addr) : Env := callEnvC (Calls.docDef d.name d.params d.body d.scope pm code doc) L z
section
variable {lm : Bool} {c : Cf} {s s₁ : Shared} {m : Nat} {fn : Fn} {ow : List Nat} {d : DefRec} {pm code doc : Value} {z : Addr} {vs : List Value} {us : List V} {E : Value → Shared → Prop}
theorem WQ (W : WfC c) (a : AtC c s) (hd : c.dep = m + 1) (F : Fits lm c.G.fns c.G.cls c.G.cst fn ow d.params d.scope d.body fn.body) (newp : ∀ b, pls (envOf d pm code doc s.heap.objs.size z) (envOf d pm code doc s.heap.objs.size z).cells b → s.heap.get? b = none) : WfF (c.enter m (cxOf c.G false fn ow d.scope.names) (envOf d pm code doc s.heap.objs.size z) s E) := by
  have h1 := W.depth
  have h2 := W.units
  rw [hd] at h1 h2
  have cl : ∀ x, d.scope.names.lookup x = some .cell → ∃ b, (envOf d pm code doc s.heap.objs.size z).cells.lookup x = some b := fun x q => VS F.nd q
  have nf : ∀ x, d.scope.names.lookup x ≠ some .free := fun x q => F.free _ (mem_of_lookup q) rfl
  refine ⟨W.ok, ?_, ?_, Around.frames_deeper a.stk.frames, rfl, a.stk.funs, a.stk.base, W.sub, a.dom, newp, ⟨F.kind, rfl, rfl, rfl, rfl, rfl, rfl, fun x q => q.elim (cl x) fun q => absurd q (nf x), fun x q => absurd q (nf x)⟩, fun x b e => e, fun x y i h1 h2 => UU (mem_of_lookup h1) (mem_of_lookup h2), fun x i hv => ?_, nofun, nofun⟩
  · show c.A.depth + 1 + m ≤ 900; lia
  · show c.A.units + 3 + 20 * m ≤ 9000; lia
  · exact (Vb F.nd (Jo hv).2.1).imp_right fun z => ⟨z, cl x z⟩
theorem ZGe {n i : Nat} {u : V} (h : (us.map some ++ List.replicate n none)[i]? = some (some u)) : us[i]? = some u := by
  by_cases lt : i < us.length
  · rw [List.getElem?_append_left (by rw [List.length_map]; exact lt), List.getElem?_map] at h
    obtain ⟨u', h', e⟩ := Option.map_eq_some_iff.mp h
    cases e; exact h'
  · rw [List.getElem?_append_right (by rw [List.length_map]; exact Nat.le_of_not_lt lt), List.getElem?_replicate] at h
    split at h <;> cases h
theorem WP (W : WfC c) (a : AtC c s) (F : Fits lm c.G.fns c.G.cls c.G.cst fn ow d.params d.scope d.body fn.body) (lu : us.length = fn.np) (lp : fn.np ≤ fn.ns) (r : Rs (fun v u => VR c.G.ca s.heap c.hid c.fr s.heap v u ∧ argV u = some u) vs us)
    (x : InCallC s (envOf d pm code doc s.heap.objs.size z).locals (bindL (envOf d pm code doc s.heap.objs.size z).kindOf ((d.params.args.map (·.arg)).zip vs) fun _ => none) (envOf d pm code doc s.heap.objs.size z).cells (bindC (envOf d pm code doc s.heap.objs.size z).kindOf ((d.params.args.map (·.arg)).zip vs) fun _ => none) s₁)
    (newp : ∀ b, pls (envOf d pm code doc s.heap.objs.size z) (envOf d pm code doc s.heap.objs.size z).cells b → s.heap.get? b = none) :
    StR (c.enter m (cxOf c.G false fn ow d.scope.names) (envOf d pm code doc s.heap.objs.size z) s E) ⟨fun _ => False, fun _ _ => False, us.map some ++ List.replicate (fn.ns - fn.np) none⟩ s₁ := by
  have keep := x.toInCall.keep
  have sm : Same s s₁ := by obtain ⟨h1, tk1, es⟩ := x.toInCall.same; rw [es]; exact ⟨rfl, rfl⟩
  refine ⟨Ext.of keep, sm, ⟨F.kind, ⟨_, x.toInCall.ns⟩, fun y b e => ⟨_, x.cell y b e⟩, fun y b e => e, fun y b e w e' => name_of_addr x.apart (mem_of_lookup e') (mem_of_lookup e)⟩, a.hok.at fun b _ o e => keep b o e, fun _ q => q.elim, fun _ q => q.elim, fun _ _ q => q.elim, fun _ _ _ _ q => q.elim, ?_, fun y i hy u hu => ?_, nofun⟩
  · show (us.map some ++ List.replicate (fn.ns - fn.np) none).length = fn.ns
    rw [List.length_append, List.length_map, List.length_replicate]; lia
  · have hi := ZGe hu
    obtain ⟨a1, a2, a3⟩ := Uf F.args
    obtain ⟨v, hv, rv, au⟩ := r.at hi
    have li : i < (d.params.args.map (·.arg)).length := by rw [a1, ← lu]; exact (List.getElem?_eq_some_iff.mp hi).1
    have hn := List.getElem?_eq_getElem li
    have ey : y = (d.params.args.map (·.arg))[i] := UU (mem_of_lookup hy) (mem_of_lookup (a3 i _ hn))
    rw [← ey] at hn
    have mem := Vr hn hv
    have nd : (((d.params.args.map (·.arg)).zip vs).map (·.1)).Nodup := by
      rw [List.map_fst_zip (Nat.le_of_eq (by rw [a1, ← lu, r.length]))]; exact a2
    refine ⟨v, ?_, ?_⟩
    · rcases Vb F.nd hy with q | q
      · exact .inl ⟨q, _, x.toInCall.ns, ZCw nd mem q⟩
      · obtain ⟨b, hb⟩ := VS (n := s.heap.objs.size + 1) F.nd q
        refine .inr ⟨.inl q, b, hb, ?_⟩
        have := x.cell y b hb
        rw [ZCv nd mem (fun w => by have := q.symm.trans w; cases this)] at this
        exact this
    · cases u with
      | d w => exact PR.move (fun b o n e => ⟨fun q => q.elim id fun q => q.elim (fun q => JJ e (newp b q)) n, keep b o e⟩) rv
      | brw w => exact rv
      | exc k => exact ExcAt.ext rv (Ext.of (fr := c.fr) keep)
      | own w => exact nomatch au
      | ot y z => exact absurd au (by rintro ⟨⟩)
      | oh y z => exact nomatch au
      | rg n => exact nomatch au
theorem ZIw (IC : ∀ c : Cf, c.dep = m → WfC c → Calls c) (hd : c.dep = m + 1) (W : WfC c) {f : Nat} {K : V → Prop} {Q : Value → Shared → Prop} (hf : c.G.fa[f]? = some z) (a : AtC c s) (r : Rs (fun v u => VR c.G.ca s.heap c.hid c.fr s.heap v u ∧ argV u = some u) vs us) (w : Φ c c.hm f us K c.X)
    (k : ∀ v s' u, AtC c s' → Ext c.fr s.heap s'.heap → VR c.G.ca s.heap c.hid c.fr s'.heap v u → K u → Q v s') : codeAny c.M c.A (.call (.ref z) ⟨vs, []⟩) (fun r s' => match r with | .ok (.ret v) => Q v s' | .ok _ => False | .error e => c.E e s') s := by
  obtain ⟨d, fn, ow, hdd, hns, htab, hmt, hbind⟩ := W.ok.fok f z hf
  have F := Hj fn.body hmt
  have w : got (c.G.tab[f]?) fun fn => (us.length = fn.np ∧ fn.np ≤ fn.ns) ∧ wpSs (wpCall c.G.tab m) c.hm fn.body (us.map some ++ List.replicate (fn.ns - fn.np) none) (outK K) (fun k _ => c.X k) := by
    have w := w; unfold Φ at w; rw [hd] at w; exact w
  rw [htab] at w
  obtain ⟨⟨lu, lp⟩, w⟩ := w
  obtain ⟨z', o, pm, code, doc, e1, e2, e3, e4⟩ := W.ok.top.fn d hdd
  have ez : z' = z := by
    have := mg_of W.ok.inK W.ok.top.g hns
    rw [this] at e1; cases e1; rfl
  subst ez
  have b := a.stk.base
  have lv : vs.length = fn.np := by rw [r.length, lu]
  refine codeAny_call_cells (fd := Calls.docDef d.name d.params d.body d.scope pm code doc) ?_ (b _ _ e2) e3 (W.ok.top.nolimit.keeps b) (e4.keeps b) rfl (hbind pm code doc vs lv) rfl ?_ (fun s₁ x => ?_) F.co F.gen F.kind
  · have := W.depth; have : recursionLimit = 1000 := rfl; lia
  · intro p hp
    obtain ⟨i, h1, h2⟩ := ZGk hp
    refine (Vb F.nd ((Uf F.args).2.2 i p.1 h1)).imp_right fun q => ⟨q, ?_⟩
    obtain ⟨b, hb⟩ := VS (n := s.heap.objs.size + 1) F.nd q
    exact Option.isSome_iff_exists.mpr ⟨b, hb⟩
  · have newp : ∀ b, pls (envOf d pm code doc s.heap.objs.size z') (envOf d pm code doc s.heap.objs.size z').cells b → s.heap.get? b = none := fun b q => by
      rcases q with rfl | ⟨y, q⟩
      · exact Jc _
      · exact Heap.get?_none_of_le (Nat.le_of_lt (x.above y b (mem_of_lookup q)))
    have ext : ∀ {f : Ff} {h' : Heap}, f.fr0 = c.fr → f.h₀ = s.heap → WfF f → Ext f.fr f.h₀ h' → Ext c.fr s.heap h' := fun e1 e2 W' q => by
      rw [← e1, ← e2]
      exact q.down (Ext.refl _ _) fun b q n => ((Qc W').mp q).elim (fun q => W'.newp b (.inl q)) fun q => absurd q n
    have Wf' := fun E => WQ (E := E) (pm := pm) (code := code) (doc := doc) W a hd F newp
    have R0 := fun E => WP (m := m) (E := E) W a F lu lp r x newp
    refine ZBo (Wf' _) (fun st => ZGh IC 40 _ rfl (Wf' _) ?_ st) fn.body F.low _ s₁ _ _ (R0 _) w ⟨fun s' σ' R' ad hk => k .none s' (.d .none) (a.go R'.ext R'.same) R'.ext (PR.non ..) hk, fun s' v u σ' ρ R' rv hk => k v s' u (a.go R'.ext R'.same) R'.ext rv.outer hk⟩
    intro e s' j C fl σ' R' hC hl Fl hx
    refine ZDv (R'.sk (Wf' _)) rfl rfl (R'.extF (Wf' _)) hl Fl fun h2 x2 F2 => ?_
    have x3 := ext rfl rfl (Wf' _) x2
    exact W.thr e { s' with heap := h2 } j ⟨C, hC, F2.back a.ext, a.ext.trans x3⟩ (a.same.trans R'.same) hx
theorem ZKl (m : Nat) : ∀ c : Cf, c.dep = m → WfC c → Calls c := by
  induction m with
  | zero => intro c hd W s f z vs us K Q hf a r w k; unfold Φ at w; rw [hd] at w; exact w.elim
  | succ m ih => exact fun c hd W s f z vs us K Q hf a r w k => wpAny_call (ZIw ih hd W hf a r w k)
end
end TC

namespace TC
open PySem PySem.W PyProof.Rows


noncomputable def recAt (p : Program) (k : Nat) : DefRec := ((recsOf p)[k]?).getD ⟨Str.empty, default, [], default, default⟩
structure FnOk (lm : Bool) (p : Program) (fns cls : List (Str × Nat)) (cst : List (Str × Int)) (k : Nat) (name : Str) (fn : Fn) (ow : List Nat) : Prop where
  there : ((recsOf p)[k]?).isSome = true
  name : (recAt p k).name = name
  low : fnMatch lm fns cls cst fn ow (recAt p k).params (recAt p k).scope (recAt p k).body = some fn.body
  bind : ∀ (pm code doc : Value) (vals : List Value), vals.length = fn.np → bindArgs (Calls.docDef (recAt p k).name (recAt p k).params (recAt p k).body (recAt p k).scope pm code doc) ⟨vals, []⟩ = pure (((recAt p k).params.args.map (·.arg)).zip vals)
theorem FnOk.mem {lm : Bool} {p : Program} {fns cls : List (Str × Nat)} {cst : List (Str × Int)} {k : Nat} {name : Str} {fn : Fn} {ow : List Nat} (x : FnOk lm p fns cls cst k name fn ow) : recAt p k ∈ recsOf p := by
  obtain ⟨d, hd⟩ := Option.isSome_iff_exists.mp x.there
  unfold recAt; rw [hd]; exact List.mem_of_getElem? hd

noncomputable def isIntO (i : Int) : Option (Option Value) → Bool
  | some (some (.int j _)) => j == i
  | _ => false
noncomputable def checkK (K : Frag) (fn : List Str) (fa : List Addr) (cn : List Str) (ca : List Addr) (cst : List (Str × Int)) : Bool :=
  (fn.zip fa).all (fun q => nsIn K mainGlobals q.1 == some (some (.ref q.2))) && (cn.zip ca).all (fun q => nsIn K mainGlobals q.1 == some (some (.ref q.2)))
    && cst.all (fun q => isIntO q.2 (nsIn K mainGlobals q.1)) && usedNames.all (fun x => nsIn K mainGlobals x == some none) && ca.all (ownOk1 K)
    && (List.range ca.length).all fun c => (List.range ca.length).all fun c' => mroIn K (ca.getD c 0) (.ref (ca.getD c' 0)) == some (c' == 0 || c == c')

noncomputable def checkO (p : Program) (cn : List Str) : Bool := cn.all fun x => (ownsOf p).any fun o => o.name == x && o.bm == bmV && o.newId == "ValueError.__new__"
theorem XM {l : List Str} {x : Str} {k : Nat} (h : l.zipIdx.lookup x = some k) : l[k]? = some x := by
  have := mem_of_lookup h
  exact List.mk_mem_zipIdx_iff_getElem?.mp this
theorem Vq {α β : Type} {a : List α} {b : List β} {k : Nat} {x : α} (l : a.length = b.length) (h : a[k]? = some x) : ∃ y, b[k]? = some y ∧ (x, y) ∈ a.zip b := by
  have lt := (List.getElem?_eq_some_iff.mp h).1
  have hb : b[k]? = some b[k] := List.getElem?_eq_getElem (l ▸ lt)
  exact ⟨_, hb, Vr h hb⟩

noncomputable def AllZ {α β : Type} (P : Nat → α → β → Prop) : Nat → List α → List β → Prop
  | k, x :: xs, f :: fs => P k x f ∧ AllZ P (k + 1) xs fs
  | _, _, _ => True
theorem AllZ.cons {α β : Type} {P : Nat → α → β → Prop} {k : Nat} {x : α} {f : β} {xs : List α} {fs : List β} (h : P k x f) (r : AllZ P (k + 1) xs fs) : AllZ P k (x :: xs) (f :: fs) := ⟨h, r⟩
theorem AllZ.nil {α β : Type} {P : Nat → α → β → Prop} {k : Nat} : AllZ P k [] [] := trivial
theorem AllZ.at {α β : Type} {P : Nat → α → β → Prop} {xs : List α} : ∀ {n : Nat} {fs : List β}, AllZ P n xs fs → ∀ k x f, xs[k]? = some x → fs[k]? = some f → P (n + k) x f := by
  induction xs with
  | nil => exact fun _ k x f h => nomatch h
  | cons y xs ih =>
    intro n fs h k x f h1 h2
    cases fs with
    | nil => exact nomatch h2
    | cons g fs =>
      cases k with
      | zero => cases h1; cases h2; exact h.1
      | succ k => have := ih h.2 k x f h1 h2; rw [Nat.add_assoc, Nat.add_comm 1 k] at this; exact this
theorem len1 {vs : List Value} (h : vs.length = 1) : ∃ a, vs = [a] := by rcases vs with _ | ⟨a, _ | ⟨b, vs⟩⟩ <;> first | exact ⟨a, rfl⟩ | exact nomatch h
theorem len2 {vs : List Value} (h : vs.length = 2) : ∃ a b, vs = [a, b] := by
  cases vs with
  | nil => exact nomatch h
  | cons a vs => obtain ⟨b, rfl⟩ := len1 (Nat.succ.inj h); exact ⟨a, b, rfl⟩
theorem len3 {vs : List Value} (h : vs.length = 3) : ∃ a b c, vs = [a, b, c] := by
  cases vs with
  | nil => exact nomatch h
  | cons a vs => obtain ⟨b, c, rfl⟩ := len2 (Nat.succ.inj h); exact ⟨a, b, c, rfl⟩
theorem Qo : ∀ {K : Frag} {a : Addr} {o : Obj}, K.lookup a = some o → (a, o) ∈ K
  | [], _, _, e => nomatch e
  | (b, x) :: r, a, o, e => by
    rw [List.lookup_cons] at e
    cases hb : a == b with
    | true => rw [hb] at e; cases e; rw [eq_of_beq hb]; exact .head _
    | false => rw [hb] at e; exact .tail _ (Qo e)
structure Gh (P : Addr) (h g : Heap) : Prop where
  tab : h.get? P = some { cls := .none, data := .fields #[] }
  none : g.get? P = none
  sub : Keep g h
  sup : ∀ b o, b ≠ P → h.get? b = some o → g.get? b = some o
section
variable {P : Addr} {h g : Heap}
theorem Gh.of (e : h.get? P = some { cls := .none, data := .fields #[] }) : Gh P h (hideAll h [P]) :=
  ⟨e, hideAll_none _ (.head _), fun b o q => of_hideAll _ q, fun b o n q => hideAll_get _ q (by rw [List.mem_singleton]; exact n)⟩
theorem Gh.get (G : Gh P h g) {b : Addr} {o : Obj} (e : h.get? b = some o) (n : o ≠ { cls := .none, data := .fields #[] }) : g.get? b = some o := G.sup b o (fun z => n (Option.some.inj (e.symm.trans (z ▸ G.tab)))) e
theorem Gh.ns (G : Gh P h g) {a : Addr} {m : Str → Option Value} (x : h.Ns a m) : g.Ns a m := let ⟨o, es, ep, e, d, r⟩ := x; ⟨o, es, ep, G.get e (fun z => by rw [z] at d; cases d), d, r⟩
theorem Gh.top (G : Gh P h g) {p : Program} {loose : List Str} {mean : ExcName → Option Value} {mg mb : Str → Option Value} (T : Top p loose mean mg mb h) : TopL p mg mb g where
  g := G.ns T.g
  b := G.ns T.b
  nolimit := let ⟨mc, a, r⟩ := T.nolimit; ⟨mc, G.ns a, r⟩
  fn := fun d hd => by
    obtain ⟨a, o, pm, code, doc, e1, e2, e3, c, oc, vs, t, e4, e5, e6, e7⟩ := T.fn d hd
    exact ⟨a, o, pm, code, doc, e1, G.get e2 (fun z => by rw [z] at e3; cases e3), e3, c, oc, vs, t, e4, G.get e5 (fun z => by rw [z] at e6; cases e6; cases e7), e6, e7⟩
  builtins := T.builtins
  bmain := let ⟨bm, ob, a1, a2, a3, a4, r⟩ := T.bmain; ⟨bm, ob, a1, a2, G.get a3 (fun z => by rw [z] at a4; cases a4), a4, r⟩
theorem Gh.tail (G : Gh P h g) {bmB tl : List Value} (x : OwnTail h bmB tl) : OwnTail g bmB tl := by
  induction x with
  | base => exact .base
  | own a n i _ ih => exact .own (G.get a nofun) (G.ns n) i ih
theorem Gh.owns (G : Gh P h g) {x : Str} {C : Addr} {bm : List Value} {newId : String} {mg : Str → Option Value} (O : OwnCls x C bm newId mg h) : OwnCls x C bm newId mg g :=
  let ⟨bm', N, nm, q, bs, hdct, sn, sub, ab, col, dd, k0, k1, k2, k3, k5, mN, hC, hN, hni, T⟩ := O.obj
  ⟨O.bound, bm', N, nm, q, bs, hdct, sn, sub, ab, col, dd, k0, k1, k2, k3, k5, mN, G.get hC nofun, G.ns hN, hni, G.tail T⟩
noncomputable def noTab (K : Frag) : Bool := K.all fun p => p.2.cls != .none
theorem Gh.inK (G : Gh P h g) {K : Frag} (X : K.In h) (n : noTab K = true) : K.In g := fun a o e => by
  refine G.get (X a o e) fun z => ?_
  have := List.all_eq_true.mp n (a, o) (Qo e)
  subst z
  exact absurd (show (Value.none != Value.none) = true from this) (by decide)
end
theorem ZKu {prog : Program} {w : World} {K : Frag} {B : Heap} {p : Program} {loose : List Str} {mean : ExcName → Option Value} {mg mb : Str → Option Value} (fn : List Str) (fa : List Addr) (cn : List Str) (ca : List Addr) (cst : List (Str × Int)) (tab : List Fn) (ows : List (List Nat))
    (KX : K.In B) (T : TopL p mg mb B) (ow : ∀ o ∈ ownsOf p, ∃ C, mg o.name = some (.ref C) ∧ OwnCls o.name C o.bm o.newId mg B) (ck : checkK K fn fa cn ca cst = true) (co : checkO p cn = true) (l1 : fn.length = fa.length) (l2 : cn.length = ca.length) (l3 : tab.length = fa.length)
    (fz : AllZ (fun k x f => ∃ ow, FnOk false p fn.zipIdx cn.zipIdx cst k x f ow) 0 fn tab) : (Gl.mk prog w K B p loose mean mg mb fn.zipIdx fa cn.zipIdx ca cst tab).Ok := by
  have fo : ∀ k x f, fn[k]? = some x → tab[k]? = some f → ∃ ow, FnOk false p fn.zipIdx cn.zipIdx cst k x f ow := fun k x f h1 h2 => by have := fz.at k x f h1 h2; rw [Nat.zero_add] at this; exact this
  unfold checkK at ck
  simp only [Bool.and_eq_true, List.all_eq_true, beq_iff_eq] at ck
  obtain ⟨⟨⟨⟨⟨c1, c2⟩, c3⟩, c4⟩, c5⟩, c6⟩ := ck
  refine ⟨KX, T, fun x k h => ?_, fun x k h => ?_, fun x i h => ?_, c4, fun k a h => ?_, fun c C h => c5 C (List.mem_of_getElem? h), fun c C c' C' h h' => ?_, fun c C h => ?_⟩
  · obtain ⟨a, h1, h2⟩ := Vq l1 (XM h)
    exact ⟨a, h1, c1 _ h2⟩
  · obtain ⟨a, h1, h2⟩ := Vq l2 (XM h)
    exact ⟨a, h1, c2 _ h2⟩
  · have := c3 _ (mem_of_lookup h)
    unfold isIntO at this
    split at this
    · rename_i j t e
      rw [beq_iff_eq.mp this] at e
      exact ⟨t, e⟩
    · cases this
  · obtain ⟨x, h1, h2⟩ := Vq l1.symm h
    have lt := (List.getElem?_eq_some_iff.mp h).1
    obtain ⟨ow, q⟩ := fo k x _ h1 (List.getElem?_eq_getElem (l3 ▸ lt))
    refine ⟨recAt p k, _, ow, q.mem, ?_, List.getElem?_eq_getElem (l3 ▸ lt), q.low, q.bind⟩
    rw [q.name]
    exact c1 _ (Vr h1 h)
  · have e1 := List.getElem?_eq_some_iff.mp h
    have e2 := List.getElem?_eq_some_iff.mp h'
    have := c6 c (List.mem_range.mpr e1.1) c' (List.mem_range.mpr e2.1)
    rw [List.getD_eq_getElem?_getD, List.getD_eq_getElem?_getD, show ca[c]? = some C from h, show ca[c']? = some C' from h'] at this
    exact this
  · obtain ⟨x, h1, h2⟩ := Vq l2.symm h
    have mx : x ∈ cn := List.mem_of_getElem? h1
    unfold checkO at co
    obtain ⟨o, ho, q⟩ := List.any_eq_true.mp (List.all_eq_true.mp co x mx)
    simp only [Bool.and_eq_true, beq_iff_eq] at q
    obtain ⟨⟨q1, q2⟩, q3⟩ := q
    obtain ⟨C', e1, w⟩ := ow o ho
    have e2 := mg_of KX T.g (c2 _ (Vr h1 h))
    rw [q1] at e1
    have e3 : C' = C := by
      have := e1.symm.trans e2
      cases this; rfl
    subst e3
    rw [q2, q3] at w
    exact ⟨_, w⟩

theorem ZCj {P : Params} {h : Heap} {hid : AP} {sc : List Int} : ∀ {vs : List Value}, WellAll P h vs (ofPys (sc.map .int)) → PRs hid h vs (ofInts sc) := by
  induction sc with
  | nil => intro vs x; cases x; exact .nil
  | cons i sc ih =>
    intro vs x
    cases x with
    | cons a b =>
      cases a with
      | int _ t => exact .cons (.int i t) (ih b)
end TC

namespace TC
open PySem PySem.W PyProof.Rows

section
variable {prog : Program} {w : World} {K : Frag} {p : Program} {loose : List Str} {mean : ExcName → Option Value} {mg mb : Str → Option Value} {fn : List Str} {fa : List Addr} {cn : List Str} {ca : List Addr} {cst : List (Str × Int)} {tab : List Fn} {s₁ : Shared}
theorem Wz (sc : List Int) : allOf intOf (ofInts sc) = some sc := by
  induction sc with
  | nil => rfl
  | cons i sc ih => show ((allOf intOf (ofInts sc)).map (i :: ·)) = _; rw [ih]; rfl
theorem law_ends (KX : K.In s₁.heap) (T : Top p loose mean mg mb s₁.heap) (nt : noTab K = true) (ck : checkK K fn fa cn ca cst = true) (co : checkO p cn = true) (l1 : fn.length = fa.length) (l2 : cn.length = ca.length) (l3 : tab.length = fa.length)
    (fz : AllZ (fun k x f => ∃ ow, FnOk false p fn.zipIdx cn.zipIdx cst k x f ow) 0 fn tab) {kl : Nat} {lf : Fn} {ow : List Nat} (hl : FnOk true p fn.zipIdx cn.zipIdx cst kl "law" lf ow) {la : Addr} (hla : nsIn K mainGlobals "law" = some (some (.ref la)))
    {P : Params} {l : Addr} {sc : List Int} (W : Well P s₁.heap (.ref l) (ofPy (.list (sc.map .int)))) (hg : s₁.gens = #[]) (hnp : lf.np = 1) (hns : 1 ≤ lf.ns)
    (wl : wpSs (wpCall tab 19) false lf.body (some (.d (.list (ofInts sc))) :: List.replicate (lf.ns - 1) none) (outK fun u => u = .d (.bool true)) (fun _ _ => False)) {c : ClaimW} {cl : Str → Option Addr} {mean' : ExcName → Option Value} {args : List WData} (hn : ∀ cls, c.raises args cls = false) (hp : c.post args (.bool true) args = true) :
    codeAny (model prog w) callerA (.call (.ref la) ⟨[.ref l], []⟩) (GoodWG c cl mean' args s₁) s₁ := by
  obtain ⟨a, o, fd, cc, Pt, t1, t2, t3, t4, ic, it⟩ := T.tab _ hl.mem
  obtain ⟨z, o', pm, code, doc, e1, e2, e3, e4⟩ := T.fn _ hl.mem
  have ez : z = la := by
    rw [hl.name] at e1
    have := e1.symm.trans (mg_of KX T.g hla)
    cases this; rfl
  subst ez
  have ea : a = z := by have := t1.symm.trans e1; cases this; rfl
  subst ea
  have eo : o = o' := Option.some.inj (t2.symm.trans e2)
  subst eo
  have ec : code = .ref cc := by rw [e3] at t3; cases t3; exact t4
  subst ec
  have Gz := Gh.of it.2
  generalize hideAll s₁.heap [Pt] = g at Gz
  have O := ZKu (prog := prog) (w := w) (loose := loose) (mean := mean) fn fa cn ca cst tab [] (Gz.inK KX nt) (Gz.top T) (fun o ho => let ⟨C, q, _⟩ := T.own o ho; ⟨C, q.bound, Gz.owns q.own⟩) ck co l1 l2 l3 fz
  have F := Hj lf.body hl.low
  have r : PR (fun b => b = Pt) s₁.heap (.ref l) (.list (ofInts sc)) := by
    cases W with
    | list e r => exact .list (fun q => by have := it.2; rw [← q, e] at this; cases this) e (ZCj r)
  let E : Value → Shared → Prop := fun e s' => GoodWG c cl mean' args s₁ (.error e) s'
  let k : Cf := { G := Gl.mk prog w K g p loose mean mg mb fn.zipIdx fa cn.zipIdx ca cst tab, dep := 20, cx := ⟨[], [], 0, [], [], [], [], false⟩, env := envOf (recAt p 0) .none .none .none 0 0, hm := false, A := callerA, envs := [], hid := fun _ => False, ρ := [], b := s₁, X := fun _ => False, E := E }
  have Wk : WfC k := ⟨O, (by show callerA.depth + 20 ≤ 900; decide), (by show callerA.units + 20 * 20 ≤ 9000; decide), (fun b q => nomatch q), (fun b q => q.elim), fun e s' k _ _ q => q.elim⟩
  have Ak : AtC k s₁ := ⟨⟨rfl, trivial, fun b o e => Gz.sub b o e⟩, .inl ⟨rfl, rfl⟩, (fun b q => q.elim), Ext.refl _ _, Same.refl _⟩
  have r0 : PR (fun _ => False) s₁.heap (.ref l) (.list (ofInts sc)) := r.anti fun _ q => q.elim
  have ra : Rs (fun v u => VR k.G.ca s₁.heap k.hid k.fr s₁.heap v u ∧ argV u = some u) [.ref l] [V.d (.list (ofInts sc))] := .cons ⟨r0, rfl⟩ .nil
  refine codeAny_call_cells (fd := Calls.docDef (recAt p kl).name (recAt p kl).params (recAt p kl).body (recAt p kl).scope pm (.ref cc) doc) (by decide) e2 e3 T.nolimit e4 rfl (hl.bind pm (.ref cc) doc [.ref l] hnp.symm) rfl ?_ (fun s₂ x => ?_) F.co F.gen F.kind
  · intro q hq
    obtain ⟨i, h1, h2⟩ := ZGk hq
    refine (Vb F.nd ((Uf F.args).2.2 i q.1 h1)).imp_right fun z => ⟨z, ?_⟩
    obtain ⟨b, hb⟩ := VS (n := s₁.heap.objs.size + 1) F.nd z
    exact Option.isSome_iff_exists.mpr ⟨b, hb⟩
  · have newp : ∀ b, pls (envOf (recAt p kl) pm (.ref cc) doc s₁.heap.objs.size a) (envOf (recAt p kl) pm (.ref cc) doc s₁.heap.objs.size a).cells b → s₁.heap.get? b = none := fun b q => by
      rcases q with rfl | ⟨y, q⟩
      · exact Jc _
      · exact Heap.get?_none_of_le (Nat.le_of_lt (x.above y b (mem_of_lookup q)))
    let fL : (Value → Shared → Prop) → Ff := fun E => { k.enter 19 (cxOf k.G true lf ow (recAt p kl).scope.names) (envOf (recAt p kl) pm (.ref cc) doc s₁.heap.objs.size a) s₁ E with s₀ := { s₁ with heap := g }, lam := some (cc, Pt) }
    have keep := x.toInCall.keep
    have lp : lf.np ≤ lf.ns := hnp ▸ hns
    have W1 : ∀ E, WfF (fL E) := fun E => by
      have W0 := WQ (lm := true) (E := E) (pm := pm) (code := .ref cc) (doc := doc) (z := a) (m := 19) (ow := ow) Wk Ak rfl F newp
      have e := W0.envok
      exact ⟨W0.ok, W0.depth, W0.units, W0.frames, W0.frame, trivial, fun b o e => e, W0.sub0, fun b q => q.elim, fun b q => Qe fun o e => JJ (Gz.sub b o e) (W0.newp b q), ⟨e.kind, e.names, e.glob, e.bns, e.fns, e.cls, e.cst, e.cells, e.nocd⟩, W0.cells, W0.inj, W0.bnd, fun c P e => ⟨rfl, fun _ _ q => q⟩, fun _ => ⟨cc, Pt, rfl, rfl⟩⟩
    have L2 : LamAt cc Pt ((envOf (recAt p kl) pm (.ref cc) doc s₁.heap.objs.size a).qual ++ "<lambda>") s₂.heap := LamAt.move ⟨#[], ic, it, fun _ _ e => nomatch e⟩ fun b o vs _ _ e => keep b o e
    have R1 : ∀ E, StR (fL E) ⟨(· = Pt), fun _ _ => False, some (.d (.list (ofInts sc))) :: List.replicate (lf.ns - 1) none⟩ s₂ := fun E => by
      have R0 := WP (lm := true) (m := 19) (E := E) (ow := ow) (us := [V.d (.list (ofInts sc))]) Wk Ak F hnp.symm lp ra x newp
      rw [hnp] at R0
      refine ⟨fun b o e => R0.ext b o (Gz.sub b o e), R0.same, R0.fm, R0.hok, fun b q => q ▸ Gz.none, fun b q => ⟨fun z => ?_, ?_⟩, fun _ _ q => q.elim, fun _ _ _ _ q => q.elim, R0.len, fun y i hy u hu => ?_, fun c P e => ?_⟩
      · subst q; exact JJ it.2 (newp b z)
      · subst q; exact ⟨_, keep _ _ it.2, nofun⟩
      · obtain ⟨v, va, sl⟩ := R0.slots y i hy u hu
        refine ⟨v, va, ?_⟩
        have hu' : ([some (V.d (.list (ofInts sc)))] ++ List.replicate (lf.ns - 1) none)[i]? = some (some u) := hu
        have := ZGe (us := [V.d (.list (ofInts sc))]) hu'
        have eu : u = .d (.list (ofInts sc)) := by rw [List.mem_singleton.mp (List.mem_of_getElem? this)]
        subst eu
        obtain ⟨a', vs, n, rfl, na, ha, rs⟩ := PR.inv sl
        refine PR.list (fun q => ?_) ha (Qd (rs.intsAre (Wz sc)))
        rcases q with q | q | q
        · have := keep _ _ it.2; rw [← (show a' = Pt from q), ha] at this; cases this
        · exact na (.inr (.inl q))
        · exact q
      · cases e; exact ⟨rfl, L2⟩
    refine ZBo (W1 _) (fun st => ZGh (ZKl 19) 40 _ rfl (W1 _) (fun e s' j C fl σ' R' hC hl Fl hx => hx.elim) st) lf.body F.low _ s₂ _ _ (R1 _) wl ⟨fun s' σ' R' ad hk => (nomatch (show V.d PyData.none = V.d (PyData.bool true) from hk)), fun s' v u σ' ρ R' rv hk => ?_⟩
    have hk : u = .d (.bool true) := hk
    subst hk
    have ev : v = .bool true := PR.inv rv
    subst ev
    obtain ⟨_, ps, ic2, it2, _⟩ := R'.lam cc Pt rfl
    have kp : ∀ b o, b ≠ Pt → s₁.heap.get? b = some o → s'.heap.get? b = some o := fun b o n e => (R'.ext b o (Gz.sup b o n e)).1 fun q => nomatch q
    refine ⟨.inl ⟨.bool true, .bool true, [], rfl, hn, .bool true, hp, unshared_nil⟩, ⟨fun b o e => ?_, fun b o e => ?_⟩, R'.same.2, .of_eq (R'.same.1.trans hg)⟩
    · by_cases z : b = Pt
      · subst z
        rw [it.2] at e; cases e
        exact .inr (.inl ⟨it.isCodeTable, rfl, #[], ps, rfl, by rw [Array.empty_append]; exact it2.2⟩)
      · exact .inl (kp b o z e)
    · by_cases z : b = Pt
      · exact ⟨_, z ▸ it2.2⟩
      · exact ⟨o, kp b o z e⟩
end
end TC

namespace TC
open PySem

theorem JT {k : Nat} (h : k < 1000) : k < lim := by rw [QX]; lia
theorem Ju {k : Int} (h : k < 1000) : k < (lim : Int) := by rw [QX]; lia
theorem Vc {k : Int} (h : -1000 < k) : -(lim : Int) < k := by rw [QX]; lia
theorem QB {body : V → Rho → KS → Prop} {K : KS} (xs : List V) (I : Nat → Rho → Prop) (h0 : ∀ ρ, I xs.length ρ → K .nxt ρ)
    (hs : ∀ i (hi : i < xs.length) ρ (k : KS), I i ρ → (∀ ρ', I (i + 1) ρ' → k .nxt ρ') → (∀ v ρ', K (.ret v) ρ' → k (.ret v) ρ') → body xs[i] ρ k) :
    ∀ ρ, I 0 ρ → forW body K xs ρ := by
  have key : ∀ m i ρ, xs.length - i = m → i ≤ xs.length → I i ρ → forW body K (xs.drop i) ρ := by
    intro m
    induction m with
    | zero =>
      intro i ρ e le hi
      obtain rfl : i = xs.length := Nat.le_antisymm le (Nat.le_of_sub_eq_zero e)
      rw [List.drop_length]
      exact h0 ρ hi
    | succ m ih =>
      intro i ρ e le hi
      have lt : i < xs.length := Nat.lt_of_sub_pos (e ▸ Nat.succ_pos m)
      rw [List.drop_eq_getElem_cons lt]
      exact hs i lt ρ _ hi (fun ρ' h' => ih (i + 1) ρ' (congrArg Nat.pred e) lt h') fun v ρ' h' => h'
  intro ρ h
  exact key xs.length 0 ρ rfl (Nat.zero_le _) h
theorem WD {test : Rho → T} {body : Rho → KS → Prop} {K : KS} (I : Nat → Rho → Prop)
    (h : ∀ m ρ (k : KS), I m ρ → (∀ m' ρ', m' < m → I m' ρ' → k .nxt ρ') → (∀ v ρ', K (.ret v) ρ' → k (.ret v) ρ') → test ρ fun b => ifB b (body ρ k) (K .nxt ρ)) : ∀ n m ρ, m < n → I m ρ → whlW test body K n ρ := by
  intro n
  induction n with
  | zero => exact fun m ρ lt => absurd lt (Nat.not_lt_zero _)
  | succ n ih => exact fun m ρ lt hi => h m ρ _ hi (fun m' ρ' lt' hi' => ih m' ρ' (by lia) hi') fun v ρ' h' => h'
theorem JZ {step : Rho → (Option PyData → Prop) → Prop} {ρ : Rho} {K : V → Prop} (g : V → Option PyData) : ∀ (xs : List V) (acc : List PyData), (∀ x ∈ xs, ∀ k : Option PyData → Prop, k (g x) → step (ρ ++ [some x]) k) →
    (acc ++ xs.filterMap g).length < lim → K (.own (.list (acc ++ xs.filterMap g))) → compW step none ρ K xs acc := by
  intro xs
  induction xs with
  | nil => intro acc _ h1 h2; rw [List.filterMap_nil, List.append_nil] at h1 h2; exact ⟨h1, h2⟩
  | cons x xs ih =>
    intro acc h h1 h2
    refine h x (.head _) _ (ih _ (fun y hy => h y (.tail _ hy)) ?_ ?_) <;> rw [List.filterMap_cons] at h1 h2 <;> revert h1 h2 <;> cases g x with
    | none => intro h1 h2; first | exact h1 | exact h2
    | some y => intro h1 h2; rw [show acc ++ y :: List.filterMap g xs = (acc ++ [y]) ++ List.filterMap g xs by rw [List.append_assoc]; rfl] at h1 h2; first | exact h1 | exact h2
theorem Ja (l : List Int) : allOf intOf (ofInts l) = some l := by
  induction l with
  | nil => rfl
  | cons a l ih => show (allOf intOf (ofInts l)).map (a :: ·) = _; rw [ih]; rfl
theorem YI (l : List Int) : (ofInts l).length = l.length := List.length_map ..
theorem getElem?_ofInts (l : List Int) (i : Nat) : (ofInts l)[i]? = l[i]?.map .int := List.getElem?_map ..
theorem UC (l : List Int) : flats (ofInts l) = true := by
  induction l with
  | nil => rfl
  | cons a l ih => exact ih
theorem Ve (a b : List Int) : ofInts a ++ ofInts b = ofInts (a ++ b) := (List.map_append ..).symm
theorem XU (a : List Int) (n : Nat) (v : Int) : (ofInts a).set n (.int v) = ofInts (a.set n v) := (List.map_set ..).symm
theorem Jx (n : Int) : (rangeL n).length = n.toNat := by unfold rangeL; rw [List.length_map, List.length_range]
theorem Vj (n : Nat) : rangeL n = (List.range n).map fun (i : Nat) => (i : Int) := rfl
theorem Xf {xs : List PyData} {i : Int} (h : 0 ≤ i) (h2 : i < 1000) : idxD xs i = xs[i.toNat]? := by
  unfold idxD; rw [if_pos ⟨h, Ju h2⟩]
theorem Vh {xs : List PyData} {i : Int} (h : 0 ≤ i) (h2 : i < 1000) : idxV (.d (.list xs)) i = (xs[i.toNat]?).map .d := by
  show ((some xs).bind (idxD · i)).map V.d = _
  rw [Option.bind_some, Xf h h2]
theorem Wo {xs : List PyData} {i : Int} (h : 0 ≤ i) (h2 : i < 1000) : idxV (.d (.tuple xs)) i = (xs[i.toNat]?).map .d := by
  show ((some xs).bind (idxD · i)).map V.d = _
  rw [Option.bind_some, Xf h h2]
theorem XV {xs : List PyData} {i : Int} (h : 0 ≤ i) (h2 : i < 1000) : idxV (.own (.list xs)) i = (xs[i.toNat]?).map .d := by
  show ((some xs).bind (idxD · i)).map V.d = _
  rw [Option.bind_some, Xf h h2]
theorem Gr {xs : List PyData} {i : Int} (h : 0 ≤ i) (h2 : i < 1000) : idxV (.brw (.list xs)) i = (xs[i.toNat]?).map low := by
  show ((some xs).bind (idxD · i)).map low = _
  rw [Option.bind_some, Xf h h2]
theorem GQ {α : Type} {p : Prop} [Decidable p] {a : α} (h : p) : guardO p a = some a := if_pos h
theorem Vi {xs : List PyData} (h : flats xs = true) : lsV (.brw (.list xs)) = some xs := GQ h
theorem JN {α : Type} (v : α) (K : α → Prop) : got (some v) K = K v := rfl
theorem JI (x : PyData) : rd (.d x) = some x := rfl
theorem YF (x : PyData) : rd (.own x) = some x := rfl
theorem YE (x : PyData) : rd (.brw x) = some x := rfl
theorem JF (x : PyData) : nmV (.d x) = .d x := rfl
theorem YB (x : PyData) : nmV (.own x) = .brw x := rfl
theorem Zz (x : PyData) : nmV (.brw x) = low x := rfl
theorem YA (c : Nat) : nmV (.exc c) = .exc c := rfl
theorem Zg (a : Int) : low (.int a) = .d (.int a) := rfl
theorem ZO (a : List PyData) : low (.list a) = .brw (.list a) := rfl
theorem YL (x : PyData) : argV (.d x) = some (.d x) := rfl
theorem ZW (x : PyData) : argV (.own x) = some (.d x) := rfl
theorem ZU (x : PyData) : argV (.brw x) = some (.brw x) := rfl
theorem ZV (c : Nat) : argV (.exc c) = some (.exc c) := rfl
theorem JD (x : PyData) : kp (.d x) = some x := rfl
theorem Zv (x : PyData) : kp (.own x) = some x := rfl
theorem Zc (x : PyData) : keepV true (.d x) = some (.d x) := rfl
theorem Zb (x : PyData) : keepV false (.d x) = some (.d x) := rfl
theorem ZH (x : PyData) : keepV true (.own x) = some (.own x) := rfl
theorem ZG (x : PyData) : keepV false (.own x) = some (.d x) := rfl
theorem YY (x : PyData) : retV (.d x) = some (.d x) := rfl
theorem Zl (x : PyData) : retV (.own x) = some (.own x) := rfl
theorem YH (x : PyData) : retmV (.d x) = some (.d x) := rfl
theorem ZQ (x : PyData) : retmV (.own x) = some (.own x) := rfl
theorem JO (c : Bool) (a b : Prop) : ifB (.d (.bool c)) a b = cond c a b := rfl
theorem YM (b : Bool) : boolV (.d (.bool b)) = some b := rfl
theorem JC (b : Int) : intV (.d (.int b)) = some b := rfl
theorem ZS : argAll [] = some [] := rfl
theorem ZT (v : V) (r : List V) : argAll (v :: r) = (argV v).bind fun x => (argAll r).map (x :: ·) := rfl
theorem ZJ : keepAll [] = some [] := rfl
theorem ZK (v : V) (r : List V) : keepAll (v :: r) = (kp v).bind fun x => (keepAll r).map (x :: ·) := rfl
theorem Zm (xs : List PyData) : seqOf (.list xs) = some xs := rfl
theorem Zn (xs : List PyData) : seqOf (.tuple xs) = some xs := rfl
theorem Zx (xs : List PyData) : listOf (.list xs) = some xs := rfl
theorem JE (xs : List PyData) : lsV (.d (.list xs)) = some xs := rfl
theorem Zy (xs : List PyData) : lsV (.own (.list xs)) = some xs := rfl
theorem Zu (xs : List PyData) : keysV (.d (.list xs)) = some xs := rfl
theorem ZL (xs : List PyData) : keysV (.own (.list xs)) = some xs := rfl
theorem Zf (n : Int) : keysV (.rg n) = some (ofInts (rangeL n)) := rfl
theorem YP (hm : Bool) (xs : List PyData) : itemsV hm (.d (.list xs)) = some (xs.map .d) := rfl
theorem YQ (hm : Bool) (xs : List PyData) : itemsV hm (.d (.tuple xs)) = some (xs.map .d) := rfl
theorem Zt (hm : Bool) (xs : List PyData) : itemsV hm (.own (.list xs)) = some (xs.map .d) := rfl
theorem Zs (hm : Bool) (xs : List PyData) : itemsV hm (.brw (.list xs)) = some (xs.map low) := rfl
theorem YR (n : Int) : itemsV false (.rg n) = some ((rangeL n).map fun i => .d (.int i)) := rfl
theorem YO (hm : Bool) (x : PyData) : itemsL hm (.d x) = itemsV hm (.d x) := rfl
theorem Za (hm : Bool) (x : PyData) : itemsL hm (.own x) = itemsV hm (.own x) := rfl
theorem Zr (hm : Bool) (n : Int) : itemsL hm (.rg n) = itemsV hm (.rg n) := rfl
theorem YN (x : PyData) : frzV (.d x) = .d x := rfl
theorem ZY (x : PyData) : frzV (.own x) = .d x := rfl
theorem ZF (x : PyData) : isiV .int (.d x) = some (Ty.has .int x) := rfl
theorem ZD (x : PyData) : isiV .bool (.d x) = some (Ty.has .bool x) := rfl
theorem ZE (x : PyData) : isiV .list (.d x) = some (Ty.has .list x) := rfl
theorem ZC (x : PyData) : isiV .tuple (.d x) = some (Ty.has .tuple x) := rfl
theorem ZA (x : PyData) : isiV .list (.brw x) = some (Ty.has .list x) := rfl
theorem ZB (x : PyData) : isiV .list (.own x) = some (Ty.has .list x) := rfl
theorem ZZ (t : Ty) (c : Nat) : isiV t (.exc c) = excIs t c := rfl
theorem Jj {o : Op} {a b : Int} {K : V → Prop} : opW o (.d (.int a)) (.d (.int b)) K = numW o a b K := rfl
theorem YU {o : Op} {xs : List PyData} {w : V} {K : V → Prop} : opW o (.d (.list xs)) w K = objW o (.d (.list xs)) w K := rfl
theorem YV {o : Op} {xs : List PyData} {w : V} {K : V → Prop} : opW o (.d (.tuple xs)) w K = objW o (.d (.tuple xs)) w K := rfl
theorem YD {o : Op} {x : PyData} {w : V} {K : V → Prop} : opW o (.own x) w K = objW o (.own x) w K := rfl
theorem YC {o : Op} {x : PyData} {w : V} {K : V → Prop} : opW o (.brw x) w K = objW o (.brw x) w K := rfl
theorem YW {o : Op} {a : Int} {x : PyData} {K : V → Prop} : opW o (.d (.int a)) (.brw x) K = objW o (.d (.int a)) (.brw x) K := rfl
theorem YX {o : Op} {a : Int} {xs : List PyData} {K : V → Prop} : opW o (.d (.int a)) (.d (.tuple xs)) K = objW o (.d (.int a)) (.d (.tuple xs)) K := rfl
theorem JY {tab : List Fn} {n f : Nat} {hm : Bool} {vs : List V} {K : V → Prop} {X : Nat → Prop} {fn : Fn} (h : tab[f]? = some fn) (l1 : vs.length = fn.np) (l2 : fn.np ≤ fn.ns)
    (w : wpSs (wpCall tab n) hm fn.body (vs.map some ++ List.replicate (fn.ns - fn.np) none) (outK K) (fun c _ => X c)) : wpCall tab (n + 1) hm f vs K X := by
  show got (tab[f]?) _
  rw [h]; exact ⟨⟨l1, l2⟩, w⟩
theorem Jv {p : Prop} [d : Decidable p] {a b : Prop} (h1 : p → a) (h2 : ¬ p → b) : cond (decide p) a b := by
  by_cases h : p
  · rw [decide_eq_true h]; exact h1 h
  · rw [decide_eq_false h]; exact h2 h
theorem Yk {α β : Type} (f : α → β) : List.map f [] = [] := rfl
theorem Yl {α β : Type} (f : α → β) (a : α) (l : List α) : List.map f (a :: l) = f a :: List.map f l := rfl
theorem Yb {α : Type} (l : List α) : [] ++ l = l := rfl
theorem Yc {α : Type} (a : α) (k l : List α) : (a :: k) ++ l = a :: (k ++ l) := rfl
theorem Yg {α : Type} (a : α) (l : List α) : (a :: l)[0]? = some a := rfl
theorem Yh {α : Type} (a : α) (l : List α) (n : Nat) : (a :: l)[n + 1]? = l[n]? := rfl
theorem Yx {α : Type} (a b : α) (l : List α) : (a :: l).set 0 b = b :: l := rfl
theorem Yy {α : Type} (a b : α) (l : List α) (n : Nat) : (a :: l).set (n + 1) b = a :: l.set n b := rfl
theorem Ym {α : Type} (f : α → α) (a : α) (l : List α) : (a :: l).modify 0 f = f a :: l := rfl
theorem Yn {α : Type} (f : α → α) (a : α) (l : List α) (n : Nat) : (a :: l).modify (n + 1) f = a :: l.modify n f := rfl
theorem Yt {α : Type} (a : α) : List.replicate 0 a = [] := rfl
theorem Yu {α : Type} (a : α) (n : Nat) : List.replicate (n + 1) a = a :: List.replicate n a := rfl
theorem Yi {α : Type} : ([] : List α).length = 0 := rfl
theorem Yj {α : Type} (a : α) (l : List α) : (a :: l).length = l.length + 1 := rfl
theorem Yo {α β : Type} (f : α → β) (a : α) : Option.map f (some a) = some (f a) := rfl
theorem YJ {α β : Type} (f : α → Option β) (a : α) : Option.bind (some a) f = f a := rfl
theorem YK {α : Type} (f : α → Prop) (b : Prop) (a : α) : Option.elim (some a) b f = f a := rfl
theorem Jg (a b : Prop) : cond true a b = a := rfl
theorem Jf (a b : Prop) : cond false a b = b := rfl
theorem Ji : (!true) = false := rfl
theorem Jh : (!false) = true := rfl
theorem Yf (b : Bool) : (false && b) = false := rfl
theorem Yz (b : Bool) : (true && b) = b := rfl
theorem Yp (K : V → Prop) (ρ : Rho) : outK K .nxt ρ = K (.d .none) := rfl
theorem Yq (K : V → Prop) (v : V) (ρ : Rho) : outK K (.ret v) ρ = K v := rfl
theorem Yd {o : Op} {t : T} {v : V} {K : V → Prop} : cmpW [o] [t] v K = t fun w => opW o v w K := rfl
theorem Ye {o o2 : Op} {os : List Op} {t t2 : T} {ts : List T} {v : V} {K : V → Prop} : cmpW (o :: o2 :: os) (t :: t2 :: ts) v K = t fun w => opW o v w fun r => ifB r (cmpW (o2 :: os) (t2 :: ts) w K) (K (.d (.bool false))) := rfl
theorem YZ {t : T} {K : V → Prop} : andW [t] K = t fun v => ifB v (K (.d (.bool true))) (K (.d (.bool false))) := rfl
theorem Ya {t t2 : T} {ts : List T} {K : V → Prop} : andW (t :: t2 :: ts) K = t fun v => ifB v (andW (t2 :: ts) K) (K (.d (.bool false))) := rfl
theorem JL {t : T} {K : V → Prop} : orW [t] K = t fun v => ifB v (K (.d (.bool true))) (K (.d (.bool false))) := rfl
theorem JM {t t2 : T} {ts : List T} {K : V → Prop} : orW (t :: t2 :: ts) K = t fun v => ifB v (K (.d (.bool true))) (orW (t2 :: ts) K) := rfl
theorem Yv {K : List V → Prop} : seqW [] K = K [] := rfl
theorem Yw {t : T} {ts : List T} {K : List V → Prop} : seqW (t :: ts) K = t fun v => seqW ts fun vs => K (v :: vs) := rfl
theorem JA {a b : Prop} : tstW [] a b = a := rfl
theorem JB {t : T} {ts : List T} {a b : Prop} : tstW (t :: ts) a b = t fun v => ifB v (tstW ts a b) b := rfl
theorem Jl {hm : Bool} {P : Prop} : qW true hm P = P := rfl
theorem Jk {P : Prop} : qW false false P = P := rfl
theorem Ys {xs : List PyData} {k : List PyData → Prop} : ownL (.own (.list xs)) k = k xs := rfl
theorem Yr {kvs : List (PyData × PyData)} {k : List (PyData × PyData) → Prop} : ownD (.own (.dict kvs)) k = k kvs := rfl
theorem JQ (a b : PyData) : partsV (.d (.tuple [a, b])) 2 = some [.d a, .d b] := rfl
theorem Zq (xs : List PyData) : Ty.has .list (.list xs) = true := rfl
theorem YG (x : PyData) : retO (.d x) = some (.d x) := rfl
theorem ZP (x : PyData) : retO (.own x) = some (.own x) := rfl
theorem JR (a b c d : PyData) : partsV (.d (.tuple [a, b, c, d])) 4 = some [.d a, .d b, .d c, .d d] := rfl
theorem Zj {o : Op} {b : Bool} {w : V} {K : V → Prop} : opW o (.d (.bool b)) w K = objW o (.d (.bool b)) w K := rfl
theorem Zo {o : Op} {a : Int} {xs : List PyData} {K : V → Prop} : opW o (.d (.int a)) (.d (.list xs)) K = objW o (.d (.int a)) (.d (.list xs)) K := rfl
theorem Zp (x y : PyData) : argV (.ot x y) = some (.d (.tuple [x, y])) := rfl
theorem YS (x y : PyData) : kp (.ot x y) = some (.tuple [x, y]) := rfl
theorem Ze (x : Str) (ys : List PyData) : keepV true (.ot (.str x) (.list ys)) = some (.oh x ys) := rfl
theorem Zd (x y : PyData) : keepV false (.ot x y) = some (.d (.tuple [x, y])) := rfl
theorem YT (x : Str) (ys : List PyData) : nmV (.oh x ys) = .brw (.tuple [.str x, .list ys]) := rfl
theorem Zk (x y : PyData) : retO (.ot x y) = some (.ot x y) := rfl
theorem JK (x y : PyData) : idxV (.ot x y) 0 = some (pt x) := rfl
theorem JP (x y : PyData) : idxV (.ot x y) 1 = some (pt y) := rfl
theorem JH (s : Str) : pt (.str s) = .d (.str s) := rfl
theorem JG (ys : List PyData) : pt (.list ys) = .own (.list ys) := rfl
theorem Zi (s : Str) (ys : List PyData) : mkp s (.own (.list ys)) = some (.ot (.str s) (.list ys)) := rfl
theorem Zh (s : Str) (a : Int) : mkp s (.d (.int a)) = some (.d (.tuple [.str s, .int a])) := rfl
theorem ZX (x : PyData) : frzV (.brw x) = .brw x := rfl
theorem ZN (a : Int) : lend (.d (.int a)) = .d (.int a) := rfl
theorem ZI (xs : List PyData) : lend (.d (.list xs)) = .brw (.list xs) := rfl
theorem ZM (x : PyData) : lend (.brw x) = .brw x := rfl
theorem Zw (a b c d : Int) : lend (.d (.tuple [.int a, .int b, .int c, .int d])) = .d (.tuple [.int a, .int b, .int c, .int d]) := rfl
end TC

namespace TC
open PySem
noncomputable def b_is_among : Ss := 
  (.cons (.ret (.and (.cons (.f1 (.isi .int) (.nm 0)) (.cons (.f1 .not (.f1 (.isi .bool) (.nm 0))) (.cons (.cmp (.nm 1) [.le, .le] (.cons (.nm 0) (.cons (.nm 2) .nil))) .nil))))) .nil)
noncomputable def f_is_among : Fn := ⟨3, 3, b_is_among⟩
noncomputable def b_need_counts_1 : Ss := 
  (.cons (.ite (.f1 .not (.call 0 (.cons (.nm 1) (.cons (.k (.int (0))) (.cons (.k (.int (20))) .nil))))) 
    (.cons (.rais 1) .nil) .nil) .nil)
noncomputable def b_need_counts : Ss := 
  (.cons (.ite (.or (.cons (.f1 .not (.f1 (.isi .list) (.nm 0))) (.cons (.f1 .not (.cmp (.k (.int (1))) [.le, .le] (.cons (.f1 .len (.nm 0)) (.cons (.k (.int (10))) .nil)))) .nil))) 
    (.cons (.rais 1) .nil) .nil) 
  (.cons (.loopn (.one 1) 0 b_need_counts_1) .nil))
noncomputable def f_need_counts : Fn := ⟨1, 2, b_need_counts⟩
noncomputable def b_want_of : Ss := 
  (.cons (.asg false 2 (.f1 .sortedR (.nm 0))) 
  (.cons (.asg false 3 (.comp none (.sfrom (.nm 2) (.nm 1)) .nil (.f2 .min (.nm 4) (.nm 1)))) 
  (.cons (.ret (.tup (.cons (.f1 .sum (.sto (.nm 2) (.nm 1))) (.cons (.op .add (.op .mul (.nm 1) (.op .sub (.nm 1) (.k (.int (1))))) (.f1 .sum (.nm 3))) .nil)))) .nil)))
noncomputable def f_want_of : Fn := ⟨2, 4, b_want_of⟩
noncomputable def b_tie_of : Ss := 
  (.cons (.ret (.tup (.cons (.f2 .min (.nm 0) (.nm 1)) (.cons (.f2 .max (.nm 0) (.nm 1)) .nil)))) .nil)
noncomputable def f_tie_of : Fn := ⟨2, 2, b_tie_of⟩
noncomputable def b_piece_from_1 : Ss := 
  (.cons (.ite (.and (.cons (.cmp (.nm 7) [.eq] (.cons (.nm 4) .nil)) (.cons (.cmp (.nm 8) [.notin] (.cons (.nm 2) .nil)) .nil))) 
    (.cons (.key 2 (.nm 8)) 
    (.cons (.app 3 (.nm 8)) .nil)) .nil) .nil)
noncomputable def b_piece_from_2 : Ss := 
  (.cons (.loop (.many [7, 8]) (.tup (.cons (.tup (.cons (.nm 5) (.cons (.nm 6) .nil))) (.cons (.tup (.cons (.nm 6) (.cons (.nm 5) .nil))) .nil))) b_piece_from_1) .nil)
noncomputable def b_piece_from_3 : Ss := 
  (.cons (.pop 4 3) 
  (.cons (.loopn (.many [5, 6]) 0 b_piece_from_2) .nil))
noncomputable def b_piece_from_4 : Ss := 
  (.cons (.ret (.f1 .sorted (.f1 .list (.nm 2)))) .nil)
noncomputable def b_piece_from : Ss := 
  (.cons (.asg true 2 (.dic1 (.nm 1))) 
  (.cons (.asg true 3 (.lst (.cons (.nm 1) .nil))) 
  (.cons (.whl (.cmp (.nm 3) [.ne] (.cons (.lst .nil) .nil)) b_piece_from_3) b_piece_from_4)))
noncomputable def f_piece_from : Fn := ⟨2, 9, b_piece_from⟩
noncomputable def b_pieces_by_1 : Ss := 
  (.cons (.key 3 (.nm 6)) .nil)
noncomputable def b_pieces_by_2 : Ss := 
  (.cons (.ite (.cmp (.nm 4) [.notin] (.cons (.nm 3) .nil)) 
    (.cons (.asg false 5 (.callb 4 (.cons (.nm 1) (.cons (.nm 4) .nil)))) 
    (.cons (.app 2 (.nm 5)) 
    (.cons (.loopn (.one 6) 5 b_pieces_by_1) .nil))) .nil) .nil)
noncomputable def b_pieces_by_3 : Ss := 
  (.cons (.retm 2) .nil)
noncomputable def b_pieces_by : Ss := 
  (.cons (.asg true 2 (.lst .nil)) 
  (.cons (.asg true 3 .dic0) 
  (.cons (.loop (.one 4) (.f1 .range (.nm 0)) b_pieces_by_2) b_pieces_by_3)))
noncomputable def f_pieces_by : Fn := ⟨2, 7, b_pieces_by⟩
noncomputable def b_laid_1 : Ss := 
  (.cons (.asg false 6 (.idx (.idx (.nm 4) (.nm 5)) (.k (.int (1))))) 
  (.cons (.app 2 (.call 3 (.cons (.nm 3) (.cons (.nm 6) .nil)))) 
  (.cons (.set 1 (.nm 6) (.op .sub (.idx (.nm 1) (.nm 6)) (.k (.int (1))))) .nil)))
noncomputable def b_laid_2 : Ss := 
  (.cons (.set 1 (.nm 3) (.k (.int (0)))) .nil)
noncomputable def b_laid_3 : Ss := 
  (.cons (.asg false 3 (.index (.nm 1) (.f1 .max (.nm 1)))) 
  (.cons (.asg false 4 (.f1 .sorted (.comp none (.f1 .range (.f1 .len (.nm 1))) (.cons (.cmp (.nm 7) [.ne] (.cons (.nm 3) .nil)) .nil) (.tup (.cons (.op .sub (.k (.int (0))) (.idx (.nm 1) (.nm 7))) (.cons (.nm 7) .nil)))))) 
  (.cons (.loop (.one 5) (.f1 .range (.idx (.nm 1) (.nm 3))) b_laid_1) b_laid_2)))
noncomputable def b_laid_4 : Ss := 
  (.cons (.ret (.f1 .sorted (.nm 2))) .nil)
noncomputable def b_laid : Ss := 
  (.cons (.asg true 1 (.f1 .list (.nm 0))) 
  (.cons (.asg true 2 (.lst .nil)) 
  (.cons (.whl (.cmp (.f1 .max (.nm 1)) [.gt] (.cons (.k (.int (0))) .nil)) b_laid_3) b_laid_4)))
noncomputable def f_laid : Fn := ⟨1, 7, b_laid⟩
noncomputable def b_told_1 : Ss := 
  (.cons (.unp [2, 3] (.call 2 (.cons (.nm 0) (.cons (.nm 1) .nil)))) 
  (.cons (.ite (.cmp (.nm 2) [.gt] (.cons (.nm 3) .nil)) 
    (.cons (.rets "many" (.nm 1)) .nil) .nil) .nil))
noncomputable def b_told_2 : Ss := 
  (.cons (.rets "web" (.call 6 (.cons (.nm 0) .nil))) .nil)
noncomputable def b_told : Ss := 
  (.cons (.drop (.call 1 (.cons (.nm 0) .nil))) 
  (.cons (.ite (.cmp (.op .mod (.f1 .sum (.nm 0)) (.k (.int (2)))) [.eq] (.cons (.k (.int (1))) .nil)) 
    (.cons (.ret (.tup (.cons (.k (.str "odd")) .nil))) .nil) .nil) 
  (.cons (.loop (.one 1) (.f1 .range (.op .add (.f1 .len (.nm 0)) (.k (.int (1))))) b_told_1) b_told_2)))
noncomputable def f_told : Fn := ⟨1, 4, b_told⟩
noncomputable def b_done_by : Ss := 
  (.cons (.unp [2, 3, 4, 5] (.nm 1)) 
  (.cons (.asg false 6 (.comp none (.nm 0) (.cons (.and (.cons (.cmp (.nm 7) [.ne] (.cons (.call 3 (.cons (.nm 2) (.cons (.nm 3) .nil))) .nil)) (.cons (.cmp (.nm 7) [.ne] (.cons (.call 3 (.cons (.nm 4) (.cons (.nm 5) .nil))) .nil)) .nil))) .nil) (.nm 7))) 
  (.cons (.ret (.f1 .sorted (.op .add (.nm 6) (.lst (.cons (.call 3 (.cons (.nm 2) (.cons (.nm 4) .nil))) (.cons (.call 3 (.cons (.nm 3) (.cons (.nm 5) .nil))) .nil)))))) .nil)))
noncomputable def f_done_by : Fn := ⟨2, 7, b_done_by⟩
noncomputable def b_hindered : Ss := 
  (.cons (.ite (.and (.cons (.cmp (.f1 .len (.nm 0)) [.gt] (.cons (.k (.int (1))) .nil)) (.cons (.cmp (.k (.int (0))) [.isin] (.cons (.nm 0) .nil)) .nil))) 
    (.cons (.rets "alone" (.index (.nm 0) (.k (.int (0))))) .nil) .nil) 
  (.cons (.ite (.cmp (.f1 .sum (.nm 0)) [.lt] (.cons (.op .mul (.k (.int (2))) (.op .sub (.f1 .len (.nm 0)) (.k (.int (1))))) .nil)) 
    (.cons (.ret (.tup (.cons (.k (.str "few")) .nil))) .nil) .nil) 
  (.cons (.ret (.k .none)) .nil)))
noncomputable def f_hindered : Fn := ⟨1, 1, b_hindered⟩
noncomputable def b_spare_tie_1 : Ss := 
  (.cons (.ite (.cmp (.f1 .len (.callb 5 (.cons (.nm 0) (.cons (.comp none (.nm 1) (.cons (.cmp (.nm 4) [.ne] (.cons (.nm 3) .nil)) .nil) (.nm 4)) .nil)))) [.eq] (.cons (.nm 2) .nil)) 
    (.cons (.retm 3) .nil) .nil) .nil)
noncomputable def b_spare_tie_2 : Ss := 
  (.cons (.ret (.k .none)) .nil)
noncomputable def b_spare_tie : Ss := 
  (.cons (.asg false 2 (.f1 .len (.callb 5 (.cons (.nm 0) (.cons (.nm 1) .nil))))) 
  (.cons (.loopn (.one 3) 1 b_spare_tie_1) b_spare_tie_2))
noncomputable def f_spare_tie : Fn := ⟨2, 4, b_spare_tie⟩
noncomputable def b_joined_up_1 : Ss := 
  (.cons (.unp [4, 5] (.callb 10 (.cons (.nm 0) (.cons (.nm 2) .nil)))) 
  (.cons (.asg false 6 (.idx (.comp none (.callb 5 (.cons (.nm 0) (.cons (.nm 2) .nil))) (.cons (.cmp (.nm 4) [.isin] (.cons (.nm 9) .nil)) .nil) (.nm 9)) (.k (.int (0))))) 
  (.cons (.unp [7, 8] (.idx (.comp none (.nm 2) (.cons (.cmp (.idx (.nm 9) (.k (.int (0)))) [.notin] (.cons (.nm 6) .nil)) .nil) (.nm 9)) (.k (.int (0))))) 
  (.cons (.app 3 (.tup (.cons (.nm 4) (.cons (.nm 5) (.cons (.nm 7) (.cons (.nm 8) .nil)))))) 
  (.cons (.asg true 2 (.callb 8 (.cons (.nm 2) (.cons (.tup (.cons (.nm 4) (.cons (.nm 5) (.cons (.nm 7) (.cons (.nm 8) .nil))))) .nil)))) .nil)))))
noncomputable def b_joined_up_2 : Ss := 
  (.cons (.ret2 3 2) .nil)
noncomputable def b_joined_up : Ss := 
  (.cons (.asg true 2 (.f1 .sorted (.nm 1))) 
  (.cons (.asg true 3 (.lst .nil)) 
  (.cons (.whl (.cmp (.f1 .len (.callb 5 (.cons (.nm 0) (.cons (.nm 2) .nil)))) [.gt] (.cons (.k (.int (1))) .nil)) b_joined_up_1) b_joined_up_2)))
noncomputable def f_joined_up : Fn := ⟨2, 9, b_joined_up⟩
noncomputable def b_hung : Ss := 
  (.cons (.asg false 1 (.call 7 (.cons (.nm 0) .nil))) 
  (.cons (.ite (.cmp (.idx (.nm 1) (.k (.int (0)))) [.ne] (.cons (.k (.str "web")) .nil)) 
    (.cons (.retm 1) .nil) .nil) 
  (.cons (.asg false 2 (.call 9 (.cons (.nm 0) .nil))) 
  (.cons (.ite (.f1 .notNone (.nm 2)) 
    (.cons (.retm 2) .nil) .nil) 
  (.cons (.rets "web" (.idx (.call 11 (.cons (.f1 .len (.nm 0)) (.cons (.idx (.nm 1) (.k (.int (1)))) .nil))) (.k (.int (1))))) .nil)))))
noncomputable def f_hung : Fn := ⟨1, 3, b_hung⟩
noncomputable def b__law_cell : Ss := 
  (.cons (.ite (.cmp (.nm 1) [.lt] (.cons (.f1 .len (.nm 0)) .nil)) 
    (.cons (.ret (.idx (.nm 0) (.nm 1))) .nil) .nil) 
  (.cons (.ret (.k (.int (0)))) .nil))
noncomputable def f__law_cell : Fn := ⟨2, 2, b__law_cell⟩
noncomputable def b__law_mixed : Ss := 
  (.cons (.asg false 2 (.op .add (.op .add (.nm 0) (.op .mul (.k (.int (7919))) (.nm 1))) (.k (.int (13))))) 
  (.cons (.ret (.op .fdiv (.op .mod (.op .mul (.op .mod (.op .mul (.nm 2) (.nm 2)) (.k (.int (1000000007)))) (.k (.int (48271)))) (.k (.int (998244353)))) (.k (.int (11))))) .nil))
noncomputable def f__law_mixed : Fn := ⟨2, 3, b__law_mixed⟩
noncomputable def b__law_web_1 : Ss := 
  (.cons (.asg false 8 (.call 14 (.cons (.call 13 (.cons (.nm 0) (.cons (.op .add (.op .add (.nm 1) (.k (.int (1)))) (.op .mod (.op .add (.nm 7) (.op .mul (.k (.int (3))) (.nm 6))) (.k (.int (6))))) .nil))) (.cons (.op .add (.op .add (.nm 7) (.op .mul (.k (.int (11))) (.nm 6))) (.op .fdiv (.nm 3) (.k (.int (64))))) .nil)))) 
  (.cons (.asg false 9 (.op .mod (.op .fdiv (.nm 3) (.k (.int (10)))) (.k (.int (6))))) 
  (.cons (.ite (.or (.cons (.and (.cons (.cmp (.nm 9) [.lt] (.cons (.k (.int (4))) .nil)) (.cons (.cmp (.op .mod (.nm 8) (.idx (.lst (.cons (.k (.int (2))) (.cons (.k (.int (3))) (.cons (.k (.int (5))) (.cons (.k (.int (4))) .nil))))) (.nm 9))) [.eq] (.cons (.k (.int (0))) .nil)) .nil))) (.cons (.and (.cons (.cmp (.nm 9) [.eq] (.cons (.k (.int (4))) .nil)) (.cons (.cmp (.op .mod (.nm 8) (.k (.int (4)))) [.gt] (.cons (.k (.int (0))) .nil)) .nil))) .nil))) 
    (.cons (.app 5 (.tup (.cons (.nm 7) (.cons (.nm 6) .nil)))) .nil) 
    (.cons (.ite (.and (.cons (.cmp (.nm 9) [.eq] (.cons (.k (.int (5))) .nil)) (.cons (.or (.cons (.cmp (.nm 6) [.eq] (.cons (.op .add (.nm 7) (.k (.int (1)))) .nil)) (.cons (.cmp (.op .mod (.nm 8) (.k (.int (6)))) [.eq] (.cons (.k (.int (0))) .nil)) .nil))) .nil))) 
      (.cons (.app 5 (.tup (.cons (.nm 7) (.cons (.nm 6) .nil)))) .nil) .nil) .nil)) .nil)))
noncomputable def b__law_web_2 : Ss := 
  (.cons (.loop (.one 7) (.f1 .range (.nm 6)) b__law_web_1) .nil)
noncomputable def b__law_web_3 : Ss := 
  (.cons (.asg false 10 (.op .mod (.op .fdiv (.nm 3) (.k (.int (60)))) (.op .add (.k (.int (1))) (.f1 .len (.nm 5))))) 
  (.cons (.ret (.tup (.cons (.nm 4) (.cons (.op .add (.sfrom (.nm 5) (.nm 10)) (.sto (.nm 5) (.nm 10))) .nil)))) .nil))
noncomputable def b__law_web : Ss := 
  (.cons (.asg false 3 (.call 13 (.cons (.nm 0) (.cons (.nm 1) .nil)))) 
  (.cons (.asg false 4 (.op .add (.k (.int (1))) (.op .mod (.nm 3) (.nm 2)))) 
  (.cons (.asg true 5 (.lst .nil)) 
  (.cons (.loop (.one 6) (.f1 .range (.nm 4)) b__law_web_2) b__law_web_3))))
noncomputable def f__law_web : Fn := ⟨3, 11, b__law_web⟩
noncomputable def b__law_counts : Ss := 
  (.cons (.ret (.comp none (.f1 .range (.nm 0)) .nil (.f1 .len (.comp none (.nm 1) (.cons (.cmp (.nm 2) [.isin] (.cons (.nm 3) .nil)) .nil) (.k (.int (1))))))) .nil)
noncomputable def f__law_counts : Fn := ⟨2, 2, b__law_counts⟩
noncomputable def b__law_pieces_1 : Ss := 
  (.cons (.asg false 6 (.f2 .min (.idx (.nm 2) (.nm 4)) (.idx (.nm 2) (.nm 5)))) 
  (.cons (.set 2 (.nm 4) (.nm 6)) 
  (.cons (.set 2 (.nm 5) (.nm 6)) .nil)))
noncomputable def b__law_pieces_2 : Ss := 
  (.cons (.loopn (.many [4, 5]) 1 b__law_pieces_1) .nil)
noncomputable def b__law_pieces_3 : Ss := 
  (.cons (.asg false 9 (.comp none (.f1 .range (.nm 0)) (.cons (.cmp (.idx (.nm 2) (.nm 10)) [.eq] (.cons (.nm 8) .nil)) .nil) (.nm 10))) 
  (.cons (.ite (.cmp (.nm 9) [.ne] (.cons (.lst .nil) .nil)) 
    (.cons (.app 7 (.nm 9)) .nil) .nil) .nil))
noncomputable def b__law_pieces_4 : Ss := 
  (.cons (.retm 7) .nil)
noncomputable def b__law_pieces_5 : Ss := 
  (.cons (.asg true 7 (.lst .nil)) 
  (.cons (.loop (.one 8) (.f1 .range (.nm 0)) b__law_pieces_3) b__law_pieces_4))
noncomputable def b__law_pieces : Ss := 
  (.cons (.asg true 2 (.f1 .list (.f1 .range (.nm 0)))) 
  (.cons (.loop (.one 3) (.f1 .range (.nm 0)) b__law_pieces_2) b__law_pieces_5))
noncomputable def f__law_pieces : Fn := ⟨2, 10, b__law_pieces⟩
noncomputable def b__law_within : Ss := 
  (.cons (.ret (.cmp (.comp none (.f1 .range (.f1 .len (.nm 1))) (.cons (.cmp (.idx (.nm 0) (.nm 2)) [.gt] (.cons (.idx (.nm 1) (.nm 2)) .nil)) .nil) (.nm 2)) [.eq] (.cons (.lst .nil) .nil))) .nil)
noncomputable def f__law_within : Fn := ⟨2, 2, b__law_within⟩
noncomputable def b__law_all_1 : Ss := 
  (.cons (.asg false 6 (.op .add (.nm 6) (.comp none (.nm 6) .nil (.op .add (.nm 8) (.lst (.cons (.tup (.cons (.nm 7) (.cons (.nm 3) .nil))) .nil)))))) .nil)
noncomputable def b__law_all_2 : Ss := 
  (.cons (.ext 4 (.comp none (.nm 6) .nil (.op .add (.nm 5) (.nm 8)))) .nil)
noncomputable def b__law_all_3 : Ss := 
  (.cons (.asg false 6 (.lst (.cons (.lst .nil) .nil))) 
  (.cons (.loop (.one 7) (.f1 .range (.nm 3)) b__law_all_1) b__law_all_2))
noncomputable def b__law_all_4 : Ss := 
  (.cons (.fz 4 (.asg false 2 (.comp none (.nm 4) (.cons (.call 18 (.cons (.callb 16 (.cons (.nm 0) (.cons (.nm 8) .nil))) (.cons (.nm 1) .nil))) .nil) (.nm 8)))) .nil)
noncomputable def b__law_all_5 : Ss := 
  (.cons (.asg true 4 (.lst .nil)) 
  (.cons (.loopn (.one 5) 2 b__law_all_3) b__law_all_4))
noncomputable def b__law_all_6 : Ss := 
  (.cons (.ret (.comp none (.nm 2) (.cons (.cmp (.callb 16 (.cons (.nm 0) (.cons (.nm 8) .nil))) [.eq] (.cons (.nm 1) .nil)) .nil) (.nm 8))) .nil)
noncomputable def b__law_all : Ss := 
  (.cons (.asg false 2 (.lst (.cons (.lst .nil) .nil))) 
  (.cons (.loop (.one 3) (.f1 .range (.nm 0)) b__law_all_5) b__law_all_6))
noncomputable def f__law_all : Fn := ⟨2, 8, b__law_all⟩
noncomputable def b_law_1 : Ss := 
  (.cons (.kst 5 (.f1 .range (.nm 1)) 10) 
  (.cons (.asg false 6 (.idx (.nm 5) (.op .sub (.k (.int (0))) (.f2 .min (.nm 1) (.op .add (.k (.int (1))) (.op .mod (.call 14 (.cons (.nm 3) (.cons (.nm 4) .nil))) (.k (.int (2))))))))) 
  (.cons (.asg false 7 (.comp none (.nm 5) (.cons (.and (.cons (.cmp (.idx (.nm 10) (.nm 11)) [.gt] (.cons (.k (.int (0))) .nil)) (.cons (.cmp (.nm 11) [.ne] (.cons (.nm 6) .nil)) .nil))) .nil) (.nm 11))) 
  (.cons (.ite (.and (.cons (.cmp (.nm 7) [.ne] (.cons (.lst .nil) .nil)) (.cons (.cmp (.idx (.nm 10) (.nm 6)) [.lt] (.cons (.op .add (.op .sub (.nm 1) (.k (.int (1)))) (.op .mod (.op .fdiv (.nm 3) (.k (.int (9)))) (.k (.int (2))))) .nil)) .nil))) 
    (.cons (.set 10 (.nm 6) (.op .add (.idx (.nm 10) (.nm 6)) (.k (.int (1))))) 
    (.cons (.set 10 (.idx (.nm 7) (.k (.int (0)))) (.op .sub (.idx (.nm 10) (.idx (.nm 7) (.k (.int (0))))) (.k (.int (1))))) .nil)) .nil) .nil))))
noncomputable def b_law_w : Ss := 
  (.cons (.asg false 9 (.comp none (.nm 8) (.cons (.cmp (.f1 .len (.callb 17 (.cons (.nm 1) (.cons (.nm 11) .nil)))) [.eq] (.cons (.k (.int (1))) .nil)) .nil) (.nm 11))) 
  (.cons (.ret (.cmp (.cmp (.idx (.call 12 (.cons (.f1 .list (.nm 10)) .nil)) (.k (.int (0)))) [.eq] (.cons (.k (.str "web")) .nil)) [.eq] (.cons (.cmp (.nm 9) [.ne] (.cons (.lst .nil) .nil)) .nil))) .nil))
noncomputable def b_law_v : Ss := 
  (.cons (.ite (.cmp (.cmp (.idx (.call 7 (.cons (.f1 .list (.nm 10)) .nil)) (.k (.int (0)))) [.eq] (.cons (.k (.str "web")) .nil)) [.ne] (.cons (.cmp (.nm 8) [.ne] (.cons (.lst .nil) .nil)) .nil)) 
    (.cons (.ret (.k (.bool false))) .nil) .nil) b_law_w)
noncomputable def b_law_u : Ss := 
  (.cons (.asg false 8 (.call 19 (.cons (.nm 1) (.cons (.nm 10) .nil)))) b_law_v)
noncomputable def b_law_t : Ss := 
  (.cons (.ite (.cmp (.op .mod (.nm 3) (.k (.int (3)))) [.eq] (.cons (.k (.int (1))) .nil)) 
    (.cons (.asg true 10 (.comp none (.f1 .range (.nm 1)) .nil (.op .mod (.call 14 (.cons (.nm 3) (.cons (.nm 11) .nil))) (.op .add (.nm 1) (.idx (.lst (.cons (.k (.int (1))) (.cons (.k (.int (2))) .nil))) (.op .mod (.op .fdiv (.nm 3) (.k (.int (3)))) (.k (.int (2))))))))) .nil) .nil) 
  (.cons (.ite (.cmp (.op .mod (.nm 3) (.k (.int (3)))) [.eq] (.cons (.k (.int (2))) .nil)) 
    (.cons (.loop (.one 4) (.f1 .range (.op .add (.k (.int (1))) (.op .mod (.op .fdiv (.nm 3) (.k (.int (3)))) (.k (.int (3)))))) b_law_1) .nil) .nil) b_law_u))
noncomputable def b_law : Ss := 
  (.cons (.unp [1, 2] (.call 15 (.cons (.nm 0) (.cons (.k (.int (1))) (.cons (.k (.int (5))) .nil))))) 
  (.cons (.asg true 10 (.callb 16 (.cons (.nm 1) (.cons (.nm 2) .nil)))) 
  (.cons (.asg false 3 (.call 13 (.cons (.nm 0) (.cons (.k (.int (0))) .nil)))) b_law_t)))
noncomputable def f_law : Fn := ⟨1, 11, b_law⟩

noncomputable def T05 : List Fn := [f_is_among, f_need_counts, f_want_of, f_tie_of, f_piece_from, f_pieces_by, f_laid, f_told, f_done_by, f_hindered, f_spare_tie, f_joined_up, f_hung, f__law_cell, f__law_mixed, f__law_web, f__law_counts, f__law_pieces, f__law_within, f__law_all]
end TC

namespace TC
open PySem
section
variable {n : Nat} {hm : Bool} {K : V → Prop} {X : Nat → Prop}
noncomputable def amongB : PyData → Int → Int → Bool
  | .int i, a, b => decide (a ≤ i) && decide (i ≤ b)
  | _, _, _ => false
theorem cond2 {c d : Bool} {K : V → Prop} (k : K (.d (.bool (c && d)))) : cond c (cond d (K (.d (.bool true))) (K (.d (.bool false)))) (K (.d (.bool false))) := by
  cases c <;> cases d <;> exact k
theorem GD (x : PyData) (a b : Int) (k : K (.d (.bool (amongB x a b)))) : wpCall T05 (n + 1) hm 0 [.d x, .d (.int a), .d (.int b)] K X := by
  refine JY (fn := f_is_among) rfl rfl (by decide) ?_
  dsimp only [f_is_among, b_is_among, wpSs, wpS, wpE, wpL, slotW, ownS, Rho.putL, frz, bindF, setD, setAll, bindT, F1.W, F2.W, F1.quiet, seqV, numW, isNon, JN, JI, YF, YE, JF, YB, Zz, YA, Zg, ZO, YL, ZW, ZU, ZV, JD, Zv, Zc, Zb, ZH, ZG, YY, Zl, YH, ZQ, JO, YM, JC, ZS, ZT, ZJ, ZK, Zm, Zn, Zx, JE, Zy, Zu, ZL, Zf, YP, YQ, Zt, Zs, YR, YO, Za, Zr, Zq, JQ, YN, ZY, ZF, ZD, ZE, ZC, ZA, ZB, ZZ, excIs, Jj, YU, YV, YD, YC, YW, YX, Yk, Yl, Yb, Yc, Yg, Yh, Yx, Yy, Ym, Yn, Yt, Yu, Yi, Yj, Yo, YJ, YK, Jg, Jf, Ji, Jh, Yf, Yz, Yp, Yq, Yd, Ye, YZ, Ya, JL, JM, Yv, Yw, JA, JB, Jl, Jk, Ys, Yr, Nat.reduceSub, Nat.reduceAdd, YG, ZP, JR, Zj, Zo, ZX, Zp, YS, Ze, Zd, YT, Zk, JK, JP, JH, JG, Zi, Zh, ZN, ZI, ZM, Zw]
  cases x with
  | int i => exact cond2 k
  | _ => exact k
noncomputable def cellAt (sc : List Int) (k : Int) : Int := sc.getD k.toNat 0
theorem Xk (sc : List Int) (k : Int) (hs : sc.length < 64) (hk0 : 0 ≤ k) (hk : k < 1000) (q : K (.d (.int (cellAt sc k)))) : wpCall T05 (n + 1) hm 13 [.d (.list (ofInts sc)), .d (.int k)] K X := by
  have l : (ofInts sc).length < lim := by rw [YI]; exact JT (by lia)
  refine JY (fn := f__law_cell) rfl rfl (by decide) ?_
  dsimp only [f__law_cell, b__law_cell, wpSs, wpS, wpE, wpL, slotW, ownS, Rho.putL, frz, bindF, setD, setAll, bindT, F1.W, F2.W, F1.quiet, seqV, numW, isNon, JN, JI, YF, YE, JF, YB, Zz, YA, Zg, ZO, YL, ZW, ZU, ZV, JD, Zv, Zc, Zb, ZH, ZG, YY, Zl, YH, ZQ, JO, YM, JC, ZS, ZT, ZJ, ZK, Zm, Zn, Zx, JE, Zy, Zu, ZL, Zf, YP, YQ, Zt, Zs, YR, YO, Za, Zr, Zq, JQ, YN, ZY, ZF, ZD, ZE, ZC, ZA, ZB, ZZ, excIs, Jj, YU, YV, YD, YC, YW, YX, Yk, Yl, Yb, Yc, Yg, Yh, Yx, Yy, Ym, Yn, Yt, Yu, Yi, Yj, Yo, YJ, YK, Jg, Jf, Ji, Jh, Yf, Yz, Yp, Yq, Yd, Ye, YZ, Ya, JL, JM, Yv, Yw, JA, JB, Jl, Jk, Ys, Yr, Nat.reduceSub, Nat.reduceAdd, YG, ZP, JR, Zj, Zo, ZX, Zp, YS, Ze, Zd, YT, Zk, JK, JP, JH, JG, Zi, Zh, ZN, ZI, ZM, Zw]
  refine ⟨l, Jv (fun lt => ?_) (fun lt => ?_)⟩ <;> rw [YI] at lt
  · have lt' : k.toNat < sc.length := by lia
    have e2 : cellAt sc k = sc[k.toNat] := by unfold cellAt; rw [List.getD_eq_getElem?_getD, List.getElem?_eq_getElem lt']; rfl
    rw [Vh hk0 hk, getElem?_ofInts, List.getElem?_eq_getElem lt', ← e2]
    exact q
  · have e2 : cellAt sc k = 0 := by unfold cellAt; rw [List.getD_eq_getElem?_getD, List.getElem?_eq_none (by lia)]; rfl
    rw [e2] at q
    exact q
noncomputable def mixed (c k : Int) : Int := ((((c + 7919 * k + 13) * (c + 7919 * k + 13)).fmod 1000000007 * 48271).fmod 998244353).fdiv 11
theorem XT (c k : Int) (ok : IntMulOk (c + 7919 * k + 13) (c + 7919 * k + 13)) (q : K (.d (.int (mixed c k)))) : wpCall T05 (n + 1) hm 14 [.d (.int c), .d (.int k)] K X := by
  refine JY (fn := f__law_mixed) rfl rfl (by decide) ?_
  dsimp only [f__law_mixed, b__law_mixed, wpSs, wpS, wpE, wpL, slotW, ownS, Rho.putL, frz, bindF, setD, setAll, bindT, F1.W, F2.W, F1.quiet, seqV, numW, isNon, JN, JI, YF, YE, JF, YB, Zz, YA, Zg, ZO, YL, ZW, ZU, ZV, JD, Zv, Zc, Zb, ZH, ZG, YY, Zl, YH, ZQ, JO, YM, JC, ZS, ZT, ZJ, ZK, Zm, Zn, Zx, JE, Zy, Zu, ZL, Zf, YP, YQ, Zt, Zs, YR, YO, Za, Zr, Zq, JQ, YN, ZY, ZF, ZD, ZE, ZC, ZA, ZB, ZZ, excIs, Jj, YU, YV, YD, YC, YW, YX, Yk, Yl, Yb, Yc, Yg, Yh, Yx, Yy, Ym, Yn, Yt, Yu, Yi, Yj, Yo, YJ, YK, Jg, Jf, Ji, Jh, Yf, Yz, Yp, Yq, Yd, Ye, YZ, Ya, JL, JM, Yv, Yw, JA, JB, Jl, Jk, Ys, Yr, Nat.reduceSub, Nat.reduceAdd, YG, ZP, JR, Zj, Zo, ZX, Zp, YS, Ze, Zd, YT, Zk, JK, JP, JH, JG, Zi, Zh, ZN, ZI, ZM, Zw]
  exact ⟨IntMulOk.of_left (by decide), ok, by decide, IntMulOk.of_right (by decide), by decide, ⟨by decide, by decide⟩, q⟩
theorem WX {a : PyData} {r : List PyData} {K : V → Prop} (k : K (.d a)) : got (idxV (.d (.tuple (a :: r))) 0) K := by rw [Wo (by decide) (by decide)]; exact k
theorem ZFy {a b : PyData} {r : List PyData} {K : V → Prop} (k : K (.d b)) : got (idxV (.d (.tuple (a :: b :: r))) 1) K := by rw [Wo (by decide) (by decide)]; exact k
end
end TC

namespace TC


noncomputable abbrev Ties := List (Nat × Nat)
noncomputable def Adj (ts : Ties) (a b : Nat) : Prop := (a, b) ∈ ts ∨ (b, a) ∈ ts
theorem Adj.symm {ts : Ties} {a b : Nat} (h : Adj ts a b) : Adj ts b a := Or.symm h
inductive Cn (ts : Ties) (a : Nat) : Nat → Prop
  | refl : Cn ts a a
  | step {b c : Nat} : Cn ts a b → Adj ts b c → Cn ts a c
theorem Cn.trans {ts : Ties} {a b c : Nat} (x : Cn ts a b) (y : Cn ts b c) : Cn ts a c := by
  induction y with
  | refl => exact x
  | step _ h ih => exact .step ih h
theorem Cn.one {ts : Ties} {a b : Nat} (h : Adj ts a b) : Cn ts a b := .step .refl h
theorem Cn.symm {ts : Ties} {a b : Nat} (x : Cn ts a b) : Cn ts b a := by
  induction x with
  | refl => exact .refl
  | step _ h ih => exact (Cn.one h.symm).trans ih
theorem Cn.mono {ts us : Ties} (s : ∀ t ∈ ts, t ∈ us) {a b : Nat} (x : Cn ts a b) : Cn us a b := by
  induction x with
  | refl => exact .refl
  | step _ h ih => exact .step ih (h.imp (s _) (s _))
theorem Cn.closed {ts : Ties} {P : Nat → Prop} (c : ∀ x y, P x → Adj ts x y → P y) {a b : Nat} (h : P a) (x : Cn ts a b) : P b := by
  induction x with
  | refl => exact h
  | step _ q ih => exact c _ _ ih q
noncomputable def Web (n : Nat) (ts : Ties) : Prop := ts.Nodup ∧ ∀ t ∈ ts, t.1 < t.2 ∧ t.2 < n
theorem Web.lt {n : Nat} {ts : Ties} (w : Web n ts) {a b : Nat} (h : Adj ts a b) : a < n ∧ b < n := by
  rcases h with h | h <;> have := w.2 _ h <;> dsimp only at this <;> lia
theorem Cn.lt {n : Nat} {ts : Ties} (w : Web n ts) {a b : Nat} (h : a < n) (x : Cn ts a b) : b < n := Cn.closed (fun _ _ _ q => (w.lt q).2) h x

noncomputable def dec (p : Prop) : Bool := @decide p (Classical.propDecidable p)
theorem Qb {p : Prop} : dec p = true ↔ p := @decide_eq_true_iff p (Classical.propDecidable p)
theorem Xd {p : Prop} (h : p) : dec p = true := Qb.mpr h
theorem Vz {p : Prop} (h : ¬ p) : dec p = false := Bool.eq_false_iff.mpr fun q => h (Qb.mp q)
theorem Vy {p q : Prop} (h : p ↔ q) : dec p = dec q := by rw [propext h]
noncomputable def compOf (n : Nat) (ts : Ties) (p : Nat) : List Nat := (List.range n).filter fun q => dec (Cn ts p q)
noncomputable def Rep (ts : Ties) (p : Nat) : Prop := ∀ q, Cn ts q p → p ≤ q
noncomputable def reps (n : Nat) (ts : Ties) : List Nat := (List.range n).filter fun p => dec (Rep ts p)
noncomputable def comps (n : Nat) (ts : Ties) : List (List Nat) := (reps n ts).map (compOf n ts)

theorem Jq {n : Nat} {ts : Ties} {p q : Nat} : q ∈ compOf n ts p ↔ q < n ∧ Cn ts p q := by
  unfold compOf; rw [List.mem_filter, List.mem_range, Qb]
theorem Jr {n : Nat} {ts : Ties} {p : Nat} : p ∈ reps n ts ↔ p < n ∧ Rep ts p := by
  unfold reps; rw [List.mem_filter, List.mem_range, Qb]
theorem XB (n : Nat) (ts : Ties) (p : Nat) : (compOf n ts p).Pairwise (· < ·) := List.pairwise_lt_range.filter _
theorem XR (ts : Ties) (p : Nat) : ∃ r, Rep ts r ∧ Cn ts r p := by
  induction p using Nat.strongRecOn with
  | ind p ih =>
    by_cases h : Rep ts p
    · exact ⟨p, h, .refl⟩
    · obtain ⟨q, hq⟩ := Classical.not_forall.mp h
      obtain ⟨h1, h2⟩ := Classical.not_imp.mp hq
      obtain ⟨r, h3, h4⟩ := ih q (Nat.lt_of_not_le h2)
      exact ⟨r, h3, h4.trans h1⟩
theorem Rep.uniq {ts : Ties} {r s : Nat} (h : Rep ts r) (k : Rep ts s) (c : Cn ts r s) : r = s := Nat.le_antisymm (h _ c.symm) (k _ c)


noncomputable def mstep (m : List Nat) (t : Nat × Nat) : List Nat := (m.set t.1 (min (m.getD t.1 0) (m.getD t.2 0))).set t.2 (min (m.getD t.1 0) (m.getD t.2 0))
noncomputable def mround (ts : Ties) (m : List Nat) : List Nat := ts.foldl mstep m
theorem WU {m : List Nat} {i j v : Nat} : (m.set i v).getD j 0 = if i = j ∧ j < m.length then v else m.getD j 0 := by
  rw [List.getD_eq_getElem?_getD, List.getD_eq_getElem?_getD, List.getElem?_set]
  by_cases e : i = j
  · subst e
    by_cases l : i < m.length
    · rw [if_pos rfl, if_pos l, if_pos ⟨rfl, l⟩]; rfl
    · rw [if_pos rfl, if_neg l, if_neg fun h => l h.2, List.getElem?_eq_none (Nat.le_of_not_lt l)]
  · rw [if_neg e, if_neg fun h => e h.1]
theorem XG (m : List Nat) (t : Nat × Nat) : (mstep m t).length = m.length := by unfold mstep; rw [List.length_set, List.length_set]
theorem Gf (ts : Ties) : ∀ m, (mround ts m).length = m.length := by
  unfold mround
  induction ts with
  | nil => intro m; rfl
  | cons t ts ih => intro m; rw [List.foldl_cons, ih, XG]
theorem Xr (m : List Nat) (t : Nat × Nat) (p : Nat) (h1 : t.1 < m.length) (h2 : t.2 < m.length) : (mstep m t).getD p 0 = if p = t.1 ∨ p = t.2 then min (m.getD t.1 0) (m.getD t.2 0) else m.getD p 0 := by
  unfold mstep
  rw [WU, WU, List.length_set]
  by_cases e2 : p = t.2
  · subst e2; rw [if_pos ⟨rfl, h2⟩, if_pos (.inr rfl)]
  · rw [if_neg fun h => e2 h.1.symm]
    by_cases e1 : p = t.1
    · subst e1; rw [if_pos ⟨rfl, h1⟩, if_pos (.inl rfl)]
    · rw [if_neg fun h => e1 h.1.symm, if_neg fun h => h.elim e1 e2]
theorem ZEk (m : List Nat) (t : Nat × Nat) (p : Nat) (h1 : t.1 < m.length) (h2 : t.2 < m.length) : (mstep m t).getD p 0 ≤ m.getD p 0 := by
  rw [Xr m t p h1 h2]
  split
  · rename_i h; rcases h with rfl | rfl
    · exact Nat.min_le_left ..
    · exact Nat.min_le_right ..
  · exact Nat.le_refl _
theorem Xq {n : Nat} : ∀ {ts : Ties} {m : List Nat}, (∀ t ∈ ts, t.1 < n ∧ t.2 < n) → m.length = n → (∀ p, (mround ts m).getD p 0 ≤ m.getD p 0) ∧ ∀ x y, Adj ts x y → (mround ts m).getD y 0 ≤ m.getD x 0
  | [], m, _, _ => ⟨fun p => Nat.le_refl _, fun x y h => by rcases h with h | h <;> cases h⟩
  | t :: ts, m, w, l => by
    have ht := w t (.head _)
    obtain ⟨a, b⟩ := Xq (ts := ts) (m := mstep m t) (fun u hu => w u (.tail _ hu)) (by rw [XG, l])
    have le := fun p => ZEk m t p (by lia) (by lia)
    have gt := fun p => Xr m t p (by lia) (by lia)
    refine ⟨fun p => Nat.le_trans (a p) (le p), fun x y h => ?_⟩
    show (mround ts (mstep m t)).getD y 0 ≤ _
    by_cases e : (x = t.1 ∧ y = t.2) ∨ (x = t.2 ∧ y = t.1)
    · refine Nat.le_trans (a y) ?_
      rw [gt y]
      rcases e with ⟨rfl, rfl⟩ | ⟨rfl, rfl⟩
      · rw [if_pos (.inr rfl)]; exact Nat.min_le_left ..
      · rw [if_pos (.inl rfl)]; exact Nat.min_le_right ..
    · have h' : Adj ts x y := by
        rcases h with h | h
        · cases h with
          | head => exact absurd (.inl ⟨rfl, rfl⟩) e
          | tail _ h => exact .inl h
        · cases h with
          | head => exact absurd (.inr ⟨rfl, rfl⟩) e
          | tail _ h => exact .inr h
      exact Nat.le_trans (b x y h') (le x)
theorem UM {n : Nat} {us : Ties} : ∀ {ts : Ties} {m : List Nat}, (∀ t ∈ ts, t ∈ us ∧ t.1 < n ∧ t.2 < n) → m.length = n → (∀ p, p < n → Cn us (m.getD p 0) p) → ∀ p, p < n → Cn us ((mround ts m).getD p 0) p
  | [], m, _, _, h => h
  | t :: ts, m, w, l, h => by
    have ht := w t (.head _)
    refine UM (ts := ts) (m := mstep m t) (fun u hu => w u (.tail _ hu)) (by rw [XG, l]) fun p hp => ?_
    rw [Xr m t p (by lia) (by lia)]
    have ab : Cn us t.1 t.2 := .one (.inl ht.1)
    have c1 : Cn us (min (m.getD t.1 0) (m.getD t.2 0)) t.1 := by
      rw [Nat.min_def]; split
      · exact h _ ht.2.1
      · exact (h _ ht.2.2).trans ab.symm
    split
    · rename_i e; rcases e with rfl | rfl
      · exact c1
      · exact c1.trans ab
    · exact h p hp
noncomputable def mrounds (ts : Ties) (n : Nat) : Nat → List Nat
  | 0 => List.range n
  | k + 1 => mround ts (mrounds ts n k)
theorem Jw (ts : Ties) (n : Nat) : ∀ k, (mrounds ts n k).length = n
  | 0 => List.length_range
  | k + 1 => by rw [mrounds, Gf, Jw ts n k]
theorem HX {l : List Nat} {P Q : Nat → Bool} (s : ∀ x ∈ l, P x = true → Q x = true) {y : Nat} (hy : y ∈ l) (q : Q y = true) (p : P y = false) : l.countP P < l.countP Q := by
  induction l with
  | nil => cases hy
  | cons a l ih =>
    rw [List.countP_cons, List.countP_cons]
    have le : l.countP P ≤ l.countP Q := List.countP_mono_left fun x hx => s x (.tail _ hx)
    have sa := s a (.head _)
    cases hy with
    | head => rw [q, p]; simp; lia
    | tail _ hy =>
      have := ih (fun x hx => s x (.tail _ hx)) hy
      cases pa : P a with
      | false => cases Q a <;> simp <;> lia
      | true => rw [sa pa]; simp; lia
theorem Gc {n : Nat} {ts : Ties} (w : Web n ts) : (∀ p < n, Cn ts ((mrounds ts n n).getD p 0) p) ∧ ∀ p < n, Rep ts ((mrounds ts n n).getD p 0) := by
  have wl : ∀ t ∈ ts, t.1 < n ∧ t.2 < n := fun t h => by have := w.2 t h; lia
  have cn : ∀ k p, p < n → Cn ts ((mrounds ts n k).getD p 0) p := fun k => by
    induction k with
    | zero => intro p hp; rw [mrounds, List.getD_eq_getElem?_getD, List.getElem?_range hp]; exact .refl
    | succ k ih => exact UM (fun t h => ⟨h, wl t h⟩) (Jw ts n k) ih
  have le : ∀ k p, (mrounds ts n (k + 1)).getD p 0 ≤ (mrounds ts n k).getD p 0 := fun k => (Xq wl (Jw ts n k)).1
  have on : ∀ k x y, Adj ts x y → (mrounds ts n (k + 1)).getD y 0 ≤ (mrounds ts n k).getD x 0 := fun k => (Xq wl (Jw ts n k)).2
  have key : ∀ r, r < n → Rep ts r → ∀ k, (∀ p, Cn ts r p → (mrounds ts n k).getD p 0 = r) ∨ k < (List.range n).countP fun p => decide ((mrounds ts n k).getD p 0 = r) := fun r hr rr k => by
    have ge : ∀ k p, Cn ts r p → r ≤ (mrounds ts n k).getD p 0 := fun k p c => rr _ ((cn k p (c.lt w hr)).trans c.symm)
    have at_r : ∀ k, (mrounds ts n k).getD r 0 = r := fun k => by
      induction k with
      | zero => rw [mrounds, List.getD_eq_getElem?_getD, List.getElem?_range hr]; rfl
      | succ k ih => have := le k r; have := ge (k + 1) r .refl; lia
    induction k with
    | zero =>
      right
      exact Nat.lt_of_le_of_lt (Nat.zero_le _) (List.countP_pos_iff.mpr ⟨r, List.mem_range.mpr hr, decide_eq_true (at_r 0)⟩)
    | succ k ih =>
      by_cases all : ∀ p, Cn ts r p → (mrounds ts n k).getD p 0 = r
      · left; intro p c; have := all p c; have := le k p; have := ge (k + 1) p c; lia
      · right
        have ih := ih.resolve_left all
        have ex : ∃ x y, Cn ts r x ∧ (mrounds ts n k).getD x 0 = r ∧ Adj ts x y ∧ (mrounds ts n k).getD y 0 ≠ r := Classical.byContradiction fun no =>
          all fun p c => (Cn.closed (P := fun x => Cn ts r x ∧ (mrounds ts n k).getD x 0 = r) (fun x y hx a => ⟨hx.1.step a, Classical.byContradiction fun ne => no ⟨x, y, hx.1, hx.2, a, ne⟩⟩) ⟨.refl, at_r k⟩ c).2
        obtain ⟨x, y, c, e, a, ne⟩ := ex
        have cy := c.step a
        have hy := cy.lt w hr
        refine Nat.lt_of_le_of_lt ih (HX (fun p hp q => ?_) (List.mem_range.mpr hy) ?_ (decide_eq_false ne))
        · have q := of_decide_eq_true q
          have c2 : Cn ts r p := by have := cn k p (List.mem_range.mp hp); rw [q] at this; exact this
          have := le k p; have := ge (k + 1) p c2
          exact decide_eq_true (by lia)
        · have := on k x y a; have := ge (k + 1) y cy
          exact decide_eq_true (by lia)
  refine ⟨cn n, fun p hp => ?_⟩
  obtain ⟨r, rr, c⟩ := XR ts p
  have hr : r < n := c.symm.lt w hp
  rcases key r hr rr n with h | h
  · rw [h p c]; exact rr
  · have := List.countP_le_length (p := fun p => decide ((mrounds ts n n).getD p 0 = r)) (l := List.range n)
    rw [List.length_range] at this; lia

theorem marked {n : Nat} {ts : Ties} (w : Web n ts) (k : Nat) : (List.range n).filter (fun p => decide ((mrounds ts n n).getD p 0 = k)) = if k ∈ reps n ts then compOf n ts k else [] := by
  obtain ⟨h1, h2⟩ := Gc w
  split
  · rename_i hk
    have hk := Jr.mp hk
    refine List.filter_congr fun p hp => ?_
    have hp := List.mem_range.mp hp
    refine Bool.eq_iff_iff.mpr ?_
    rw [Qb, decide_eq_true_iff]
    exact ⟨fun e => e ▸ h1 p hp, fun c => (h2 p hp).uniq hk.2 ((h1 p hp).trans c.symm)⟩
  · rename_i hk
    refine List.filter_eq_nil_iff.mpr fun p hp e => hk ?_
    have hp := List.mem_range.mp hp
    have e := of_decide_eq_true e
    subst e
    exact Jr.mpr ⟨(h1 p hp).symm.lt w hp, h2 p hp⟩
theorem HU {n : Nat} {ts : Ties} {k : Nat} (h : k < n) : compOf n ts k ≠ [] := fun e => by
  have := Jq.mpr ⟨h, Cn.refl (ts := ts)⟩
  rw [e] at this; cases this
theorem US {n : Nat} {ts : Ties} (w : Web n ts) : ((List.range n).map fun k => (List.range n).filter fun p => decide ((mrounds ts n n).getD p 0 = k)).filter (fun l => decide (l ≠ [])) = comps n ts := by
  have e : ((List.range n).map fun k => (List.range n).filter fun p => decide ((mrounds ts n n).getD p 0 = k)) = (List.range n).map fun k => if k ∈ reps n ts then compOf n ts k else [] := List.map_congr_left fun k _ => marked w k
  rw [e, List.filter_map]
  unfold comps
  have e2 : (List.range n).filter ((fun l => decide (l ≠ [])) ∘ fun k => if k ∈ reps n ts then compOf n ts k else []) = reps n ts := by
    refine List.filter_congr fun k hk => ?_
    have hk := List.mem_range.mp hk
    show decide ((if k ∈ reps n ts then compOf n ts k else []) ≠ []) = _
    by_cases r : Rep ts k
    · rw [if_pos (Jr.mpr ⟨hk, r⟩), decide_eq_true (HU hk), Xd r]
    · rw [if_neg fun h => r (Jr.mp h).2, Vz r]; rfl
  rw [e2]
  exact List.map_congr_left fun k hk => if_pos hk
theorem HT {n : Nat} {ts : Ties} {p q : Nat} (c : Cn ts p q) : compOf n ts p = compOf n ts q :=
  List.filter_congr fun x _ => Vy ⟨fun h => c.symm.trans h, fun h => c.trans h⟩
theorem UT {n k : Nat} {ts : Ties} : reps (k + 1) ts = reps k ts ++ (if dec (Rep ts k) then [k] else []) := by
  unfold reps
  rw [List.range_succ, List.filter_append]
  cases e : dec (Rep ts k) <;> simp [e]
theorem ZIg {n k : Nat} {ts : Ties} (w : Web n ts) : ¬ Rep ts k ↔ ∃ r ∈ reps k ts, Cn ts r k := by
  constructor
  · intro h
    obtain ⟨r, h1, h2⟩ := XR ts k
    refine ⟨r, Jr.mpr ⟨?_, h1⟩, h2⟩
    have := h1 k h2.symm
    rcases Nat.lt_or_eq_of_le this with h | rfl
    · exact h
    · exact absurd h1 h
  · rintro ⟨r, h1, h2⟩ h
    have := h _ h2; have := (Jr.mp h1).1; lia
end TC

namespace TC

noncomputable def sm (P : List Nat) (f : Nat → Int) : Int := (P.map f).sum
theorem ZBu (f : Nat → Int) : sm [] f = 0 := rfl
theorem JV (a : Nat) (P : List Nat) (f : Nat → Int) : sm (a :: P) f = f a + sm P f := by unfold sm; rw [List.map_cons, List.sum_cons]
theorem JX {P : List Nat} {f g : Nat → Int} (h : ∀ i ∈ P, f i = g i) : sm P f = sm P g := by unfold sm; rw [List.map_congr_left h]
theorem Qa (P : List Nat) (f g : Nat → Int) : sm P (fun i => f i + g i) = sm P f + sm P g := by
  induction P with
  | nil => rfl
  | cons a P ih => rw [JV, JV, JV, ih]; lia
theorem QM (P : List Nat) (f g : Nat → Int) : sm P (fun i => f i - g i) = sm P f - sm P g := by
  induction P with
  | nil => rfl
  | cons a P ih => rw [JV, JV, JV, ih]; lia
theorem XL (P : List Nat) (c : Int) (f : Nat → Int) : sm P (fun i => c * f i) = c * sm P f := by
  induction P with
  | nil => rw [ZBu, ZBu, Int.mul_zero]
  | cons a P ih => rw [JV, JV, ih, Int.mul_add]
theorem XK {P : List Nat} {f g : Nat → Int} (h : ∀ i ∈ P, f i ≤ g i) : sm P f ≤ sm P g := by
  induction P with
  | nil => exact Int.le_refl _
  | cons a P ih => rw [JV, JV]; exact Int.add_le_add (h a (.head _)) (ih fun i hi => h i (.tail _ hi))
theorem QJ {P : List Nat} {f : Nat → Int} (h : ∀ i ∈ P, 0 ≤ f i) : 0 ≤ sm P f := by
  have e : sm P (fun _ => 0) = 0 := by
    induction P with
    | nil => rfl
    | cons a P ih => rw [JV, ih fun i hi => h i (.tail _ hi)]; rfl
  rw [← e]; exact XK h
theorem Qq (P : List Nat) : sm P (fun _ => 1) = P.length := by
  induction P with
  | nil => rfl
  | cons a P ih => rw [JV, ih, List.length_cons]; lia
theorem QP {P R : List Nat} (h : P.Perm R) (f : Nat → Int) : sm P f = sm R f := by
  induction h with
  | nil => rfl
  | cons a _ ih => rw [JV, JV, ih]
  | swap a b l => rw [JV, JV, JV, JV]; lia
  | trans _ _ ih1 ih2 => rw [ih1, ih2]
theorem XJ (P R : List Nat) (f : Nat → Int) : sm (P ++ R) f = sm P f + sm R f := by
  induction P with
  | nil => rw [List.nil_append, ZBu, Int.zero_add]
  | cons a P ih => rw [List.cons_append, JV, JV, ih]; lia
theorem Qi {P : List Nat} (nd : P.Nodup) {f g : Nat → Int} {i : Nat} (hi : i ∈ P) (h : ∀ j ∈ P, j ≠ i → g j = f j) : sm P g = sm P f + (g i - f i) := by
  induction P with
  | nil => cases hi
  | cons a P ih =>
    rw [JV, JV]
    have nd' := List.nodup_cons.mp nd
    cases hi with
    | head => rw [JX (f := g) (g := f) fun j hj => h j (.tail _ hj) fun e => nd'.1 (e ▸ hj)]; lia
    | tail _ hi => rw [ih nd'.2 hi fun j hj => h j (.tail _ hj), h a (.head _) fun e => nd'.1 (e ▸ hi)]; lia
theorem ZHh {α : Type} {Q : α → Prop} (W : α → Int) (M : Int) (b : ∀ x, Q x → W x ≤ M) : ∀ x, Q x → ∃ y, Q y ∧ ∀ z, Q z → W z ≤ W y := by
  have key : ∀ k : Nat, ∀ x, Q x → M - W x ≤ k → ∃ y, Q y ∧ ∀ z, Q z → W z ≤ W y := by
    intro k
    induction k with
    | zero => exact fun x hx h => ⟨x, hx, fun z hz => by have := b z hz; lia⟩
    | succ k ih =>
      intro x hx h
      by_cases g : ∀ z, Q z → W z ≤ W x
      · exact ⟨x, hx, g⟩
      · obtain ⟨z, hz⟩ := Classical.not_forall.mp g
        obtain ⟨h1, h2⟩ := Classical.not_imp.mp hz
        exact ih z h1 (by lia)
  intro x hx
  exact key (M - W x).toNat x hx (by lia)

noncomputable def Tri (σ : Nat → Int) : Prop := ∀ i, σ i = 1 ∨ σ i = 0 ∨ σ i = -1
noncomputable def ps (x : Int) : Int := if x = 1 then 1 else 0
noncomputable def ng (x : Int) : Int := if x = -1 then 1 else 0
noncomputable def EG (P : List Nat) (d : Nat → Int) : Prop := ∀ σ, Tri σ → sm P (fun i => σ i * d i) ≤ sm P (fun i => ps (σ i)) * (P.length - 1 - sm P fun i => ng (σ i))
theorem ps1 : ps 1 = 1 := rfl
theorem ps0 : ps 0 = 0 := rfl
theorem psm : ps (-1) = 0 := rfl
theorem ng1 : ng 1 = 0 := rfl
theorem ng0 : ng 0 = 0 := rfl
theorem ngm : ng (-1) = 1 := rfl
noncomputable def upd (σ : Nat → Int) (i : Nat) (v : Int) : Nat → Int := fun j => if j = i then v else σ j
theorem XY (σ : Nat → Int) (i : Nat) (v : Int) : upd σ i v i = v := if_pos rfl
theorem QQ (σ : Nat → Int) {i j : Nat} (v : Int) (h : j ≠ i) : upd σ i v j = σ j := if_neg h
theorem Tri.upd {σ : Nat → Int} (h : Tri σ) (i : Nat) {v : Int} (hv : v = 1 ∨ v = 0 ∨ v = -1) : Tri (upd σ i v) := fun j => by
  unfold TC.upd; split
  · exact hv
  · exact h j

section
variable {P : List Nat} {p : Nat} {d : Nat → Int} {N : Nat → Bool}
noncomputable def nN (N : Nat → Bool) (i : Nat) : Int := if N i then 1 else 0
theorem QW (N : Nat → Bool) (i : Nat) : (N i = true ∧ nN N i = 1) ∨ (N i = false ∧ nN N i = 0) := by
  unfold nN; cases N i
  · exact .inr ⟨rfl, rfl⟩
  · exact .inl ⟨rfl, rfl⟩
theorem EG.at_p (h : EG (p :: P) d) (hp : p ∉ P) {σ : Nat → Int} (t : Tri σ) (s : Int) (hs : s = 1 ∨ s = 0 ∨ s = -1) :
    s * d p + sm P (fun i => σ i * d i) ≤ (ps s + sm P fun i => ps (σ i)) * (P.length - (ng s + sm P fun i => ng (σ i))) := by
  have := h (upd σ p s) (t.upd p hs)
  rw [JV, JV, JV, XY, List.length_cons] at this
  have off : ∀ i ∈ P, upd σ p s i = σ i := fun i hi => QQ σ s fun e => hp (e ▸ hi)
  rw [JX (f := fun i => upd σ p s i * d i) (g := fun i => σ i * d i) fun i hi => by rw [off i hi],
    JX (f := fun i => ps (upd σ p s i)) (g := fun i => ps (σ i)) fun i hi => by rw [off i hi],
    JX (f := fun i => ng (upd σ p s i)) (g := fun i => ng (σ i)) fun i hi => by rw [off i hi]] at this
  have e : ((P.length + 1 : Nat) : Int) - 1 - (ng s + sm P fun i => ng (σ i)) = P.length - (ng s + sm P fun i => ng (σ i)) := by lia
  rw [e] at this
  exact this
theorem sgn {s : Int} (h : s = 1 ∨ s = 0 ∨ s = -1) : s = ps s - ng s ∧ 0 ≤ ps s ∧ 0 ≤ ng s ∧ ps s + ng s ≤ 1 := by rcases h with rfl | rfl | rfl <;> decide
theorem sgn2 {s : Int} (h : s = 1 ∨ s = 0 ∨ s = -1) (h0 : s ≠ 0) : s = 1 - 2 * ng s := by
  rcases h with rfl | rfl | rfl
  · rfl
  · exact absurd rfl h0
  · rfl
theorem ZGm {σ : Nat → Int} (t : Tri σ) : 0 ≤ (sm P fun i => ps (σ i)) ∧ 0 ≤ (sm P fun i => ng (σ i)) ∧ (sm P fun i => ps (σ i)) + (sm P fun i => ng (σ i)) ≤ P.length := by
  refine ⟨QJ fun i _ => (sgn (t i)).2.1, QJ fun i _ => (sgn (t i)).2.2.1, ?_⟩
  rw [← Qa, ← Qq]
  exact XK fun i _ => (sgn (t i)).2.2.2
theorem mulN {x : Int} (h : 0 ≤ x) (i : Nat) : 0 ≤ x * nN N i ∧ x * nN N i ≤ x := by
  rcases QW N i with ⟨_, e⟩ | ⟨_, e⟩ <;> rw [e]
  · rw [Int.mul_one]; exact ⟨h, Int.le_refl _⟩
  · rw [Int.mul_zero]; exact ⟨Int.le_refl _, h⟩
theorem ZBw {S A L d n e : Int} (hn : (n = 1 ∧ e = 1) ∨ (n = 0 ∧ e = -1)) (pos : 0 < S - A) (q : 2 * (S + (-1) * (d - n) - (A - L) - (S - A)) + e * (-1) ≤ 0 ∨ S + (-1) * (d - n) - (A - L) ≤ 0) : L + 1 ≤ d := by
  rcases hn with ⟨rfl, rfl⟩ | ⟨rfl, rfl⟩ <;> lia
theorem ZBx {S A L d n e : Int} (hn : (n = 1 ∧ e = 1) ∨ (n = 0 ∧ e = -1)) (pos : 0 < S - A) (q : 2 * (S + 1 * (d - n) - (A + L) - (S - A)) + e * 1 ≤ 0 ∨ S + 1 * (d - n) - (A + L) ≤ 0) : d ≤ L := by
  rcases hn with ⟨rfl, rfl⟩ | ⟨rfl, rfl⟩ <;> lia
theorem EG.off (hN : EG P d) (hp : p ∉ P) (h0 : d p = 0) : EG (p :: P) d := fun σ t => by
  have h := hN σ t
  rw [JV, JV, JV, h0, Int.mul_zero, List.length_cons, Int.zero_add]
  obtain ⟨a0, _, ab⟩ := ZGm (P := P) t
  generalize (sm P fun i => ps (σ i)) = a at *
  generalize (sm P fun i => ng (σ i)) = b at *
  generalize (sm P fun i => σ i * d i) = x at *
  generalize hm : (P.length : Int) = m at *
  have e : (((P.length + 1 : Nat) : Int)) = m + 1 := by lia
  rw [e]
  have q := Int.mul_nonneg a0 (by lia : 0 ≤ m - a - b)
  rcases t p with e | e | e <;> rw [e]
  · rw [ps1, ng1]
    have : (1 + a) * (m + 1 - 1 - (0 + b)) = a * (m - 1 - b) + a + (m - b) := by
      have e : m + 1 - 1 - (0 + b) = (m - 1 - b) + 1 := by lia
      rw [e, Int.add_mul, Int.mul_add a]; lia
    lia
  · rw [ps0, ng0]
    have : (0 + a) * (m + 1 - 1 - (0 + b)) = a * (m - 1 - b) + a := by
      have e : m + 1 - 1 - (0 + b) = (m - 1 - b) + 1 := by lia
      rw [e, Int.zero_add, Int.mul_add]; lia
    lia
  · rw [psm, ngm]
    have : (0 + a) * (m + 1 - 1 - (1 + b)) = a * (m - 1 - b) := by
      have e : m + 1 - 1 - (1 + b) = (m - 1 - b) := by lia
      rw [e, Int.zero_add]
    lia

theorem ZKd (A L B : Int) : (A + (0 - 1)) * (L - 1 - (B + (0 - 0))) = A * (L - 1 - B) - (L - 1 - B) := by
  have e : L - 1 - (B + (0 - 0)) = L - 1 - B := by lia
  rw [e, Int.add_mul]; lia
theorem ZKe (A L B : Int) : (A + (1 - 0)) * (L - 1 - (B + (0 - 0))) = A * (L - 1 - B) + (L - 1 - B) := by
  have e : L - 1 - (B + (0 - 0)) = L - 1 - B := by lia
  rw [e, Int.add_mul]; lia
theorem ZKf (A L B : Int) : (A + (0 - 0)) * (L - 1 - (B + (1 - 0))) = A * (L - 1 - B) - A := by
  have e : L - 1 - (B + (1 - 0)) = L - 1 - B - 1 := by lia
  rw [e, Int.sub_self, Int.add_zero, Int.mul_sub A _ 1, Int.mul_one]
theorem ZKg (A L B : Int) : (A + (0 - 0)) * (L - 1 - (B + (0 - 1))) = A * (L - 1 - B) + A := by
  have e : L - 1 - (B + (0 - 1)) = L - 1 - B + 1 := by lia
  rw [e, Int.sub_self, Int.add_zero, Int.mul_add A _ 1, Int.mul_one]
theorem EG.lay (h : EG (p :: P) d) (hp : p ∉ P) (nd : P.Nodup) (top : ∀ i ∈ P, ∀ j ∈ P, N i = true → N j = false → d j ≤ d i) (hD : sm P (nN N) = d p) {w : Int} (ev : d p + sm P d = 2 * w) :
    EG P (fun i => d i - nN N i) := fun σ₀ t₀ => by
  refine Int.not_lt.mp fun bad => ?_
  let F : (Nat → Int) → Int := fun σ => sm P (fun i => σ i * (d i - nN N i)) - sm P (fun i => ps (σ i)) * (P.length - 1 - sm P fun i => ng (σ i))
  let e : Nat → Int := fun i => if N i then 1 else -1
  let W : (Nat → Int) → Int := fun σ => 2 * F σ + sm P (fun i => e i * σ i)
  have bd : ∀ σ, Tri σ ∧ 0 < F σ → W σ ≤ 2 * sm P (fun i => (d i - nN N i).natAbs) + P.length := fun σ hσ => by
    have t := hσ.1
    obtain ⟨a0, b0, le⟩ := ZGm (P := P) t
    have h1 : sm P (fun i => σ i * (d i - nN N i)) ≤ sm P (fun i => ((d i - nN N i).natAbs : Int)) := XK fun i _ => by
      rcases t i with e | e | e <;> rw [e] <;> lia
    have h2 : sm P (fun i => e i * σ i) ≤ P.length := by
      rw [← Qq]
      refine XK fun i _ => ?_
      show (if N i then (1 : Int) else -1) * σ i ≤ 1
      rcases t i with e | e | e <;> rw [e] <;> cases N i <;> decide
    have h3 : 0 ≤ sm P (fun i => ps (σ i)) * (P.length - 1 - sm P fun i => ng (σ i)) := by
      rcases Int.lt_or_eq_of_le a0 with g | g
      · exact Int.mul_nonneg a0 (by lia)
      · rw [← g, Int.zero_mul]; exact Int.le_refl 0
    show 2 * (_ - _) + _ ≤ _
    lia
  obtain ⟨σ, ⟨t, pos⟩, best⟩ := ZHh (Q := fun σ => Tri σ ∧ 0 < F σ) W _ bd σ₀ ⟨t₀, Int.sub_pos.mpr bad⟩
  obtain ⟨a0, b0, le⟩ := ZGm (P := P) t
  have mv : ∀ i ∈ P, ∀ v, v = 1 ∨ v = 0 ∨ v = -1 → F (upd σ i v) = sm P (fun i => σ i * (d i - nN N i)) + (v - σ i) * (d i - nN N i) - (sm P (fun i => ps (σ i)) + (ps v - ps (σ i))) * (P.length - 1 - (sm P (fun i => ng (σ i)) + (ng v - ng (σ i)))) ∧ sm P (fun j => e j * upd σ i v j) = sm P (fun i => e i * σ i) + e i * (v - σ i) := fun i hi v hv => by
    have o : ∀ j ∈ P, j ≠ i → upd σ i v j = σ j := fun j _ ne => QQ σ v ne
    refine ⟨?_, ?_⟩
    · show sm P _ - sm P _ * (_ - sm P _) = _
      rw [Qi nd hi (f := fun i => σ i * (d i - nN N i)) (g := fun j => upd σ i v j * (d j - nN N j)) fun j hj ne => by rw [o j hj ne],
        Qi nd hi (f := fun i => ps (σ i)) (g := fun j => ps (upd σ i v j)) fun j hj ne => by rw [o j hj ne],
        Qi nd hi (f := fun i => ng (σ i)) (g := fun j => ng (upd σ i v j)) fun j hj ne => by rw [o j hj ne]]
      rw [XY, Int.sub_mul]
    · rw [Qi nd hi (f := fun i => e i * σ i) (g := fun j => e j * upd σ i v j) fun j hj ne => by rw [o j hj ne], XY, Int.mul_sub]
  have st : ∀ i ∈ P, ∀ v, v = 1 ∨ v = 0 ∨ v = -1 → 2 * (F (upd σ i v) - F σ) + e i * (v - σ i) ≤ 0 ∨ F (upd σ i v) ≤ 0 := fun i hi v hv => by
    by_cases g : 0 < F (upd σ i v)
    · have := best _ ⟨t.upd i hv, g⟩
      have : 2 * F (upd σ i v) + sm P (fun j => e j * upd σ i v j) ≤ 2 * F σ + sm P (fun i => e i * σ i) := this
      rw [(mv i hi v hv).2] at this
      exact .inl (by lia)
    · exact .inr (by lia)
  have en : ∀ i, (nN N i = 1 ∧ e i = 1) ∨ (nN N i = 0 ∧ e i = -1) := fun i => by
    show (nN N i = 1 ∧ (if N i then (1 : Int) else -1) = 1) ∨ (nN N i = 0 ∧ (if N i then (1 : Int) else -1) = -1)
    unfold nN
    cases N i
    · exact .inr ⟨rfl, rfl⟩
    · exact .inl ⟨rfl, rfl⟩
  have Fσ : F σ = sm P (fun i => σ i * (d i - nN N i)) - sm P (fun i => ps (σ i)) * (P.length - 1 - sm P fun i => ng (σ i)) := rfl
  have E1 := h.at_p hp t 1 (.inl rfl)
  have E0 := h.at_p hp t 0 (.inr (.inl rfl))
  have Em := h.at_p hp t (-1) (.inr (.inr rfl))
  have pos' : 0 < sm P (fun i => σ i * (d i - nN N i)) - sm P (fun i => ps (σ i)) * (P.length - 1 - sm P fun i => ng (σ i)) := pos
  have cl : ∀ i ∈ P, (σ i = 1 → P.length - 1 - (sm P fun i => ng (σ i)) + 1 ≤ d i) ∧ (σ i = 0 → (sm P fun i => ps (σ i)) + 1 ≤ d i ∧ d i ≤ P.length - 1 - (sm P fun i => ng (σ i))) ∧ (σ i = -1 → d i ≤ sm P fun i => ps (σ i)) := fun i hi => by
    have ei := en i
    refine ⟨fun s => ?_, fun s => ⟨?_, ?_⟩, fun s => ?_⟩
    · have m := (mv i hi 0 (.inr (.inl rfl))).1
      have q := st i hi 0 (.inr (.inl rfl))
      rw [s, ps0, ps1, ng0, ng1, ZKd] at m
      rw [m, Fσ, s] at q
      exact ZBw ei pos' q
    · have m := (mv i hi (-1) (.inr (.inr rfl))).1
      have q := st i hi (-1) (.inr (.inr rfl))
      rw [s, ps0, psm, ng0, ngm, ZKf] at m
      rw [m, Fσ, s] at q
      exact ZBw ei pos' q
    · have m := (mv i hi 1 (.inl rfl)).1
      have q := st i hi 1 (.inl rfl)
      rw [s, ps0, ps1, ng0, ng1, ZKe] at m
      rw [m, Fσ, s] at q
      exact ZBx ei pos' q
    · have m := (mv i hi 0 (.inr (.inl rfl))).1
      have q := st i hi 0 (.inr (.inl rfl))
      rw [s, ps0, psm, ng0, ngm, ZKg] at m
      rw [m, Fσ, s] at q
      exact ZBx ei pos' q
  clear mv st best bd bad
  have Sn : sm P (fun i => σ i * (d i - nN N i)) = sm P (fun i => σ i * d i) - (sm P (fun i => ps (σ i) * nN N i) - sm P (fun i => ng (σ i) * nN N i)) := by
    rw [← QM, ← QM]
    refine JX fun i _ => ?_
    rw [Int.mul_sub]
    exact congrArg (σ i * d i - ·) ((congrArg (· * nN N i) (sgn (t i)).1).trans (Int.sub_mul ..))
  have Dn : sm P (fun i => ps (σ i) * nN N i) + sm P (fun i => ng (σ i) * nN N i) + sm P (fun i => (1 - ps (σ i) - ng (σ i)) * nN N i) = d p := by
    rw [← hD, ← Qa, ← Qa]
    refine JX fun i _ => ?_
    rw [← Int.add_mul, ← Int.add_mul, show ps (σ i) + ng (σ i) + (1 - ps (σ i) - ng (σ i)) = 1 by lia, Int.one_mul]
  have Cc : sm P (fun i => 1 - ps (σ i) - ng (σ i)) = P.length - (sm P fun i => ps (σ i)) - (sm P fun i => ng (σ i)) := by rw [QM, QM, Qq]
  have Mu : ∀ A L B : Int, (0 + A) * (L - (0 + B)) = A * (L - 1 - B) + A ∧ (1 + A) * (L - (0 + B)) = A * (L - 1 - B) + A + (L - B) ∧ (0 + A) * (L - (1 + B)) = A * (L - 1 - B) := fun A L B => by
    have e1 : L - (0 + B) = L - 1 - B + 1 := by lia
    have e2 : L - (1 + B) = L - 1 - B := by lia
    rw [e1, e2, Int.zero_add, Int.add_mul, Int.mul_add]; lia
  rw [ps1, ng1, (Mu _ _ _).2.1] at E1
  rw [ps0, ng0, (Mu _ _ _).1] at E0
  rw [psm, ngm, (Mu _ _ _).2.2] at Em
  rw [Sn] at pos'
  have zN : ∀ {f : Nat → Int}, (∀ i ∈ P, N i = true → f i = 0) → sm P (fun i => f i * nN N i) = 0 := fun {f} q => by
    rw [show (0 : Int) = sm P (fun _ => 0 * 0) by rw [XL, Int.zero_mul]]
    refine JX fun i hi => ?_
    rcases QW N i with ⟨e1, e2⟩ | ⟨e1, e2⟩
    · rw [q i hi e1, Int.zero_mul, Int.zero_mul]
    · rw [e2, Int.mul_zero, Int.zero_mul]
  have aN : ∀ {f : Nat → Int}, (∀ i ∈ P, N i = false → f i = 0) → sm P (fun i => f i * nN N i) = sm P f := fun {f} q => by
    refine JX fun i hi => ?_
    rcases QW N i with ⟨e1, e2⟩ | ⟨e1, e2⟩
    · rw [e2, Int.mul_one]
    · rw [q i hi e1, Int.zero_mul]
  by_cases hA : ∃ x ∈ P, σ x = 1 ∧ N x = false
  · obtain ⟨x, hx, x1, xN⟩ := hA
    have dx := (cl x hx).1 x1
    by_cases hB : ∃ y ∈ P, N y = true ∧ σ y ≠ 1
    · obtain ⟨y, hy, yN, y1⟩ := hB
      have dy := top y hy x hx yN xN
      have c0 : (P.length : Int) - (sm P fun i => ps (σ i)) - (sm P fun i => ng (σ i)) = 0 := by
        rcases t y with e | e | e
        · exact absurd e y1
        · have := (cl y hy).2.1 e; lia
        · have := (cl y hy).2.2 e; lia
      have n0 : ∀ i ∈ P, σ i ≠ 0 := fun i hi e => by have := (cl i hi).2.1 e; lia
      have ym : σ y = -1 := ((t y).resolve_left y1).resolve_left (n0 y hy)
      have dya := (cl y hy).2.2 ym
      let τ : Nat → Int := fun i => if N i then ps (σ i) else - ng (σ i)
      have tτ : Tri τ := fun i => by
        show (if N i then ps (σ i) else - ng (σ i)) = 1 ∨ (if N i then ps (σ i) else - ng (σ i)) = 0 ∨ (if N i then ps (σ i) else - ng (σ i)) = -1
        rcases t i with e | e | e <;> rw [e] <;> cases N i <;> decide
      have E := h.at_p hp tτ 0 (.inr (.inl rfl))
      have k1 : sm P (fun i => ps (τ i)) = sm P (fun i => ps (σ i) * nN N i) := JX fun i hi => by
        show ps (if N i then ps (σ i) else - ng (σ i)) = _
        unfold nN
        rcases t i with e | e | e <;> rw [e] <;> cases N i <;> decide
      have k2 : sm P (fun i => ng (τ i)) = sm P (fun i => ng (σ i)) - sm P (fun i => ng (σ i) * nN N i) := by
        rw [← QM]
        refine JX fun i hi => ?_
        show ng (if N i then ps (σ i) else - ng (σ i)) = _
        unfold nN
        rcases t i with e | e | e <;> rw [e] <;> cases N i <;> decide
      have k3 : sm P (fun i => σ i * d i) = sm P (fun i => τ i * d i) + (sm P fun i => ps (σ i)) * (sm P (fun i => ps (σ i)) - sm P (fun i => ps (σ i) * nN N i) - sm P (fun i => ng (σ i) * nN N i)) := by
        rw [← QM, ← QM, ← XL, ← Qa]
        refine JX fun i hi => ?_
        show _ = (if N i then ps (σ i) else - ng (σ i)) * d i + _
        rcases t i with e | e | e
        · rcases QW N i with ⟨e1, e2⟩ | ⟨e1, e2⟩
          · rw [e, e1, e2, if_pos rfl, ps1, ng1]; lia
          · have h1 := (cl i hi).1 e
            have h2 := top y hy i hi yN e1
            have : d i = sm P fun i => ps (σ i) := by lia
            rw [e, e1, e2, if_neg (by decide), ps1, ng1, this]; lia
        · exact absurd e (n0 i hi)
        · rcases QW N i with ⟨e1, e2⟩ | ⟨e1, e2⟩
          · have h1 := (cl i hi).2.2 e
            have h2 := top i hi x hx e1 xN
            have : d i = sm P fun i => ps (σ i) := by lia
            rw [e, e1, e2, if_pos rfl, psm, ngm, this]; lia
          · rw [e, e1, e2, if_neg (by decide), psm, ngm]; lia
      have g1 : sm P (fun i => ps (σ i) * nN N i) + 1 ≤ sm P (fun i => ps (σ i)) := by
        have := Qi (f := fun i => ps (σ i) * nN N i) (g := upd (fun i => ps (σ i) * nN N i) x 1) nd hx fun j _ ne => QQ _ _ ne
        rw [XY, x1] at this
        rcases QW N x with ⟨e1, e2⟩ | ⟨e1, e2⟩
        · rw [xN] at e1; cases e1
        · rw [e2] at this
          have le : sm P (upd (fun i => ps (σ i) * nN N i) x 1) ≤ sm P (fun i => ps (σ i)) := XK fun i hi => by
            unfold upd
            split
            · rename_i e; rw [e, x1]; decide
            · exact (mulN (sgn (t i)).2.1 i).2
          rw [ps1] at this; lia
      have g2 : 1 ≤ sm P (fun i => ng (σ i) * nN N i) := by
        have := Qi (f := fun i => ng (σ i) * nN N i) (g := upd (fun i => ng (σ i) * nN N i) y 0) nd hy fun j _ ne => QQ _ _ ne
        rw [XY, ym] at this
        rcases QW N y with ⟨e1, e2⟩ | ⟨e1, e2⟩
        · rw [e2] at this
          have le : 0 ≤ sm P (upd (fun i => ng (σ i) * nN N i) y 0) := QJ fun i hi => by
            unfold upd
            split
            · exact Int.le_refl 0
            · exact (mulN (sgn (t i)).2.2.1 i).1
          rw [ngm] at this; lia
        · rw [yN] at e1; cases e1
      rw [k1, k2, ps0, ng0] at E
      have par : ∃ v, sm P (fun i => σ i * d i) - (sm P (fun i => ps (σ i) * nN N i) - sm P (fun i => ng (σ i) * nN N i)) = 2 * v := by
        rw [← Sn]
        refine ⟨w - d p - sm P (fun i => ng (σ i) * (d i - nN N i)), ?_⟩
        have : sm P (fun i => σ i * (d i - nN N i)) = sm P d - sm P (nN N) - 2 * sm P (fun i => ng (σ i) * (d i - nN N i)) := by
          rw [← XL, ← QM, ← QM]
          refine JX fun i hi => ?_
          exact (congrArg (· * (d i - nN N i)) (sgn2 (t i) (n0 i hi))).trans (by rw [Int.sub_mul, Int.one_mul, Int.mul_assoc])
        lia
      obtain ⟨v, hv⟩ := par
      have par2 : ∀ a : Int, ∃ u, a * (a - 1) = 2 * u := fun a => by
        rcases Int.emod_two_eq a with e | e
        · refine ⟨a / 2 * (a - 1), ?_⟩; rw [← Int.mul_assoc]; congr 1; lia
        · refine ⟨a * ((a - 1) / 2), ?_⟩
          rw [Int.mul_left_comm]; congr 1; lia
      obtain ⟨u, hu⟩ := par2 (sm P fun i => ps (σ i))
      have eL : (P.length : Int) - 1 - (sm P fun i => ng (σ i)) = (sm P fun i => ps (σ i)) - 1 := by lia
      rw [eL] at pos'
      have eL2 : (P.length : Int) - (0 + (sm P (fun i => ng (σ i)) - sm P (fun i => ng (σ i) * nN N i))) = (sm P fun i => ps (σ i)) + sm P (fun i => ng (σ i) * nN N i) := by lia
      rw [eL2, Int.zero_mul, Int.zero_add, Int.zero_add] at E
      clear cl top Sn Dn Cc Mu zN aN k1 k2 tτ E0 E1 Em n0 hD
      generalize (sm P fun i => ps (σ i)) = a at *
      generalize sm P (fun i => ng (σ i) * nN N i) = bN at *
      generalize sm P (fun i => ps (σ i) * nN N i) = aN at *
      generalize sm P (fun i => τ i * d i) = z at *
      generalize sm P (fun i => σ i * d i) = x' at *
      have q := Int.mul_nonneg (by lia : 0 ≤ a - aN - 1) (by lia : 0 ≤ bN - 1)
      have q2 : (a - aN - 1) * (bN - 1) = a * bN - aN * bN - bN - (a - aN - 1) := by rw [Int.mul_sub, Int.sub_mul, Int.sub_mul]; lia
      have q3 : aN * (a + bN) = aN * a + aN * bN := Int.mul_add ..
      have q4 : a * (a - aN - bN) = a * a - a * aN - a * bN := by rw [Int.mul_sub, Int.mul_sub]
      have q5 : a * (a - 1) = a * a - a := by rw [Int.mul_sub, Int.mul_one]
      have q6 : aN * a = a * aN := Int.mul_comm ..
      lia
    · -- all that is laid at is many
      have all : ∀ y ∈ P, N y = true → σ y = 1 := fun y hy yN => Classical.byContradiction fun ne => hB ⟨y, hy, yN, ne⟩
      rw [zN (f := fun i => ng (σ i)) fun i hi e => by rw [all i hi e]; rfl] at Dn pos'
      rw [zN (f := fun i => 1 - ps (σ i) - ng (σ i)) fun i hi e => by rw [all i hi e]; rfl] at Dn
      lia
  · have inN : ∀ x ∈ P, σ x = 1 → N x = true := fun x hx x1 => by
      cases e : N x with
      | true => rfl
      | false => exact absurd ⟨x, hx, x1, e⟩ hA
    rw [aN (f := fun i => ps (σ i)) fun i hi e => by
      rcases t i with s | s | s
      · rw [inN i hi s] at e; cases e
      · rw [s]; rfl
      · rw [s]; rfl] at Dn pos'
    by_cases hB : ∃ y ∈ P, N y = true ∧ σ y = -1
    · obtain ⟨y, hy, yN, ym⟩ := hB
      have dy := (cl y hy).2.2 ym
      rw [aN (f := fun i => 1 - ps (σ i) - ng (σ i)) fun i hi e => by
        rcases t i with s | s | s
        · rw [s]; rfl
        · have := ((cl i hi).2.1 s).1; have := top y hy i hi yN e; lia
        · rw [s]; rfl] at Dn
      lia
    · rw [zN (f := fun i => ng (σ i)) fun i hi e => by
        rcases t i with s | s | s
        · rw [s]; rfl
        · rw [s]; rfl
        · exact absurd ⟨i, hi, e, s⟩ hB] at pos'
      lia
end
end TC

namespace TC

noncomputable def cnt (ts : List (Nat × Nat)) (p : Nat) : Nat := ts.countP fun t => decide (t.1 = p) || decide (t.2 = p)
noncomputable def tieOf (a b : Nat) : Nat × Nat := (min a b, max a b)
noncomputable def hs (ts : Ties) (a b : Nat) : Bool := decide (tieOf a b ∈ ts)
noncomputable def bi (b : Bool) : Int := if b then 1 else 0
theorem ZCt (b : Bool) : 0 ≤ bi b ∧ bi b ≤ 1 := by cases b <;> decide
theorem VL (a b : Nat) : tieOf a b = tieOf b a := by unfold tieOf; rw [Nat.min_comm, Nat.max_comm]
theorem ZHj (ts : Ties) (a b : Nat) : hs ts a b = hs ts b a := by unfold hs; rw [VL]
theorem Wx {a b : Nat} (h : a < b) : tieOf a b = (a, b) := by unfold tieOf; rw [Nat.min_eq_left (Nat.le_of_lt h), Nat.max_eq_right (Nat.le_of_lt h)]
theorem ZFi {a b : Nat} (h : a < b) : tieOf b a = (a, b) := by rw [VL, Wx h]
theorem Web.hs_self {n : Nat} {ts : Ties} (w : Web n ts) (a : Nat) : hs ts a a = false := by
  unfold hs tieOf
  rw [Nat.min_self, Nat.max_self]
  exact decide_eq_false fun h => by have := w.2 _ h; dsimp only at this; lia
theorem HS {n : Nat} : ∀ {ts : Ties}, Web n ts → ∀ p, (cnt ts p : Int) = sm (List.range n) (fun x => bi (hs ts p x))
  | [], _, p => by
    have : sm (List.range n) (fun x => bi (hs [] p x)) = sm (List.range n) (fun x => 0 * 0) := JX fun x _ => rfl
    rw [this, XL, Int.zero_mul]; rfl
  | t :: ts, w, p => by
    have nd := List.nodup_cons.mp w.1
    have wt := w.2 t (.head _)
    have w' : Web n ts := ⟨nd.2, fun u hu => w.2 u (.tail _ hu)⟩
    have ih := HS w' p
    have nr : (List.range n).Nodup := List.nodup_range
    have hc : ∀ x, hs (t :: ts) p x = (decide (tieOf p x = t) || hs ts p x) := fun x => by
      unfold hs; rw [Bool.eq_iff_iff]; simp
    have no : ∀ x, tieOf p x = t → hs ts p x = false := fun x e => decide_eq_false (e ▸ nd.1)
    have step : ∀ y, y < n → tieOf p y = t → (∀ x, x ≠ y → tieOf p x ≠ t) → sm (List.range n) (fun x => bi (hs (t :: ts) p x)) = sm (List.range n) (fun x => bi (hs ts p x)) + 1 := fun y hy e ne => by
      rw [Qi nr (List.mem_range.mpr hy) (f := fun x => bi (hs ts p x)) (g := fun x => bi (hs (t :: ts) p x)) fun j _ q => by rw [hc j, decide_eq_false (ne j q), Bool.false_or]]
      rw [hc y, no y e, decide_eq_true e]; rfl
    unfold cnt at ih ⊢
    rw [List.countP_cons]
    obtain ⟨a, b⟩ := t
    dsimp only at wt ⊢
    by_cases e1 : a = p
    · subst e1
      rw [step b wt.2 (Wx wt.1) fun x ne e => ne (by
        unfold tieOf at e
        have := congrArg Prod.snd e; have h2 := congrArg Prod.fst e; dsimp only at this h2; lia), ← ih, decide_eq_true rfl, Bool.true_or, if_pos rfl]
      lia
    · by_cases e2 : b = p
      · subst e2
        rw [step a (by lia) (ZFi wt.1) fun x ne e => ne (by
          unfold tieOf at e
          have := congrArg Prod.snd e; have h2 := congrArg Prod.fst e; dsimp only at this h2; lia), ← ih, decide_eq_true rfl, Bool.or_true, if_pos rfl]
        lia
      · rw [decide_eq_false e1, decide_eq_false e2, if_neg (by decide), Nat.add_zero, ih]
        refine JX fun x _ => ?_
        have : decide (tieOf p x = (a, b)) = false := decide_eq_false fun e => by
          unfold tieOf at e
          have := congrArg Prod.snd e; have h2 := congrArg Prod.fst e; dsimp only at this h2; lia
        rw [hc x, this, Bool.false_or]
theorem VA (P : List Nat) : sm P (fun _ => 0) = 0 := by
  induction P with
  | nil => rfl
  | cons a P ih => rw [JV, ih]; rfl
theorem ZJa (P R : List Nat) (f : Nat → Nat → Int) : sm P (fun i => sm R fun j => f i j) = sm R (fun j => sm P fun i => f i j) := by
  induction P with
  | nil => exact (VA R).symm
  | cons a P ih =>
    rw [JV, ih, ← Qa]
    exact JX fun j _ => (JV a P fun i => f i j).symm
theorem WL {n : Nat} : ∀ {ts : Ties}, Web n ts → sm (List.range n) (fun p => cnt ts p) = 2 * ts.length
  | [], _ => VA _
  | t :: ts, w => by
    have nd := List.nodup_cons.mp w.1
    have wt := w.2 t (.head _)
    have ih := WL (n := n) (ts := ts) ⟨nd.2, fun u hu => w.2 u (.tail _ hu)⟩
    have nr : (List.range n).Nodup := List.nodup_range
    have e : ∀ p, (cnt (t :: ts) p : Int) = cnt ts p + (bi (decide (t.1 = p)) + bi (decide (t.2 = p))) := fun p => by
      unfold cnt bi
      rw [List.countP_cons]
      by_cases e1 : t.1 = p
      · have e2 : ¬ t.2 = p := by lia
        rw [decide_eq_true e1, decide_eq_false e2]; rfl
      · by_cases e2 : t.2 = p
        · rw [decide_eq_false e1, decide_eq_true e2]; rfl
        · rw [decide_eq_false e1, decide_eq_false e2]; rfl
    have one : ∀ q, q < n → sm (List.range n) (fun p => bi (decide (q = p))) = 1 := fun q hq => by
      rw [Qi nr (List.mem_range.mpr hq) (f := fun _ => 0) (g := fun p => bi (decide (q = p))) fun j _ ne => by rw [decide_eq_false ne.symm]; rfl, VA, decide_eq_true rfl]; rfl
    rw [JX fun p _ => e p, Qa, Qa, ih, one _ (by lia), one _ wt.2, List.length_cons]
    lia
theorem Uy {n : Nat} {ts : Ties} (w : Web n ts) {ps : List Nat} (pm : ps.Perm (List.range n)) (k : Nat) (hk : k ≤ n) :
    sm (ps.take k) (fun i => cnt ts i) ≤ k * (k - 1) + sm (ps.drop k) (fun i => min (cnt ts i : Int) k) := by
  have nd : ps.Nodup := pm.symm.nodup List.nodup_range
  have lk : (ps.take k).length = k := by rw [List.length_take, pm.length_eq, List.length_range]; lia
  have e : ∀ i, (cnt ts i : Int) = sm (ps.take k) (fun j => bi (hs ts i j)) + sm (ps.drop k) (fun j => bi (hs ts i j)) := fun i => by
    rw [HS w, ← XJ, List.take_append_drop, QP pm]
  have e1 : sm (ps.take k) (fun i => cnt ts i) = sm (ps.take k) (fun i => sm (ps.take k) fun j => bi (hs ts i j)) + sm (ps.drop k) (fun j => sm (ps.take k) fun i => bi (hs ts i j)) := by
    rw [JX fun i _ => e i, Qa, ZJa (ps.take k) (ps.drop k)]
  rw [e1]
  refine Int.add_le_add ?_ (XK fun j _ => ?_)
  · have : (k : Int) * (k - 1) = sm (ps.take k) (fun _ => (k - 1 : Int) * 1) := by rw [XL, Qq, lk, Int.mul_comm]
    rw [this]
    refine XK fun i hi => ?_
    have ndt : (ps.take k).Nodup := (List.take_sublist k ps).nodup nd
    have h2 := Qi ndt hi (f := fun j => bi (hs ts i j)) (g := upd (fun j => bi (hs ts i j)) i 1) fun j _ ne => QQ _ _ ne
    rw [XY, w.hs_self] at h2
    have h3 : sm (ps.take k) (upd (fun j => bi (hs ts i j)) i 1) ≤ sm (ps.take k) (fun _ => 1) := XK fun j _ => by
      unfold upd; split
      · exact Int.le_refl _
      · exact (ZCt _).2
    rw [Qq, lk] at h3
    have : bi false = 0 := rfl
    lia
  · have h1 : sm (ps.take k) (fun i => bi (hs ts i j)) ≤ k := by
      have := XK (P := ps.take k) (f := fun i => bi (hs ts i j)) (g := fun _ => 1) fun i _ => (ZCt _).2
      rw [Qq, lk] at this; exact this
    have h2 : sm (ps.take k) (fun i => bi (hs ts i j)) ≤ cnt ts j := by
      rw [e j, JX (f := fun i => bi (hs ts i j)) (g := fun i => bi (hs ts j i)) fun i _ => by rw [ZHj]]
      have := QJ (P := ps.drop k) (f := fun i => bi (hs ts j i)) fun i _ => (ZCt _).1
      lia
    lia
theorem ZJd {ps : List Nat} {g σ : Nat → Int} {k : Nat} (hk : k ≤ ps.length) (so : ps.Pairwise fun i j => g j ≤ g i) (g0 : ∀ i ∈ ps, 0 ≤ g i) (s : ∀ i, 0 ≤ σ i ∧ σ i ≤ 1) (ks : sm ps σ = k) :
    sm ps (fun i => σ i * g i) ≤ sm (ps.take k) g := by
  have so' := so
  rw [← List.take_append_drop k ps, List.pairwise_append] at so'
  obtain ⟨θ, t1, t2⟩ : ∃ θ, (∀ i ∈ ps.take k, θ ≤ g i) ∧ ∀ i ∈ ps.drop k, g i ≤ θ := by
    cases e : ps.drop k with
    | nil => exact ⟨0, fun i hi => g0 i (List.mem_of_mem_take hi), fun i hi => by cases hi⟩
    | cons r l =>
      refine ⟨g r, fun i hi => so'.2.2 i hi r (by rw [e]; exact .head _), fun i hi => ?_⟩
      rw [e] at so'
      cases hi with
      | head => exact Int.le_refl _
      | tail _ hi => exact (List.pairwise_cons.mp so'.2.1).1 i hi
  have e1 : sm ps (fun i => σ i * g i) = sm (ps.take k) (fun i => σ i * g i) + sm (ps.drop k) (fun i => σ i * g i) := by rw [← XJ, List.take_append_drop]
  have e2 : sm ps σ = sm (ps.take k) σ + sm (ps.drop k) σ := by rw [← XJ, List.take_append_drop]
  have h1 : sm (ps.take k) (fun i => σ i * g i) + (θ * k - θ * sm (ps.take k) σ) ≤ sm (ps.take k) g := by
    have lk : (k : Int) = sm (ps.take k) (fun _ => 1) := by rw [Qq, List.length_take, Nat.min_eq_left hk]
    rw [lk, ← XL, ← XL, ← QM, ← Qa]
    refine XK fun i hi => ?_
    have q := Int.mul_nonneg (Int.sub_nonneg_of_le (s i).2) (Int.sub_nonneg_of_le (t1 i hi))
    rw [Int.sub_mul, Int.mul_sub (σ i)] at q
    have : σ i * θ = θ * σ i := Int.mul_comm ..
    lia
  have h2 : sm (ps.drop k) (fun i => σ i * g i) ≤ θ * sm (ps.drop k) σ := by
    rw [← XL]
    refine XK fun i hi => ?_
    rw [Int.mul_comm]
    exact Int.mul_le_mul_of_nonneg_right (t2 i hi) (s i).1
  have h3 : θ * k = θ * sm (ps.take k) σ + θ * sm (ps.drop k) σ := by rw [← Int.mul_add, ← e2, ks]
  lia
theorem mmono {a b c : Int} (h : a ≤ b) : min a c ≤ min b c := Int.le_min.mpr ⟨Int.le_trans (Int.min_le_left ..) h, Int.min_le_right ..⟩
theorem GN {n : Nat} {d : Nat → Int} (d0 : ∀ i, 0 ≤ d i) {ps : List Nat} (pm : ps.Perm (List.range n)) (so : ps.Pairwise fun i j => d j ≤ d i)
    (tst : ∀ k : Nat, k ≤ n → sm (ps.take k) d ≤ k * (k - 1) + sm (ps.drop k) (fun i => min (d i) k)) : EG (List.range n) d := fun σ t => by
  have lp : ps.length = n := by rw [pm.length_eq, List.length_range]
  rw [← QP pm, ← QP pm, ← QP pm, List.length_range]
  have a0 : 0 ≤ sm ps fun i => TC.ps (σ i) := QJ fun i _ => by unfold TC.ps; split <;> decide
  have b0 : 0 ≤ sm ps fun i => ng (σ i) := QJ fun i _ => by unfold ng; split <;> decide
  have ab : (sm ps fun i => TC.ps (σ i)) + (sm ps fun i => ng (σ i)) ≤ n := by
    rw [← Qa, ← lp, ← Qq]
    refine XK fun i _ => ?_
    rcases t i with e | e | e <;> rw [e] <;> decide
  obtain ⟨k, hk⟩ : ∃ k : Nat, (sm ps fun i => TC.ps (σ i)) = k := ⟨_, (Int.toNat_of_nonneg a0).symm⟩
  have kn : k ≤ n := Int.ofNat_le.mp (hk ▸ Int.le_trans (Int.le_add_of_nonneg_right b0) ab)
  have h1 := tst k kn
  have h2 := ZJd (g := fun i => d i + min (d i) k) (σ := fun i => TC.ps (σ i)) (k := k) (lp ▸ kn) (so.imp fun h => Int.add_le_add h (mmono h)) (fun i _ => Int.add_nonneg (d0 i) (Int.le_min.mpr ⟨d0 i, Int.natCast_nonneg k⟩)) (fun i => by rcases t i with e | e | e <;> rw [e] <;> decide) hk
  have h3 : sm ps (fun i => σ i * d i) ≤ sm ps (fun i => TC.ps (σ i) * (d i + min (d i) k)) - sm ps (fun i => min (d i) k) + (k * sm ps (fun i => 1 - TC.ps (σ i) - ng (σ i))) := by
    rw [← QM, ← XL, ← Qa]
    refine XK fun i _ => ?_
    have := d0 i
    rcases t i with e | e | e <;> rw [e]
    · rw [ps1, ng1]; lia
    · rw [ps0, ng0]; lia
    · rw [psm, ngm]; lia
  have h4 : sm ps (fun i => min (d i) k) = sm (ps.take k) (fun i => min (d i) k) + sm (ps.drop k) (fun i => min (d i) k) := by rw [← XJ, List.take_append_drop]
  rw [Qa] at h2
  rw [QM, QM, Qq, lp, hk] at h3
  rw [hk]
  generalize (sm ps fun i => ng (σ i)) = b at *
  have h5 : (k : Int) * (n - k - b) + k * (k - 1) = k * (n - 1 - b) := by rw [← Int.mul_add]; congr 1; lia
  lia
end TC

namespace TC
open PySem
noncomputable def ofPairs (ts : List (Nat × Nat)) : List PyData := ts.map fun p => .tuple [.int p.1, .int p.2]
theorem Jm (a b : List (Nat × Nat)) : ofPairs a ++ ofPairs b = ofPairs (a ++ b) := (List.map_append ..).symm
theorem UQ (a : List (Nat × Nat)) (n : Nat) : (ofPairs a).drop n = ofPairs (a.drop n) := (List.map_drop ..).symm
theorem UR (a : List (Nat × Nat)) (n : Nat) : (ofPairs a).take n = ofPairs (a.take n) := (List.map_take ..).symm
theorem JS (l : List (Nat × Nat)) : (ofPairs l).length = l.length := List.length_map ..
theorem XC (l : List (Nat × Nat)) : flats (ofPairs l) = true := by
  induction l with
  | nil => rfl
  | cons a l ih => exact ih
theorem QH (l : List (Nat × Nat)) : (ofPairs l).map low = (ofPairs l).map V.d := by
  unfold ofPairs; rw [List.map_map, List.map_map]; rfl
noncomputable def pairsTo (n : Nat) : List (Nat × Nat) := (List.range n).flatMap fun o => (List.range o).map fun i => (i, o)
theorem Qf (n : Nat) : pairsTo (n + 1) = pairsTo n ++ (List.range n).map fun i => (i, n) := by
  unfold pairsTo; rw [List.range_succ, List.flatMap_append]; simp
theorem QN (n : Nat) : (pairsTo n).length ≤ n * n := by
  induction n with
  | zero => exact Nat.le_refl _
  | succ n this =>
    rw [Qf, List.length_append, List.length_map, List.length_range, Nat.add_mul, Nat.mul_add]
    lia
theorem Us (n : Nat) : Web n (pairsTo n) := by
  induction n with
  | zero => exact ⟨.nil, nofun⟩
  | succ n ih =>
    rw [Qf]
    refine ⟨List.nodup_append.mpr ⟨ih.1, ?_, fun a ha b hb e => ?_⟩, fun t ht => ?_⟩
    · exact List.Pairwise.map _ (fun a b h e => h (congrArg Prod.fst e)) List.nodup_range
    · obtain ⟨i, _, rfl⟩ := List.mem_map.mp hb
      have := (ih.2 a ha).2; rw [e] at this; exact Nat.lt_irrefl _ this
    · rcases List.mem_append.mp ht with h | h
      · have := ih.2 t h; lia
      · obtain ⟨i, hi, rfl⟩ := List.mem_map.mp h
        have := List.mem_range.mp hi
        exact ⟨this, Nat.lt_succ_self _⟩
noncomputable def WebOk (sz : Nat) (ts : List (Nat × Nat)) : Prop := ∃ t0 k, List.Sublist t0 (pairsTo sz) ∧ ts = t0.drop k ++ t0.take k
theorem WebOk.perm {sz : Nat} {ts : List (Nat × Nat)} (h : WebOk sz ts) : ∃ t0, List.Sublist t0 (pairsTo sz) ∧ List.Perm ts t0 := by
  obtain ⟨t0, k, h, rfl⟩ := h
  exact ⟨t0, h, List.perm_append_comm.trans (by rw [List.take_append_drop])⟩
theorem WebOk.web {sz : Nat} {ts : List (Nat × Nat)} (h : WebOk sz ts) : Web sz ts := by
  obtain ⟨t0, h, p⟩ := h.perm
  have w := Us sz
  exact ⟨p.nodup_iff.mpr (w.1.sublist h), fun t ht => w.2 t (h.subset (p.mem_iff.mp ht))⟩
theorem WebOk.length {sz : Nat} {ts : List (Nat × Nat)} (h : WebOk sz ts) (hz : sz ≤ 10) : ts.length ≤ 100 := by
  obtain ⟨t0, h, p⟩ := h.perm
  have := p.length_eq
  have := h.length_le
  have := QN sz
  have : sz * sz ≤ 10 * 10 := Nat.mul_le_mul hz hz
  lia
noncomputable def Sml (x : Int) : Prop := Builtin.Int.intBits x ≤ 1048576
theorem ZAp {c d : Int} {i j : Nat} (hc : Sml c) (hd : Sml d) (hi : i < 1000) (hj : j < 1000) : IntMulOk (c + 7919 * (i + 11 * j + d.fdiv 64) + 13) (c + 7919 * (i + 11 * j + d.fdiv 64) + 13) := by
  have h1 : Builtin.Int.intBits ((i : Int) + 11 * j) ≤ 64 := intBits_le_64 (by lia) (by lia)
  have h2 := intBits_add_le h1 (intBits_fdiv_le (y := 64) hd)
  have h3 := intBits_add_le (intBits_add_le hc (intBits_mul_le (show Builtin.Int.intBits 7919 ≤ 13 by decide) h2)) (show Builtin.Int.intBits 13 ≤ 4 by decide)
  exact IntMulOk.of_le h3 h3 (by decide)
theorem VT {sc : List Int} (hb : ∀ x ∈ sc, Sml x) (k : Int) : Sml (cellAt sc k) := by
  unfold cellAt
  by_cases lt : k.toNat < sc.length
  · rw [List.getD_eq_getElem?_getD, List.getElem?_eq_getElem lt]; exact hb _ (List.getElem_mem lt)
  · rw [List.getD_eq_getElem?_getD, List.getElem?_eq_none (by lia)]; show Builtin.Int.intBits 0 ≤ _; decide
theorem fmod_nonneg' {a b : Int} (h : 0 < b) : 0 ≤ a.fmod b := Int.fmod_nonneg_of_pos a h
theorem fmod_lt' {a b : Int} (h : 0 < b) : a.fmod b < b := Int.fmod_lt_of_pos a h
theorem pick {PY PN : Prop} {kd nu : Int} {i j : Nat} (h0 : 0 ≤ kd) (h6 : kd < 6) (Y : PY) (N : PN) :
    bif decide (kd < 4) then
      got (idxV (V.own (PyData.list [PyData.int 2, PyData.int 3, PyData.int 5, PyData.int 4])) kd) fun w => opW Op.mod (V.d (PyData.int nu)) w fun v => opW Op.eq v (V.d (PyData.int 0)) fun r => ifB r PY
        (bif decide (kd = 4) then 4 ≠ (0 : Int) ∧ bif decide (0 < nu.fmod 4) then PY else bif decide (kd = 5) then bif decide ((i : Int) = (j : Int) + 1) then PY else 6 ≠ (0 : Int) ∧ bif decide (nu.fmod 6 = 0) then PY else PN else PN
          else bif decide (kd = 5) then bif decide ((i : Int) = (j : Int) + 1) then PY else 6 ≠ (0 : Int) ∧ bif decide (nu.fmod 6 = 0) then PY else PN else PN)
    else (bif decide (kd = 4) then 4 ≠ (0 : Int) ∧ bif decide (0 < nu.fmod 4) then PY else bif decide (kd = 5) then bif decide ((i : Int) = (j : Int) + 1) then PY else 6 ≠ (0 : Int) ∧ bif decide (nu.fmod 6 = 0) then PY else PN else PN
          else bif decide (kd = 5) then bif decide ((i : Int) = (j : Int) + 1) then PY else 6 ≠ (0 : Int) ∧ bif decide (nu.fmod 6 = 0) then PY else PN else PN) := by
  have R5 : bif decide (kd = 5) then bif decide ((i : Int) = (j : Int) + 1) then PY else 6 ≠ (0 : Int) ∧ bif decide (nu.fmod 6 = 0) then PY else PN else PN := Jv (fun _ => Jv (fun _ => Y) fun _ => ⟨by decide, Jv (fun _ => Y) fun _ => N⟩) fun _ => N
  have R4 : bif decide (kd = 4) then 4 ≠ (0 : Int) ∧ bif decide (0 < nu.fmod 4) then PY else bif decide (kd = 5) then bif decide ((i : Int) = (j : Int) + 1) then PY else 6 ≠ (0 : Int) ∧ bif decide (nu.fmod 6 = 0) then PY else PN else PN else bif decide (kd = 5) then bif decide ((i : Int) = (j : Int) + 1) then PY else 6 ≠ (0 : Int) ∧ bif decide (nu.fmod 6 = 0) then PY else PN else PN := Jv (fun _ => ⟨by decide, Jv (fun _ => Y) fun _ => R5⟩) fun _ => R5
  generalize (bif decide (kd = 4) then 4 ≠ (0 : Int) ∧ bif decide (0 < nu.fmod 4) then PY else bif decide (kd = 5) then bif decide ((i : Int) = (j : Int) + 1) then PY else 6 ≠ (0 : Int) ∧ bif decide (nu.fmod 6 = 0) then PY else PN else PN else bif decide (kd = 5) then bif decide ((i : Int) = (j : Int) + 1) then PY else 6 ≠ (0 : Int) ∧ bif decide (nu.fmod 6 = 0) then PY else PN else PN) = P4 at *
  refine Jv (fun h4 => ?_) fun _ => R4
  rw [XV h0 (by lia)]
  have kk : kd = 0 ∨ kd = 1 ∨ kd = 2 ∨ kd = 3 := by lia
  rcases kk with rfl | rfl | rfl | rfl <;> refine ⟨?_, Jv (fun _ => Y) fun _ => R4⟩
  · exact (by decide : (2 : Int) ≠ 0)
  · exact (by decide : (3 : Int) ≠ 0)
  · exact (by decide : (5 : Int) ≠ 0)
  · exact (by decide : (4 : Int) ≠ 0)
section
variable {n : Nat} {hm : Bool} {K : V → Prop} {X : Nat → Prop}
theorem Jb (m : Nat) : ((rangeL m).map fun i => V.d (.int i)).length = m := by rw [List.length_map, Jx]; rfl
theorem QO {m i : Nat} (h : i < ((rangeL m).map fun i => V.d (.int i)).length) : ((rangeL m).map fun i => V.d (.int i))[i] = .d (.int i) := by
  rw [List.getElem_map]; unfold rangeL; rw [List.getElem_map, List.getElem_range]
theorem Xx (a : Int) {m : Nat} (h : 0 < m) : ∃ p : Nat, a.fmod m = p ∧ p < m := by
  have h0 := fmod_nonneg' (a := a) (Int.ofNat_lt.mpr h)
  have h1 := fmod_lt' (a := a) (Int.ofNat_lt.mpr h)
  exact ⟨(a.fmod m).toNat, (Int.toNat_of_nonneg h0).symm, Int.ofNat_lt.mp (by rw [Int.toNat_of_nonneg h0]; exact h1)⟩
theorem rngOk {m : Nat} (h : m ≤ 10) : -(lim : Int) < m ∧ (m : Int) < lim := ⟨Vc (by lia), Ju (by lia)⟩
theorem rngLen {m : Nat} (h : m ≤ 10) : ((rangeL m).map fun i => V.d (.int i)).length < lim := by rw [Jb]; exact JT (Nat.lt_of_le_of_lt h (by decide))
theorem ZFo (sc : List Int) (hs : sc.length < 64) (hb : ∀ x ∈ sc, Sml x) (fi mo : Nat) (hfi : fi < 100) (hm0 : 0 < mo) (hm1 : mo ≤ 10)
    (q : ∀ (sz : Nat) (ts : List (Nat × Nat)), 0 < sz → sz ≤ mo → WebOk sz ts → K (.d (.tuple [.int sz, .list (ofPairs ts)]))) : wpCall T05 (n + 2) false 15 [.d (.list (ofInts sc)), .d (.int fi), .d (.int mo)] K X := by
  refine JY (fn := f__law_web) rfl rfl (by decide) ?_
  dsimp only [f__law_web, b__law_web, wpSs, wpS, wpE, wpL, slotW, ownS, Rho.putL, frz, bindF, setD, setAll, bindT, F1.W, F2.W, F1.quiet, seqV, numW, isNon, JN, JI, YF, YE, JF, YB, Zz, YA, Zg, ZO, YL, ZW, ZU, ZV, JD, Zv, Zc, Zb, ZH, ZG, YY, Zl, YH, ZQ, JO, YM, JC, ZS, ZT, ZJ, ZK, Zm, Zn, Zx, JE, Zy, Zu, ZL, Zf, YP, YQ, Zt, Zs, YR, YO, Za, Zr, Zq, JQ, YN, ZY, ZF, ZD, ZE, ZC, ZA, ZB, ZZ, excIs, Jj, YU, YV, YD, YC, YW, YX, Yk, Yl, Yb, Yc, Yg, Yh, Yx, Yy, Ym, Yn, Yt, Yu, Yi, Yj, Yo, YJ, YK, Jg, Jf, Ji, Jh, Yf, Yz, Yp, Yq, Yd, Ye, YZ, Ya, JL, JM, Yv, Yw, JA, JB, Jl, Jk, Ys, Yr, Nat.reduceSub, Nat.reduceAdd, YG, ZP, JR, Zj, Zo, ZX, Zp, YS, Ze, Zd, YT, Zk, JK, JP, JH, JG, Zi, Zh, ZN, ZI, ZM, Zw]
  refine Xk sc fi hs (Int.natCast_nonneg _) (Int.ofNat_lt.mpr (Nat.lt_trans hfi (by decide))) ?_
  have hch := VT hb (fi : Int)
  generalize cellAt sc (fi : Int) = ch at *
  obtain ⟨sz, hsz, s0, s1⟩ : ∃ sz : Nat, 1 + ch.fmod mo = sz ∧ 0 < sz ∧ sz ≤ mo := by
    obtain ⟨p, hp, lp⟩ := Xx ch hm0
    exact ⟨1 + p, by rw [hp]; rfl, Nat.lt_of_lt_of_le Nat.one_pos (Nat.le_add_right ..), Nat.add_comm 1 p ▸ lp⟩
  have s10 := Nat.le_trans s1 hm1
  dsimp only [wpSs, wpS, wpE, wpL, slotW, ownS, Rho.putL, frz, bindF, setD, setAll, bindT, F1.W, F2.W, F1.quiet, seqV, numW, isNon, JN, JI, YF, YE, JF, YB, Zz, YA, Zg, ZO, YL, ZW, ZU, ZV, JD, Zv, Zc, Zb, ZH, ZG, YY, Zl, YH, ZQ, JO, YM, JC, ZS, ZT, ZJ, ZK, Zm, Zn, Zx, JE, Zy, Zu, ZL, Zf, YP, YQ, Zt, Zs, YR, YO, Za, Zr, Zq, JQ, YN, ZY, ZF, ZD, ZE, ZC, ZA, ZB, ZZ, excIs, Jj, YU, YV, YD, YC, YW, YX, Yk, Yl, Yb, Yc, Yg, Yh, Yx, Yy, Ym, Yn, Yt, Yu, Yi, Yj, Yo, YJ, YK, Jg, Jf, Ji, Jh, Yf, Yz, Yp, Yq, Yd, Ye, YZ, Ya, JL, JM, Yv, Yw, JA, JB, Jl, Jk, Ys, Yr, Nat.reduceSub, Nat.reduceAdd, YG, ZP, JR, Zj, Zo, ZX, Zp, YS, Ze, Zd, YT, Zk, JK, JP, JH, JG, Zi, Zh, ZN, ZI, ZM, Zw]
  rw [hsz]
  refine ⟨Int.ne_of_gt (Int.ofNat_lt.mpr hm0), rngOk s10, rngLen s10, ?_⟩
  refine QB _ (fun i ρ => ∃ ts a6 a7 a8 a9, ρ = [some (V.d (PyData.list (ofInts sc))), some (V.d (PyData.int fi)), some (V.d (PyData.int mo)), some (V.d (PyData.int ch)), some (V.d (PyData.int sz)), some (V.own (PyData.list (ofPairs ts))), a6, a7, a8, a9, none] ∧ List.Sublist ts (pairsTo i)) ?_ ?_ _ ⟨[], none, none, none, none, rfl, List.nil_sublist _⟩
  · rintro ρ ⟨ts, a6, a7, a8, a9, rfl, sub⟩
    rw [Jb] at sub
    have len : ts.length ≤ 100 := Nat.le_trans sub.length_le (Nat.le_trans (QN sz) (Nat.mul_le_mul s10 s10))
    have l1 : (ofPairs ts).length < lim := by rw [JS]; exact JT (Nat.lt_of_le_of_lt len (by decide))
    obtain ⟨tu, ht, lt⟩ := Xx (ch.fdiv 60) (m := 1 + ts.length) (Nat.lt_of_lt_of_le Nat.one_pos (Nat.le_add_right ..))
    have ht : (ch.fdiv 60).fmod (1 + (ts.length : Int)) = tu := ht
    have tl : (tu : Int) < lim := Ju (Int.ofNat_lt.mpr (Nat.lt_of_lt_of_le lt (Nat.le_trans (Nat.add_le_add_left len 1) (by decide))))
    dsimp only [b__law_web_3, wpSs, wpS, wpE, wpL, slotW, ownS, Rho.putL, frz, bindF, setD, setAll, bindT, F1.W, F2.W, F1.quiet, seqV, numW, isNon, JN, JI, YF, YE, JF, YB, Zz, YA, Zg, ZO, YL, ZW, ZU, ZV, JD, Zv, Zc, Zb, ZH, ZG, YY, Zl, YH, ZQ, JO, YM, JC, ZS, ZT, ZJ, ZK, Zm, Zn, Zx, JE, Zy, Zu, ZL, Zf, YP, YQ, Zt, Zs, YR, YO, Za, Zr, Zq, JQ, YN, ZY, ZF, ZD, ZE, ZC, ZA, ZB, ZZ, excIs, Jj, YU, YV, YD, YC, YW, YX, Yk, Yl, Yb, Yc, Yg, Yh, Yx, Yy, Ym, Yn, Yt, Yu, Yi, Yj, Yo, YJ, YK, Jg, Jf, Ji, Jh, Yf, Yz, Yp, Yq, Yd, Ye, YZ, Ya, JL, JM, Yv, Yw, JA, JB, Jl, Jk, Ys, Yr, Nat.reduceSub, Nat.reduceAdd, YG, ZP, JR, Zj, Zo, ZX, Zp, YS, Ze, Zd, YT, Zk, JK, JP, JH, JG, Zi, Zh, ZN, ZI, ZM, Zw]
    rw [JS, ht]
    refine ⟨⟨by decide, by decide⟩, JT (Nat.lt_of_le_of_lt len (by decide)), by lia, ?_⟩
    show got (lsV (.brw (.list (ofPairs ts)))) _
    rw [Vi (XC ts)]
    refine ⟨⟨Int.natCast_nonneg _, tl, l1⟩, ?_⟩
    show got (lsV (.brw (.list (ofPairs ts)))) _
    rw [Vi (XC ts)]
    refine ⟨⟨Int.natCast_nonneg _, tl, l1⟩, ?_⟩
    rw [Int.toNat_natCast, UQ, UR]
    refine ⟨by rw [JS, JS, List.length_drop, List.length_take]; exact JT (Nat.lt_of_le_of_lt (Nat.add_le_add (Nat.le_trans (Nat.sub_le ..) len) (Nat.le_trans (Nat.min_le_right ..) len)) (by decide)), ?_⟩
    rw [Jm]
    exact q sz _ s0 s1 ⟨ts, tu, sub, rfl⟩
  · rintro i hi ρ k ⟨ts, a6, a7, a8, a9, rfl, sub⟩ cont _
    have hi' : i < sz := by rw [Jb] at hi; exact hi
    have i10 := Nat.le_of_lt (Nat.lt_of_lt_of_le hi' s10)
    rw [QO]
    dsimp only [b__law_web_2, wpSs, wpS, wpE, wpL, slotW, ownS, Rho.putL, frz, bindF, setD, setAll, bindT, F1.W, F2.W, F1.quiet, seqV, numW, isNon, JN, JI, YF, YE, JF, YB, Zz, YA, Zg, ZO, YL, ZW, ZU, ZV, JD, Zv, Zc, Zb, ZH, ZG, YY, Zl, YH, ZQ, JO, YM, JC, ZS, ZT, ZJ, ZK, Zm, Zn, Zx, JE, Zy, Zu, ZL, Zf, YP, YQ, Zt, Zs, YR, YO, Za, Zr, Zq, JQ, YN, ZY, ZF, ZD, ZE, ZC, ZA, ZB, ZZ, excIs, Jj, YU, YV, YD, YC, YW, YX, Yk, Yl, Yb, Yc, Yg, Yh, Yx, Yy, Ym, Yn, Yt, Yu, Yi, Yj, Yo, YJ, YK, Jg, Jf, Ji, Jh, Yf, Yz, Yp, Yq, Yd, Ye, YZ, Ya, JL, JM, Yv, Yw, JA, JB, Jl, Jk, Ys, Yr, Nat.reduceSub, Nat.reduceAdd, YG, ZP, JR, Zj, Zo, ZX, Zp, YS, Ze, Zd, YT, Zk, JK, JP, JH, JG, Zi, Zh, ZN, ZI, ZM, Zw]
    refine ⟨rngOk i10, rngLen i10, ?_⟩
    refine QB _ (fun j ρ => ∃ ts a7 a8 a9, ρ = [some (V.d (PyData.list (ofInts sc))), some (V.d (PyData.int fi)), some (V.d (PyData.int mo)), some (V.d (PyData.int ch)), some (V.d (PyData.int sz)), some (V.own (PyData.list (ofPairs ts))), some (V.d (PyData.int i)), a7, a8, a9, none] ∧ List.Sublist ts (pairsTo i ++ (List.range j).map fun k => (k, i))) ?_ ?_ _ ⟨ts, a7, a8, a9, rfl, by rw [show List.range 0 = [] from rfl, List.map_nil, List.append_nil]; exact sub⟩
    · rintro ρ ⟨ts, a7, a8, a9, rfl, sub⟩
      refine cont _ ⟨ts, _, a7, a8, a9, rfl, ?_⟩
      rw [Jb] at sub
      rw [Qf]; exact sub
    · rintro j hj ρ k2 ⟨ts, a7, a8, a9, rfl, sub⟩ cont2 _
      have hj' : j < i := by rw [Jb] at hj; exact hj
      have j10 := Nat.le_of_lt (Nat.lt_of_lt_of_le hj' i10)
      rw [QO]
      have no := fun a8 a9 => cont2 _ ⟨ts, some (V.d (.int j)), a8, a9, rfl, sub.trans (List.Sublist.append (List.Sublist.refl _) (by rw [List.range_succ, List.map_append]; exact List.sublist_append_left ..))⟩
      have yes := fun a8 a9 => cont2 _ ⟨ts ++ [(j, i)], some (V.d (.int j)), a8, a9, rfl, by rw [List.range_succ, List.map_append, ← List.append_assoc]; exact List.Sublist.append sub (List.Sublist.refl _)⟩
      have len : ts.length ≤ 200 := by
        have h1 := sub.length_le
        rw [List.length_append, List.length_map, List.length_range] at h1
        exact Nat.le_trans h1 (Nat.le_trans (Nat.add_le_add (Nat.le_trans (QN i) (Nat.mul_le_mul i10 i10)) j10) (by decide))
      have l1 : (ofPairs ts).length < lim := by rw [JS]; exact JT (Nat.lt_of_le_of_lt len (by decide))
      rw [← Jm] at yes
      have y0 := fmod_nonneg' (a := (j : Int) + 3 * i) (b := 6) (by lia)
      have y1 := fmod_lt' (a := (j : Int) + 3 * i) (b := 6) (by lia)
      dsimp only [b__law_web_1, wpSs, wpS, wpE, wpL, slotW, ownS, Rho.putL, frz, bindF, setD, setAll, bindT, F1.W, F2.W, F1.quiet, seqV, numW, isNon, JN, JI, YF, YE, JF, YB, Zz, YA, Zg, ZO, YL, ZW, ZU, ZV, JD, Zv, Zc, Zb, ZH, ZG, YY, Zl, YH, ZQ, JO, YM, JC, ZS, ZT, ZJ, ZK, Zm, Zn, Zx, JE, Zy, Zu, ZL, Zf, YP, YQ, Zt, Zs, YR, YO, Za, Zr, Zq, JQ, YN, ZY, ZF, ZD, ZE, ZC, ZA, ZB, ZZ, excIs, Jj, YU, YV, YD, YC, YW, YX, Yk, Yl, Yb, Yc, Yg, Yh, Yx, Yy, Ym, Yn, Yt, Yu, Yi, Yj, Yo, YJ, YK, Jg, Jf, Ji, Jh, Yf, Yz, Yp, Yq, Yd, Ye, YZ, Ya, JL, JM, Yv, Yw, JA, JB, Jl, Jk, Ys, Yr, Nat.reduceSub, Nat.reduceAdd, YG, ZP, JR, Zj, Zo, ZX, Zp, YS, Ze, Zd, YT, Zk, JK, JP, JH, JG, Zi, Zh, ZN, ZI, ZM, Zw]
      refine ⟨IntMulOk.of_left (by decide), by decide, ?_⟩
      refine Xk sc _ hs (by lia) (by lia) ?_
      refine ⟨IntMulOk.of_left (by decide), ⟨by decide, by decide⟩, ?_⟩
      refine XT _ _ (ZAp (VT hb _) hch (Nat.lt_of_le_of_lt j10 (by decide)) (Nat.lt_of_le_of_lt i10 (by decide))) ?_
      generalize mixed _ _ = nu
      have x0 := fmod_nonneg' (a := ch.fdiv 10) (b := 6) (by lia)
      have x1 := fmod_lt' (a := ch.fdiv 10) (b := 6) (by lia)
      dsimp only [wpSs, wpS, wpE, wpL, slotW, ownS, Rho.putL, frz, bindF, setD, setAll, bindT, F1.W, F2.W, F1.quiet, seqV, numW, isNon, JN, JI, YF, YE, JF, YB, Zz, YA, Zg, ZO, YL, ZW, ZU, ZV, JD, Zv, Zc, Zb, ZH, ZG, YY, Zl, YH, ZQ, JO, YM, JC, ZS, ZT, ZJ, ZK, Zm, Zn, Zx, JE, Zy, Zu, ZL, Zf, YP, YQ, Zt, Zs, YR, YO, Za, Zr, Zq, JQ, YN, ZY, ZF, ZD, ZE, ZC, ZA, ZB, ZZ, excIs, Jj, YU, YV, YD, YC, YW, YX, Yk, Yl, Yb, Yc, Yg, Yh, Yx, Yy, Ym, Yn, Yt, Yu, Yi, Yj, Yo, YJ, YK, Jg, Jf, Ji, Jh, Yf, Yz, Yp, Yq, Yd, Ye, YZ, Ya, JL, JM, Yv, Yw, JA, JB, Jl, Jk, Ys, Yr, Nat.reduceSub, Nat.reduceAdd, YG, ZP, JR, Zj, Zo, ZX, Zp, YS, Ze, Zd, YT, Zk, JK, JP, JH, JG, Zi, Zh, ZN, ZI, ZM, Zw]
      refine ⟨⟨by decide, by decide⟩, by decide, ?_⟩
      generalize (ch.fdiv 10).fmod 6 = kd at *
      exact pick x0 x1 ⟨l1, yes _ _⟩ (no _ _)

theorem ZIy (p : Int) : shp (.int p) := by unfold shp SeqAt.shaped; rfl
theorem ZEy (a b : Int) : shp (.tuple [.int a, .int b]) := by unfold shp SeqAt.shaped; simp [PyData.canLay0, PyData.canLayAll0, PyData.depth, PyData.depthAll]
theorem ZHm (p a b : Int) : ([PyData.int a, PyData.int b].any fun z => PyData.eqv z (.int p)) = (decide (a = p) || decide (b = p)) := by
  simp [PyData.eqv]; rfl
noncomputable def ctL (sz : Nat) (ts : List (Nat × Nat)) : List Int := (List.range sz).map fun p => (cnt ts p : Int)
noncomputable def inP (p : Nat) : V → Option PyData
  | .d (.tuple [.int a, .int b]) => cond (decide (a = p) || decide (b = p)) (some (.int 1)) none
  | _ => none
theorem Hq (p : Nat) (ts : List (Nat × Nat)) : (List.filterMap (inP p) ((ofPairs ts).map V.d)).length = cnt ts p := by
  induction ts with
  | nil => rfl
  | cons t ts ih =>
    have e : (ofPairs (t :: ts)).map V.d = V.d (.tuple [.int t.1, .int t.2]) :: (ofPairs ts).map V.d := rfl
    have i1 : ((t.1 : Int) = p) ↔ t.1 = p := Int.natCast_inj
    have i2 : ((t.2 : Int) = p) ↔ t.2 = p := Int.natCast_inj
    have ei : inP p (V.d (.tuple [.int t.1, .int t.2])) = cond (decide (t.1 = p) || decide (t.2 = p)) (some (.int 1)) none := by
      show cond (decide ((t.1 : Int) = p) || decide ((t.2 : Int) = p)) _ _ = _
      rw [decide_eq_decide.mpr i1, decide_eq_decide.mpr i2]
    unfold cnt at ih ⊢
    rw [e, List.filterMap_cons, ei, List.countP_cons]
    cases decide (t.1 = p) || decide (t.2 = p) with
    | true => exact congrArg (· + 1) ih
    | false => exact ih
theorem Qv (sz : Nat) (hz : sz ≤ 10) (ts : List (Nat × Nat)) (hl : ts.length < 1000) (q : K (.own (.list (ofInts (ctL sz ts))))) : wpCall T05 (n + 1) false 16 [.d (.int sz), .brw (.list (ofPairs ts))] K X := by
  have l1 : (ofPairs ts).length < lim := by rw [JS]; exact JT hl
  refine JY (fn := f__law_counts) rfl rfl (by decide) ?_
  dsimp only [f__law_counts, b__law_counts, wpSs, wpS, wpE, wpL, slotW, ownS, Rho.putL, frz, bindF, setD, setAll, bindT, F1.W, F2.W, F1.quiet, seqV, numW, isNon, JN, JI, YF, YE, JF, YB, Zz, YA, Zg, ZO, YL, ZW, ZU, ZV, JD, Zv, Zc, Zb, ZH, ZG, YY, Zl, YH, ZQ, JO, YM, JC, ZS, ZT, ZJ, ZK, Zm, Zn, Zx, JE, Zy, Zu, ZL, Zf, YP, YQ, Zt, Zs, YR, YO, Za, Zr, Zq, JQ, YN, ZY, ZF, ZD, ZE, ZC, ZA, ZB, ZZ, excIs, Jj, YU, YV, YD, YC, YW, YX, Yk, Yl, Yb, Yc, Yg, Yh, Yx, Yy, Ym, Yn, Yt, Yu, Yi, Yj, Yo, YJ, YK, Jg, Jf, Ji, Jh, Yf, Yz, Yp, Yq, Yd, Ye, YZ, Ya, JL, JM, Yv, Yw, JA, JB, Jl, Jk, Ys, Yr, Nat.reduceSub, Nat.reduceAdd, YG, ZP, JR, Zj, Zo, ZX, Zp, YS, Ze, Zd, YT, Zk, JK, JP, JH, JG, Zi, Zh, ZN, ZI, ZM, Zw]
  refine ⟨⟨Vc (by lia), Ju (by lia)⟩, by rw [Jb]; exact JT (by lia), ?_⟩
  have e : List.filterMap (fun v => match v with | V.d (PyData.int p) => some (PyData.int (cnt ts p.toNat)) | _ => none) (List.map (fun i => V.d (PyData.int i)) (rangeL (sz : Int))) = ofInts (ctL sz ts) := by
    unfold ofInts ctL
    rw [Vj, List.map_map, List.filterMap_map, List.map_map]
    exact List.filterMap_eq_map (f := fun p : Nat => PyData.int (cnt ts p)) ▸ rfl
  refine JZ (fun v => match v with | .d (.int p) => some (.int (cnt ts p.toNat)) | _ => none) _ _ (fun x hx k hk => ?_) ?_ ?_
  · obtain ⟨p, hp, rfl⟩ := List.mem_map.mp hx
    obtain ⟨p, hp, rfl⟩ := List.mem_map.mp hp
    replace hk : k (some (.int (cnt ts p))) := hk
    dsimp only [wpSs, wpS, wpE, wpL, slotW, ownS, Rho.putL, frz, bindF, setD, setAll, bindT, F1.W, F2.W, F1.quiet, seqV, numW, isNon, JN, JI, YF, YE, JF, YB, Zz, YA, Zg, ZO, YL, ZW, ZU, ZV, JD, Zv, Zc, Zb, ZH, ZG, YY, Zl, YH, ZQ, JO, YM, JC, ZS, ZT, ZJ, ZK, Zm, Zn, Zx, JE, Zy, Zu, ZL, Zf, YP, YQ, Zt, Zs, YR, YO, Za, Zr, Zq, JQ, YN, ZY, ZF, ZD, ZE, ZC, ZA, ZB, ZZ, excIs, Jj, YU, YV, YD, YC, YW, YX, Yk, Yl, Yb, Yc, Yg, Yh, Yx, Yy, Ym, Yn, Yt, Yu, Yi, Yj, Yo, YJ, YK, Jg, Jf, Ji, Jh, Yf, Yz, Yp, Yq, Yd, Ye, YZ, Ya, JL, JM, Yv, Yw, JA, JB, Jl, Jk, Ys, Yr, Nat.reduceSub, Nat.reduceAdd, YG, ZP, JR, Zj, Zo, ZX, Zp, YS, Ze, Zd, YT, Zk, JK, JP, JH, JG, Zi, Zh, ZN, ZI, ZM, Zw]
    rw [QH]
    refine ⟨by rw [List.length_map]; exact l1, ?_⟩
    refine JZ (inP p) _ _ (fun x hx k hk => ?_) ?_ ?_
    · obtain ⟨t, ht, rfl⟩ := List.mem_map.mp hx
      obtain ⟨t, ht, rfl⟩ := List.mem_map.mp ht
      refine ⟨ZIy p, ZEy t.1 t.2, ?_⟩
      rw [ZHm]
      replace hk : k (cond (decide ((t.1 : Int) = p) || decide ((t.2 : Int) = p)) (some (.int 1)) none) := hk
      revert hk
      cases decide ((t.1 : Int) = p) || decide ((t.2 : Int) = p) <;> exact id
    · rw [List.nil_append]
      refine Nat.lt_of_le_of_lt (List.length_filterMap_le ..) ?_
      rw [List.length_map]; exact l1
    · rw [List.nil_append]
      refine ⟨by rw [Hq]; exact JT (Nat.lt_of_le_of_lt (List.countP_le_length) hl), ?_⟩
      rw [Hq]
      exact hk
  · rw [List.nil_append, e, YI]; unfold ctL; rw [List.length_map, List.length_range]; exact JT (by lia)
  · rw [List.nil_append, e]; exact q
theorem ZHg {cs : List Int} {p : Nat} (h : p < cs.length) : cs[p]? = some (cs.getD p 0) := by rw [List.getD_eq_getElem?_getD, List.getElem?_eq_getElem h]; rfl
theorem QG {cs : List Int} {p : Nat} (h : p < cs.length) (h2 : p < 1000) {K : V → Prop} (k : K (.d (.int (cs.getD p 0)))) : got (idxV (.brw (.list (ofInts cs))) p) K := by
  rw [Gr (Int.natCast_nonneg p) (by lia), Int.toNat_natCast, getElem?_ofInts, ZHg h]; exact k
end
end TC

namespace TC

noncomputable abbrev Mw := List Nat × List Nat
noncomputable def see (here : Nat) (st : Mw) (near far : Nat) : Mw := if near = here ∧ far ∉ st.1 then (st.1 ++ [far], st.2 ++ [far]) else st
noncomputable def seeT (here : Nat) (st : Mw) (t : Nat × Nat) : Mw := see here (see here st t.1 t.2) t.2 t.1
noncomputable def seeAll (here : Nat) (ts : Ties) (st : Mw) : Mw := ts.foldl (seeT here) st
theorem Vd : ∀ (n : Nat) (l : List Nat), l.Nodup → (∀ x ∈ l, x < n) → l.length ≤ n := by
  intro n l nd h
  have := List.Nodup.length_le_of_subset nd (l₂ := List.range n) fun x hx => List.mem_range.mpr (h x hx)
  rwa [List.length_range] at this
structure Mt (n : Nat) (ts : Ties) (s : Nat) (st : Mw) : Prop where
  cn : ∀ x ∈ st.1, Cn ts s x
  nd : st.1.Nodup
  has : s ∈ st.1
  sub : ∀ x ∈ st.2, x ∈ st.1
  nw : st.2.Nodup
noncomputable def Done (ts : Ties) (but : Nat → Prop) (st : Mw) : Prop := ∀ x ∈ st.1, x ∉ st.2 → ¬ but x → ∀ y, Adj ts x y → y ∈ st.1
section
variable {n : Nat} {ts : Ties} {s here near far : Nat} {st : Mw} {but : Nat → Prop}
theorem Mt.lt (w : Web n ts) (h : s < n) (m : Mt n ts s st) : ∀ x ∈ st.1, x < n := fun x hx => Cn.lt w h (m.cn x hx)
theorem Mt.le (w : Web n ts) (h : s < n) (m : Mt n ts s st) : st.1.length ≤ n := Vd n _ m.nd (m.lt w h)
theorem ZGf (m : Mt n ts s st) (hh : here ∈ st.1) (ha : Adj ts near far) (d : Done ts but st) :
    Mt n ts s (see here st near far) ∧ Done ts but (see here st near far) ∧ (∀ x ∈ st.1, x ∈ (see here st near far).1) ∧ (near = here → far ∈ (see here st near far).1) ∧ (∀ x ∈ st.1, x ∉ st.2 → x ∉ (see here st near far).2) ∧ (see here st near far).2.length + st.1.length = st.2.length + (see here st near far).1.length := by
  unfold see
  by_cases c : near = here ∧ far ∉ st.1
  · rw [if_pos c]
    refine ⟨⟨fun x hx => ?_, ?_, List.mem_append_left _ m.has, fun x hx => ?_, ?_⟩, fun x hx nx nb y a => ?_, fun x hx => List.mem_append_left _ hx, fun _ => List.mem_append_right _ (.head _), fun x hx nx q => ?_, ?_⟩
    · rcases List.mem_append.mp hx with q | q
      · exact m.cn x q
      · rw [List.mem_singleton.mp q]; exact .step (m.cn near (c.1 ▸ hh)) ha
    · exact List.nodup_append.mpr ⟨m.nd, (List.pairwise_singleton _ _), fun a ha b hb e => c.2 (by rw [List.mem_singleton.mp hb] at e; exact e ▸ ha)⟩
    · exact (List.mem_append.mp hx).elim (fun q => List.mem_append_left _ (m.sub x q)) fun q => List.mem_append_right _ q
    · exact List.nodup_append.mpr ⟨m.nw, (List.pairwise_singleton _ _), fun a ha b hb e => c.2 (by rw [List.mem_singleton.mp hb] at e; exact e ▸ m.sub a ha)⟩
    · have n2 : x ∉ st.2 := fun q => nx (List.mem_append_left _ q)
      rcases List.mem_append.mp hx with q | q
      · exact List.mem_append_left _ (d x q n2 nb y a)
      · exact absurd (List.mem_append_right _ q) nx
    · rcases List.mem_append.mp q with q | q
      · exact nx q
      · exact c.2 (List.mem_singleton.mp q ▸ hx)
    · rw [List.length_append, List.length_append]; simp only [List.length_singleton]; lia
  · rw [if_neg c]
    exact ⟨m, d, fun _ q => q, fun e => Classical.byContradiction fun q => c ⟨e, q⟩, fun _ _ q => q, rfl⟩
theorem ZBn {us : Ties} : ∀ {st : Mw}, (∀ t ∈ us, t ∈ ts) → Mt n ts s st → here ∈ st.1 → here ∉ st.2 → Done ts but st →
    Mt n ts s (seeAll here us st) ∧ Done ts but (seeAll here us st) ∧ (∀ x ∈ st.1, x ∈ (seeAll here us st).1) ∧ (∀ y, Adj us here y → y ∈ (seeAll here us st).1) ∧ here ∉ (seeAll here us st).2 ∧ (seeAll here us st).2.length + st.1.length = st.2.length + (seeAll here us st).1.length := by
  induction us with
  | nil => exact fun {st} _ m hh hn d => ⟨m, d, fun _ q => q, fun y a => a.elim (fun q => nomatch q) (fun q => nomatch q), hn, rfl⟩
  | cons t us ih =>
    intro st sub m hh hn d
    have ht : (t.1, t.2) ∈ ts := sub t (.head _)
    obtain ⟨m1, d1, k1, f1, n1, l1⟩ := ZGf (near := t.1) (far := t.2) m hh (.inl ht) d
    obtain ⟨m2, d2, k2, f2, n2, l2⟩ := ZGf (near := t.2) (far := t.1) m1 (k1 _ hh) (.inr ht) d1
    obtain ⟨m3, d3, k3, f3, n3, l3⟩ := ih (st := seeT here st t) (fun t h => sub t (.tail _ h)) m2 (k2 _ (k1 _ hh)) (n2 _ (k1 _ hh) (n1 _ hh hn)) d2
    refine ⟨m3, d3, fun x q => k3 x (k2 x (k1 x q)), fun y a => ?_, n3, ?_⟩
    · rcases a with a | a <;> rcases List.mem_cons.mp a with q | q
      · subst q; exact k3 _ (k2 _ (f1 rfl))
      · exact f3 y (.inl q)
      · subst q; exact k3 _ (f2 rfl)
      · exact f3 y (.inr q)
    · have e : seeAll here (t :: us) st = seeAll here us (seeT here st t) := rfl
      rw [e]
      have l2' : (seeT here st t).2.length + (see here st t.1 t.2).1.length = (see here st t.1 t.2).2.length + (seeT here st t).1.length := l2
      lia
noncomputable def turn (ts : Ties) (met wt : List Nat) (here : Nat) : Mw := seeAll here ts (met, wt)
theorem turn_ok' {met wt : List Nat} (m : Mt n ts s (met, wt ++ [here])) (d : Done ts (fun _ => False) (met, wt ++ [here])) :
    Mt n ts s (turn ts met wt here) ∧ Done ts (fun _ => False) (turn ts met wt here) ∧ (turn ts met wt here).2.length + met.length = wt.length + (turn ts met wt here).1.length := by
  obtain ⟨n1, n2, n3⟩ := List.nodup_append.mp m.nw
  have hn : here ∉ wt := fun q => n3 here q here (.head _) rfl
  have hm : here ∈ met := m.sub here (List.mem_append_right _ (.head _))
  have m' : Mt n ts s (met, wt) := ⟨m.cn, m.nd, m.has, fun x q => m.sub x (List.mem_append_left _ q), n1⟩
  have d' : Done ts (· = here) (met, wt) := fun x hx nx nb y a => d x hx (fun q => (List.mem_append.mp q).elim nx fun q => nb (List.mem_singleton.mp q)) id y a
  obtain ⟨m3, d3, k3, f3, h3, l3⟩ := ZBn (us := ts) (fun _ q => q) m' hm hn d'
  refine ⟨m3, fun x hx nx _ y a => ?_, l3⟩
  by_cases e : x = here
  · exact f3 y (e ▸ a)
  · exact d3 x hx nx e y a
theorem ZHy {met : List Nat} (w : Web n ts) (h : s < n) (m : Mt n ts s (met, [])) (d : Done ts (fun _ => False) (met, [])) (x : Nat) : x ∈ met ↔ x ∈ compOf n ts s :=
  ⟨fun q => Jq.mpr ⟨m.lt w h x q, m.cn x q⟩, fun q => Cn.closed (P := (· ∈ met)) (fun x y hx a => d x hx nofun id y a) m.has (Jq.mp q).2⟩
theorem Mt.start : Mt n ts s ([s], [s]) := ⟨fun x q => List.mem_singleton.mp q ▸ .refl, (List.pairwise_singleton _ _), .head _, fun _ q => q, (List.pairwise_singleton _ _)⟩
theorem Done.start : Done ts (fun _ => False) ([s], [s]) := fun x q nx => absurd q nx
theorem ZFb {met : List Nat} (nd : met.Nodup) (p : Nat) (h : ∀ x, x ∈ met ↔ x ∈ compOf n ts p) : (met.map Int.ofNat).mergeSort (fun a b => decide (a ≤ b)) = (compOf n ts p).map Int.ofNat := by
  have cs := XB n ts p
  have nc : (compOf n ts p).Nodup := cs.imp fun h => Nat.ne_of_lt h
  have pm : (met.map Int.ofNat).Perm ((compOf n ts p).map Int.ofNat) := ((List.perm_ext_iff_of_nodup nd nc).mpr h).map _
  refine List.Perm.eq_of_pairwise (le := fun a b : Int => a ≤ b) (fun x y _ _ p q => Int.le_antisymm p q) ?_ ?_ ((List.mergeSort_perm _ _).trans pm)
  · exact (List.pairwise_mergeSort (le := fun a b : Int => decide (a ≤ b)) (fun a b c h1 h2 => decide_eq_true (Int.le_trans (of_decide_eq_true h1) (of_decide_eq_true h2))) (fun a b => by simp only [Bool.or_eq_true, decide_eq_true_eq]; exact Int.le_total a b) _).imp fun h => of_decide_eq_true h
  · exact List.pairwise_map.mpr (cs.imp fun h => Int.ofNat_le.mpr (Nat.le_of_lt h))
end
end TC

namespace TC
open PySem
noncomputable def Sh (d : Nat) (x : PyData) : Prop := x.canLay0 = true ∧ x.depth ≤ d
theorem Sh.int (d : Nat) (i : Int) : Sh d (.int i) := ⟨by simp only [PyData.canLay0], by simp only [PyData.depth]; exact Nat.zero_le _⟩
theorem Sh.str (d : Nat) {s : Str} (h : PyData.strOk s = true) : Sh d (.str s) := ⟨by simp only [PyData.canLay0]; exact h, by simp only [PyData.depth]; exact Nat.zero_le _⟩
theorem Sh.all {d : Nat} {xs : List PyData} (h : ∀ x ∈ xs, Sh d x) : PyData.canLayAll0 xs = true ∧ PyData.depthAll xs ≤ d := by
  induction xs with
  | nil => exact ⟨by simp only [PyData.canLayAll0], by simp only [PyData.depthAll]; exact Nat.zero_le _⟩
  | cons x xs ih =>
    obtain ⟨h1, h2⟩ := ih fun x hx => h x (.tail _ hx)
    obtain ⟨h3, h4⟩ := h x (.head _)
    exact ⟨by simp only [PyData.canLayAll0, h1, h3, Bool.and_self], by simp only [PyData.depthAll]; exact Nat.max_le.mpr ⟨h4, h2⟩⟩
theorem Sh.list {d : Nat} {xs : List PyData} (h : ∀ x ∈ xs, Sh d x) : Sh (d + 1) (.list xs) := ⟨by simp only [PyData.canLay0]; exact (Sh.all h).1, by simp only [PyData.depth]; exact Nat.succ_le_succ (Sh.all h).2⟩
theorem Sh.tuple {d : Nat} {xs : List PyData} (h : ∀ x ∈ xs, Sh d x) : Sh (d + 1) (.tuple xs) := ⟨by simp only [PyData.canLay0]; exact (Sh.all h).1, by simp only [PyData.depth]; exact Nat.succ_le_succ (Sh.all h).2⟩
theorem Sh.shp {d : Nat} {x : PyData} (h : Sh d x) (le : d ≤ 64 := by decide) : shp x := by
  unfold TC.shp SeqAt.shaped; rw [h.1, decide_eq_true (Nat.le_trans h.2 le)]; rfl
theorem Sh.ints (d : Nat) (l : List Int) : Sh (d + 1) (.list (ofInts l)) := .list fun x hx => by obtain ⟨i, _, rfl⟩ := List.mem_map.mp hx; exact .int d i
theorem Sh.pair (d : Nat) (a b : Int) : Sh (d + 1) (.tuple [.int a, .int b]) := .tuple fun x hx => by rcases List.mem_cons.mp hx with rfl | hx; exact .int d a; rw [List.mem_singleton.mp hx]; exact .int d b
theorem Sh.pairs (d : Nat) (ts : List (Nat × Nat)) : Sh (d + 2) (.list (ofPairs ts)) := .list fun x hx => by obtain ⟨t, _, rfl⟩ := List.mem_map.mp hx; exact .pair d _ _
theorem Sh.nil (d : Nat) : Sh (d + 1) (.list []) := .list nofun
mutual
theorem WS : ∀ x : PyData, x.canLay0 = true → PyData.eqv x x = true
  | .none, _ => by simp only [PyData.eqv]
  | .bool _, _ => by simp only [PyData.eqv, beq_self_eq_true]
  | .int _, _ => by simp only [PyData.eqv, beq_self_eq_true]
  | .str _, _ => by simp only [PyData.eqv, beq_self_eq_true]
  | .list xs, h => by simp only [PyData.eqv]; simp only [PyData.canLay0] at h; exact Qw xs h
  | .tuple xs, h => by simp only [PyData.eqv]; simp only [PyData.canLay0] at h; exact Qw xs h
  | .dict _, h => by simp only [PyData.canLay0] at h; exact nomatch h
theorem Qw : ∀ xs : List PyData, PyData.canLayAll0 xs = true → PyData.eqvAll xs xs = true
  | [], _ => by simp only [PyData.eqvAll]
  | x :: xs, h => by simp only [PyData.canLayAll0, Bool.and_eq_true] at h; simp only [PyData.eqvAll, WS x h.1, Qw xs h.2, Bool.and_self]
end
theorem Sh.eq {d : Nat} {x : PyData} (h : Sh d x) : PyData.eqv x x = true := WS x h.1
theorem Hg (xs : List PyData) : PyData.eqv (.list xs) (.list []) = xs.isEmpty := by
  cases xs <;> simp only [PyData.eqv, PyData.eqvAll] <;> rfl
theorem Xu {v : V} {xs : List PyData} {K : V → Prop} {d : Nat} (e : rd v = some (.list xs)) (h : Sh d (.list xs)) (le : d ≤ 64) (k : K (.d (.bool (!xs.isEmpty)))) : objW .ne v (.own (.list [])) K := by
  show got (rd v) _
  rw [e]
  refine ⟨h.shp le, (Sh.nil 0).shp, ?_⟩
  rw [Hg]; exact k
theorem ZIc {v w : V} {x : PyData} {K : V → Prop} {d : Nat} (e : rd v = some x) (e' : rd w = some x) (h : Sh d x) (le : d ≤ 64) (k : K (.d (.bool false))) : objW .ne v w K := by
  show got (rd v) _
  rw [e]
  show got (rd w) _
  rw [e']
  refine ⟨h.shp le, h.shp le, ?_⟩
  rw [h.eq]; exact k

noncomputable def zs (l : List Nat) : List Int := l.map fun (k : Nat) => (k : Int)
noncomputable def metI (met : List Nat) : List (PyData × PyData) := met.map fun (k : Nat) => (.int (k : Int), .bool true)
theorem Ww (met : List Nat) : tabI (metI met) = some (zs met) := by
  induction met with
  | nil => rfl
  | cons k met ih =>
    show (tabI (metI met)).map ((k : Int) :: ·) = _
    rw [ih]; rfl
theorem XQ (a : Nat) (met : List Nat) : hasKey (.int a) (metI met) = some (decide (a ∈ met)) := by
  show (tabI (metI met)).map _ = _
  rw [Ww, Option.map_some]
  refine congrArg some (Bool.eq_iff_iff.mpr ?_)
  rw [List.contains_iff_mem, decide_eq_true_iff]
  unfold zs
  rw [List.mem_map]
  exact ⟨fun ⟨b, h, e⟩ => Int.natCast_inj.mp e ▸ h, fun h => ⟨a, h, rfl⟩⟩
theorem VE (a : Nat) (met : List Nat) : addKey (.int a) (metI met) = some (metI (if a ∈ met then met else met ++ [a])) := by
  unfold addKey
  rw [XQ, Option.map_some]
  by_cases h : a ∈ met
  · rw [decide_eq_true h, if_pos h]; rfl
  · rw [decide_eq_false h, if_neg h]; unfold metI; rw [List.map_append]; rfl
theorem WH (l : List Nat) (a : Nat) : ofInts (zs l) ++ [PyData.int a] = ofInts (zs (l ++ [a])) := by unfold zs; rw [List.map_append, ← Ve]; rfl
theorem Qr (l : List Nat) : (zs l).length = l.length := List.length_map ..
section
variable {n : Nat} {hm : Bool} {K : V → Prop} {X : Nat → Prop}
noncomputable abbrev pfR (l s : Option V) (st : Mw) (a b c d e : Option V) : Rho := [l, s, some (.own (.dict (metI st.1))), some (.own (.list (ofInts (zs st.2)))), a, b, c, d, e]
theorem Ut (here : Nat) (st : Mw) (a b : Nat) : (see here st a b).1.length ≤ st.1.length + 1 ∧ (see here st a b).2.length ≤ st.2.length + 1 := by
  unfold see
  by_cases c : a = here ∧ b ∉ st.1
  · rw [if_pos c, List.length_append, List.length_append]; exact ⟨Nat.le_refl _, Nat.le_refl _⟩
  · rw [if_neg c]; exact ⟨Nat.le_succ _, Nat.le_succ _⟩
theorem Wr {l s b c : Option V} {st : Mw} {here near far : Nat} {k : KS} (h1 : st.1.length < 1000) (h2 : st.2.length < 1000) (q : k .nxt (pfR l s (see here st near far) (some (.d (.int here))) b c (some (.d (.int near))) (some (.d (.int far))))) :
    wpSs (wpCall T05 n) hm b_piece_from_1 (pfR l s st (some (.d (.int here))) b c (some (.d (.int near))) (some (.d (.int far)))) k (fun c _ => X c) := by
  dsimp only [b_piece_from_1, wpSs, wpS, wpE, wpL, slotW, ownS, Rho.putL, frz, bindF, setD, setAll, bindT, F1.W, F2.W, F1.quiet, seqV, numW, isNon, JN, JI, YF, YE, JF, YB, Zz, YA, Zg, ZO, YL, ZW, ZU, ZV, JD, Zv, Zc, Zb, ZH, ZG, YY, Zl, YH, ZQ, JO, YM, JC, ZS, ZT, ZJ, ZK, Zm, Zn, Zx, JE, Zy, Zu, ZL, Zf, YP, YQ, Zt, Zs, YR, YO, Za, Zr, Zq, JQ, YN, ZY, ZF, ZD, ZE, ZC, ZA, ZB, ZZ, excIs, Jj, YU, YV, YD, YC, YW, YX, Yk, Yl, Yb, Yc, Yg, Yh, Yx, Yy, Ym, Yn, Yt, Yu, Yi, Yj, Yo, YJ, YK, Jg, Jf, Ji, Jh, Yf, Yz, Yp, Yq, Yd, Ye, YZ, Ya, JL, JM, Yv, Yw, JA, JB, Jl, Jk, Ys, Yr, Nat.reduceSub, Nat.reduceAdd, YG, ZP, JR, Zj, Zo, ZX, Zp, YS, Ze, Zd, YT, Zk, JK, JP, JH, JG, Zi, Zh, ZN, ZI, ZM, Zw]
  unfold see at q
  refine Jv (fun e => ?_) fun e => ?_
  · have e : near = here := Int.natCast_inj.mp e
    show got (hasKey (.int far) (metI st.1)) _
    rw [XQ]
    by_cases m : far ∈ st.1
    · rw [if_neg (fun z => z.2 m)] at q
      show cond (!decide (far ∈ st.1)) _ _
      rw [decide_eq_true m]
      exact q
    · rw [if_pos ⟨e, m⟩] at q
      show cond (!decide (far ∈ st.1)) _ _
      rw [decide_eq_false m]
      show got (addKey (.int far) (metI st.1)) _
      rw [VE, if_neg m]
      refine ⟨JT (by unfold metI; rw [List.length_map]; exact h1), JT (by rw [YI, Qr]; exact h2), ?_⟩
      rw [WH]
      exact q
  · rw [if_neg (fun z => e (congrArg Nat.cast z.1))] at q; exact q
theorem ZFj {l s d e : Option V} {st : Mw} {here one other : Nat} {k : KS} (h1 : st.1.length < 900) (h2 : st.2.length < 900) (q : ∀ d e, k .nxt (pfR l s (seeT here st (one, other)) (some (.d (.int here))) (some (.d (.int one))) (some (.d (.int other))) d e)) :
    wpSs (wpCall T05 n) hm b_piece_from_2 (pfR l s st (some (.d (.int here))) (some (.d (.int one))) (some (.d (.int other))) d e) k (fun c _ => X c) := by
  dsimp only [b_piece_from_2, forW, wpSs, wpS, wpE, wpL, slotW, ownS, Rho.putL, frz, bindF, setD, setAll, bindT, F1.W, F2.W, F1.quiet, seqV, numW, isNon, JN, JI, YF, YE, JF, YB, Zz, YA, Zg, ZO, YL, ZW, ZU, ZV, JD, Zv, Zc, Zb, ZH, ZG, YY, Zl, YH, ZQ, JO, YM, JC, ZS, ZT, ZJ, ZK, Zm, Zn, Zx, JE, Zy, Zu, ZL, Zf, YP, YQ, Zt, Zs, YR, YO, Za, Zr, Zq, JQ, YN, ZY, ZF, ZD, ZE, ZC, ZA, ZB, ZZ, excIs, Jj, YU, YV, YD, YC, YW, YX, Yk, Yl, Yb, Yc, Yg, Yh, Yx, Yy, Ym, Yn, Yt, Yu, Yi, Yj, Yo, YJ, YK, Jg, Jf, Ji, Jh, Yf, Yz, Yp, Yq, Yd, Ye, YZ, Ya, JL, JM, Yv, Yw, JA, JB, Jl, Jk, Ys, Yr, Nat.reduceSub, Nat.reduceAdd, YG, ZP, JR, Zj, Zo, ZX, Zp, YS, Ze, Zd, YT, Zk, JK, JP, JH, JG, Zi, Zh, ZN, ZI, ZM, Zw]
  obtain ⟨l1, l2⟩ := Ut here st one other
  exact ⟨JT (by decide), Wr (by lia) (by lia) (Wr (by lia) (by lia) (q _ _))⟩
theorem ZEw (here : Nat) (st : Mw) (t : Nat × Nat) : (seeT here st t).1.length ≤ st.1.length + 2 ∧ (seeT here st t).2.length ≤ st.2.length + 2 := by
  obtain ⟨a1, a2⟩ := Ut here st t.1 t.2
  obtain ⟨b1, b2⟩ := Ut here (see here st t.1 t.2) t.2 t.1
  unfold seeT; lia
theorem ZCd {Ko : KS} {l s : Option V} {here : Nat} {ts : Ties} : ∀ {st : Mw} {b c d e : Option V}, st.1.length + 2 * ts.length < 900 → st.2.length + 2 * ts.length < 900 → (∀ b c d e, Ko .nxt (pfR l s (seeAll here ts st) (some (.d (.int here))) b c d e)) →
    forW (fun x ρ' k => bindF (.many [5, 6]) x ρ' fun ρ'' => wpSs (wpCall T05 n) hm b_piece_from_2 ρ'' k (fun c _ => X c)) Ko ((ofPairs ts).map .d) (pfR l s st (some (.d (.int here))) b c d e) := by
  induction ts with
  | nil => exact fun _ _ h => h _ _ _ _
  | cons t ts ih =>
    intro st b c d e h1 h2 h
    obtain ⟨l1, l2⟩ := ZEw here st t
    simp only [List.length_cons] at h1 h2
    exact ZFj (by lia) (by lia) fun d e => ih (st := seeT here st t) (by lia) (by lia) h
theorem ZGc {m : Nat} {ts : Ties} {s : Nat} {st : Mw} (w : Web m ts) (h : s < m) (M : Mt m ts s st) : st.1.length ≤ m ∧ st.2.length ≤ m := ⟨M.le w h, Vd m _ M.nw fun x hx => M.lt w h x (M.sub x hx)⟩
theorem Gp (m : Nat) (hz : m ≤ 10) (ts : Ties) (hl : ts.length ≤ 100) (w : Web m ts) (s : Nat) (hs : s < m) (q : K (.own (.list (ofInts (zs (compOf m ts s)))))) : wpCall T05 (n + 1) false 4 [.brw (.list (ofPairs ts)), .d (.int s)] K X := by
  refine JY (fn := f_piece_from) rfl rfl (by decide) ?_
  dsimp only [f_piece_from, b_piece_from, wpSs, wpS, wpE, wpL, slotW, ownS, Rho.putL, frz, bindF, setD, setAll, bindT, F1.W, F2.W, F1.quiet, seqV, numW, isNon, JN, JI, YF, YE, JF, YB, Zz, YA, Zg, ZO, YL, ZW, ZU, ZV, JD, Zv, Zc, Zb, ZH, ZG, YY, Zl, YH, ZQ, JO, YM, JC, ZS, ZT, ZJ, ZK, Zm, Zn, Zx, JE, Zy, Zu, ZL, Zf, YP, YQ, Zt, Zs, YR, YO, Za, Zr, Zq, JQ, YN, ZY, ZF, ZD, ZE, ZC, ZA, ZB, ZZ, excIs, Jj, YU, YV, YD, YC, YW, YX, Yk, Yl, Yb, Yc, Yg, Yh, Yx, Yy, Ym, Yn, Yt, Yu, Yi, Yj, Yo, YJ, YK, Jg, Jf, Ji, Jh, Yf, Yz, Yp, Yq, Yd, Ye, YZ, Ya, JL, JM, Yv, Yw, JA, JB, Jl, Jk, Ys, Yr, Nat.reduceSub, Nat.reduceAdd, YG, ZP, JR, Zj, Zo, ZX, Zp, YS, Ze, Zd, YT, Zk, JK, JP, JH, JG, Zi, Zh, ZN, ZI, ZM, Zw]
  refine ⟨m + 2, WD (fun k ρ => ∃ st a b c d e, ρ = pfR (some (.brw (.list (ofPairs ts)))) (some (.d (.int s))) st a b c d e ∧ Mt m ts s st ∧ Done ts (fun _ => False) st ∧ k + st.1.length = m + st.2.length) ?_ (m + 2) m _ (by lia) ⟨([s], [s]), none, none, none, none, none, rfl, .start, .start, rfl⟩⟩
  rintro k _ kk ⟨⟨met, wt⟩, a, b, c, d, e, rfl, M, D, ek⟩ cont _
  obtain ⟨lm, lw⟩ := ZGc w hs M
  dsimp only at lm lw ek
  dsimp only [wpSs, wpS, wpE, wpL, slotW, ownS, Rho.putL, frz, bindF, setD, setAll, bindT, F1.W, F2.W, F1.quiet, seqV, numW, isNon, JN, JI, YF, YE, JF, YB, Zz, YA, Zg, ZO, YL, ZW, ZU, ZV, JD, Zv, Zc, Zb, ZH, ZG, YY, Zl, YH, ZQ, JO, YM, JC, ZS, ZT, ZJ, ZK, Zm, Zn, Zx, JE, Zy, Zu, ZL, Zf, YP, YQ, Zt, Zs, YR, YO, Za, Zr, Zq, JQ, YN, ZY, ZF, ZD, ZE, ZC, ZA, ZB, ZZ, excIs, Jj, YU, YV, YD, YC, YW, YX, Yk, Yl, Yb, Yc, Yg, Yh, Yx, Yy, Ym, Yn, Yt, Yu, Yi, Yj, Yo, YJ, YK, Jg, Jf, Ji, Jh, Yf, Yz, Yp, Yq, Yd, Ye, YZ, Ya, JL, JM, Yv, Yw, JA, JB, Jl, Jk, Ys, Yr, Nat.reduceSub, Nat.reduceAdd, YG, ZP, JR, Zj, Zo, ZX, Zp, YS, Ze, Zd, YT, Zk, JK, JP, JH, JG, Zi, Zh, ZN, ZI, ZM, Zw]
  refine Xu rfl (Sh.ints 0 (zs wt)) (by decide) ?_
  rcases List.eq_nil_or_concat wt with rfl | ⟨wt, here, rfl⟩
  · -- all met
    show got (keysV (.brw (.dict (metI met)))) _
    show got ((tabI (metI met)).map ofInts) _
    rw [Ww]
    refine ⟨JT (by rw [YI, Qr]; lia), ?_⟩
    show Option.elim (allOf intOf (ofInts (zs met))) _ _
    rw [Ja]
    refine ⟨by rw [Qr]; lia, ?_⟩
    have e1 : sortI (zs met) = zs (compOf m ts s) := ZFb M.nd s (ZHy w hs M D)
    rw [e1]; exact q
  · rw [List.concat_eq_append] at M D ek lw ⊢
    have en : (ofInts (zs (wt ++ [here]))).isEmpty = false := by rw [← WH]; cases ofInts (zs wt) <;> rfl
    show cond (!(ofInts (zs (wt ++ [here]))).isEmpty) _ _
    rw [en]
    dsimp only [b_piece_from_3, wpSs, wpS, wpE, wpL, slotW, ownS, Rho.putL, frz, bindF, setD, setAll, bindT, F1.W, F2.W, F1.quiet, seqV, numW, isNon, JN, JI, YF, YE, JF, YB, Zz, YA, Zg, ZO, YL, ZW, ZU, ZV, JD, Zv, Zc, Zb, ZH, ZG, YY, Zl, YH, ZQ, JO, YM, JC, ZS, ZT, ZJ, ZK, Zm, Zn, Zx, JE, Zy, Zu, ZL, Zf, YP, YQ, Zt, Zs, YR, YO, Za, Zr, Zq, JQ, YN, ZY, ZF, ZD, ZE, ZC, ZA, ZB, ZZ, excIs, Jj, YU, YV, YD, YC, YW, YX, Yk, Yl, Yb, Yc, Yg, Yh, Yx, Yy, Ym, Yn, Yt, Yu, Yi, Yj, Yo, YJ, YK, Jg, Jf, Ji, Jh, Yf, Yz, Yp, Yq, Yd, Ye, YZ, Ya, JL, JM, Yv, Yw, JA, JB, Jl, Jk, Ys, Yr, Nat.reduceSub, Nat.reduceAdd, YG, ZP, JR, Zj, Zo, ZX, Zp, YS, Ze, Zd, YT, Zk, JK, JP, JH, JG, Zi, Zh, ZN, ZI, ZM, Zw]
    rw [← WH, List.getLast?_concat, List.dropLast_concat]
    rw [QH]
    obtain ⟨M2, D2, L2⟩ := turn_ok' M D
    obtain ⟨lm2, lw2⟩ := ZGc w hs M2
    rw [List.length_append] at ek lw
    simp only [List.length_cons, List.length_nil] at ek lw
    refine ⟨JT (by rw [List.length_append, YI, Qr]; simp only [List.length_cons, List.length_nil]; lia), ?_⟩
    refine ⟨by rw [List.length_map, JS]; exact JT (by lia), ZCd (st := (met, wt)) (by dsimp only; lia) (by dsimp only; lia) fun b c d e => ?_⟩
    exact cont (k - 1) _ (by lia) ⟨turn ts met wt here, _, b, c, d, e, rfl, M2, D2, by lia⟩
noncomputable def meet (met piece : List Nat) : List Nat := piece.foldl (fun m a => if a ∈ m then m else m ++ [a]) met
theorem ZEh {piece : List Nat} : ∀ {met : List Nat} {x : Nat}, x ∈ meet met piece ↔ x ∈ met ∨ x ∈ piece := by
  induction piece with
  | nil => exact fun {met x} => ⟨.inl, fun h => h.resolve_right nofun⟩
  | cons a piece ih =>
    intro met x
    refine (ih (met := if a ∈ met then met else met ++ [a])).trans ?_
    by_cases h : a ∈ met
    · rw [if_pos h, List.mem_cons]
      exact ⟨fun q => q.imp_right .inr, fun q => q.elim .inl fun q => q.elim (fun e => .inl (e ▸ h)) .inr⟩
    · rw [if_neg h, List.mem_append, List.mem_singleton, List.mem_cons, or_assoc]
theorem ZEg {piece : List Nat} : ∀ {met : List Nat}, (meet met piece).length ≤ met.length + piece.length := by
  induction piece with
  | nil => exact fun {met} => Nat.le_refl _
  | cons a piece ih =>
    intro met
    have := ih (met := if a ∈ met then met else met ++ [a])
    have l : (if a ∈ met then met else met ++ [a]).length ≤ met.length + 1 := by
      by_cases h : a ∈ met
      · rw [if_pos h]; exact Nat.le_succ _
      · rw [if_neg h, List.length_append]; exact Nat.le_refl _
    show (meet (if a ∈ met then met else met ++ [a]) piece).length ≤ _
    rw [List.length_cons]; lia
theorem ZAh {Ko : KS} {a b c d e : Option V} {piece : List Nat} : ∀ {met : List Nat} {g : Option V}, met.length + piece.length < 1000 → (∀ g, Ko .nxt [a, b, c, some (.own (.dict (metI (meet met piece)))), d, e, g]) →
    forW (fun x ρ' k => bindF (.one 6) x ρ' fun ρ'' => wpSs (wpCall T05 n) hm b_pieces_by_1 ρ'' k (fun c _ => X c)) Ko ((ofInts (zs piece)).map .d) [a, b, c, some (.own (.dict (metI met))), d, e, g] := by
  induction piece with
  | nil => exact fun _ h => h _
  | cons p piece ih =>
    intro met g hl h
    rw [List.length_cons] at hl
    dsimp only [forW, zs, ofInts, b_pieces_by_1, wpSs, wpS, wpE, wpL, slotW, ownS, Rho.putL, frz, bindF, setD, setAll, bindT, F1.W, F2.W, F1.quiet, seqV, numW, isNon, JN, JI, YF, YE, JF, YB, Zz, YA, Zg, ZO, YL, ZW, ZU, ZV, JD, Zv, Zc, Zb, ZH, ZG, YY, Zl, YH, ZQ, JO, YM, JC, ZS, ZT, ZJ, ZK, Zm, Zn, Zx, JE, Zy, Zu, ZL, Zf, YP, YQ, Zt, Zs, YR, YO, Za, Zr, Zq, JQ, YN, ZY, ZF, ZD, ZE, ZC, ZA, ZB, ZZ, excIs, Jj, YU, YV, YD, YC, YW, YX, Yk, Yl, Yb, Yc, Yg, Yh, Yx, Yy, Ym, Yn, Yt, Yu, Yi, Yj, Yo, YJ, YK, Jg, Jf, Ji, Jh, Yf, Yz, Yp, Yq, Yd, Ye, YZ, Ya, JL, JM, Yv, Yw, JA, JB, Jl, Jk, Ys, Yr, Nat.reduceSub, Nat.reduceAdd, YG, ZP, JR, Zj, Zo, ZX, Zp, YS, Ze, Zd, YT, Zk, JK, JP, JH, JG, Zi, Zh, ZN, ZI, ZM, Zw]
    show got (addKey (.int p) (metI met)) _
    rw [VE]
    have l : (if p ∈ met then met else met ++ [p]).length ≤ met.length + 1 := by
      by_cases h : p ∈ met
      · rw [if_pos h]; exact Nat.le_succ _
      · rw [if_neg h, List.length_append]; exact Nat.le_refl _
    exact ⟨JT (by unfold metI; rw [List.length_map]; lia), ih (by lia) h⟩
theorem Gd {m k x : Nat} {ts : Ties} (w : Web m ts) : (∃ r ∈ reps (k + 1) ts, Cn ts r x) ↔ (∃ r ∈ reps k ts, Cn ts r x) ∨ (Rep ts k ∧ Cn ts k x) := by
  rw [UT (n := m)]
  constructor
  · rintro ⟨r, h1, h2⟩
    rcases List.mem_append.mp h1 with h | h
    · exact .inl ⟨r, h, h2⟩
    · cases e : dec (Rep ts k) with
      | true => rw [e, if_pos rfl] at h; rw [List.mem_singleton.mp h] at h2; exact .inr ⟨Qb.mp e, h2⟩
      | false => rw [e, if_neg (by decide)] at h; exact nomatch h
  · rintro (⟨r, h1, h2⟩ | ⟨h1, h2⟩)
    · exact ⟨r, List.mem_append_left _ h1, h2⟩
    · rw [Xd h1, if_pos rfl]; exact ⟨k, List.mem_append_right _ (.head _), h2⟩
theorem VI (l : List (List Int)) (a : List Int) : PyData.list (((l.map fun t => PyData.list (t.map PyData.int))) ++ [.list (ofInts a)]) = lists (l ++ [a]) := by unfold lists; rw [List.map_append]; rfl
theorem QD (m : Nat) (hz : m ≤ 10) (ts : Ties) (hl : ts.length ≤ 100) (w : Web m ts) (q : K (.own (lists ((comps m ts).map zs)))) : wpCall T05 (n + 2) false 5 [.d (.int m), .brw (.list (ofPairs ts))] K X := by
  refine JY (fn := f_pieces_by) rfl rfl (by decide) ?_
  dsimp only [f_pieces_by, b_pieces_by, wpSs, wpS, wpE, wpL, slotW, ownS, Rho.putL, frz, bindF, setD, setAll, bindT, F1.W, F2.W, F1.quiet, seqV, numW, isNon, JN, JI, YF, YE, JF, YB, Zz, YA, Zg, ZO, YL, ZW, ZU, ZV, JD, Zv, Zc, Zb, ZH, ZG, YY, Zl, YH, ZQ, JO, YM, JC, ZS, ZT, ZJ, ZK, Zm, Zn, Zx, JE, Zy, Zu, ZL, Zf, YP, YQ, Zt, Zs, YR, YO, Za, Zr, Zq, JQ, YN, ZY, ZF, ZD, ZE, ZC, ZA, ZB, ZZ, excIs, Jj, YU, YV, YD, YC, YW, YX, Yk, Yl, Yb, Yc, Yg, Yh, Yx, Yy, Ym, Yn, Yt, Yu, Yi, Yj, Yo, YJ, YK, Jg, Jf, Ji, Jh, Yf, Yz, Yp, Yq, Yd, Ye, YZ, Ya, JL, JM, Yv, Yw, JA, JB, Jl, Jk, Ys, Yr, Nat.reduceSub, Nat.reduceAdd, YG, ZP, JR, Zj, Zo, ZX, Zp, YS, Ze, Zd, YT, Zk, JK, JP, JH, JG, Zi, Zh, ZN, ZI, ZM, Zw]
  refine ⟨rngOk (by first | assumption | lia), rngLen (by first | assumption | lia), ?_⟩
  refine QB _ (fun i ρ => ∃ met a b c, ρ = [some (.d (.int m)), some (.brw (.list (ofPairs ts))), some (.own (lists (((reps i ts).map (compOf m ts)).map zs))), some (.own (.dict (metI met))), a, b, c] ∧ met.length ≤ i * 10 ∧ ∀ x, x < m → (x ∈ met ↔ ∃ r ∈ reps i ts, Cn ts r x)) ?_ ?_ _ ⟨[], none, none, none, rfl, Nat.le_refl _, fun x _ => ⟨nofun, fun ⟨r, h, _⟩ => nomatch h⟩⟩
  · rintro ρ ⟨met, a, b, c, rfl, l1, hm⟩
    rw [Jb]
    exact q
  · rintro i hi ρ k ⟨met, a, b, c, rfl, l1, hmet⟩ cont _
    have hi' : i < m := by rw [Jb] at hi; exact hi
    rw [QO]
    dsimp only [b_pieces_by_2, wpSs, wpS, wpE, wpL, slotW, ownS, Rho.putL, frz, bindF, setD, setAll, bindT, F1.W, F2.W, F1.quiet, seqV, numW, isNon, JN, JI, YF, YE, JF, YB, Zz, YA, Zg, ZO, YL, ZW, ZU, ZV, JD, Zv, Zc, Zb, ZH, ZG, YY, Zl, YH, ZQ, JO, YM, JC, ZS, ZT, ZJ, ZK, Zm, Zn, Zx, JE, Zy, Zu, ZL, Zf, YP, YQ, Zt, Zs, YR, YO, Za, Zr, Zq, JQ, YN, ZY, ZF, ZD, ZE, ZC, ZA, ZB, ZZ, excIs, Jj, YU, YV, YD, YC, YW, YX, Yk, Yl, Yb, Yc, Yg, Yh, Yx, Yy, Ym, Yn, Yt, Yu, Yi, Yj, Yo, YJ, YK, Jg, Jf, Ji, Jh, Yf, Yz, Yp, Yq, Yd, Ye, YZ, Ya, JL, JM, Yv, Yw, JA, JB, Jl, Jk, Ys, Yr, Nat.reduceSub, Nat.reduceAdd, YG, ZP, JR, Zj, Zo, ZX, Zp, YS, Ze, Zd, YT, Zk, JK, JP, JH, JG, Zi, Zh, ZN, ZI, ZM, Zw]
    show got (hasKey (.int i) (metI met)) _
    rw [XQ]
    have im : i ∈ met ↔ ¬ Rep ts i := (hmet i hi').trans (ZIg w).symm
    have rs : reps (i + 1) ts = reps i ts ++ (if dec (Rep ts i) then [i] else []) := UT (n := m)
    by_cases h : i ∈ met
    · show cond (!decide (i ∈ met)) _ _
      rw [decide_eq_true h]
      rw [Vz (im.mp h), if_neg (by decide), List.append_nil] at rs
      exact cont _ ⟨met, _, b, c, by rw [rs], by lia, fun x hx => by rw [rs]; exact hmet x hx⟩
    · show cond (!decide (i ∈ met)) _ _
      rw [decide_eq_false h]
      have r : Rep ts i := Classical.byContradiction fun q => h (im.mpr q)
      rw [Xd r, if_pos rfl] at rs
      have pl : (compOf m ts i).length ≤ 10 := Nat.le_trans (Vd m _ ((XB m ts i).imp fun h => Nat.ne_of_lt h) fun x hx => (Jq.mp hx).1) hz
      have rl : (reps i ts).length ≤ 10 := by unfold reps; exact Nat.le_trans (List.length_filter_le ..) (by rw [List.length_range]; lia)
      refine Gp m hz ts hl w i hi' ?_
      refine (show _ ∧ _ from ⟨JT (by rw [List.length_map, List.length_map, List.length_map]; lia), ?_⟩)
      have e3 : ((reps i ts).map (compOf m ts)).map zs ++ [zs (compOf m ts i)] = ((reps (i + 1) ts).map (compOf m ts)).map zs := by
        rw [rs, List.map_append, List.map_append]; rfl
      rw [VI, e3]
      refine (show _ ∧ _ from ⟨by rw [List.length_map, YI, Qr]; exact JT (by lia), ZAh (by lia) fun g => ?_⟩)
      have ml := ZEg (met := met) (piece := compOf m ts i)
      refine cont _ ⟨meet met (compOf m ts i), _, _, g, rfl, by lia, fun x hx => ?_⟩
      rw [ZEh, Gd w, hmet x hx, Jq]
      exact ⟨fun q => q.imp_right fun q => ⟨r, q.2⟩, fun q => q.imp_right fun q => ⟨hx, q.2⟩⟩
end
end TC

namespace TC
open PySem
section
variable {n : Nat} {hm : Bool} {K : V → Prop} {X : Nat → Prop}
structure GW (m : Nat) (ts : Ties) : Prop where
  pos : 0 < m
  le : m ≤ 10
  web : Web m ts
  len : ts.length ≤ 100
end
end TC

namespace TC
open PySem
theorem WG (l : List Nat) (p : Nat) : (zs l).getD p 0 = ((l.getD p 0 : Nat) : Int) := by
  unfold zs; rw [List.getD_eq_getElem?_getD, List.getD_eq_getElem?_getD, List.getElem?_map]
  cases l[p]? <;> rfl
theorem ZGl (l : List Nat) (p v : Nat) : (ofInts (zs l)).set (p : Int).toNat (.int v) = ofInts (zs (l.set p v)) := by
  unfold zs; rw [Int.toNat_natCast, XU, List.map_set]
section
variable {n : Nat} {hm : Bool} {K : V → Prop} {X : Nat → Prop}
noncomputable abbrev mkR (a l : Option V) (mk : List Nat) (t b c d e f g : Option V) : Rho := [a, l, some (.own (.list (ofInts (zs mk)))), t, b, c, d, e, f, g]
theorem nmin (a b : Nat) : min (a : Int) b = ((min a b : Nat) : Int) := by
  rcases Nat.le_total a b with h | h
  · rw [Int.min_eq_left (Int.ofNat_le.mpr h), Nat.min_eq_left h]
  · rw [Int.min_eq_right (Int.ofNat_le.mpr h), Nat.min_eq_right h]
theorem nmax (a b : Nat) : max (a : Int) b = ((max a b : Nat) : Int) := by
  rcases Nat.le_total a b with h | h
  · rw [Int.max_eq_right (Int.ofNat_le.mpr h), Nat.max_eq_right h]
  · rw [Int.max_eq_left (Int.ofNat_le.mpr h), Nat.max_eq_left h]
theorem ZAd {Ko : KS} {a l tu e f g : Option V} {ts : Ties} : ∀ {mk : List Nat} {b c d : Option V}, (∀ t ∈ ts, t.1 < mk.length ∧ t.2 < mk.length) → mk.length < 1000 → (∀ b c d, Ko .nxt (mkR a l (mround ts mk) tu b c d e f g)) →
    forW (fun x ρ' k => bindF (.many [4, 5]) x ρ' fun ρ'' => wpSs (wpCall T05 n) false b__law_pieces_1 ρ'' k (fun c _ => X c)) Ko ((ofPairs ts).map .d) (mkR a l mk tu b c d e f g) := by
  induction ts with
  | nil => exact fun _ _ h => h _ _ _
  | cons t ts ih =>
    intro mk b c d ht hl h
    obtain ⟨a1, a2⟩ := ht t (.head _)
    dsimp only [forW, ofPairs, b__law_pieces_1, wpSs, wpS, wpE, wpL, slotW, ownS, Rho.putL, frz, bindF, setD, setAll, bindT, F1.W, F2.W, F1.quiet, seqV, numW, isNon, JN, JI, YF, YE, JF, YB, Zz, YA, Zg, ZO, YL, ZW, ZU, ZV, JD, Zv, Zc, Zb, ZH, ZG, YY, Zl, YH, ZQ, JO, YM, JC, ZS, ZT, ZJ, ZK, Zm, Zn, Zx, JE, Zy, Zu, ZL, Zf, YP, YQ, Zt, Zs, YR, YO, Za, Zr, Zq, JQ, YN, ZY, ZF, ZD, ZE, ZC, ZA, ZB, ZZ, excIs, Jj, YU, YV, YD, YC, YW, YX, Yk, Yl, Yb, Yc, Yg, Yh, Yx, Yy, Ym, Yn, Yt, Yu, Yi, Yj, Yo, YJ, YK, Jg, Jf, Ji, Jh, Yf, Yz, Yp, Yq, Yd, Ye, YZ, Ya, JL, JM, Yv, Yw, JA, JB, Jl, Jk, Ys, Yr, Nat.reduceSub, Nat.reduceAdd, YG, ZP, JR, Zj, Zo, ZX, Zp, YS, Ze, Zd, YT, Zk, JK, JP, JH, JG, Zi, Zh, ZN, ZI, ZM, Zw]
    refine QG (by rw [Qr]; exact a1) (by lia) (QG (by rw [Qr]; exact a2) (by lia) ?_)
    rw [WG, WG]
    dsimp only [wpSs, wpS, wpE, wpL, slotW, ownS, Rho.putL, frz, bindF, setD, setAll, bindT, F1.W, F2.W, F1.quiet, seqV, numW, isNon, JN, JI, YF, YE, JF, YB, Zz, YA, Zg, ZO, YL, ZW, ZU, ZV, JD, Zv, Zc, Zb, ZH, ZG, YY, Zl, YH, ZQ, JO, YM, JC, ZS, ZT, ZJ, ZK, Zm, Zn, Zx, JE, Zy, Zu, ZL, Zf, YP, YQ, Zt, Zs, YR, YO, Za, Zr, Zq, JQ, YN, ZY, ZF, ZD, ZE, ZC, ZA, ZB, ZZ, excIs, Jj, YU, YV, YD, YC, YW, YX, Yk, Yl, Yb, Yc, Yg, Yh, Yx, Yy, Ym, Yn, Yt, Yu, Yi, Yj, Yo, YJ, YK, Jg, Jf, Ji, Jh, Yf, Yz, Yp, Yq, Yd, Ye, YZ, Ya, JL, JM, Yv, Yw, JA, JB, Jl, Jk, Ys, Yr, Nat.reduceSub, Nat.reduceAdd, YG, ZP, JR, Zj, Zo, ZX, Zp, YS, Ze, Zd, YT, Zk, JK, JP, JH, JG, Zi, Zh, ZN, ZI, ZM, Zw]
    rw [nmin]
    refine ⟨⟨Int.natCast_nonneg _, by rw [YI, Qr]; lia, Ju (by lia)⟩, ?_⟩
    rw [ZGl]
    refine ⟨⟨Int.natCast_nonneg _, by rw [YI, Qr, List.length_set]; lia, Ju (by lia)⟩, ?_⟩
    rw [ZGl]
    have el : (mstep mk t).length = mk.length := XG mk t
    exact ih (mk := mstep mk t) (fun t' h' => by rw [el]; exact ht t' (.tail _ h')) (by rw [el]; exact hl) h
noncomputable def marked1 (m : Nat) (mk : List Nat) (k : Nat) : List Nat := (List.range m).filter fun p => decide (mk.getD p 0 = k)
noncomputable def markP (mk : List Nat) (k : Nat) : V → Option PyData
  | .d (.int p) => cond (decide (mk.getD p.toNat 0 = k)) (some (.int p)) none
  | _ => none
theorem Gb (m : Nat) (mk : List Nat) (k : Nat) : List.filterMap (markP mk k) ((rangeL m).map fun i => V.d (.int i)) = ofInts (zs (marked1 m mk k)) := by
  unfold marked1 zs ofInts
  rw [Vj, List.map_map, List.filterMap_map, List.map_map]
  induction List.range m with
  | nil => rfl
  | cons p l ih =>
    rw [List.filterMap_cons, List.filter_cons]
    have e : (markP mk k ∘ (fun i => V.d (PyData.int i)) ∘ fun (i : Nat) => (i : Int)) p = cond (decide (mk.getD p 0 = k)) (some (.int p)) none := rfl
    rw [e]
    cases decide (mk.getD p 0 = k) with
    | true => exact congrArg (PyData.int p :: ·) ih
    | false => exact ih
theorem Xn {m : Nat} {ts : Ties} (g : GW m ts) (q : K (.own (lists ((comps m ts).map zs)))) : wpCall T05 (n + 1) false 17 [.d (.int m), .brw (.list (ofPairs ts))] K X := by
  have hz := g.le
  refine JY (fn := f__law_pieces) rfl rfl (by decide) ?_
  dsimp only [f__law_pieces, b__law_pieces, wpSs, wpS, wpE, wpL, slotW, ownS, Rho.putL, frz, bindF, setD, setAll, bindT, F1.W, F2.W, F1.quiet, seqV, numW, isNon, JN, JI, YF, YE, JF, YB, Zz, YA, Zg, ZO, YL, ZW, ZU, ZV, JD, Zv, Zc, Zb, ZH, ZG, YY, Zl, YH, ZQ, JO, YM, JC, ZS, ZT, ZJ, ZK, Zm, Zn, Zx, JE, Zy, Zu, ZL, Zf, YP, YQ, Zt, Zs, YR, YO, Za, Zr, Zq, JQ, YN, ZY, ZF, ZD, ZE, ZC, ZA, ZB, ZZ, excIs, Jj, YU, YV, YD, YC, YW, YX, Yk, Yl, Yb, Yc, Yg, Yh, Yx, Yy, Ym, Yn, Yt, Yu, Yi, Yj, Yo, YJ, YK, Jg, Jf, Ji, Jh, Yf, Yz, Yp, Yq, Yd, Ye, YZ, Ya, JL, JM, Yv, Yw, JA, JB, Jl, Jk, Ys, Yr, Nat.reduceSub, Nat.reduceAdd, YG, ZP, JR, Zj, Zo, ZX, Zp, YS, Ze, Zd, YT, Zk, JK, JP, JH, JG, Zi, Zh, ZN, ZI, ZM, Zw]
  have e0 : rangeL m = zs (List.range m) := rfl
  refine ⟨⟨Vc (by lia), Ju (by lia)⟩, by rw [YI, Jx]; exact JT (by lia), rngOk (by first | assumption | lia), rngLen (by first | assumption | lia), ?_⟩
  refine QB _ (fun i ρ => ∃ t b c d, ρ = mkR (some (.d (.int m))) (some (.brw (.list (ofPairs ts)))) (mrounds ts m i) t b c d none none none) ?_ ?_ _ ⟨none, none, none, none, rfl⟩
  · rintro ρ ⟨t, b, c, d, rfl⟩
    rw [Jb]
    dsimp only [b__law_pieces_5, wpSs, wpS, wpE, wpL, slotW, ownS, Rho.putL, frz, bindF, setD, setAll, bindT, F1.W, F2.W, F1.quiet, seqV, numW, isNon, JN, JI, YF, YE, JF, YB, Zz, YA, Zg, ZO, YL, ZW, ZU, ZV, JD, Zv, Zc, Zb, ZH, ZG, YY, Zl, YH, ZQ, JO, YM, JC, ZS, ZT, ZJ, ZK, Zm, Zn, Zx, JE, Zy, Zu, ZL, Zf, YP, YQ, Zt, Zs, YR, YO, Za, Zr, Zq, JQ, YN, ZY, ZF, ZD, ZE, ZC, ZA, ZB, ZZ, excIs, Jj, YU, YV, YD, YC, YW, YX, Yk, Yl, Yb, Yc, Yg, Yh, Yx, Yy, Ym, Yn, Yt, Yu, Yi, Yj, Yo, YJ, YK, Jg, Jf, Ji, Jh, Yf, Yz, Yp, Yq, Yd, Ye, YZ, Ya, JL, JM, Yv, Yw, JA, JB, Jl, Jk, Ys, Yr, Nat.reduceSub, Nat.reduceAdd, YG, ZP, JR, Zj, Zo, ZX, Zp, YS, Ze, Zd, YT, Zk, JK, JP, JH, JG, Zi, Zh, ZN, ZI, ZM, Zw]
    refine ⟨rngOk (by first | assumption | lia), rngLen (by first | assumption | lia), ?_⟩
    have ml := Jw ts m m
    refine QB _ (fun i ρ => ∃ f g, ρ = mkR (some (.d (.int m))) (some (.brw (.list (ofPairs ts)))) (mrounds ts m m) t b c d (some (.own (lists ((((List.range i).map (marked1 m (mrounds ts m m))).filter fun l => decide (l ≠ [])).map zs)))) f g) ?_ ?_ _ ⟨none, none, rfl⟩
    · rintro ρ ⟨f, g', rfl⟩
      rw [Jb]
      have e : ((List.range m).map (marked1 m (mrounds ts m m))).filter (fun l => decide (l ≠ [])) = comps m ts := US g.web
      rw [e]
      exact q
    · rintro i hi ρ k ⟨f, g', rfl⟩ cont _
      have hi' : i < m := by rw [Jb] at hi; exact hi
      rw [QO]
      dsimp only [b__law_pieces_3, wpSs, wpS, wpE, wpL, slotW, ownS, Rho.putL, frz, bindF, setD, setAll, bindT, F1.W, F2.W, F1.quiet, seqV, numW, isNon, JN, JI, YF, YE, JF, YB, Zz, YA, Zg, ZO, YL, ZW, ZU, ZV, JD, Zv, Zc, Zb, ZH, ZG, YY, Zl, YH, ZQ, JO, YM, JC, ZS, ZT, ZJ, ZK, Zm, Zn, Zx, JE, Zy, Zu, ZL, Zf, YP, YQ, Zt, Zs, YR, YO, Za, Zr, Zq, JQ, YN, ZY, ZF, ZD, ZE, ZC, ZA, ZB, ZZ, excIs, Jj, YU, YV, YD, YC, YW, YX, Yk, Yl, Yb, Yc, Yg, Yh, Yx, Yy, Ym, Yn, Yt, Yu, Yi, Yj, Yo, YJ, YK, Jg, Jf, Ji, Jh, Yf, Yz, Yp, Yq, Yd, Ye, YZ, Ya, JL, JM, Yv, Yw, JA, JB, Jl, Jk, Ys, Yr, Nat.reduceSub, Nat.reduceAdd, YG, ZP, JR, Zj, Zo, ZX, Zp, YS, Ze, Zd, YT, Zk, JK, JP, JH, JG, Zi, Zh, ZN, ZI, ZM, Zw]
      refine ⟨rngOk (by first | assumption | lia), rngLen (by first | assumption | lia), ?_⟩
      refine JZ (markP (mrounds ts m m) i) _ _ (fun x hx kk hk => ?_) ?_ ?_
      · obtain ⟨p, hp, rfl⟩ := List.mem_map.mp hx
        obtain ⟨p, hp', rfl⟩ := List.mem_map.mp hp
        have hp := List.mem_range.mp hp'
        refine QG (cs := zs (mrounds ts m m)) (p := p) (by rw [Qr, ml]; exact hp) (by lia) ?_
        rw [WG]
        replace hk : kk (cond (decide ((mrounds ts m m).getD p 0 = i)) (some (.int p)) none) := hk
        have ed : decide ((((mrounds ts m m).getD p 0 : Nat) : Int) = i) = decide ((mrounds ts m m).getD p 0 = i) := decide_eq_decide.mpr Int.natCast_inj
        show cond (decide ((((mrounds ts m m).getD p 0 : Nat) : Int) = i)) (kk (some (.int p))) (kk none)
        rw [ed]
        revert hk
        cases decide ((mrounds ts m m).getD p 0 = i) <;> exact id
      · rw [List.nil_append]; exact Nat.lt_of_le_of_lt (List.length_filterMap_le ..) (by rw [Jb]; exact JT (by lia))
      · rw [List.nil_append, Gb]
        dsimp only [wpSs, wpS, wpE, wpL, slotW, ownS, Rho.putL, frz, bindF, setD, setAll, bindT, F1.W, F2.W, F1.quiet, seqV, numW, isNon, JN, JI, YF, YE, JF, YB, Zz, YA, Zg, ZO, YL, ZW, ZU, ZV, JD, Zv, Zc, Zb, ZH, ZG, YY, Zl, YH, ZQ, JO, YM, JC, ZS, ZT, ZJ, ZK, Zm, Zn, Zx, JE, Zy, Zu, ZL, Zf, YP, YQ, Zt, Zs, YR, YO, Za, Zr, Zq, JQ, YN, ZY, ZF, ZD, ZE, ZC, ZA, ZB, ZZ, excIs, Jj, YU, YV, YD, YC, YW, YX, Yk, Yl, Yb, Yc, Yg, Yh, Yx, Yy, Ym, Yn, Yt, Yu, Yi, Yj, Yo, YJ, YK, Jg, Jf, Ji, Jh, Yf, Yz, Yp, Yq, Yd, Ye, YZ, Ya, JL, JM, Yv, Yw, JA, JB, Jl, Jk, Ys, Yr, Nat.reduceSub, Nat.reduceAdd, YG, ZP, JR, Zj, Zo, ZX, Zp, YS, Ze, Zd, YT, Zk, JK, JP, JH, JG, Zi, Zh, ZN, ZI, ZM, Zw]
        refine Xu rfl (Sh.ints 0 _) (by decide) ?_
        rw [List.range_succ, List.map_append, List.filter_append] at cont
        have e1 : (ofInts (zs (marked1 m (mrounds ts m m) i))).isEmpty = decide (marked1 m (mrounds ts m m) i = []) := by cases marked1 m (mrounds ts m m) i <;> rfl
        have ll : ∀ (p : List Nat → Bool), (List.filter p (List.map (marked1 m (mrounds ts m m)) (List.range i))).length < 1000 := fun p => Nat.lt_of_le_of_lt (List.length_filter_le ..) (by rw [List.length_map, List.length_range]; lia)
        by_cases z : marked1 m (mrounds ts m m) i = []
        · rw [e1, decide_eq_true z]
          rw [show List.filter (fun l => decide (l ≠ [])) (List.map (marked1 m (mrounds ts m m)) [i]) = [] from List.filter_eq_nil_iff.mpr fun l hl => by rw [List.mem_singleton.mp hl, z]; decide, List.append_nil] at cont
          exact cont _ ⟨_, _, rfl⟩
        · rw [e1, decide_eq_false z]
          rw [show List.filter (fun l => decide (l ≠ [])) (List.map (marked1 m (mrounds ts m m)) [i]) = [marked1 m (mrounds ts m m) i] from List.filter_eq_self.mpr fun l hl => by rw [List.mem_singleton.mp hl]; exact decide_eq_true z, List.map_append] at cont
          refine (show _ ∧ _ from ⟨JT (by rw [List.length_map, List.length_map]; exact ll _), ?_⟩)
          rw [VI]
          exact cont _ ⟨_, _, rfl⟩
  · rintro i hi ρ k ⟨t, b, c, d, rfl⟩ cont _
    rw [QO]
    dsimp only [b__law_pieces_2, wpSs, wpS, wpE, wpL, slotW, ownS, Rho.putL, frz, bindF, setD, setAll, bindT, F1.W, F2.W, F1.quiet, seqV, numW, isNon, JN, JI, YF, YE, JF, YB, Zz, YA, Zg, ZO, YL, ZW, ZU, ZV, JD, Zv, Zc, Zb, ZH, ZG, YY, Zl, YH, ZQ, JO, YM, JC, ZS, ZT, ZJ, ZK, Zm, Zn, Zx, JE, Zy, Zu, ZL, Zf, YP, YQ, Zt, Zs, YR, YO, Za, Zr, Zq, JQ, YN, ZY, ZF, ZD, ZE, ZC, ZA, ZB, ZZ, excIs, Jj, YU, YV, YD, YC, YW, YX, Yk, Yl, Yb, Yc, Yg, Yh, Yx, Yy, Ym, Yn, Yt, Yu, Yi, Yj, Yo, YJ, YK, Jg, Jf, Ji, Jh, Yf, Yz, Yp, Yq, Yd, Ye, YZ, Ya, JL, JM, Yv, Yw, JA, JB, Jl, Jk, Ys, Yr, Nat.reduceSub, Nat.reduceAdd, YG, ZP, JR, Zj, Zo, ZX, Zp, YS, Ze, Zd, YT, Zk, JK, JP, JH, JG, Zi, Zh, ZN, ZI, ZM, Zw]
    rw [QH]
    have ml := Jw ts m i
    refine ⟨by rw [List.length_map, JS]; exact JT (Nat.lt_of_le_of_lt g.len (by decide)), ZAd (fun t ht => by rw [ml]; have := g.web.2 t ht; lia) (by rw [ml]; lia) fun b c d => cont _ ⟨_, b, c, d, rfl⟩⟩
end
end TC

namespace TC

noncomputable def Plus (ts us : Ties) (u v : Nat) : Prop := ∀ a b, Adj us a b ↔ Adj ts a b ∨ (a = u ∧ b = v) ∨ (a = v ∧ b = u)
noncomputable def ncomp (n : Nat) (ts : Ties) : Nat := (reps n ts).length
theorem Plus.symm {ts us : Ties} {u v : Nat} (h : Plus ts us u v) : Plus ts us v u := fun a b => by rw [h a b]; exact or_congr_right or_comm
theorem Plus.cn {ts us : Ties} {u v : Nat} (h : Plus ts us u v) {a b : Nat} (x : Cn us a b) : Cn ts a b ∨ (Cn ts a u ∧ Cn ts v b) ∨ (Cn ts a v ∧ Cn ts u b) := by
  induction x with
  | refl => exact .inl .refl
  | step x y ih =>
    rcases (h _ _).mp y with y | ⟨rfl, rfl⟩ | ⟨rfl, rfl⟩
    · rcases ih with ih | ⟨i, j⟩ | ⟨i, j⟩
      · exact .inl (ih.step y)
      · exact .inr (.inl ⟨i, j.step y⟩)
      · exact .inr (.inr ⟨i, j.step y⟩)
    · rcases ih with ih | ⟨i, j⟩ | ⟨i, j⟩
      · exact .inr (.inl ⟨ih, .refl⟩)
      · exact .inr (.inl ⟨i, .refl⟩)
      · exact .inl i
    · rcases ih with ih | ⟨i, j⟩ | ⟨i, j⟩
      · exact .inr (.inr ⟨ih, .refl⟩)
      · exact .inl i
      · exact .inr (.inr ⟨i, .refl⟩)
theorem Plus.up {ts us : Ties} {u v : Nat} (h : Plus ts us u v) {a b : Nat} (x : Cn ts a b) : Cn us a b := by
  induction x with
  | refl => exact .refl
  | step _ y ih => exact ih.step ((h _ _).mpr (.inl y))
theorem Plus.uv {ts us : Ties} {u v : Nat} (h : Plus ts us u v) : Cn us u v := .one ((h _ _).mpr (.inr (.inl ⟨rfl, rfl⟩)))
theorem Xs {n : Nat} {ts us : Ties} (h : ∀ a b, Cn us a b ↔ Cn ts a b) : ncomp n us = ncomp n ts := by
  unfold ncomp reps
  exact congrArg List.length (List.filter_congr fun p _ => Vy ⟨fun r q c => r q ((h q p).mpr c), fun r q c => r q ((h q p).mp c)⟩)
theorem Plus.same {n : Nat} {ts us : Ties} {u v : Nat} (h : Plus ts us u v) (c : Cn ts u v) : ncomp n us = ncomp n ts :=
  Xs fun a b => ⟨fun x => (h.cn x).elim id fun y => y.elim (fun y => y.1.trans (c.trans y.2)) fun y => y.1.trans (c.symm.trans y.2), h.up⟩
theorem Xa {l : List Nat} (nd : l.Nodup) {m : Nat} (h : m ∈ l) : (l.filter fun x => decide (x ≠ m)).length + 1 = l.length := by
  induction l with
  | nil => cases h
  | cons a l ih =>
    have nd' := List.nodup_cons.mp nd
    rw [List.filter_cons, List.length_cons]
    cases h with
    | head =>
      rw [if_neg (by simp)]
      rw [List.filter_eq_self.mpr fun x hx => decide_eq_true (show x ≠ m from fun e => nd'.1 (e ▸ hx))]
    | tail _ h =>
      rw [if_pos (decide_eq_true (show a ≠ m from fun e => nd'.1 (e ▸ h))), List.length_cons, ih nd'.2 h]
theorem Plus.less {n : Nat} {ts us : Ties} {u v : Nat} (h : Plus ts us u v) (c : ¬ Cn ts u v) (hu : u < n) (hv : v < n) : ncomp n us + 1 = ncomp n ts := by
  obtain ⟨ru, r1, c1⟩ := XR ts u
  obtain ⟨rv, r2, c2⟩ := XR ts v
  have key : ∀ {u v ru rv : Nat}, Plus ts us u v → ¬ Cn ts u v → v < n → Rep ts ru → Cn ts ru u → Rep ts rv → Cn ts rv v → ru ≤ rv → ncomp n us + 1 = ncomp n ts := by
    clear c1 c2 r1 r2 h c hu hv rv ru u v
    intro u v ru rv h c hv r1 c1 r2 c2 le
    have ne : ru ≠ rv := fun e => c (c1.symm.trans (e ▸ c2))
    have m : rv ∈ reps n ts := Jr.mpr ⟨Nat.lt_of_le_of_lt (r2 v c2.symm) hv, r2⟩
    have nd : (reps n ts).Nodup := (List.pairwise_lt_range.filter _).imp fun h => Nat.ne_of_lt h
    unfold ncomp
    rw [← Xa nd m]
    congr 2
    unfold reps
    rw [List.filter_filter]
    refine List.filter_congr fun p _ => Bool.eq_iff_iff.mpr ?_
    rw [Bool.and_eq_true, Qb, Qb, decide_eq_true_iff]
    constructor
    · intro r
      refine ⟨fun e => ?_, fun q x => r q (h.up x)⟩
      subst e
      have := r ru ((h.up c1).trans (h.uv.trans (h.up c2.symm)))
      lia
    · rintro ⟨np, r⟩ q x
      rcases h.cn x with x | ⟨x, y⟩ | ⟨x, y⟩
      · exact r q x
      · exact absurd (r.uniq r2 (y.symm.trans c2.symm)) np
      · have e := r.uniq r1 (y.symm.trans c1.symm)
        have := r2 q (x.trans c2.symm)
        lia
  rcases Nat.le_total ru rv with le | le
  · exact key h c hv r1 c1 r2 c2 le
  · exact key h.symm (fun x => c x.symm) hu r2 c2 r1 c1 le

noncomputable def wo (ts : Ties) (e : Nat × Nat) : Ties := ts.filter fun t => decide (t ≠ e)
theorem QY {ts : Ties} {e t : Nat × Nat} : t ∈ wo ts e ↔ t ∈ ts ∧ t ≠ e := by unfold wo; rw [List.mem_filter, decide_eq_true_iff]
theorem QS (ts : Ties) (e : Nat × Nat) : Plus ts (e :: ts) e.1 e.2 := fun a b => by
  unfold Adj
  rw [List.mem_cons, List.mem_cons]
  constructor
  · rintro ((h | h) | (h | h))
    · subst h; exact .inr (.inl ⟨rfl, rfl⟩)
    · exact .inl (.inl h)
    · subst h; exact .inr (.inr ⟨rfl, rfl⟩)
    · exact .inl (.inr h)
  · rintro ((h | h) | ⟨rfl, rfl⟩ | ⟨rfl, rfl⟩)
    · exact .inl (.inr h)
    · exact .inr (.inr h)
    · exact .inl (.inl rfl)
    · exact .inr (.inl rfl)
theorem Xv {ts : Ties} {e : Nat × Nat} (h : e ∈ ts) : Plus (wo ts e) ts e.1 e.2 := fun a b => by
  rw [← QS (wo ts e) e a b]
  unfold Adj
  have : ∀ t, t ∈ ts ↔ t ∈ e :: wo ts e := fun t => by
    rw [List.mem_cons, QY]
    constructor
    · intro q
      by_cases g : t = e
      · exact .inl g
      · exact .inr ⟨q, g⟩
    · rintro (rfl | q)
      · exact h
      · exact q.1
  rw [this, this]
theorem UN (n : Nat) : ncomp n [] = n := by
  have h : ∀ p, Rep [] p := fun p q c => by
    cases c with
    | refl => exact Nat.le_refl _
    | step _ y => rcases y with y | y <;> cases y
  unfold ncomp reps
  rw [List.filter_eq_self.mpr fun p _ => Xd (h p), List.length_range]
theorem forest {n : Nat} : ∀ {us : Ties}, us.Nodup → (∀ t ∈ us, t.1 < t.2 ∧ t.2 < n) → (∀ e ∈ us, ¬ Cn (wo us e) e.1 e.2) → ncomp n us + us.length = n
  | [], _, _, _ => UN n
  | e :: us, nd, w, br => by
    have nd' := List.nodup_cons.mp nd
    have sub : ∀ t ∈ us, t ∈ wo (e :: us) e := fun t ht => QY.mpr ⟨.tail _ ht, fun q => nd'.1 (q ▸ ht)⟩
    have h1 : ¬ Cn us e.1 e.2 := fun c => br e (.head _) (c.mono sub)
    have we := w e (.head _)
    have h2 := (QS us e).less (n := n) h1 (by lia) (by lia)
    have h3 := forest (n := n) nd'.2 (fun t ht => w t (.tail _ ht)) fun t ht c => br t (.tail _ ht) (c.mono fun x hx => by
      have := QY.mp hx; exact QY.mpr ⟨.tail _ this.1, this.2⟩)
    rw [List.length_cons]; lia
theorem Hn {n : Nat} {ts : Ties} (w : Web n ts) (l : n ≤ ts.length + 1) (c : 1 < ncomp n ts) : ∃ e ∈ ts, ncomp n (wo ts e) = ncomp n ts := by
  refine Classical.byContradiction fun no => ?_
  have := forest w.1 w.2 fun e he x => no ⟨e, he, ((Xv he).same x).symm⟩
  lia
theorem ZFc {n : Nat} {ts : Ties} (w : Web n ts) {e : Nat × Nat} (he : e ∈ ts) (h : ncomp n (wo ts e) = ncomp n ts) : Cn (wo ts e) e.1 e.2 := Classical.byContradiction fun c => by
  have we := w.2 e he
  have := (Xv he).less (n := n) c (by lia) (by lia)
  lia
theorem joins {n : Nat} {ts us : Ties} (w : Web n ts) {e f : Nat × Nat} (he : e ∈ ts) (hf : f ∈ ts) (sp : ncomp n (wo ts e) = ncomp n ts) (far : ¬ Cn ts e.1 f.1)
    (hu : ∀ a b, Adj us a b ↔ Adj (wo (wo ts e) f) a b ∨ ((a = e.1 ∧ b = f.1) ∨ (a = f.1 ∧ b = e.1)) ∨ ((a = e.2 ∧ b = f.2) ∨ (a = f.2 ∧ b = e.2))) : ncomp n us + 1 = ncomp n ts := by
  have we := w.2 e he
  have wf := w.2 f hf
  have ne : f ≠ e := fun q => far (q ▸ .refl)
  have hf' : f ∈ wo ts e := QY.mpr ⟨hf, ne⟩
  have c0 := ZFc w he sp
  have cf : Cn ts f.1 f.2 := .one (.inl hf)
  have ce : Cn ts e.1 e.2 := .one (.inl he)
  have up : ∀ {a b}, Cn (wo (wo ts e) f) a b → Cn ts a b := fun x => x.mono fun t ht => (QY.mp (QY.mp ht).1).1
  have c1 : Cn (wo (wo ts e) f) e.1 e.2 := by
    rcases (Xv hf').cn c0 with x | ⟨x, _⟩ | ⟨x, _⟩
    · exact x
    · exact absurd (up x) far
    · exact absurd ((up x).trans cf.symm) far
  let vs : Ties := (e.1, f.1) :: wo (wo ts e) f
  have p1 : Plus (wo (wo ts e) f) vs e.1 f.1 := QS _ (e.1, f.1)
  have p2 : Plus vs us e.2 f.2 := fun a b => by
    rw [hu a b, p1 a b]; exact or_assoc.symm
  have n1 := p1.less (n := n) (fun x => far (up x)) (by lia) (by lia)
  by_cases g : Cn (wo (wo ts e) f) f.1 f.2
  · have n0 := (Xv hf').same (n := n) g
    have n2 := p2.same (n := n) ((p1.up c1.symm).trans (p1.uv.trans (p1.up g)))
    lia
  · have n0 := (Xv hf').less (n := n) g (by lia) (by lia)
    have n2 := p2.less (n := n) (fun x => by
      rcases p1.cn x with x | ⟨x, y⟩ | ⟨x, y⟩
      · exact far (ce.trans ((up x).trans cf.symm))
      · exact g y
      · exact far (ce.trans (up x))) (by lia) (by lia)
    lia
end TC

namespace TC

noncomputable def tie (a b : Nat) : Nat × Nat := (min a b, max a b)
theorem ZGi {a b : Nat} (h : a < b) : tie a b = (a, b) := by unfold tie; rw [Nat.min_eq_left (Nat.le_of_lt h), Nat.max_eq_right (Nat.le_of_lt h)]
theorem Vn {ts : Ties} {a b : Nat} (h : tie a b ∈ ts) : Adj ts a b := by
  unfold tie at h
  rcases Nat.le_total a b with l | l
  · rw [Nat.min_eq_left l, Nat.max_eq_right l] at h; exact .inl h
  · rw [Nat.min_eq_right l, Nat.max_eq_left l] at h; exact .inr h
structure Row where
  a : Nat
  b : Nat
  c : Nat
  d : Nat
noncomputable def Row.out (r : Row) (t : Nat × Nat) : Bool := decide (t ≠ tie r.a r.b ∧ t ≠ tie r.c r.d)
noncomputable def exch (ts : Ties) (r : Row) : Ties := ts.filter r.out ++ [tie r.a r.c, tie r.b r.d]
theorem Qk {ts : Ties} {r : Row} {t : Nat × Nat} : t ∈ exch ts r ↔ (t ∈ ts ∧ t ≠ tie r.a r.b ∧ t ≠ tie r.c r.d) ∨ t = tie r.a r.c ∨ t = tie r.b r.d := by
  unfold exch
  rw [List.mem_append, List.mem_filter, List.mem_cons, List.mem_singleton]
  unfold Row.out
  rw [decide_eq_true_iff]
structure Fit (m : Nat) (ts : Ties) (r : Row) : Prop where
  lt : r.a < m ∧ r.b < m ∧ r.c < m ∧ r.d < m
  nd : [r.a, r.b, r.c, r.d].Nodup
  in1 : tie r.a r.b ∈ ts
  in2 : tie r.c r.d ∈ ts
  out1 : tie r.a r.c ∉ ts
  out2 : tie r.b r.d ∉ ts
section
variable {m : Nat} {ts us : Ties} {r : Row}
theorem Vt (h : ∀ t, t ∈ us ↔ t ∈ ts) {a b : Nat} : Adj us a b ↔ Adj ts a b := or_congr (h _) (h _)
theorem ZDb (h : ∀ t, t ∈ us ↔ t ∈ ts) {a b : Nat} : Cn us a b ↔ Cn ts a b := ⟨fun x => x.mono fun t q => (h t).mp q, fun x => x.mono fun t q => (h t).mpr q⟩
theorem Xt (h : ∀ t, t ∈ us ↔ t ∈ ts) : ncomp m us = ncomp m ts := Xs fun _ _ => ZDb h
theorem Fit.mem (h : ∀ t, t ∈ us ↔ t ∈ ts) (f : Fit m ts r) : Fit m us r := ⟨f.lt, f.nd, (h _).mpr f.in1, (h _).mpr f.in2, fun q => f.out1 ((h _).mp q), fun q => f.out2 ((h _).mp q)⟩
theorem Fit.ne (f : Fit m ts r) : r.a ≠ r.b ∧ r.a ≠ r.c ∧ r.a ≠ r.d ∧ r.b ≠ r.c ∧ r.b ≠ r.d ∧ r.c ≠ r.d := by
  have := f.nd
  simp only [List.nodup_cons, List.mem_cons, List.not_mem_nil, or_false, not_or, not_false_eq_true, List.nodup_nil, and_true] at this
  exact ⟨this.1.1, this.1.2.1, this.1.2.2, this.2.1.1, this.2.1.2, this.2.2⟩
theorem Uz {a b : Nat} (ne : a ≠ b) (ha : a < m) (hb : b < m) : (tie a b).1 < (tie a b).2 ∧ (tie a b).2 < m := by
  unfold tie
  rcases Nat.lt_or_gt_of_ne ne with l | l
  · rw [Nat.min_eq_left (Nat.le_of_lt l), Nat.max_eq_right (Nat.le_of_lt l)]; exact ⟨l, hb⟩
  · rw [Nat.min_eq_right (Nat.le_of_lt l), Nat.max_eq_left (Nat.le_of_lt l)]; exact ⟨l, ha⟩
theorem Vo {a b c d : Nat} (h : tie a b = tie c d) : (a = c ∧ b = d) ∨ (a = d ∧ b = c) := by
  unfold tie at h
  injection h with h1 h2
  rcases Nat.le_total a b with l | l <;> rcases Nat.le_total c d with k | k
  · rw [Nat.min_eq_left l, Nat.min_eq_left k] at h1; rw [Nat.max_eq_right l, Nat.max_eq_right k] at h2; exact .inl ⟨h1, h2⟩
  · rw [Nat.min_eq_left l, Nat.min_eq_right k] at h1; rw [Nat.max_eq_right l, Nat.max_eq_left k] at h2; exact .inr ⟨h1, h2⟩
  · rw [Nat.min_eq_right l, Nat.min_eq_left k] at h1; rw [Nat.max_eq_left l, Nat.max_eq_right k] at h2; exact .inr ⟨h2, h1⟩
  · rw [Nat.min_eq_right l, Nat.min_eq_right k] at h1; rw [Nat.max_eq_left l, Nat.max_eq_left k] at h2; exact .inl ⟨h2, h1⟩
theorem Fit.web (w : Web m ts) (f : Fit m ts r) : Web m (exch ts r) := by
  obtain ⟨n1, n2, n3, n4, n5, n6⟩ := f.ne
  obtain ⟨l1, l2, l3, l4⟩ := f.lt
  refine ⟨List.nodup_append.mpr ⟨w.1.filter _, List.nodup_cons.mpr ⟨fun q => ?_, List.pairwise_singleton _ _⟩, fun x hx y hy e => ?_⟩, fun t ht => ?_⟩
  · rcases Vo (List.mem_singleton.mp q) with ⟨q, _⟩ | ⟨q, _⟩
    · exact n1 q
    · exact n3 q
  · have hx := (List.mem_filter.mp hx).1
    rcases List.mem_cons.mp hy with q | q
    · exact f.out1 (q ▸ e ▸ hx)
    · exact f.out2 (List.mem_singleton.mp q ▸ e ▸ hx)
  · rcases Qk.mp ht with q | q | q
    · exact w.2 t q.1
    · rw [q]; exact Uz n2 l1 l3
    · rw [q]; exact Uz n5 l2 l4
theorem filter2 {l : Ties} (nd : l.Nodup) {x y : Nat × Nat} (hx : x ∈ l) (hy : y ∈ l) (ne : x ≠ y) : (l.filter fun t => decide (t ≠ x ∧ t ≠ y)).length + 2 = l.length := by
  induction l with
  | nil => exact nomatch hx
  | cons t l ih =>
    obtain ⟨n1, n2⟩ := List.nodup_cons.mp nd
    have one : ∀ {z : Nat × Nat}, z ∈ l → (∀ t ∈ l, (decide (t ≠ x ∧ t ≠ y)) = decide (t ≠ z)) → (l.filter fun t => decide (t ≠ x ∧ t ≠ y)).length + 1 = l.length := fun {z} hz h => by
      rw [List.filter_congr h]
      clear ih hx hy h nd n1
      induction l with
      | nil => exact nomatch hz
      | cons u l ih =>
        obtain ⟨m1, m2⟩ := List.nodup_cons.mp n2
        rcases List.mem_cons.mp hz with e0 | hz
        · subst e0
          rw [List.filter_cons, if_neg (by simp), List.length_cons, List.filter_eq_self.mpr fun t ht => decide_eq_true (show t ≠ z from fun e => m1 (e ▸ ht))]
        · rw [List.filter_cons, if_pos (decide_eq_true (show u ≠ z from fun e => m1 (e ▸ hz))), List.length_cons, List.length_cons, ih m2 hz]
    rw [List.filter_cons, List.length_cons]
    by_cases c1 : t = x
    · subst c1
      rw [if_neg (by simp), ← one ((List.mem_cons.mp hy).resolve_left fun e => ne e.symm) fun u hu => by
        have : u ≠ t := fun e => n1 (e ▸ hu)
        simp [this]]
    · by_cases c2 : t = y
      · subst c2
        rw [if_neg (by simp), ← one ((List.mem_cons.mp hx).resolve_left fun e => c1 e.symm) fun u hu => by
          have : u ≠ t := fun e => n1 (e ▸ hu)
          simp [this]]
      · rw [if_pos (decide_eq_true ⟨c1, c2⟩), List.length_cons, ← ih n2 ((List.mem_cons.mp hx).resolve_left fun e => c1 e.symm) ((List.mem_cons.mp hy).resolve_left fun e => c2 e.symm)]
theorem Fit.len (w : Web m ts) (f : Fit m ts r) : (exch ts r).length = ts.length := by
  obtain ⟨n1, n2, n3, n4, n5, n6⟩ := f.ne
  unfold exch
  rw [List.length_append]
  exact filter2 w.1 f.in1 f.in2 fun q => (Vo q).elim (fun q => n2 q.1) fun q => n3 q.1
noncomputable def Full (m : Nat) (ts : Ties) : Prop := ∀ x, x < m → ∃ y, Adj ts x y
theorem VO {a b : Nat} (h : tie a b ∈ ts) : Adj ts a b ∧ Adj ts b a := ⟨Vn h, (Vn h).symm⟩
theorem Fit.full (f : Fit m ts r) (h : Full m ts) : Full m (exch ts r) := fun x hx => by
  have t1 : tie r.a r.c ∈ exch ts r := Qk.mpr (.inr (.inl rfl))
  have t2 : tie r.b r.d ∈ exch ts r := Qk.mpr (.inr (.inr rfl))
  by_cases c1 : x = r.a
  · exact ⟨r.c, c1 ▸ (VO t1).1⟩
  by_cases c2 : x = r.b
  · exact ⟨r.d, c2 ▸ (VO t2).1⟩
  by_cases c3 : x = r.c
  · exact ⟨r.a, c3 ▸ (VO t1).2⟩
  by_cases c4 : x = r.d
  · exact ⟨r.b, c4 ▸ (VO t2).2⟩
  obtain ⟨y, hy⟩ := h x hx
  have keep : ∀ t : Nat × Nat, t ∈ ts → (t.1 = x ∨ t.2 = x) → t ∈ exch ts r := fun t ht hx => Qk.mpr (.inl ⟨ht, fun e => by
    rw [e] at hx; unfold tie at hx; dsimp only at hx; lia, fun e => by
    rw [e] at hx; unfold tie at hx; dsimp only at hx; lia⟩)
  exact ⟨y, hy.imp (fun q => keep _ q (.inl rfl)) fun q => keep _ q (.inr rfl)⟩
theorem Hv (w : Web m ts) {e f : Nat × Nat} (he : e ∈ ts) (hf : f ∈ ts) (sp : ncomp m (wo ts e) = ncomp m ts) (far : ¬ Cn ts e.1 f.1) : Fit m ts ⟨e.1, e.2, f.1, f.2⟩ ∧ ncomp m (exch ts ⟨e.1, e.2, f.1, f.2⟩) + 1 = ncomp m ts := by
  have we := w.2 e he
  have wf := w.2 f hf
  have ce : Cn ts e.1 e.2 := .one (.inl he)
  have cf : Cn ts f.1 f.2 := .one (.inl hf)
  have te : tie e.1 e.2 = e := ZGi we.1
  have tf : tie f.1 f.2 = f := ZGi wf.1
  have no : ∀ {x y}, Cn ts e.1 x → Cn ts f.1 y → x ≠ y := fun a b q => far (a.trans (q ▸ b.symm))
  refine ⟨⟨⟨Nat.lt_trans we.1 we.2, we.2, Nat.lt_trans wf.1 wf.2, wf.2⟩, ?_, te.symm ▸ he, tf.symm ▸ hf, fun q => far (.one (Vn q)), fun q => far (ce.trans ((Cn.one (Vn q)).trans cf.symm))⟩, ?_⟩
  · simp only [List.nodup_cons, List.mem_cons, List.not_mem_nil, or_false, not_or, not_false_eq_true, List.nodup_nil, and_true]
    exact ⟨⟨Nat.ne_of_lt we.1, no .refl .refl, no .refl cf⟩, ⟨no ce .refl, no ce cf⟩, Nat.ne_of_lt wf.1⟩
  · refine joins w he hf sp far fun a b => ?_
    have key : ∀ {a b x y : Nat}, (a, b) = tie x y ∨ (b, a) = tie x y ↔ (a = x ∧ b = y) ∨ (a = y ∧ b = x) := by
      intro a b x y
      rcases Nat.le_total x y with l | l
      · rw [show tie x y = (x, y) by unfold tie; rw [Nat.min_eq_left l, Nat.max_eq_right l], Prod.mk.injEq, Prod.mk.injEq, and_comm (a := b = x)]
      · rw [show tie x y = (y, x) by unfold tie; rw [Nat.min_eq_right l, Nat.max_eq_left l], Prod.mk.injEq, Prod.mk.injEq, or_comm, and_comm (a := b = y)]
    unfold Adj
    rw [Qk, Qk, QY, QY, QY, QY]
    dsimp only
    rw [te, tf, ← key, ← key]
    constructor
    · rintro ((h | h | h) | (h | h | h))
      · exact .inl (.inl ⟨⟨h.1, h.2.1⟩, h.2.2⟩)
      · exact .inr (.inl (.inl h))
      · exact .inr (.inr (.inl h))
      · exact .inl (.inr ⟨⟨h.1, h.2.1⟩, h.2.2⟩)
      · exact .inr (.inl (.inr h))
      · exact .inr (.inr (.inr h))
    · rintro ((h | h) | (h | h) | (h | h))
      · exact .inl (.inl ⟨h.1.1, h.1.2, h.2⟩)
      · exact .inr (.inl ⟨h.1.1, h.1.2, h.2⟩)
      · exact .inl (.inr (.inl h))
      · exact .inr (.inr (.inl h))
      · exact .inl (.inr (.inr h))
      · exact .inr (.inr (.inr h))
theorem ZHe (w : Web m ts) (fl : Full m ts) (c : 1 < ncomp m ts) (x : Nat) : ∃ f ∈ ts, ¬ Cn ts x f.1 := by
  refine Classical.byContradiction fun no => ?_
  have all : ∀ f ∈ ts, Cn ts x f.1 := fun f hf => Classical.byContradiction fun q => no ⟨f, hf, q⟩
  have cn : ∀ y, y < m → Cn ts x y := fun y hy => by
    obtain ⟨z, hz⟩ := fl y hy
    rcases hz with q | q
    · exact all _ q
    · exact (all _ q).trans (.one (.inl q))
  have le : (reps m ts).length ≤ 1 := by
    match h : reps m ts with
    | [] => exact Nat.zero_le _
    | [_] => exact Nat.le_refl _
    | a :: b :: l =>
      have ha := Jr.mp (h ▸ List.mem_cons_self : a ∈ reps m ts)
      have hb := Jr.mp (h ▸ List.mem_cons_of_mem _ List.mem_cons_self : b ∈ reps m ts)
      have nd : (reps m ts).Nodup := by unfold reps; exact List.nodup_range.filter _
      rw [h] at nd
      exact absurd (ha.2.uniq hb.2 ((cn a ha.1).symm.trans (cn b hb.1))) fun q => (List.nodup_cons.mp nd).1 (q ▸ List.mem_cons_self)
  unfold ncomp at c
  lia
end
end TC

namespace TC

theorem QR (a b : Ties) (x : Nat) : cnt (a ++ b) x = cnt a x + cnt b x := List.countP_append ..
theorem Xc {a b : Ties} (h : a.Perm b) (x : Nat) : cnt a x = cnt b x := h.countP_eq _
theorem Xl (a b x : Nat) : cnt [tie a b] x = if a = x ∨ b = x then 1 else 0 := by
  unfold cnt tie
  rw [List.countP_cons, List.countP_nil, Nat.zero_add]
  congr 1
  rw [Bool.or_eq_true, decide_eq_true_iff, decide_eq_true_iff]
  refine propext ?_
  rcases Nat.le_total a b with l | l
  · rw [Nat.min_eq_left l, Nat.max_eq_right l]
  · rw [Nat.min_eq_right l, Nat.max_eq_left l]; exact or_comm
theorem WM (s t : Nat × Nat) (x : Nat) : cnt [s, t] x = cnt [s] x + cnt [t] x := QR [s] [t] x
theorem Fit.cnt {m : Nat} {ts : Ties} {r : Row} (w : Web m ts) (f : Fit m ts r) (x : Nat) : cnt (exch ts r) x = TC.cnt ts x := by
  obtain ⟨n1, n2, n3, n4, n5, n6⟩ := f.ne
  have ne : tie r.a r.b ≠ tie r.c r.d := fun q => (Vo q).elim (fun q => n2 q.1) fun q => n3 q.1
  have p : ts.Perm (ts.filter r.out ++ [tie r.a r.b, tie r.c r.d]) := by
    refine (List.perm_ext_iff_of_nodup w.1 (List.nodup_append.mpr ⟨w.1.filter _, List.nodup_cons.mpr ⟨fun q => ne (List.mem_singleton.mp q), List.pairwise_singleton _ _⟩, fun a ha b hb e => ?_⟩)).mpr fun t => ?_
    · have h := (List.mem_filter.mp ha).2
      unfold Row.out at h
      have h := of_decide_eq_true h
      rcases List.mem_cons.mp hb with q | q
      · exact h.1 (e.trans q)
      · exact h.2 (e.trans (List.mem_singleton.mp q))
    · rw [List.mem_append, List.mem_filter, List.mem_cons, List.mem_singleton]
      unfold Row.out
      rw [decide_eq_true_iff]
      constructor
      · intro h
        by_cases c1 : t = tie r.a r.b
        · exact .inr (.inl c1)
        · by_cases c2 : t = tie r.c r.d
          · exact .inr (.inr c2)
          · exact .inl ⟨h, c1, c2⟩
      · rintro (h | rfl | rfl)
        · exact h.1
        · exact f.in1
        · exact f.in2
  rw [Xc p x]
  unfold exch
  rw [QR, QR, WM, WM, Xl, Xl, Xl, Xl]
  congr 1
  by_cases h1 : r.a = x
  · have h2 : ¬ r.b = x := fun q => n1 (h1.trans q.symm)
    have h3 : ¬ r.c = x := fun q => n2 (h1.trans q.symm)
    have h4 : ¬ r.d = x := fun q => n3 (h1.trans q.symm)
    rw [if_pos (.inl h1), if_neg (not_or.mpr ⟨h2, h4⟩), if_pos (.inl h1), if_neg (not_or.mpr ⟨h3, h4⟩)]
  · by_cases h4 : r.d = x
    · have h2 : ¬ r.b = x := fun q => n5 (q.trans h4.symm)
      have h3 : ¬ r.c = x := fun q => n6 (q.trans h4.symm)
      rw [if_neg (not_or.mpr ⟨h1, h3⟩), if_pos (.inr h4), if_neg (not_or.mpr ⟨h1, h2⟩), if_pos (.inr h4)]
    · by_cases h2 : r.b = x
      · have h3 : ¬ r.c = x := fun q => n4 (h2.trans q.symm)
        rw [if_neg (not_or.mpr ⟨h1, h3⟩), if_pos (.inl h2), if_pos (.inr h2), if_neg (not_or.mpr ⟨h3, h4⟩)]
      · by_cases h3 : r.c = x
        · rw [if_pos (.inr h3), if_neg (not_or.mpr ⟨h2, h4⟩), if_neg (not_or.mpr ⟨h1, h2⟩), if_pos (.inl h3)]
        · rw [if_neg (not_or.mpr ⟨h1, h3⟩), if_neg (not_or.mpr ⟨h2, h4⟩), if_neg (not_or.mpr ⟨h1, h2⟩), if_neg (not_or.mpr ⟨h3, h4⟩)]

noncomputable abbrev gd (l : List Int) (i : Nat) : Int := l.getD i 0
noncomputable def dec1 (l : List Int) (o : Nat) : List Int := l.set o (gd l o - 1)
theorem WO (l : List Int) (o : Nat) : (dec1 l o).length = l.length := List.length_set ..
theorem ZFv {l : List Int} {o : Nat} (h : o < l.length) (v : Int) (i : Nat) : gd (l.set o v) i = if o = i then v else gd l i := by
  unfold gd
  rw [List.getD_eq_getElem?_getD, List.getElem?_set]
  by_cases e : o = i
  · subst e; rw [if_pos rfl, if_pos h, if_pos rfl]; rfl
  · rw [if_neg e, if_neg e, List.getD_eq_getElem?_getD]
theorem Xe (os : List Nat) : ∀ (l : List Int), (os.foldl dec1 l).length = l.length := by
  induction os with
  | nil => exact fun _ => rfl
  | cons o os ih => exact fun l => (ih (dec1 l o)).trans (WO l o)
theorem ZGv {os : List Nat} : ∀ {l : List Int}, os.Nodup → (∀ o ∈ os, o < l.length) → ∀ i, gd (os.foldl dec1 l) i = gd l i - (if i ∈ os then 1 else 0) := by
  induction os with
  | nil => exact fun _ _ i => by rw [if_neg List.not_mem_nil]; exact (Int.sub_zero _).symm
  | cons o os ih =>
    intro l nd h i
    obtain ⟨n1, n2⟩ := List.nodup_cons.mp nd
    rw [List.foldl_cons, ih n2 (fun o' ho => by rw [WO]; exact h o' (.tail _ ho)) i]
    unfold dec1
    rw [ZFv (h o (.head _))]
    by_cases e : o = i
    · subst e; rw [if_pos rfl, if_neg n1, if_pos (.head _)]; lia
    · rw [if_neg e]
      have : (i ∈ o :: os) ↔ i ∈ os := ⟨fun q => (List.mem_cons.mp q).resolve_left (Ne.symm e), .tail _⟩
      by_cases c : i ∈ os
      · rw [if_pos c, if_pos (this.mpr c)]
      · rw [if_neg c, if_neg fun q => c (this.mp q)]
structure Lay (n : Nat) (cs l : List Int) (T : Ties) : Prop where
  len : l.length = n
  eg : EG (List.range n) (gd l)
  ev : ∃ w : Int, sm (List.range n) (gd l) = 2 * w
  web : Web n T
  cn : ∀ x, x < n → (cnt T x : Int) + gd l x = gd cs x
  zr : ∀ t ∈ T, gd l t.1 = 0 ∨ gd l t.2 = 0
section
variable {n : Nat} {cs l : List Int} {T : Ties}
theorem Xz {P : List Nat} (nd : P.Nodup) {i : Nat} (hi : i ∈ P) (g : Nat → Int) (h : ∀ j ∈ P, j ≠ i → g j = 0) : sm P g = g i := by
  rw [Qi nd hi (f := fun _ => 0) (g := g) fun j hj ne => h j hj ne, VA]; lia
theorem EG.nonneg {P : List Nat} {d : Nat → Int} (h : EG P d) (nd : P.Nodup) {i : Nat} (hi : i ∈ P) : 0 ≤ d i := by
  have := h (upd (fun _ => 0) i (-1)) (Tri.upd (fun _ => .inr (.inl rfl)) i (.inr (.inr rfl)))
  rw [Xz nd hi (fun j => upd (fun _ => 0) i (-1) j * d j) (fun j _ ne => by rw [QQ _ _ ne, Int.zero_mul]), Xz nd hi (fun j => ps (upd (fun _ => 0) i (-1) j)) (fun j _ ne => by rw [QQ _ _ ne]; rfl), XY, psm, Int.zero_mul] at this
  lia
theorem EG.top {P : List Nat} {d : Nat → Int} (h : EG P d) (nd : P.Nodup) {i : Nat} (hi : i ∈ P) : d i ≤ P.length - 1 := by
  have := h (upd (fun _ => 0) i 1) (Tri.upd (fun _ => .inr (.inl rfl)) i (.inl rfl))
  rw [Xz nd hi (fun j => upd (fun _ => 0) i 1 j * d j) (fun j _ ne => by rw [QQ _ _ ne, Int.zero_mul]), Xz nd hi (fun j => ps (upd (fun _ => 0) i 1 j)) (fun j _ ne => by rw [QQ _ _ ne]; rfl), Xz nd hi (fun j => ng (upd (fun _ => 0) i 1 j)) (fun j _ ne => by rw [QQ _ _ ne]; rfl), XY, ps1, ng1] at this
  lia
theorem EG.perm {P R : List Nat} {d : Nat → Int} (h : EG P d) (p : P.Perm R) : EG R d := fun σ t => by
  rw [← QP p, ← QP p, ← QP p, ← p.length_eq]; exact h σ t
theorem EG.congr {P : List Nat} {d e : Nat → Int} (h : EG P d) (q : ∀ i ∈ P, d i = e i) : EG P e := fun σ t => by
  rw [JX (f := fun i => σ i * e i) (g := fun i => σ i * d i) fun i hi => by rw [q i hi]]; exact h σ t
theorem Lay.nonneg (L : Lay n cs l T) {i : Nat} (hi : i < n) : 0 ≤ gd l i := L.eg.nonneg List.nodup_range (List.mem_range.mpr hi)
theorem Lay.lt (L : Lay n cs l T) {i : Nat} (hi : i < n) : gd l i < n := by
  have := L.eg.top List.nodup_range (List.mem_range.mpr hi)
  rw [List.length_range] at this; lia
theorem ZGg {P A : List Nat} (nd : P.Nodup) (na : A.Nodup) (sub : ∀ a ∈ A, a ∈ P) : sm P (fun i => if i ∈ A then 1 else 0) = A.length := by
  induction A with
  | nil => rw [JX (g := fun _ => 0) fun i _ => if_neg List.not_mem_nil, VA]; rfl
  | cons a A ih =>
    obtain ⟨n1, n2⟩ := List.nodup_cons.mp na
    have := Qi nd (sub a (.head _)) (f := fun i => if i ∈ A then (1 : Int) else 0) (g := fun i => if i ∈ a :: A then (1 : Int) else 0) fun j _ ne => by
      by_cases c : j ∈ A
      · rw [if_pos c, if_pos (.tail _ c)]
      · rw [if_neg c, if_neg fun q => (List.mem_cons.mp q).elim ne c]
    rw [this, ih n2 fun a ha => sub a (.tail _ ha), if_pos (.head _), if_neg n1, List.length_cons]; lia
theorem Lay.turn (L : Lay n cs l T) {p : Nat} (hp : p < n) (pos : 0 < gd l p) {os : List Nat} (pm : (p :: os).Perm (List.range n)) (so : os.Pairwise fun i j => gd l j ≤ gd l i) :
    (gd l p).toNat ≤ os.length ∧ Lay n cs (((os.take (gd l p).toNat).foldl dec1 l).set p 0) (T ++ (os.take (gd l p).toNat).map (tie p)) ∧
    sm (List.range n) (gd (((os.take (gd l p).toNat).foldl dec1 l).set p 0)) < sm (List.range n) (gd l) := by
  have nd0 : (p :: os).Nodup := pm.symm.nodup List.nodup_range
  obtain ⟨np, nd⟩ := List.nodup_cons.mp nd0
  have lo : os.length + 1 = n := by have := pm.length_eq; rw [List.length_cons, List.length_range] at this; exact this
  have eg := L.eg.perm pm.symm
  have top := L.lt hp
  obtain ⟨k, hk⟩ : ∃ k : Nat, gd l p = k := ⟨_, (Int.toNat_of_nonneg (Int.le_of_lt pos)).symm⟩
  have ek : (gd l p).toNat = k := by rw [hk]; rfl
  rw [ek]
  have kl : k ≤ os.length := by lia
  refine ⟨kl, ?_⟩
  have mo : ∀ o ∈ os, o < n := fun o ho => List.mem_range.mp (pm.mem_iff.mp (.tail _ ho))
  have nt : (os.take k).Nodup := nd.sublist (List.take_sublist k os)
  have tsub : ∀ o ∈ os.take k, o ∈ os := fun o ho => List.mem_of_mem_take ho
  have tl : (os.take k).length = k := by rw [List.length_take]; lia
  have np' : p ∉ os.take k := fun q => np (tsub p q)
  have npi : ∀ i, i ∈ os → ¬ p = i := fun i hi q => np (q ▸ hi)
  have e1 : ∀ i, gd ((os.take k).foldl dec1 l) i = gd l i - (if i ∈ os.take k then 1 else 0) := ZGv nt fun o ho => by rw [L.len]; exact mo o (tsub o ho)
  have e2 : ∀ i, gd (((os.take k).foldl dec1 l).set p 0) i = if p = i then 0 else gd l i - (if i ∈ os.take k then 1 else 0) := fun i => by
    rw [ZFv (by rw [Xe, L.len]; exact hp), e1]
  let N : Nat → Bool := fun i => decide (i ∈ os.take k)
  have nN' : ∀ i, nN N i = if i ∈ os.take k then 1 else 0 := fun i => by
    show (if decide (i ∈ os.take k) = true then (1 : Int) else 0) = _
    by_cases c : i ∈ os.take k
    · rw [decide_eq_true c, if_pos rfl, if_pos c]
    · rw [decide_eq_false c, if_neg (by decide), if_neg c]
  have split : os.take k ++ os.drop k = os := List.take_append_drop k os
  have so' := so
  rw [← split] at so'
  have sp := (List.pairwise_append.mp so').2.2
  obtain ⟨w, hw⟩ := L.ev
  have hw' : gd l p + sm os (gd l) = 2 * w := by rw [← JV, QP pm]; exact hw
  have eg2 := EG.lay (N := N) (d := gd l) eg np nd (fun i hi j hj h1 h2 => by
    have h1 : i ∈ os.take k := of_decide_eq_true h1
    have h2 : j ∉ os.take k := of_decide_eq_false h2
    have h3 : j ∈ os.drop k := by rw [← split] at hj; exact (List.mem_append.mp hj).resolve_left h2
    exact sp i h1 j h3) (by rw [JX fun i _ => nN' i, ZGg nd nt tsub, tl, hk]) hw'
  have eg3 : EG os (gd (((os.take k).foldl dec1 l).set p 0)) := eg2.congr fun i hi => by
    rw [e2, nN', if_neg (npi i hi)]
  have eg4 : EG (List.range n) (gd (((os.take k).foldl dec1 l).set p 0)) := (EG.off eg3 np (by rw [e2, if_pos rfl])).perm pm
  have s2 : sm os (gd (((os.take k).foldl dec1 l).set p 0)) = sm os (gd l) - k := by
    rw [JX (g := fun i => gd l i - (if i ∈ os.take k then 1 else 0)) fun i hi => by rw [e2, if_neg (npi i hi)], QM, ZGg nd nt tsub, tl]
  have s3 : sm (List.range n) (gd (((os.take k).foldl dec1 l).set p 0)) = sm os (gd l) - k := by
    rw [← QP pm, JV, s2, e2, if_pos rfl, Int.zero_add]
  have s4 : sm (List.range n) (gd l) = k + sm os (gd l) := by rw [← QP pm, JV, hk]
  have z0 : ∀ t ∈ T, t.1 < n ∧ t.2 < n := fun t ht => by have := L.web.2 t ht; lia
  have ge : ∀ i ∈ os.take k, 0 < gd l i := fun i hi => by
    have := eg3.nonneg nd (tsub i hi)
    rw [e2, if_neg (npi i (tsub i hi)), if_pos hi] at this
    lia
  have zero : ∀ i, i < n → gd l i = 0 → gd (((os.take k).foldl dec1 l).set p 0) i = 0 := fun i hi h => by
    rw [e2]
    by_cases c : p = i
    · rw [if_pos c]
    · rw [if_neg c, if_neg fun q => by have := ge i q; lia, h]; rfl
  refine ⟨⟨by rw [List.length_set, Xe, L.len], eg4, ⟨w - k, by rw [s3]; lia⟩, ⟨?_, ?_⟩, ?_, ?_⟩, by rw [s3, s4]; lia⟩
  · refine List.nodup_append.mpr ⟨L.web.1, ?_, fun t ht s hs e => ?_⟩
    · refine List.pairwise_map.mpr (nt.imp_of_mem fun {a b} ha hb ne q => ?_)
      rcases Vo q with q | q
      · exact ne q.2
      · exact np' (q.1 ▸ hb)
    · obtain ⟨o, ho, rfl⟩ := List.mem_map.mp hs
      have zt := L.zr t ht
      rw [e] at zt
      have h1 := ge o ho
      unfold tie at zt
      dsimp only at zt
      rcases Nat.le_total p o with le | le
      · rw [Nat.min_eq_left le, Nat.max_eq_right le] at zt; lia
      · rw [Nat.min_eq_right le, Nat.max_eq_left le] at zt; lia
  · intro t ht
    rcases List.mem_append.mp ht with q | q
    · exact L.web.2 t q
    · obtain ⟨o, ho, rfl⟩ := List.mem_map.mp q
      exact Uz (fun e => np' (e ▸ ho)) hp (mo o (tsub o ho))
  · intro x hx
    have cx : ∀ A : List Nat, A.Nodup → p ∉ A → ((cnt (A.map (tie p)) x : Nat) : Int) = if p = x then (A.length : Int) else if x ∈ A then 1 else 0 := by
      intro A
      induction A with
      | nil => intro _ _; by_cases c : p = x
               · rw [if_pos c]; rfl
               · rw [if_neg c, if_neg List.not_mem_nil]; rfl
      | cons a A ih =>
        intro nA pA
        obtain ⟨a1, a2⟩ := List.nodup_cons.mp nA
        have ih := ih a2 fun q => pA (.tail _ q)
        have : cnt ((a :: A).map (tie p)) x = cnt [tie p a] x + cnt (A.map (tie p)) x := QR [tie p a] (A.map (tie p)) x
        rw [this, Xl, Int.natCast_add, ih]
        by_cases c : p = x
        · rw [if_pos c, if_pos (.inl c), if_pos c, List.length_cons]; lia
        · rw [if_neg c, if_neg c]
          by_cases c2 : a = x
          · subst c2
            rw [if_pos (.inr rfl), if_neg a1, if_pos (.head _)]; rfl
          · rw [if_neg fun q => q.elim c c2]
            by_cases c3 : x ∈ A
            · rw [if_pos c3, if_pos (.tail _ c3)]; rfl
            · rw [if_neg c3, if_neg fun q => (List.mem_cons.mp q).elim (fun q => c2 q.symm) c3]; rfl
    rw [QR, Int.natCast_add, cx _ nt np', e2, ← L.cn x hx, tl]
    by_cases c : p = x
    · subst c; rw [if_pos rfl, if_pos rfl, hk]; lia
    · rw [if_neg c, if_neg c]; lia
  · intro t ht
    rcases List.mem_append.mp ht with q | q
    · obtain ⟨h1, h2⟩ := z0 t q
      exact (L.zr t q).imp (zero _ h1) (zero _ h2)
    · obtain ⟨o, ho, rfl⟩ := List.mem_map.mp q
      have hz : gd (((os.take k).foldl dec1 l).set p 0) p = 0 := by rw [e2, if_pos rfl]
      unfold tie
      dsimp only
      rcases Nat.le_total p o with le | le
      · rw [Nat.min_eq_left le]; exact .inl hz
      · rw [Nat.max_eq_left le]; exact .inr hz
theorem Lay.done (L : Lay n cs l T) (h : ∀ x, x < n → gd l x ≤ 0) (x : Nat) (hx : x < n) : (cnt T x : Int) = gd cs x := by
  have := L.cn x hx
  have := L.nonneg hx
  have := h x hx
  lia
theorem Lay.start {n : Nat} {cs : List Int} (hl : cs.length = n) (eg : EG (List.range n) (gd cs)) {w : Int} (ev : sm (List.range n) (gd cs) = 2 * w) : Lay n cs cs [] :=
  ⟨hl, eg, ⟨w, ev⟩, ⟨.nil, nofun⟩, fun x hx => by show (0 : Int) + _ = _; lia, nofun⟩
end
theorem ZBt {cs : List Int} : sm (List.range cs.length) (gd cs) = cs.sum := by
  unfold sm
  congr 1
  refine List.ext_getElem (by rw [List.length_map, List.length_range]) fun i h1 h2 => ?_
  rw [List.getElem_map, List.getElem_range]
  show cs.getD i 0 = _
  rw [List.getD_eq_getElem?_getD, List.getElem?_eq_getElem h2]; rfl
end TC

namespace TC
open PySem
noncomputable abbrev pr (t : Nat × Nat) : PyData := .tuple [.int t.1, .int t.2]
noncomputable def tf (t : Nat × Nat) : List Int := [(t.1 : Int), t.2]
noncomputable def tg (l : List Int) : Nat × Nat := ((l.getD 0 0).toNat, (l.getD 1 0).toNat)
theorem Ue (ts : Ties) : allOf tupOf (ofPairs ts) = some (ts.map tf) := by
  induction ts with
  | nil => rfl
  | cons t ts ih => show (allOf tupOf (ofPairs ts)).map (tf t :: ·) = _; rw [ih]; rfl
theorem ZKz {a b c : List Int} (h1 : decide (a ≤ b) = true) (h2 : decide (b ≤ c) = true) : decide (a ≤ c) = true := decide_eq_true (List.le_trans (of_decide_eq_true h1) (of_decide_eq_true h2))
theorem ZKb (a b : List Int) : (decide (a ≤ b) || decide (b ≤ a)) = true := by
  rw [Bool.or_eq_true, decide_eq_true_iff, decide_eq_true_iff]; exact List.le_total a b
theorem Wu (l : List (List Int)) : (sortT l).Pairwise fun a b => a ≤ b := (List.pairwise_mergeSort (le := fun a b : List Int => decide (a ≤ b)) (fun a b c => ZKz) ZKb l).imp of_decide_eq_true
theorem ZFa {l : List (List Int)} (h : l.Pairwise fun a b => a ≤ b) : sortT l = l := List.mergeSort_of_pairwise (h.imp decide_eq_true)
noncomputable def Sd (us : Ties) : Prop := sortT (us.map tf) = us.map tf
theorem Qj {v : V} {ts : Ties} {K : V → Prop} (e : rd v = some (.list (ofPairs ts))) (nd : ts.Nodup) (hz : ts.length < 64) (k : ∀ us : Ties, us.Perm ts → Sd us → K (.own (.list (ofPairs us)))) : F1.sorted.W v K := by
  show got (rd v) _
  rw [e]
  show Option.elim (allOf intOf (ofPairs ts)) _ _
  cases ts with
  | nil => exact ⟨(by decide), by have := k [] (List.Perm.refl _) List.mergeSort_nil; rw [show sortI [] = [] from List.mergeSort_nil]; exact this⟩
  | cons t ts =>
    show got (allOf tupOf (ofPairs (t :: ts))) _
    rw [Ue]
    have inj : ∀ a b : Nat × Nat, a ≠ b → tf a ≠ tf b := fun a b ne q => ne (by
      injection q with q1 q2
      injection q2 with q2 _
      exact Prod.ext (Int.natCast_inj.mp q1) (Int.natCast_inj.mp q2))
    refine ⟨⟨by rw [List.length_map]; exact hz, List.Pairwise.map _ (fun a b => inj a b) nd, fun q => ?_⟩, ?_⟩
    · obtain ⟨_, _, e⟩ := List.mem_map.mp q; exact nomatch e
    · have p : (sortT ((t :: ts).map tf)).Perm ((t :: ts).map tf) := List.mergeSort_perm _ _
      have ef : ((sortT ((t :: ts).map tf)).map tg).map tf = sortT ((t :: ts).map tf) := by
        rw [List.map_map]
        refine (List.map_congr_left fun l hl => ?_).trans (List.map_id _)
        obtain ⟨u, _, rfl⟩ := List.mem_map.mp (p.mem_iff.mp hl)
        rfl
      have eg : ((t :: ts).map tf).map tg = t :: ts := by
        rw [List.map_map]
        exact (List.map_congr_left fun u _ => rfl).trans (List.map_id _)
      have := k ((sortT ((t :: ts).map tf)).map tg) (by have q := p.map tg; rw [eg] at q; exact q) (by unfold Sd; rw [ef]; exact ZFa (Wu _))
      have e2 : ofTups (sortT ((t :: ts).map tf)) = ofPairs ((sortT ((t :: ts).map tf)).map tg) := by
        unfold ofTups ofPairs
        rw [List.map_map]
        refine List.map_congr_left fun l hl => ?_
        obtain ⟨u, _, rfl⟩ := List.mem_map.mp (p.mem_iff.mp hl)
        rfl
      rw [e2]; exact this
theorem ZJm (u t : Nat × Nat) : PyData.eqv (pr u) (pr t) = decide (u = t) := by
  simp only [PyData.eqv, PyData.eqvAll, Bool.and_true]
  refine Bool.eq_iff_iff.mpr ?_
  rw [Bool.and_eq_true, beq_iff_eq, beq_iff_eq, decide_eq_true_iff, Prod.ext_iff]
  exact and_congr Int.natCast_inj Int.natCast_inj
theorem ZIb {u t : Nat × Nat} {K : V → Prop} (k : K (.d (.bool (!decide (u = t))))) : objW .ne (.d (pr u)) (.d (pr t)) K := by
  refine (show _ ∧ _ ∧ _ from ⟨(Sh.pair 0 _ _).shp, (Sh.pair 0 _ _).shp, ?_⟩)
  rw [ZJm]; exact k
theorem Qt {step : Rho → (Option PyData → Prop) → Prop} {ρ : Rho} {K : V → Prop} (p : Nat × Nat → Bool) (ts : Ties) : ∀ (as : Ties), (∀ t ∈ ts, ∀ k : Option PyData → Prop, k (cond (p t) (some (pr t)) none) → step (ρ ++ [some (.d (pr t))]) k) →
    as.length + ts.length < 1000 → K (.own (.list (ofPairs (as ++ ts.filter p)))) → compW step none ρ K ((ofPairs ts).map .d) (ofPairs as) := by
  induction ts with
  | nil => intro as _ hl h; rw [List.filter_nil, List.append_nil] at h; exact ⟨JT (by rw [JS]; exact hl), h⟩
  | cons t ts ih =>
    intro as h hl hk
    rw [List.length_cons] at hl
    refine h t (.head _) _ ?_
    rw [List.filter_cons] at hk
    cases c : p t with
    | false => rw [c, if_neg (by decide)] at hk; exact ih as (fun u hu => h u (.tail _ hu)) (by lia) hk
    | true =>
      rw [c, if_pos rfl, ← List.singleton_append, ← List.append_assoc] at hk
      have := ih (as ++ [t]) (fun u hu => h u (.tail _ hu)) (by rw [List.length_append, List.length_singleton]; lia) hk
      rw [← Jm] at this
      exact this
section
variable {n : Nat} {hm : Bool} {K : V → Prop} {X : Nat → Prop}
theorem QK (a b : Nat) (k : K (.d (pr (tie a b)))) : wpCall T05 (n + 1) false 3 [.d (.int a), .d (.int b)] K X := by
  refine JY (fn := f_tie_of) rfl rfl (by decide) ?_
  dsimp only [f_tie_of, b_tie_of, wpSs, wpS, wpE, wpL, slotW, ownS, Rho.putL, frz, bindF, setD, setAll, bindT, F1.W, F2.W, F1.quiet, seqV, numW, isNon, JN, JI, YF, YE, JF, YB, Zz, YA, Zg, ZO, YL, ZW, ZU, ZV, JD, Zv, Zc, Zb, ZH, ZG, YY, Zl, YH, ZQ, JO, YM, JC, ZS, ZT, ZJ, ZK, Zm, Zn, Zx, JE, Zy, Zu, ZL, Zf, YP, YQ, Zt, Zs, YR, YO, Za, Zr, Zq, JQ, YN, ZY, ZF, ZD, ZE, ZC, ZA, ZB, ZZ, excIs, Jj, YU, YV, YD, YC, YW, YX, Yk, Yl, Yb, Yc, Yg, Yh, Yx, Yy, Ym, Yn, Yt, Yu, Yi, Yj, Yo, YJ, YK, Jg, Jf, Ji, Jh, Yf, Yz, Yp, Yq, Yd, Ye, YZ, Ya, JL, JM, Yv, Yw, JA, JB, Jl, Jk, Ys, Yr, Nat.reduceSub, Nat.reduceAdd, YG, ZP, JR, Zj, Zo, ZX, Zp, YS, Ze, Zd, YT, Zk, JK, JP, JH, JG, Zi, Zh, ZN, ZI, ZM, Zw]
  rw [nmin, nmax]
  exact k
noncomputable abbrev rw4 (r : Row) : PyData := .tuple [.int r.a, .int r.b, .int r.c, .int r.d]
theorem XF {ts : Ties} (h : ts.length < 60) : (ofPairs ts).length < lim := by rw [JS]; exact JT (by lia)
theorem UA {m : Nat} {ts : Ties} {r : Row} (w : Web m ts) (f : Fit m ts r) (hl : ts.length < 60) (k : ∀ us : Ties, us.Perm (exch ts r) → Sd us → K (.own (.list (ofPairs us)))) : wpCall T05 (n + 2) false 8 [.brw (.list (ofPairs ts)), .d (rw4 r)] K X := by
  refine JY (fn := f_done_by) rfl rfl (by decide) ?_
  dsimp only [f_done_by, b_done_by, wpSs, wpS, wpE, wpL, slotW, ownS, Rho.putL, frz, bindF, setD, setAll, bindT, F1.W, F2.W, F1.quiet, seqV, numW, isNon, JN, JI, YF, YE, JF, YB, Zz, YA, Zg, ZO, YL, ZW, ZU, ZV, JD, Zv, Zc, Zb, ZH, ZG, YY, Zl, YH, ZQ, JO, YM, JC, ZS, ZT, ZJ, ZK, Zm, Zn, Zx, JE, Zy, Zu, ZL, Zf, YP, YQ, Zt, Zs, YR, YO, Za, Zr, Zq, JQ, YN, ZY, ZF, ZD, ZE, ZC, ZA, ZB, ZZ, excIs, Jj, YU, YV, YD, YC, YW, YX, Yk, Yl, Yb, Yc, Yg, Yh, Yx, Yy, Ym, Yn, Yt, Yu, Yi, Yj, Yo, YJ, YK, Jg, Jf, Ji, Jh, Yf, Yz, Yp, Yq, Yd, Ye, YZ, Ya, JL, JM, Yv, Yw, JA, JB, Jl, Jk, Ys, Yr, Nat.reduceSub, Nat.reduceAdd, YG, ZP, JR, Zj, Zo, ZX, Zp, YS, Ze, Zd, YT, Zk, JK, JP, JH, JG, Zi, Zh, ZN, ZI, ZM, Zw]
  rw [QH]
  refine ⟨by rw [List.length_map]; exact XF hl, Qt r.out ts [] (fun t ht kk hk => ?_) (by simp only [List.length_nil]; lia) ?_⟩
  · dsimp only [wpSs, wpS, wpE, wpL, slotW, ownS, Rho.putL, frz, bindF, setD, setAll, bindT, F1.W, F2.W, F1.quiet, seqV, numW, isNon, JN, JI, YF, YE, JF, YB, Zz, YA, Zg, ZO, YL, ZW, ZU, ZV, JD, Zv, Zc, Zb, ZH, ZG, YY, Zl, YH, ZQ, JO, YM, JC, ZS, ZT, ZJ, ZK, Zm, Zn, Zx, JE, Zy, Zu, ZL, Zf, YP, YQ, Zt, Zs, YR, YO, Za, Zr, Zq, JQ, YN, ZY, ZF, ZD, ZE, ZC, ZA, ZB, ZZ, excIs, Jj, YU, YV, YD, YC, YW, YX, Yk, Yl, Yb, Yc, Yg, Yh, Yx, Yy, Ym, Yn, Yt, Yu, Yi, Yj, Yo, YJ, YK, Jg, Jf, Ji, Jh, Yf, Yz, Yp, Yq, Yd, Ye, YZ, Ya, JL, JM, Yv, Yw, JA, JB, Jl, Jk, Ys, Yr, Nat.reduceSub, Nat.reduceAdd, YG, ZP, JR, Zj, Zo, ZX, Zp, YS, Ze, Zd, YT, Zk, JK, JP, JH, JG, Zi, Zh, ZN, ZI, ZM, Zw]
    refine QK r.a r.b (ZIb ?_)
    unfold Row.out at hk
    by_cases c1 : t = tie r.a r.b
    · rw [decide_eq_false fun q => q.1 c1] at hk; rw [decide_eq_true c1]; exact hk
    · rw [decide_eq_false c1]
      refine QK r.c r.d (ZIb ?_)
      by_cases c2 : t = tie r.c r.d
      · rw [decide_eq_false fun q => q.2 c2] at hk; rw [decide_eq_true c2]; exact hk
      · rw [decide_eq_true ⟨c1, c2⟩] at hk; rw [decide_eq_false c2]; exact hk
  · rw [List.nil_append]
    dsimp only [wpSs, wpS, wpE, wpL, slotW, ownS, Rho.putL, frz, bindF, setD, setAll, bindT, F1.W, F2.W, F1.quiet, seqV, numW, isNon, JN, JI, YF, YE, JF, YB, Zz, YA, Zg, ZO, YL, ZW, ZU, ZV, JD, Zv, Zc, Zb, ZH, ZG, YY, Zl, YH, ZQ, JO, YM, JC, ZS, ZT, ZJ, ZK, Zm, Zn, Zx, JE, Zy, Zu, ZL, Zf, YP, YQ, Zt, Zs, YR, YO, Za, Zr, Zq, JQ, YN, ZY, ZF, ZD, ZE, ZC, ZA, ZB, ZZ, excIs, Jj, YU, YV, YD, YC, YW, YX, Yk, Yl, Yb, Yc, Yg, Yh, Yx, Yy, Ym, Yn, Yt, Yu, Yi, Yj, Yo, YJ, YK, Jg, Jf, Ji, Jh, Yf, Yz, Yp, Yq, Yd, Ye, YZ, Ya, JL, JM, Yv, Yw, JA, JB, Jl, Jk, Ys, Yr, Nat.reduceSub, Nat.reduceAdd, YG, ZP, JR, Zj, Zo, ZX, Zp, YS, Ze, Zd, YT, Zk, JK, JP, JH, JG, Zi, Zh, ZN, ZI, ZM, Zw]
    refine QK r.a r.c (QK r.b r.d ?_)
    have fl : (ts.filter r.out).length ≤ ts.length := List.length_filter_le ..
    refine (show _ ∧ _ from ⟨JT (by rw [JS]; simp only [List.length_cons, List.length_nil]; lia), ?_⟩)
    refine Qj (v := .own (.list (ofPairs (ts.filter r.out) ++ ofPairs [tie r.a r.c, tie r.b r.d]))) (ts := exch ts r) (congrArg some (congrArg PyData.list (Jm (ts.filter r.out) [tie r.a r.c, tie r.b r.d]))) (f.web w).1 (by rw [f.len w]; lia) fun us p sd => k us p sd
end
end TC

namespace TC
open PySem
theorem Uo {m : Nat} {t : Nat × Nat} (h1 : t.1 < t.2) (h2 : t.2 < m) : t ∈ pairsTo m := by
  unfold pairsTo
  exact List.mem_flatMap.mpr ⟨t.2, List.mem_range.mpr h2, List.mem_map.mpr ⟨t.1, List.mem_range.mpr h1, rfl⟩⟩
theorem ZEr : ∀ m < 11, (pairsTo m).length ≤ 45 := by decide
theorem Jz {m : Nat} {ts : Ties} (w : Web m ts) (h : m ≤ 10) : ts.length ≤ 45 :=
  Nat.le_trans (List.Nodup.length_le_of_subset w.1 fun t ht => Uo (w.2 t ht).1 (w.2 t ht).2) (ZEr m (by lia))
theorem Qu (m : Nat) (ts : Ties) : (comps m ts).length = ncomp m ts := by unfold comps ncomp; rw [List.length_map]
theorem ZKq {m : Nat} {ts : Ties} (w : Web m ts) (e : Nat × Nat) : Web m (wo ts e) := ⟨w.1.filter _, fun t ht => w.2 t (QY.mp ht).1⟩
section
variable {n : Nat} {hm : Bool} {K : V → Prop} {X : Nat → Prop}
theorem XE {m : Nat} {ts : Ties} : (List.map (fun t => PyData.list (List.map PyData.int t)) ((comps m ts).map zs)).length = ncomp m ts := by rw [List.length_map, List.length_map, Qu]
theorem XH {m : Nat} {ts : Ties} (hz : m ≤ 10) : ncomp m ts ≤ 10 := by unfold ncomp reps; exact Nat.le_trans (List.length_filter_le ..) (by rw [List.length_range]; exact hz)
theorem Gy {m : Nat} {ts : Ties} (hz : m ≤ 10) (w : Web m ts) {Ko : KS} {us : Ties} : ∀ {s3 : Option V}, (∀ t ∈ us, ncomp m (wo ts t) = ncomp m ts → ∀ ρ, Ko (.ret (.d (pr t))) ρ) → ((∀ t ∈ us, ncomp m (wo ts t) ≠ ncomp m ts) → ∀ ρ, Ko .nxt ρ) →
    forW (fun x ρ' k => bindF (.one 3) x ρ' fun ρ'' => wpSs (wpCall T05 (n + 2)) false b_spare_tie_1 ρ'' k (fun c _ => X c)) Ko ((ofPairs us).map .d) [some (.d (.int m)), some (.brw (.list (ofPairs ts))), some (.d (.int (ncomp m ts))), s3] := by
  have hl := Jz w hz
  induction us with
  | nil => exact fun _ h => h (fun _ q => nomatch q) _
  | cons t us ih =>
    intro s3 h1 h2
    rw [show (ofPairs (t :: us)).map V.d = V.d (pr t) :: (ofPairs us).map V.d from rfl]
    dsimp only [forW, b_spare_tie_1, wpSs, wpS, wpE, wpL, slotW, ownS, Rho.putL, frz, bindF, setD, setAll, bindT, F1.W, F2.W, F1.quiet, seqV, numW, isNon, JN, JI, YF, YE, JF, YB, Zz, YA, Zg, ZO, YL, ZW, ZU, ZV, JD, Zv, Zc, Zb, ZH, ZG, YY, Zl, YH, ZQ, JO, YM, JC, ZS, ZT, ZJ, ZK, Zm, Zn, Zx, JE, Zy, Zu, ZL, Zf, YP, YQ, Zt, Zs, YR, YO, Za, Zr, Zq, JQ, YN, ZY, ZF, ZD, ZE, ZC, ZA, ZB, ZZ, excIs, Jj, YU, YV, YD, YC, YW, YX, Yk, Yl, Yb, Yc, Yg, Yh, Yx, Yy, Ym, Yn, Yt, Yu, Yi, Yj, Yo, YJ, YK, Jg, Jf, Ji, Jh, Yf, Yz, Yp, Yq, Yd, Ye, YZ, Ya, JL, JM, Yv, Yw, JA, JB, Jl, Jk, Ys, Yr, Nat.reduceSub, Nat.reduceAdd, YG, ZP, JR, Zj, Zo, ZX, Zp, YS, Ze, Zd, YT, Zk, JK, JP, JH, JG, Zi, Zh, ZN, ZI, ZM, Zw]
    rw [QH]
    refine ⟨by rw [List.length_map]; exact XF (by lia), Qt (fun u => decide (u ≠ t)) ts [] (fun u hu kk hk => ?_) (by simp only [List.length_nil]; lia) ?_⟩
    · dsimp only [wpSs, wpS, wpE, wpL, slotW, ownS, Rho.putL, frz, bindF, setD, setAll, bindT, F1.W, F2.W, F1.quiet, seqV, numW, isNon, JN, JI, YF, YE, JF, YB, Zz, YA, Zg, ZO, YL, ZW, ZU, ZV, JD, Zv, Zc, Zb, ZH, ZG, YY, Zl, YH, ZQ, JO, YM, JC, ZS, ZT, ZJ, ZK, Zm, Zn, Zx, JE, Zy, Zu, ZL, Zf, YP, YQ, Zt, Zs, YR, YO, Za, Zr, Zq, JQ, YN, ZY, ZF, ZD, ZE, ZC, ZA, ZB, ZZ, excIs, Jj, YU, YV, YD, YC, YW, YX, Yk, Yl, Yb, Yc, Yg, Yh, Yx, Yy, Ym, Yn, Yt, Yu, Yi, Yj, Yo, YJ, YK, Jg, Jf, Ji, Jh, Yf, Yz, Yp, Yq, Yd, Ye, YZ, Ya, JL, JM, Yv, Yw, JA, JB, Jl, Jk, Ys, Yr, Nat.reduceSub, Nat.reduceAdd, YG, ZP, JR, Zj, Zo, ZX, Zp, YS, Ze, Zd, YT, Zk, JK, JP, JH, JG, Zi, Zh, ZN, ZI, ZM, Zw]
      refine ZIb ?_
      rw [decide_not] at hk
      revert hk
      cases decide (u = t) <;> exact id
    · rw [List.nil_append]
      have wt := ZKq w t
      refine QD m hz (wo ts t) (by have := Jz wt hz; lia) wt ?_
      dsimp only [lists, wpSs, wpS, wpE, wpL, slotW, ownS, Rho.putL, frz, bindF, setD, setAll, bindT, F1.W, F2.W, F1.quiet, seqV, numW, isNon, JN, JI, YF, YE, JF, YB, Zz, YA, Zg, ZO, YL, ZW, ZU, ZV, JD, Zv, Zc, Zb, ZH, ZG, YY, Zl, YH, ZQ, JO, YM, JC, ZS, ZT, ZJ, ZK, Zm, Zn, Zx, JE, Zy, Zu, ZL, Zf, YP, YQ, Zt, Zs, YR, YO, Za, Zr, Zq, JQ, YN, ZY, ZF, ZD, ZE, ZC, ZA, ZB, ZZ, excIs, Jj, YU, YV, YD, YC, YW, YX, Yk, Yl, Yb, Yc, Yg, Yh, Yx, Yy, Ym, Yn, Yt, Yu, Yi, Yj, Yo, YJ, YK, Jg, Jf, Ji, Jh, Yf, Yz, Yp, Yq, Yd, Ye, YZ, Ya, JL, JM, Yv, Yw, JA, JB, Jl, Jk, Ys, Yr, Nat.reduceSub, Nat.reduceAdd, YG, ZP, JR, Zj, Zo, ZX, Zp, YS, Ze, Zd, YT, Zk, JK, JP, JH, JG, Zi, Zh, ZN, ZI, ZM, Zw]
      rw [XE]
      have le := XH (ts := wo ts t) hz
      refine ⟨JT (by lia), ?_⟩
      refine Jv (fun e => h1 t (.head _) (Int.natCast_inj.mp e) _) fun e => ih (fun u hu => h1 u (.tail _ hu)) fun h => h2 fun u hu => ?_
      rcases List.mem_cons.mp hu with rfl | hu
      · exact fun q => e (congrArg Nat.cast q)
      · exact h u hu
theorem HA {m : Nat} {ts : Ties} (hz : m ≤ 10) (w : Web m ts) (h : ∃ e ∈ ts, ncomp m (wo ts e) = ncomp m ts) (k : ∀ e ∈ ts, ncomp m (wo ts e) = ncomp m ts → K (.d (pr e))) : wpCall T05 (n + 3) false 10 [.d (.int m), .brw (.list (ofPairs ts))] K X := by
  have hl := Jz w hz
  refine JY (fn := f_spare_tie) rfl rfl (by decide) ?_
  dsimp only [f_spare_tie, b_spare_tie, wpSs, wpS, wpE, wpL, slotW, ownS, Rho.putL, frz, bindF, setD, setAll, bindT, F1.W, F2.W, F1.quiet, seqV, numW, isNon, JN, JI, YF, YE, JF, YB, Zz, YA, Zg, ZO, YL, ZW, ZU, ZV, JD, Zv, Zc, Zb, ZH, ZG, YY, Zl, YH, ZQ, JO, YM, JC, ZS, ZT, ZJ, ZK, Zm, Zn, Zx, JE, Zy, Zu, ZL, Zf, YP, YQ, Zt, Zs, YR, YO, Za, Zr, Zq, JQ, YN, ZY, ZF, ZD, ZE, ZC, ZA, ZB, ZZ, excIs, Jj, YU, YV, YD, YC, YW, YX, Yk, Yl, Yb, Yc, Yg, Yh, Yx, Yy, Ym, Yn, Yt, Yu, Yi, Yj, Yo, YJ, YK, Jg, Jf, Ji, Jh, Yf, Yz, Yp, Yq, Yd, Ye, YZ, Ya, JL, JM, Yv, Yw, JA, JB, Jl, Jk, Ys, Yr, Nat.reduceSub, Nat.reduceAdd, YG, ZP, JR, Zj, Zo, ZX, Zp, YS, Ze, Zd, YT, Zk, JK, JP, JH, JG, Zi, Zh, ZN, ZI, ZM, Zw]
  refine QD m hz ts (by lia) w ?_
  dsimp only [lists, wpSs, wpS, wpE, wpL, slotW, ownS, Rho.putL, frz, bindF, setD, setAll, bindT, F1.W, F2.W, F1.quiet, seqV, numW, isNon, JN, JI, YF, YE, JF, YB, Zz, YA, Zg, ZO, YL, ZW, ZU, ZV, JD, Zv, Zc, Zb, ZH, ZG, YY, Zl, YH, ZQ, JO, YM, JC, ZS, ZT, ZJ, ZK, Zm, Zn, Zx, JE, Zy, Zu, ZL, Zf, YP, YQ, Zt, Zs, YR, YO, Za, Zr, Zq, JQ, YN, ZY, ZF, ZD, ZE, ZC, ZA, ZB, ZZ, excIs, Jj, YU, YV, YD, YC, YW, YX, Yk, Yl, Yb, Yc, Yg, Yh, Yx, Yy, Ym, Yn, Yt, Yu, Yi, Yj, Yo, YJ, YK, Jg, Jf, Ji, Jh, Yf, Yz, Yp, Yq, Yd, Ye, YZ, Ya, JL, JM, Yv, Yw, JA, JB, Jl, Jk, Ys, Yr, Nat.reduceSub, Nat.reduceAdd, YG, ZP, JR, Zj, Zo, ZX, Zp, YS, Ze, Zd, YT, Zk, JK, JP, JH, JG, Zi, Zh, ZN, ZI, ZM, Zw]
  rw [XE]
  have le := XH (ts := ts) hz
  rw [QH]
  refine ⟨JT (by lia), by rw [List.length_map]; exact XF (by lia), ?_⟩
  refine Gy hz w (fun t ht e ρ => k t ht e) fun no => ?_
  obtain ⟨e, he, q⟩ := h
  exact absurd q (no e he)
theorem GJ {m : Nat} {ts : Ties} {x : Nat} (w : Web m ts) (hx : x < m) : ∃ cr, ((comps m ts).filter fun c => decide (x ∈ c)) = compOf m ts x :: cr := by
  obtain ⟨r, h1, h2⟩ := XR ts x
  have hr : r < m := Nat.lt_of_le_of_lt (h1 x h2.symm) hx
  have hc : compOf m ts r ∈ (comps m ts).filter fun c => decide (x ∈ c) := List.mem_filter.mpr ⟨List.mem_map.mpr ⟨r, Jr.mpr ⟨hr, h1⟩, rfl⟩, decide_eq_true (Jq.mpr ⟨hx, h2⟩)⟩
  cases e : (comps m ts).filter fun c => decide (x ∈ c) with
  | nil => rw [e] at hc; exact nomatch hc
  | cons c cr =>
    have m1 := List.mem_filter.mp (e ▸ List.mem_cons_self : c ∈ (comps m ts).filter fun c => decide (x ∈ c))
    obtain ⟨p, _, rfl⟩ := List.mem_map.mp m1.1
    rw [HT (Jq.mp (of_decide_eq_true m1.2)).2]
    exact ⟨cr, rfl⟩
noncomputable abbrev pts (c : List Nat) : PyData := .list (ofInts (zs c))
theorem ZFr (c : List Nat) (x : Nat) : ((ofInts (zs c)).any fun z => PyData.eqv z (.int x)) = decide (x ∈ c) := by
  refine Bool.eq_iff_iff.mpr ?_
  rw [List.any_eq_true, decide_eq_true_iff]
  have e : ∀ y : Nat, PyData.eqv (.int y) (.int x) = ((y : Int) == x) := fun y => by simp only [PyData.eqv]
  constructor
  · rintro ⟨z, hz, q⟩
    obtain ⟨i, hi, rfl⟩ := List.mem_map.mp hz
    obtain ⟨y, hy, rfl⟩ := List.mem_map.mp hi
    rw [e] at q
    exact Int.natCast_inj.mp (beq_iff_eq.mp q) ▸ hy
  · exact fun h => ⟨.int x, List.mem_map.mpr ⟨x, List.mem_map.mpr ⟨x, h, rfl⟩, rfl⟩, by rw [e]; exact beq_self_eq_true _⟩
theorem ZJu {x : Nat} {c : List Nat} {K : V → Prop} (k : K (.d (.bool (decide (x ∈ c))))) : objW .isin (.d (.int x)) (.d (pts c)) K := by
  refine (show _ ∧ _ ∧ _ from ⟨(Sh.int 0 _).shp, (Sh.ints 0 _).shp, ?_⟩)
  rw [ZFr]; exact k
theorem ZBb {x : Nat} {c : List Nat} {K : V → Prop} (k : K (.d (.bool (!decide (x ∈ c))))) : objW .notin (.d (.int x)) (.d (pts c)) K := by
  refine (show _ ∧ _ ∧ _ from ⟨(Sh.int 0 _).shp, (Sh.ints 0 _).shp, ?_⟩)
  rw [ZFr]; exact k
theorem HV {step : Rho → (Option PyData → Prop) → Prop} {ρ : Rho} {K : V → Prop} (p : List Nat → Bool) (cs : List (List Nat)) : ∀ (as : List PyData), (∀ c ∈ cs, ∀ k : Option PyData → Prop, k (cond (p c) (some (pts c)) none) → step (ρ ++ [some (.d (pts c))]) k) →
    as.length + cs.length < 1000 → K (.own (.list (as ++ (cs.filter p).map pts))) → compW step none ρ K ((cs.map pts).map .d) as := by
  induction cs with
  | nil => intro as _ hl h; rw [List.filter_nil, List.map_nil, List.append_nil] at h; exact ⟨JT hl, h⟩
  | cons c cs ih =>
    intro as h hl hk
    rw [List.length_cons] at hl
    refine h c (.head _) _ ?_
    rw [List.filter_cons] at hk
    cases q : p c with
    | false => rw [q, if_neg (by decide)] at hk; exact ih as (fun u hu => h u (.tail _ hu)) (by lia) hk
    | true =>
      rw [q, if_pos rfl, List.map_cons, ← List.singleton_append, ← List.append_assoc] at hk
      exact ih (as ++ [pts c]) (fun u hu => h u (.tail _ hu)) (by rw [List.length_append, List.length_singleton]; lia) hk
theorem ZFx {a : PyData} {r : List PyData} {K : V → Prop} (k : K (.d a)) : got (idxV (.own (.list (a :: r))) 0) K := by rw [XV (by decide) (by decide)]; exact k
noncomputable abbrev juR (m : Nat) (ts now : Ties) (rows : List Row) (a b c d e : Option V) : Rho := [some (.d (.int m)), some (.d (.list (ofPairs ts))), some (.own (.list (ofPairs now))), some (.own (.list (rows.map rw4))), a, b, c, d, e]
theorem ZHr {m : Nat} {ts now : Ties} {rows : List Row} (hz : m ≤ 10) (w : Web m now) (fl : Full m now) (l : m ≤ now.length + 1) (c1 : 1 < ncomp m now) (hr : rows.length < 100) {a b c d e : Option V} {k : KS}
    (q : ∀ r us a b c d e, Fit m now r → ncomp m (exch now r) + 1 = ncomp m now → us.Perm (exch now r) → Sd us → k .nxt (juR m ts us (rows ++ [r]) a b c d e)) :
    wpSs (wpCall T05 (n + 3)) false b_joined_up_1 (juR m ts now rows a b c d e) k (fun c _ => X c) := by
  have hl := Jz w hz
  dsimp only [b_joined_up_1, wpSs, wpS, wpE, wpL, slotW, ownS, Rho.putL, frz, bindF, setD, setAll, bindT, F1.W, F2.W, F1.quiet, seqV, numW, isNon, JN, JI, YF, YE, JF, YB, Zz, YA, Zg, ZO, YL, ZW, ZU, ZV, JD, Zv, Zc, Zb, ZH, ZG, YY, Zl, YH, ZQ, JO, YM, JC, ZS, ZT, ZJ, ZK, Zm, Zn, Zx, JE, Zy, Zu, ZL, Zf, YP, YQ, Zt, Zs, YR, YO, Za, Zr, Zq, JQ, YN, ZY, ZF, ZD, ZE, ZC, ZA, ZB, ZZ, excIs, Jj, YU, YV, YD, YC, YW, YX, Yk, Yl, Yb, Yc, Yg, Yh, Yx, Yy, Ym, Yn, Yt, Yu, Yi, Yj, Yo, YJ, YK, Jg, Jf, Ji, Jh, Yf, Yz, Yp, Yq, Yd, Ye, YZ, Ya, JL, JM, Yv, Yw, JA, JB, Jl, Jk, Ys, Yr, Nat.reduceSub, Nat.reduceAdd, YG, ZP, JR, Zj, Zo, ZX, Zp, YS, Ze, Zd, YT, Zk, JK, JP, JH, JG, Zi, Zh, ZN, ZI, ZM, Zw]
  refine HA hz w (Hn w l c1) fun e he sp => ?_
  have we := w.2 e he
  dsimp only [wpSs, wpS, wpE, wpL, slotW, ownS, Rho.putL, frz, bindF, setD, setAll, bindT, F1.W, F2.W, F1.quiet, seqV, numW, isNon, JN, JI, YF, YE, JF, YB, Zz, YA, Zg, ZO, YL, ZW, ZU, ZV, JD, Zv, Zc, Zb, ZH, ZG, YY, Zl, YH, ZQ, JO, YM, JC, ZS, ZT, ZJ, ZK, Zm, Zn, Zx, JE, Zy, Zu, ZL, Zf, YP, YQ, Zt, Zs, YR, YO, Za, Zr, Zq, JQ, YN, ZY, ZF, ZD, ZE, ZC, ZA, ZB, ZZ, excIs, Jj, YU, YV, YD, YC, YW, YX, Yk, Yl, Yb, Yc, Yg, Yh, Yx, Yy, Ym, Yn, Yt, Yu, Yi, Yj, Yo, YJ, YK, Jg, Jf, Ji, Jh, Yf, Yz, Yp, Yq, Yd, Ye, YZ, Ya, JL, JM, Yv, Yw, JA, JB, Jl, Jk, Ys, Yr, Nat.reduceSub, Nat.reduceAdd, YG, ZP, JR, Zj, Zo, ZX, Zp, YS, Ze, Zd, YT, Zk, JK, JP, JH, JG, Zi, Zh, ZN, ZI, ZM, Zw]
  refine QD m hz now (by lia) w ?_
  have el : lists ((comps m now).map zs) = .list ((comps m now).map pts) := by unfold lists; rw [List.map_map]; rfl
  rw [el]
  dsimp only [wpSs, wpS, wpE, wpL, slotW, ownS, Rho.putL, frz, bindF, setD, setAll, bindT, F1.W, F2.W, F1.quiet, seqV, numW, isNon, JN, JI, YF, YE, JF, YB, Zz, YA, Zg, ZO, YL, ZW, ZU, ZV, JD, Zv, Zc, Zb, ZH, ZG, YY, Zl, YH, ZQ, JO, YM, JC, ZS, ZT, ZJ, ZK, Zm, Zn, Zx, JE, Zy, Zu, ZL, Zf, YP, YQ, Zt, Zs, YR, YO, Za, Zr, Zq, JQ, YN, ZY, ZF, ZD, ZE, ZC, ZA, ZB, ZZ, excIs, Jj, YU, YV, YD, YC, YW, YX, Yk, Yl, Yb, Yc, Yg, Yh, Yx, Yy, Ym, Yn, Yt, Yu, Yi, Yj, Yo, YJ, YK, Jg, Jf, Ji, Jh, Yf, Yz, Yp, Yq, Yd, Ye, YZ, Ya, JL, JM, Yv, Yw, JA, JB, Jl, Jk, Ys, Yr, Nat.reduceSub, Nat.reduceAdd, YG, ZP, JR, Zj, Zo, ZX, Zp, YS, Ze, Zd, YT, Zk, JK, JP, JH, JG, Zi, Zh, ZN, ZI, ZM, Zw]
  have le := XH (ts := now) hz
  obtain ⟨cr, ec⟩ := GJ (x := e.1) w (by lia)
  refine ⟨JT (by rw [List.length_map, List.length_map, Qu]; lia), HV (fun c => decide (e.1 ∈ c)) (comps m now) [] (fun c hc kk hk => ?_) (by rw [Qu]; simp only [List.length_nil]; lia) ?_⟩
  · dsimp only [wpSs, wpS, wpE, wpL, slotW, ownS, Rho.putL, frz, bindF, setD, setAll, bindT, F1.W, F2.W, F1.quiet, seqV, numW, isNon, JN, JI, YF, YE, JF, YB, Zz, YA, Zg, ZO, YL, ZW, ZU, ZV, JD, Zv, Zc, Zb, ZH, ZG, YY, Zl, YH, ZQ, JO, YM, JC, ZS, ZT, ZJ, ZK, Zm, Zn, Zx, JE, Zy, Zu, ZL, Zf, YP, YQ, Zt, Zs, YR, YO, Za, Zr, Zq, JQ, YN, ZY, ZF, ZD, ZE, ZC, ZA, ZB, ZZ, excIs, Jj, YU, YV, YD, YC, YW, YX, Yk, Yl, Yb, Yc, Yg, Yh, Yx, Yy, Ym, Yn, Yt, Yu, Yi, Yj, Yo, YJ, YK, Jg, Jf, Ji, Jh, Yf, Yz, Yp, Yq, Yd, Ye, YZ, Ya, JL, JM, Yv, Yw, JA, JB, Jl, Jk, Ys, Yr, Nat.reduceSub, Nat.reduceAdd, YG, ZP, JR, Zj, Zo, ZX, Zp, YS, Ze, Zd, YT, Zk, JK, JP, JH, JG, Zi, Zh, ZN, ZI, ZM, Zw]
    refine ZJu ?_
    revert hk
    cases decide (e.1 ∈ c) <;> exact id
  · rw [List.nil_append, ec]
    refine ZFx ?_
    dsimp only [wpSs, wpS, wpE, wpL, slotW, ownS, Rho.putL, frz, bindF, setD, setAll, bindT, F1.W, F2.W, F1.quiet, seqV, numW, isNon, JN, JI, YF, YE, JF, YB, Zz, YA, Zg, ZO, YL, ZW, ZU, ZV, JD, Zv, Zc, Zb, ZH, ZG, YY, Zl, YH, ZQ, JO, YM, JC, ZS, ZT, ZJ, ZK, Zm, Zn, Zx, JE, Zy, Zu, ZL, Zf, YP, YQ, Zt, Zs, YR, YO, Za, Zr, Zq, JQ, YN, ZY, ZF, ZD, ZE, ZC, ZA, ZB, ZZ, excIs, Jj, YU, YV, YD, YC, YW, YX, Yk, Yl, Yb, Yc, Yg, Yh, Yx, Yy, Ym, Yn, Yt, Yu, Yi, Yj, Yo, YJ, YK, Jg, Jf, Ji, Jh, Yf, Yz, Yp, Yq, Yd, Ye, YZ, Ya, JL, JM, Yv, Yw, JA, JB, Jl, Jk, Ys, Yr, Nat.reduceSub, Nat.reduceAdd, YG, ZP, JR, Zj, Zo, ZX, Zp, YS, Ze, Zd, YT, Zk, JK, JP, JH, JG, Zi, Zh, ZN, ZI, ZM, Zw]
    obtain ⟨f0, hf0, nf0⟩ := ZHe w fl c1 e.1
    have ne : now.filter (fun t => !decide (t.1 ∈ compOf m now e.1)) ≠ [] := fun q => by
      have : f0 ∈ now.filter (fun t => !decide (t.1 ∈ compOf m now e.1)) := List.mem_filter.mpr ⟨hf0, by rw [decide_eq_false fun q => nf0 (Jq.mp q).2]; rfl⟩
      rw [q] at this; exact nomatch this
    obtain ⟨f, fr, ef⟩ := List.exists_cons_of_ne_nil ne
    have hf := List.mem_filter.mp (ef ▸ List.mem_cons_self : f ∈ now.filter (fun t => !decide (t.1 ∈ compOf m now e.1)))
    have wf := w.2 f hf.1
    have far : ¬ Cn now e.1 f.1 := fun x => by
      have h2 := hf.2
      rw [decide_eq_true (Jq.mpr ⟨by lia, x⟩)] at h2; exact nomatch h2
    rw [QH]
    refine ⟨by rw [List.length_map]; exact XF (by lia), Qt (fun t => !decide (t.1 ∈ compOf m now e.1)) now [] (fun t ht kk hk => ?_) (by simp only [List.length_nil]; lia) ?_⟩
    · dsimp only [wpSs, wpS, wpE, wpL, slotW, ownS, Rho.putL, frz, bindF, setD, setAll, bindT, F1.W, F2.W, F1.quiet, seqV, numW, isNon, JN, JI, YF, YE, JF, YB, Zz, YA, Zg, ZO, YL, ZW, ZU, ZV, JD, Zv, Zc, Zb, ZH, ZG, YY, Zl, YH, ZQ, JO, YM, JC, ZS, ZT, ZJ, ZK, Zm, Zn, Zx, JE, Zy, Zu, ZL, Zf, YP, YQ, Zt, Zs, YR, YO, Za, Zr, Zq, JQ, YN, ZY, ZF, ZD, ZE, ZC, ZA, ZB, ZZ, excIs, Jj, YU, YV, YD, YC, YW, YX, Yk, Yl, Yb, Yc, Yg, Yh, Yx, Yy, Ym, Yn, Yt, Yu, Yi, Yj, Yo, YJ, YK, Jg, Jf, Ji, Jh, Yf, Yz, Yp, Yq, Yd, Ye, YZ, Ya, JL, JM, Yv, Yw, JA, JB, Jl, Jk, Ys, Yr, Nat.reduceSub, Nat.reduceAdd, YG, ZP, JR, Zj, Zo, ZX, Zp, YS, Ze, Zd, YT, Zk, JK, JP, JH, JG, Zi, Zh, ZN, ZI, ZM, Zw]
      refine WX ?_
      rw [Zo]
      refine ZBb ?_
      revert hk
      cases decide (t.1 ∈ compOf m now e.1) <;> exact id
    · rw [List.nil_append, ef]
      refine ZFx ?_
      dsimp only [wpSs, wpS, wpE, wpL, slotW, ownS, Rho.putL, frz, bindF, setD, setAll, bindT, F1.W, F2.W, F1.quiet, seqV, numW, isNon, JN, JI, YF, YE, JF, YB, Zz, YA, Zg, ZO, YL, ZW, ZU, ZV, JD, Zv, Zc, Zb, ZH, ZG, YY, Zl, YH, ZQ, JO, YM, JC, ZS, ZT, ZJ, ZK, Zm, Zn, Zx, JE, Zy, Zu, ZL, Zf, YP, YQ, Zt, Zs, YR, YO, Za, Zr, Zq, JQ, YN, ZY, ZF, ZD, ZE, ZC, ZA, ZB, ZZ, excIs, Jj, YU, YV, YD, YC, YW, YX, Yk, Yl, Yb, Yc, Yg, Yh, Yx, Yy, Ym, Yn, Yt, Yu, Yi, Yj, Yo, YJ, YK, Jg, Jf, Ji, Jh, Yf, Yz, Yp, Yq, Yd, Ye, YZ, Ya, JL, JM, Yv, Yw, JA, JB, Jl, Jk, Ys, Yr, Nat.reduceSub, Nat.reduceAdd, YG, ZP, JR, Zj, Zo, ZX, Zp, YS, Ze, Zd, YT, Zk, JK, JP, JH, JG, Zi, Zh, ZN, ZI, ZM, Zw]
      obtain ⟨F, ej⟩ := Hv w he hf.1 sp far
      refine ⟨JT (by rw [List.length_map]; lia), ?_⟩
      have er : rows.map rw4 ++ [rw4 ⟨e.1, e.2, f.1, f.2⟩] = (rows ++ [(⟨e.1, e.2, f.1, f.2⟩ : Row)]).map rw4 := by rw [List.map_append]; rfl
      refine UA (r := ⟨e.1, e.2, f.1, f.2⟩) w F (by lia) fun us p sd => ?_
      show k .nxt [_, _, _, some (.own (.list (rows.map rw4 ++ [rw4 ⟨e.1, e.2, f.1, f.2⟩]))), _, _, _, _, _]
      rw [er]
      exact q ⟨e.1, e.2, f.1, f.2⟩ us _ _ _ _ _ F ej p sd
end
end TC

namespace TC
open PySem
structure Joins (m : Nat) (ts : Ties) : Prop where
  full : m = 1 ∨ Full m ts
  len : m ≤ ts.length + 1
theorem ZAs {m : Nat} {ts : Ties} (h : 0 < m) : 0 < ncomp m ts := by
  have : 0 ∈ reps m ts := Jr.mpr ⟨h, fun q _ => Nat.zero_le q⟩
  exact List.length_pos_of_mem this
theorem ZAr {m : Nat} {ts : Ties} : ncomp m ts ≤ m := by unfold ncomp reps; exact Nat.le_trans (List.length_filter_le ..) (by rw [List.length_range]; exact Nat.le_refl _)
theorem Vg {m : Nat} {ts us : Ties} (p : us.Perm ts) (w : Web m ts) : Web m us := ⟨p.nodup_iff.mpr w.1, fun t ht => w.2 t (p.mem_iff.mp ht)⟩
section
variable {n : Nat} {hm : Bool} {K : V → Prop} {X : Nat → Prop}
theorem VD {m : Nat} {ts : Ties} (g : GW m ts) (J : Joins m ts) (k : ∀ (rows : List Row) us, Web m us → Sd us → ncomp m us = 1 → (∀ x, cnt us x = cnt ts x) → K (.ot (.list (rows.map rw4)) (.list (ofPairs us)))) : wpCall T05 (n + 4) false 11 [.d (.int m), .d (.list (ofPairs ts))] K X := by
  have hl := Jz g.web g.le
  refine JY (fn := f_joined_up) rfl rfl (by decide) ?_
  dsimp only [f_joined_up, b_joined_up, wpSs, wpS, wpE, wpL, slotW, ownS, Rho.putL, frz, bindF, setD, setAll, bindT, F2.W, F1.quiet, seqV, numW, isNon, JN, JI, YF, YE, JF, YB, Zz, YA, Zg, ZO, YL, ZW, ZU, ZV, JD, Zv, Zc, Zb, ZH, ZG, YY, Zl, YH, ZQ, JO, YM, JC, ZS, ZT, ZJ, ZK, Zm, Zn, Zx, JE, Zy, Zu, ZL, Zf, YP, YQ, Zt, Zs, YR, YO, Za, Zr, Zq, JQ, YN, ZY, ZF, ZD, ZE, ZC, ZA, ZB, ZZ, excIs, Jj, YU, YV, YD, YC, YW, YX, Yk, Yl, Yb, Yc, Yg, Yh, Yx, Yy, Ym, Yn, Yt, Yu, Yi, Yj, Yo, YJ, YK, Jg, Jf, Ji, Jh, Yf, Yz, Yp, Yq, Yd, Ye, YZ, Ya, JL, JM, Yv, Yw, JA, JB, Jl, Jk, Ys, Yr, Nat.reduceSub, Nat.reduceAdd, YG, ZP, JR, Zj, Zo, ZX, Zp, YS, Ze, Zd, YT, Zk, JK, JP, JH, JG, Zi, Zh, ZN, ZI, ZM, Zw]
  refine Qj (v := .d (.list (ofPairs ts))) rfl g.web.1 (by lia) fun us p sd => ?_
  dsimp only [wpSs, wpS, wpE, wpL, slotW, ownS, Rho.putL, frz, bindF, setD, setAll, bindT, F1.W, F2.W, F1.quiet, seqV, numW, isNon, JN, JI, YF, YE, JF, YB, Zz, YA, Zg, ZO, YL, ZW, ZU, ZV, JD, Zv, Zc, Zb, ZH, ZG, YY, Zl, YH, ZQ, JO, YM, JC, ZS, ZT, ZJ, ZK, Zm, Zn, Zx, JE, Zy, Zu, ZL, Zf, YP, YQ, Zt, Zs, YR, YO, Za, Zr, Zq, JQ, YN, ZY, ZF, ZD, ZE, ZC, ZA, ZB, ZZ, excIs, Jj, YU, YV, YD, YC, YW, YX, Yk, Yl, Yb, Yc, Yg, Yh, Yx, Yy, Ym, Yn, Yt, Yu, Yi, Yj, Yo, YJ, YK, Jg, Jf, Ji, Jh, Yf, Yz, Yp, Yq, Yd, Ye, YZ, Ya, JL, JM, Yv, Yw, JA, JB, Jl, Jk, Ys, Yr, Nat.reduceSub, Nat.reduceAdd, YG, ZP, JR, Zj, Zo, ZX, Zp, YS, Ze, Zd, YT, Zk, JK, JP, JH, JG, Zi, Zh, ZN, ZI, ZM, Zw]
  have le0 := XH (ts := us) g.le
  refine ⟨ncomp m us + 1, WD (fun j ρ => ∃ now rows a b c d e, ρ = juR m ts now rows a b c d e ∧ Web m now ∧ (m = 1 ∨ Full m now) ∧ m ≤ now.length + 1 ∧ ncomp m now = j ∧ rows.length + j ≤ 10 ∧ Sd now ∧ ∀ x, cnt now x = cnt ts x) ?_ _ (ncomp m us) _ (Nat.lt_succ_self _)
    ⟨us, [], none, none, none, none, none, rfl, Vg p g.web, J.full.imp_right fun f x hx => (f x hx).imp fun y a => (Vt fun t => p.mem_iff).mpr a, by rw [p.length_eq]; exact J.len, rfl, by simp only [List.length_nil]; lia, sd, Xc p⟩⟩
  rintro j _ kk ⟨now, rows, a, b, c, d, e, rfl, w, fl, l, ej, lr, sd', ch⟩ cont _
  have hl2 := Jz w g.le
  dsimp only [wpSs, wpS, wpE, wpL, slotW, ownS, Rho.putL, frz, bindF, setD, setAll, bindT, F1.W, F2.W, F1.quiet, seqV, numW, isNon, JN, JI, YF, YE, JF, YB, Zz, YA, Zg, ZO, YL, ZW, ZU, ZV, JD, Zv, Zc, Zb, ZH, ZG, YY, Zl, YH, ZQ, JO, YM, JC, ZS, ZT, ZJ, ZK, Zm, Zn, Zx, JE, Zy, Zu, ZL, Zf, YP, YQ, Zt, Zs, YR, YO, Za, Zr, Zq, JQ, YN, ZY, ZF, ZD, ZE, ZC, ZA, ZB, ZZ, excIs, Jj, YU, YV, YD, YC, YW, YX, Yk, Yl, Yb, Yc, Yg, Yh, Yx, Yy, Ym, Yn, Yt, Yu, Yi, Yj, Yo, YJ, YK, Jg, Jf, Ji, Jh, Yf, Yz, Yp, Yq, Yd, Ye, YZ, Ya, JL, JM, Yv, Yw, JA, JB, Jl, Jk, Ys, Yr, Nat.reduceSub, Nat.reduceAdd, YG, ZP, JR, Zj, Zo, ZX, Zp, YS, Ze, Zd, YT, Zk, JK, JP, JH, JG, Zi, Zh, ZN, ZI, ZM, Zw]
  refine QD m g.le now (by lia) w ?_
  dsimp only [lists, wpSs, wpS, wpE, wpL, slotW, ownS, Rho.putL, frz, bindF, setD, setAll, bindT, F1.W, F2.W, F1.quiet, seqV, numW, isNon, JN, JI, YF, YE, JF, YB, Zz, YA, Zg, ZO, YL, ZW, ZU, ZV, JD, Zv, Zc, Zb, ZH, ZG, YY, Zl, YH, ZQ, JO, YM, JC, ZS, ZT, ZJ, ZK, Zm, Zn, Zx, JE, Zy, Zu, ZL, Zf, YP, YQ, Zt, Zs, YR, YO, Za, Zr, Zq, JQ, YN, ZY, ZF, ZD, ZE, ZC, ZA, ZB, ZZ, excIs, Jj, YU, YV, YD, YC, YW, YX, Yk, Yl, Yb, Yc, Yg, Yh, Yx, Yy, Ym, Yn, Yt, Yu, Yi, Yj, Yo, YJ, YK, Jg, Jf, Ji, Jh, Yf, Yz, Yp, Yq, Yd, Ye, YZ, Ya, JL, JM, Yv, Yw, JA, JB, Jl, Jk, Ys, Yr, Nat.reduceSub, Nat.reduceAdd, YG, ZP, JR, Zj, Zo, ZX, Zp, YS, Ze, Zd, YT, Zk, JK, JP, JH, JG, Zi, Zh, ZN, ZI, ZM, Zw]
  rw [XE]
  have le := XH (ts := now) g.le
  refine ⟨JT (by lia), Jv (fun gt => ?_) fun ngt => ?_⟩
  · have c1 : 1 < ncomp m now := by lia
    have nm := ZAr (m := m) (ts := now)
    have fl' := fl.resolve_left (by lia)
    refine ZHr g.le w fl' l c1 (by lia) fun r us' a b c d e F e1 p' sd2 => ?_
    refine cont (ncomp m us') _ ?_ ⟨us', rows ++ [r], a, b, c, d, e, rfl, Vg p' (F.web w), .inr fun x hx => (F.full fl' x hx).imp fun y a => (Vt fun t => p'.mem_iff).mpr a, by rw [p'.length_eq, F.len w]; exact l, rfl, ?_, sd2, fun x => ?_⟩
    · rw [Xt fun t => p'.mem_iff]; lia
    · rw [Xt fun t => p'.mem_iff, List.length_append, List.length_singleton]; lia
    · rw [Xc p' x, F.cnt w x]; exact ch x
  · have pos := ZAs (ts := now) g.pos
    exact ⟨by decide, k rows now w sd' (by lia) ch⟩
theorem ZCp (cs : List Int) (x : Int) : ((ofInts cs).any fun z => PyData.eqv z (.int x)) = decide (x ∈ cs) := by
  refine Bool.eq_iff_iff.mpr ?_
  rw [List.any_eq_true, decide_eq_true_iff]
  have e : ∀ y : Int, PyData.eqv (.int y) (.int x) = (y == x) := fun y => by simp only [PyData.eqv]
  constructor
  · rintro ⟨z, hz, q⟩
    obtain ⟨i, hi, rfl⟩ := List.mem_map.mp hz
    rw [e] at q
    exact beq_iff_eq.mp q ▸ hi
  · exact fun h => ⟨.int x, List.mem_map.mpr ⟨x, h, rfl⟩, by rw [e]; exact beq_self_eq_true _⟩
theorem ZHl {x : Int} {cs : List Int} {K : V → Prop} (k : K (.d (.bool (decide (x ∈ cs))))) : objW .isin (.d (.int x)) (.d (.list (ofInts cs))) K := by
  refine (show _ ∧ _ ∧ _ from ⟨(Sh.int 0 _).shp, (Sh.ints 0 _).shp, ?_⟩)
  rw [ZCp]; exact k
noncomputable def hindK (cs : List Int) : Option (List PyData) := cond (decide (1 < (cs.length : Int)) && decide (0 ∈ cs)) (some [.str "alone", .int (cs.idxOf 0)]) (cond (decide (cs.sum < 2 * ((cs.length : Int) - 1))) (some [.str "few"]) none)
theorem VX {cs : List Int} (hl : cs.length < 60) (k1 : hindK cs = none → K (.d .none)) (k2 : ∀ t, hindK cs = some t → K (.d (.tuple t))) : wpCall T05 (n + 1) false 9 [.d (.list (ofInts cs))] K X := by
  have l1 : (ofInts cs).length < lim := by rw [YI]; exact JT (by lia)
  refine JY (fn := f_hindered) rfl rfl (by decide) ?_
  dsimp only [f_hindered, b_hindered, wpSs, wpS, wpE, wpL, slotW, ownS, Rho.putL, frz, bindF, setD, setAll, bindT, F1.W, F2.W, F1.quiet, seqV, numW, isNon, JN, JI, YF, YE, JF, YB, Zz, YA, Zg, ZO, YL, ZW, ZU, ZV, JD, Zv, Zc, Zb, ZH, ZG, YY, Zl, YH, ZQ, JO, YM, JC, ZS, ZT, ZJ, ZK, Zm, Zn, Zx, JE, Zy, Zu, ZL, Zf, YP, YQ, Zt, Zs, YR, YO, Za, Zr, Zq, JQ, YN, ZY, ZF, ZD, ZE, ZC, ZA, ZB, ZZ, excIs, Jj, YU, YV, YD, YC, YW, YX, Yk, Yl, Yb, Yc, Yg, Yh, Yx, Yy, Ym, Yn, Yt, Yu, Yi, Yj, Yo, YJ, YK, Jg, Jf, Ji, Jh, Yf, Yz, Yp, Yq, Yd, Ye, YZ, Ya, JL, JM, Yv, Yw, JA, JB, Jl, Jk, Ys, Yr, Nat.reduceSub, Nat.reduceAdd, YG, ZP, JR, Zj, Zo, ZX, Zp, YS, Ze, Zd, YT, Zk, JK, JP, JH, JG, Zi, Zh, ZN, ZI, ZM, Zw]
  unfold hindK at k1 k2
  have rest : (decide (1 < (cs.length : Int)) && decide (0 ∈ cs)) = false → got (allOf intOf (ofInts cs)) fun is => (ofInts cs).length < lim ∧ IntMulOk 2 (↑(ofInts cs).length - 1) ∧ cond (decide (is.sum < 2 * (↑(ofInts cs).length - 1))) (K (.d (.tuple [.str "few"]))) (K (.d .none)) := fun e => by
    rw [Ja]
    refine ⟨l1, IntMulOk.of_left (by decide), ?_⟩
    rw [YI]
    rw [e] at k1 k2
    exact Jv (fun q => k2 _ (by rw [decide_eq_true q]; rfl)) fun q => k1 (by rw [decide_eq_false q]; rfl)
  rw [YI] at rest ⊢
  refine ⟨JT (by lia), Jv (fun gt => ZHl ?_) fun gt => ?_⟩
  · rw [decide_eq_true gt, Bool.true_and] at rest k1 k2
    by_cases z : (0 : Int) ∈ cs
    · rw [decide_eq_true z]
      show got (allOf intOf (ofInts cs)) _
      rw [Ja]
      exact ⟨⟨z, JT (by lia)⟩, k2 _ (by rw [decide_eq_true z]; rfl)⟩
    · rw [decide_eq_false z]
      exact rest (decide_eq_false z)
  · exact rest (by rw [decide_eq_false gt]; rfl)
end
end TC

namespace TC
open PySem
noncomputable def cntsB : PyData → Bool
  | .list xs => decide (1 ≤ xs.length) && decide (xs.length ≤ 10) && xs.all fun x => amongB x 0 20
  | _ => false
noncomputable def ShortC : PyData → Prop
  | .list xs => xs.length < 1000
  | _ => True
section
variable {n : Nat} {hm : Bool} {K : V → Prop} {X : Nat → Prop}
theorem Gg {Ko : KS} {l : Option V} {ys : List PyData} : ∀ {s1 : Option V}, ((ys.all fun x => amongB x 0 20) = true → ∀ ρ, Ko .nxt ρ) → ((ys.all fun x => amongB x 0 20) = false → X 1) →
    forW (fun x ρ' k => bindF (.one 1) x ρ' fun ρ'' => wpSs (wpCall T05 (n + 1)) false b_need_counts_1 ρ'' k (fun c _ => X c)) Ko (ys.map .d) [l, s1] := by
  induction ys with
  | nil => exact fun h _ => h rfl _
  | cons y ys ih =>
    intro s1 h1 h2
    dsimp only [forW, b_need_counts_1, wpSs, wpS, wpE, wpL, slotW, ownS, Rho.putL, frz, bindF, setD, setAll, bindT, F1.W, F2.W, F1.quiet, seqV, numW, isNon, JN, JI, YF, YE, JF, YB, Zz, YA, Zg, ZO, YL, ZW, ZU, ZV, JD, Zv, Zc, Zb, ZH, ZG, YY, Zl, YH, ZQ, JO, YM, JC, ZS, ZT, ZJ, ZK, Zm, Zn, Zx, JE, Zy, Zu, ZL, Zf, YP, YQ, Zt, Zs, YR, YO, Za, Zr, Zq, JQ, YN, ZY, ZF, ZD, ZE, ZC, ZA, ZB, ZZ, excIs, Jj, YU, YV, YD, YC, YW, YX, Yk, Yl, Yb, Yc, Yg, Yh, Yx, Yy, Ym, Yn, Yt, Yu, Yi, Yj, Yo, YJ, YK, Jg, Jf, Ji, Jh, Yf, Yz, Yp, Yq, Yd, Ye, YZ, Ya, JL, JM, Yv, Yw, JA, JB, Jl, Jk, Ys, Yr, Nat.reduceSub, Nat.reduceAdd, YG, ZP, JR, Zj, Zo, ZX, Zp, YS, Ze, Zd, YT, Zk, JK, JP, JH, JG, Zi, Zh, ZN, ZI, ZM, Zw]
    refine GD y 0 20 ?_
    rw [List.all_cons] at h1 h2
    cases e : amongB y 0 20 with
    | false => rw [e] at h2; exact ⟨rfl, h2 rfl⟩
    | true => rw [e] at h1 h2; exact ih h1 h2
theorem Gi (x : PyData) (hx : ShortC x) (h1 : cntsB x = true → K (.d .none)) (h2 : cntsB x = false → X 1) : wpCall T05 (n + 2) false 1 [.d x] K X := by
  refine JY (fn := f_need_counts) rfl rfl (by decide) ?_
  dsimp only [f_need_counts, b_need_counts, wpSs, wpS, wpE, wpL, slotW, ownS, Rho.putL, frz, bindF, setD, setAll, bindT, F1.W, F2.W, F1.quiet, seqV, numW, isNon, JN, JI, YF, YE, JF, YB, Zz, YA, Zg, ZO, YL, ZW, ZU, ZV, JD, Zv, Zc, Zb, ZH, ZG, YY, Zl, YH, ZQ, JO, YM, JC, ZS, ZT, ZJ, ZK, Zm, Zn, Zx, JE, Zy, Zu, ZL, Zf, YP, YQ, Zt, Zs, YR, YO, Za, Zr, Zq, JQ, YN, ZY, ZF, ZD, ZE, ZC, ZA, ZB, ZZ, excIs, Jj, YU, YV, YD, YC, YW, YX, Yk, Yl, Yb, Yc, Yg, Yh, Yx, Yy, Ym, Yn, Yt, Yu, Yi, Yj, Yo, YJ, YK, Jg, Jf, Ji, Jh, Yf, Yz, Yp, Yq, Yd, Ye, YZ, Ya, JL, JM, Yv, Yw, JA, JB, Jl, Jk, Ys, Yr, Nat.reduceSub, Nat.reduceAdd, YG, ZP, JR, Zj, Zo, ZX, Zp, YS, Ze, Zd, YT, Zk, JK, JP, JH, JG, Zi, Zh, ZN, ZI, ZM, Zw]
  cases x with
  | list xs =>
    have lx : xs.length < lim := JT hx
    have go : cntsB (.list xs) = (decide (1 ≤ xs.length) && decide (xs.length ≤ 10) && xs.all fun x => amongB x 0 20) := rfl
    rw [go] at h1 h2
    refine (show _ ∧ _ from ⟨lx, ?_⟩)
    refine Jv (fun l1 => ?_) fun l1 => ⟨rfl, h2 (by rw [decide_eq_false (show ¬ 1 ≤ xs.length by lia)]; rfl)⟩
    by_cases l2 : (xs.length : Int) ≤ 10
    · rw [decide_eq_true l2]
      rw [decide_eq_true (show 1 ≤ xs.length by lia), decide_eq_true (show xs.length ≤ 10 by lia)] at h1 h2
      exact ⟨by rw [List.length_map]; exact lx, Gg (fun e _ => h1 e) h2⟩
    · rw [decide_eq_false l2]
      exact ⟨rfl, h2 (by rw [decide_eq_false (show ¬ xs.length ≤ 10 by lia), Bool.and_false]; rfl)⟩
  | _ => exact ⟨rfl, h2 rfl⟩
noncomputable def rowOf (cs : List Int) : List Int := (sortI cs).reverse
noncomputable def wantS (cs : List Int) (k : Nat) : Int := ((rowOf cs).take k).sum
noncomputable def mostS (cs : List Int) (k : Nat) : Int := (k : Int) * (k - 1) + (((rowOf cs).drop k).map fun c => min c (k : Int)).sum
theorem ZIu (cs : List Int) : (rowOf cs).length = cs.length := by unfold rowOf sortI; rw [List.length_reverse, List.length_mergeSort]
noncomputable def minP (k : Nat) : V → Option PyData
  | .d (.int c) => some (.int (min c k))
  | _ => none
theorem UK (k : Nat) (l : List Int) : List.filterMap (minP k) ((ofInts l).map V.d) = ofInts (l.map fun c => min c (k : Int)) := by
  induction l with
  | nil => rfl
  | cons a l ih => exact congrArg (PyData.int (min a k) :: ·) ih
theorem ZCi (cs : List Int) (hl : cs.length ≤ 10) (k : Nat) (hk : k ≤ 10) (q : K (.d (.tuple [.int (wantS cs k), .int (mostS cs k)]))) : wpCall T05 (n + 1) false 2 [.d (.list (ofInts cs)), .d (.int k)] K X := by
  have lr := ZIu cs
  refine JY (fn := f_want_of) rfl rfl (by decide) ?_
  dsimp only [f_want_of, b_want_of, wpSs, wpS, wpE, wpL, slotW, ownS, Rho.putL, frz, bindF, setD, setAll, bindT, F1.W, F2.W, F1.quiet, seqV, numW, isNon, JN, JI, YF, YE, JF, YB, Zz, YA, Zg, ZO, YL, ZW, ZU, ZV, JD, Zv, Zc, Zb, ZH, ZG, YY, Zl, YH, ZQ, JO, YM, JC, ZS, ZT, ZJ, ZK, Zm, Zn, Zx, JE, Zy, Zu, ZL, Zf, YP, YQ, Zt, Zs, YR, YO, Za, Zr, Zq, JQ, YN, ZY, ZF, ZD, ZE, ZC, ZA, ZB, ZZ, excIs, Jj, YU, YV, YD, YC, YW, YX, Yk, Yl, Yb, Yc, Yg, Yh, Yx, Yy, Ym, Yn, Yt, Yu, Yi, Yj, Yo, YJ, YK, Jg, Jf, Ji, Jh, Yf, Yz, Yp, Yq, Yd, Ye, YZ, Ya, JL, JM, Yv, Yw, JA, JB, Jl, Jk, Ys, Yr, Nat.reduceSub, Nat.reduceAdd, YG, ZP, JR, Zj, Zo, ZX, Zp, YS, Ze, Zd, YT, Zk, JK, JP, JH, JG, Zi, Zh, ZN, ZI, ZM, Zw]
  rw [Ja]
  refine ⟨by lia, ?_⟩
  have e : ∀ i : Nat, (ofInts (rowOf cs)).drop i = ofInts ((rowOf cs).drop i) := fun i => (List.map_drop ..).symm
  have e' : ∀ i : Nat, (ofInts (rowOf cs)).take i = ofInts ((rowOf cs).take i) := fun i => (List.map_take ..).symm
  have l1 : (ofInts (rowOf cs)).length < lim := by rw [YI, lr]; exact JT (by lia)
  refine (show _ ∧ _ from ⟨⟨Int.natCast_nonneg k, Ju (by lia), l1⟩, ?_⟩)
  rw [show List.drop (k : Int).toNat (ofInts (sortI cs).reverse) = ofInts ((rowOf cs).drop k) from e k]
  have ld : ((rowOf cs).drop k).length ≤ 10 := by rw [List.length_drop]; lia
  refine (show _ ∧ _ from ⟨by rw [List.length_map, YI]; exact JT (by lia), ?_⟩)
  refine JZ (minP k) _ _ (fun x hx kk hk => ?_) ?_ ?_
  · obtain ⟨y, hy, rfl⟩ := List.mem_map.mp hx
    obtain ⟨c, _, rfl⟩ := List.mem_map.mp hy
    exact hk
  · rw [List.nil_append, UK, YI, List.length_map]; exact JT (by lia)
  · rw [List.nil_append, UK]
    dsimp only [wpSs, wpS, wpE, wpL, slotW, ownS, Rho.putL, frz, bindF, setD, setAll, bindT, F1.W, F2.W, F1.quiet, seqV, numW, isNon, JN, JI, YF, YE, JF, YB, Zz, YA, Zg, ZO, YL, ZW, ZU, ZV, JD, Zv, Zc, Zb, ZH, ZG, YY, Zl, YH, ZQ, JO, YM, JC, ZS, ZT, ZJ, ZK, Zm, Zn, Zx, JE, Zy, Zu, ZL, Zf, YP, YQ, Zt, Zs, YR, YO, Za, Zr, Zq, JQ, YN, ZY, ZF, ZD, ZE, ZC, ZA, ZB, ZZ, excIs, Jj, YU, YV, YD, YC, YW, YX, Yk, Yl, Yb, Yc, Yg, Yh, Yx, Yy, Ym, Yn, Yt, Yu, Yi, Yj, Yo, YJ, YK, Jg, Jf, Ji, Jh, Yf, Yz, Yp, Yq, Yd, Ye, YZ, Ya, JL, JM, Yv, Yw, JA, JB, Jl, Jk, Ys, Yr, Nat.reduceSub, Nat.reduceAdd, YG, ZP, JR, Zj, Zo, ZX, Zp, YS, Ze, Zd, YT, Zk, JK, JP, JH, JG, Zi, Zh, ZN, ZI, ZM, Zw]
    refine (show _ ∧ _ from ⟨⟨Int.natCast_nonneg k, Ju (by lia), l1⟩, ?_⟩)
    rw [show List.take (k : Int).toNat (ofInts (sortI cs).reverse) = ofInts ((rowOf cs).take k) from e' k]
    show got (allOf intOf (ofInts ((rowOf cs).take k))) _
    rw [Ja ((rowOf cs).take k)]
    refine (show _ ∧ _ from ⟨IntMulOk.of_le (intBits_le_64 (by lia) (by lia)) (intBits_le_64 (by lia) (by lia)) (by decide), ?_⟩)
    rw [Ja]
    exact q
theorem ZFl : ∀ (l : List Int) (a : Int), (l.foldl max a = a ∨ l.foldl max a ∈ l) ∧ a ≤ l.foldl max a ∧ ∀ x ∈ l, x ≤ l.foldl max a := by
  intro l
  induction l with
  | nil => exact fun a => ⟨.inl rfl, Int.le_refl _, nofun⟩
  | cons b l ih =>
    intro a
    obtain ⟨h1, h2, h3⟩ := ih (max a b)
    have e : (b :: l).foldl max a = l.foldl max (max a b) := rfl
    rw [e]
    refine ⟨?_, by lia, fun x hx => ?_⟩
    · rcases h1 with h | h
      · by_cases c : a ≤ b
        · exact .inr (by rw [h, show max a b = b by lia]; exact .head _)
        · exact .inl (by rw [h]; lia)
      · exact .inr (.tail _ h)
    · rcases List.mem_cons.mp hx with rfl | hx
      · lia
      · exact h3 x hx
theorem ZAf {l : List Int} (h : l ≠ []) : ∃ m, maxL l = some m ∧ m ∈ l ∧ ∀ x ∈ l, x ≤ m := by
  cases l with
  | nil => exact absurd rfl h
  | cons a l =>
    obtain ⟨h1, h2, h3⟩ := ZFl l a
    refine ⟨l.foldl max a, rfl, h1.elim (fun e => by rw [e]; exact .head _) (.tail _), fun x hx => ?_⟩
    rcases List.mem_cons.mp hx with rfl | hx
    · exact h2
    · exact h3 x hx
theorem ZFu {l : List Int} {i : Nat} (h : i < l.length) : gd l i ∈ l := by
  show l.getD i 0 ∈ l
  rw [List.getD_eq_getElem?_getD, List.getElem?_eq_getElem h]; exact List.getElem_mem h
theorem ZJq {l : List Int} {m : Int} (h : m ∈ l) : l.idxOf m < l.length ∧ gd l (l.idxOf m) = m := by
  have lt := List.idxOf_lt_length_of_mem h
  refine ⟨lt, ?_⟩
  show l.getD _ 0 = m
  rw [List.getD_eq_getElem?_getD, List.getElem?_eq_getElem lt]
  exact List.getElem_idxOf lt
noncomputable def ky (l : List Int) (i : Nat) : List Int := [0 - gd l i, (i : Int)]
noncomputable def kyP (l : List Int) (p : Nat) : V → Option PyData
  | .d (.int i) => cond (decide (i = (p : Int))) none (some (.tuple [.int (0 - gd l i.toNat), .int i]))
  | _ => none
theorem WZ (l : List Int) (p m : Nat) : List.filterMap (kyP l p) ((rangeL m).map fun i => V.d (.int i)) = ofTups (((List.range m).filter fun i => decide (i ≠ p)).map (ky l)) := by
  unfold ofTups
  rw [Vj, List.map_map, List.filterMap_map, List.map_map]
  induction List.range m with
  | nil => rfl
  | cons i r ih =>
    have e : (kyP l p ∘ (fun i => V.d (PyData.int i)) ∘ fun (i : Nat) => (i : Int)) i = cond (decide (i = p)) none (some (.tuple (ofInts (ky l i)))) := by
      show cond (decide ((i : Int) = p)) none (some _) = _
      rw [decide_eq_decide.mpr (Int.natCast_inj (m := i) (n := p))]; rfl
    rw [List.filterMap_cons, List.filter_cons, e, decide_not]
    cases decide (i = p) with
    | true => exact ih
    | false => exact congrArg (PyData.tuple (ofInts (ky l i)) :: ·) ih
theorem GA (ts : List (List Int)) : allOf tupOf (ofTups ts) = some ts := by
  induction ts with
  | nil => rfl
  | cons t ts ih =>
    show ((allOf intOf (ofInts t)).bind fun a => (allOf tupOf (ofTups ts)).map (a :: ·)) = _
    rw [Ja, ih]; rfl
theorem ZJx {l : List Int} {i j : Nat} (h : ky l i = ky l j) : i = j := by
  injection h with _ h; injection h with h _; exact Int.natCast_inj.mp h
theorem ZBd {l : List Int} {p m : Nat} (hp : p < m) : ∃ os : List Nat, sortT (((List.range m).filter fun i => decide (i ≠ p)).map (ky l)) = os.map (ky l) ∧ (p :: os).Perm (List.range m) ∧ os.Pairwise fun i j => gd l j ≤ gd l i := by
  have pm : (sortT (((List.range m).filter fun i => decide (i ≠ p)).map (ky l))).Perm (((List.range m).filter fun i => decide (i ≠ p)).map (ky l)) := List.mergeSort_perm _ _
  have le := Wu (((List.range m).filter fun i => decide (i ≠ p)).map (ky l))
  generalize sortT (((List.range m).filter fun i => decide (i ≠ p)).map (ky l)) = st at *
  have un : (st.map fun t => (t.getD 1 0).toNat).map (ky l) = st := by
    rw [List.map_map]
    refine (List.map_congr_left fun t ht => ?_).trans (List.map_id _)
    obtain ⟨i, _, rfl⟩ := List.mem_map.mp (pm.mem_iff.mp ht)
    rfl
  refine ⟨st.map fun t => (t.getD 1 0).toNat, un.symm, ?_, ?_⟩
  · have q := pm.map fun t : List Int => (t.getD 1 0).toNat
    rw [List.map_map, show ((fun t : List Int => (t.getD 1 0).toNat) ∘ ky l) = id from rfl, List.map_id] at q
    refine (q.cons p).trans ((List.perm_ext_iff_of_nodup (List.nodup_cons.mpr ⟨fun z => ?_, List.nodup_range.filter _⟩) List.nodup_range).mpr fun x => ?_)
    · exact of_decide_eq_true (List.mem_filter.mp z).2 rfl
    · rw [List.mem_cons, List.mem_filter, decide_eq_true_iff, List.mem_range]
      constructor
      · rintro (rfl | h)
        · exact hp
        · exact h.1
      · intro h
        by_cases c : x = p
        · exact .inl c
        · exact .inr ⟨h, c⟩
  · rw [← un, List.pairwise_map] at le
    refine le.imp fun {i j} h => ?_
    rcases List.cons_le_cons_iff.mp h with h | h
    · lia
    · have := h.1; lia
noncomputable abbrev ldR (cs l : List Int) (T : Ties) (a b c d : Option V) : Rho := [some (.d (.list (ofInts cs))), some (.own (.list (ofInts l))), some (.own (.list (ofPairs T))), a, b, c, d]
theorem ZCc {α : Type} {l : List α} {i : Nat} (h : i < l.length) : l.take (i + 1) = l.take i ++ [l[i]] := by
  rw [List.take_add_one, List.getElem?_eq_getElem h]; rfl
theorem Hz {cs l : List Int} {T : Ties} {m p : Nat} {os : List Nat} (hz : m ≤ 10) (hl : l.length = m) (ht : T.length ≤ 45) (hp : p < m) (pm : (p :: os).Perm (List.range m)) {k : Nat} (hk : k ≤ os.length) {c d : Option V} {Ko : KS}
    (q : ∀ c d, Ko .nxt (ldR cs ((os.take k).foldl dec1 l) (T ++ (os.take k).map (tie p)) (some (.d (.int p))) (some (.d (.list (ofTups (os.map (ky l)))))) c d)) :
    forW (fun x ρ' k => bindF (.one 5) x ρ' fun ρ'' => wpSs (wpCall T05 (n + 1)) false b_laid_1 ρ'' k (fun c _ => X c)) Ko ((rangeL k).map fun i => .d (.int i)) (ldR cs l T (some (.d (.int p))) (some (.d (.list (ofTups (os.map (ky l)))))) c d) := by
  have lo : os.length + 1 = m := by have := pm.length_eq; rw [List.length_cons, List.length_range] at this; exact this
  refine QB _ (fun i ρ => ∃ c d, ρ = ldR cs ((os.take i).foldl dec1 l) (T ++ (os.take i).map (tie p)) (some (.d (.int p))) (some (.d (.list (ofTups (os.map (ky l)))))) c d) ?_ ?_ _ ⟨c, d, by rw [List.take_zero, List.map_nil, List.append_nil]; rfl⟩
  · rintro ρ ⟨c, d, rfl⟩
    rw [Jb]
    exact q c d
  · rintro i hi ρ kk ⟨c, d, rfl⟩ cont _
    have hi' : i < k := by rw [Jb] at hi; exact hi
    have lt : i < os.length := by lia
    have om : os[i] < m := List.mem_range.mp (pm.mem_iff.mp (.tail _ (List.getElem_mem lt)))
    rw [QO]
    dsimp only [b_laid_1, wpSs, wpS, wpE, wpL, slotW, ownS, Rho.putL, frz, bindF, setD, setAll, bindT, F1.W, F2.W, F1.quiet, seqV, numW, isNon, JN, JI, YF, YE, JF, YB, Zz, YA, Zg, ZO, YL, ZW, ZU, ZV, JD, Zv, Zc, Zb, ZH, ZG, YY, Zl, YH, ZQ, JO, YM, JC, ZS, ZT, ZJ, ZK, Zm, Zn, Zx, JE, Zy, Zu, ZL, Zf, YP, YQ, Zt, Zs, YR, YO, Za, Zr, Zq, JQ, YN, ZY, ZF, ZD, ZE, ZC, ZA, ZB, ZZ, excIs, Jj, YU, YV, YD, YC, YW, YX, Yk, Yl, Yb, Yc, Yg, Yh, Yx, Yy, Ym, Yn, Yt, Yu, Yi, Yj, Yo, YJ, YK, Jg, Jf, Ji, Jh, Yf, Yz, Yp, Yq, Yd, Ye, YZ, Ya, JL, JM, Yv, Yw, JA, JB, Jl, Jk, Ys, Yr, Nat.reduceSub, Nat.reduceAdd, YG, ZP, JR, Zj, Zo, ZX, Zp, YS, Ze, Zd, YT, Zk, JK, JP, JH, JG, Zi, Zh, ZN, ZI, ZM, Zw]
    rw [Vh (Int.natCast_nonneg i) (by lia)]
    have e1 : (ofTups (os.map (ky l)))[(i : Int).toNat]? = some (.tuple [.int (0 - gd l os[i]), .int (os[i] : Nat)]) := by
      unfold ofTups
      rw [Int.toNat_natCast, List.getElem?_map, List.getElem?_map, List.getElem?_eq_getElem lt]; rfl
    rw [e1]
    refine (show got (idxV (.d (.tuple [.int (0 - gd l os[i]), .int (os[i] : Nat)])) 1) _ from ZFy ?_)
    dsimp only [wpSs, wpS, wpE, wpL, slotW, ownS, Rho.putL, frz, bindF, setD, setAll, bindT, F1.W, F2.W, F1.quiet, seqV, numW, isNon, JN, JI, YF, YE, JF, YB, Zz, YA, Zg, ZO, YL, ZW, ZU, ZV, JD, Zv, Zc, Zb, ZH, ZG, YY, Zl, YH, ZQ, JO, YM, JC, ZS, ZT, ZJ, ZK, Zm, Zn, Zx, JE, Zy, Zu, ZL, Zf, YP, YQ, Zt, Zs, YR, YO, Za, Zr, Zq, JQ, YN, ZY, ZF, ZD, ZE, ZC, ZA, ZB, ZZ, excIs, Jj, YU, YV, YD, YC, YW, YX, Yk, Yl, Yb, Yc, Yg, Yh, Yx, Yy, Ym, Yn, Yt, Yu, Yi, Yj, Yo, YJ, YK, Jg, Jf, Ji, Jh, Yf, Yz, Yp, Yq, Yd, Ye, YZ, Ya, JL, JM, Yv, Yw, JA, JB, Jl, Jk, Ys, Yr, Nat.reduceSub, Nat.reduceAdd, YG, ZP, JR, Zj, Zo, ZX, Zp, YS, Ze, Zd, YT, Zk, JK, JP, JH, JG, Zi, Zh, ZN, ZI, ZM, Zw]
    refine QK p os[i] ?_
    have tl : ((os.take i).map (tie p)).length ≤ 10 := by rw [List.length_map, List.length_take]; lia
    refine (show _ ∧ _ from ⟨by rw [JS, List.length_append]; exact JT (by lia), ?_⟩)
    have ll : ((os.take i).foldl dec1 l).length = m := by rw [Xe, hl]
    refine QG (cs := (os.take i).foldl dec1 l) (p := os[i]) (by rw [ll]; exact om) (by lia) ?_
    refine (show _ ∧ _ from ⟨⟨Int.natCast_nonneg _, by rw [YI, ll]; lia, Ju (by lia)⟩, ?_⟩)
    refine cont _ ⟨some (.d (.int i)), some (.d (.int (os[i] : Nat))), ?_⟩
    rw [ZCc lt, List.foldl_append, List.map_append, ← List.append_assoc]
    have e2 : (ofInts ((os.take i).foldl dec1 l)).set ((os[i] : Nat) : Int).toNat (.int (gd ((os.take i).foldl dec1 l) os[i] - 1)) = ofInts (List.foldl dec1 ((os.take i).foldl dec1 l) [os[i]]) := by
      rw [Int.toNat_natCast, XU]; rfl
    show [_, some (V.own (.list (List.set _ _ _))), some (V.own (.list (ofPairs (T ++ (os.take i).map (tie p)) ++ [pr (tie p os[i])]))), _, _, _, _] = _
    rw [e2]
    rw [show ofPairs (T ++ (os.take i).map (tie p)) ++ [pr (tie p os[i])] = ofPairs (T ++ (os.take i).map (tie p) ++ [os[i]].map (tie p)) from Jm (T ++ (os.take i).map (tie p)) [tie p os[i]]]
theorem Hy {cs : List Int} {m : Nat} (hl : cs.length = m) (h0 : 0 < m) (hz : m ≤ 10) (L0 : Lay m cs cs []) (q : ∀ us : Ties, Web m us → Sd us → (∀ x, x < m → (cnt us x : Int) = gd cs x) → K (.own (.list (ofPairs us)))) : wpCall T05 (n + 2) false 6 [.d (.list (ofInts cs))] K X := by
  refine JY (fn := f_laid) rfl rfl (by decide) ?_
  dsimp only [f_laid, b_laid, wpSs, wpS, wpE, wpL, slotW, ownS, Rho.putL, frz, bindF, setD, setAll, bindT, F1.W, F2.W, F1.quiet, seqV, numW, isNon, JN, JI, YF, YE, JF, YB, Zz, YA, Zg, ZO, YL, ZW, ZU, ZV, JD, Zv, Zc, Zb, ZH, ZG, YY, Zl, YH, ZQ, JO, YM, JC, ZS, ZT, ZJ, ZK, Zm, Zn, Zx, JE, Zy, Zu, ZL, Zf, YP, YQ, Zt, Zs, YR, YO, Za, Zr, Zq, JQ, YN, ZY, ZF, ZD, ZE, ZC, ZA, ZB, ZZ, excIs, Jj, YU, YV, YD, YC, YW, YX, Yk, Yl, Yb, Yc, Yg, Yh, Yx, Yy, Ym, Yn, Yt, Yu, Yi, Yj, Yo, YJ, YK, Jg, Jf, Ji, Jh, Yf, Yz, Yp, Yq, Yd, Ye, YZ, Ya, JL, JM, Yv, Yw, JA, JB, Jl, Jk, Ys, Yr, Nat.reduceSub, Nat.reduceAdd, YG, ZP, JR, Zj, Zo, ZX, Zp, YS, Ze, Zd, YT, Zk, JK, JP, JH, JG, Zi, Zh, ZN, ZI, ZM, Zw]
  refine ⟨by rw [YI]; exact JT (by lia), ?_⟩
  refine ⟨(sm (List.range m) (gd cs)).toNat + 1, WD (fun j ρ => ∃ l T a b c d, ρ = ldR cs l T a b c d ∧ Lay m cs l T ∧ (sm (List.range m) (gd l)).toNat = j) ?_ _ _ _ (Nat.lt_succ_self _) ⟨cs, [], none, none, none, none, rfl, L0, rfl⟩⟩
  rintro j _ kk ⟨l, T, a, b, c, d, rfl, L, ej⟩ cont _
  have lm := L.len
  have ht := Jz L.web hz
  obtain ⟨mx, e1, hmx, top⟩ := ZAf (l := l) fun e => by rw [e] at lm; simp only [List.length_nil] at lm; lia
  dsimp only [wpSs, wpS, wpE, wpL, slotW, ownS, Rho.putL, frz, bindF, setD, setAll, bindT, F1.W, F2.W, F1.quiet, seqV, numW, isNon, JN, JI, YF, YE, JF, YB, Zz, YA, Zg, ZO, YL, ZW, ZU, ZV, JD, Zv, Zc, Zb, ZH, ZG, YY, Zl, YH, ZQ, JO, YM, JC, ZS, ZT, ZJ, ZK, Zm, Zn, Zx, JE, Zy, Zu, ZL, Zf, YP, YQ, Zt, Zs, YR, YO, Za, Zr, Zq, JQ, YN, ZY, ZF, ZD, ZE, ZC, ZA, ZB, ZZ, excIs, Jj, YU, YV, YD, YC, YW, YX, Yk, Yl, Yb, Yc, Yg, Yh, Yx, Yy, Ym, Yn, Yt, Yu, Yi, Yj, Yo, YJ, YK, Jg, Jf, Ji, Jh, Yf, Yz, Yp, Yq, Yd, Ye, YZ, Ya, JL, JM, Yv, Yw, JA, JB, Jl, Jk, Ys, Yr, Nat.reduceSub, Nat.reduceAdd, YG, ZP, JR, Zj, Zo, ZX, Zp, YS, Ze, Zd, YT, Zk, JK, JP, JH, JG, Zi, Zh, ZN, ZI, ZM, Zw]
  rw [Ja]
  show got (maxL l) _
  rw [e1]
  refine (show cond (decide (0 < mx)) _ _ from Jv (fun pos => ?_) fun npos => ?_)
  · obtain ⟨pl, eg⟩ := ZJq hmx
    have hp : l.idxOf mx < m := by lia
    obtain ⟨p, ep⟩ : ∃ p, p = l.idxOf mx := ⟨_, rfl⟩
    rw [← ep] at hp eg pl
    have pos' : 0 < gd l p := by rw [eg]; exact pos
    obtain ⟨os, eo, pm, so⟩ := ZBd (l := l) hp
    obtain ⟨kl, L', lt⟩ := L.turn hp pos' pm so
    have lo : os.length + 1 = m := by have := pm.length_eq; rw [List.length_cons, List.length_range] at this; exact this
    dsimp only [b_laid_3, wpSs, wpS, wpE, wpL, slotW, ownS, Rho.putL, frz, bindF, setD, setAll, bindT, F1.W, F2.W, F1.quiet, seqV, numW, isNon, JN, JI, YF, YE, JF, YB, Zz, YA, Zg, ZO, YL, ZW, ZU, ZV, JD, Zv, Zc, Zb, ZH, ZG, YY, Zl, YH, ZQ, JO, YM, JC, ZS, ZT, ZJ, ZK, Zm, Zn, Zx, JE, Zy, Zu, ZL, Zf, YP, YQ, Zt, Zs, YR, YO, Za, Zr, Zq, JQ, YN, ZY, ZF, ZD, ZE, ZC, ZA, ZB, ZZ, excIs, Jj, YU, YV, YD, YC, YW, YX, Yk, Yl, Yb, Yc, Yg, Yh, Yx, Yy, Ym, Yn, Yt, Yu, Yi, Yj, Yo, YJ, YK, Jg, Jf, Ji, Jh, Yf, Yz, Yp, Yq, Yd, Ye, YZ, Ya, JL, JM, Yv, Yw, JA, JB, Jl, Jk, Ys, Yr, Nat.reduceSub, Nat.reduceAdd, YG, ZP, JR, Zj, Zo, ZX, Zp, YS, Ze, Zd, YT, Zk, JK, JP, JH, JG, Zi, Zh, ZN, ZI, ZM, Zw]
    rw [Ja]
    show got (maxL l) _
    rw [e1]
    refine (show _ ∧ _ from ⟨⟨hmx, JT (by lia)⟩, ?_⟩)
    rw [← ep, YI, lm]
    refine (show _ ∧ _ ∧ _ ∧ _ from ⟨JT (by lia), rngOk (by first | assumption | lia), rngLen (by first | assumption | lia), ?_⟩)
    refine JZ (kyP l p) _ _ (fun x hx kk' hk => ?_) ?_ ?_
    · obtain ⟨i, hi, rfl⟩ := List.mem_map.mp hx
      obtain ⟨i, hi', rfl⟩ := List.mem_map.mp hi
      have hi' : i < m := List.mem_range.mp hi'
      replace hk : kk' (cond (decide ((i : Int) = p)) none (some (.tuple [.int (0 - gd l i), .int i]))) := hk
      dsimp only [wpSs, wpS, wpE, wpL, slotW, ownS, Rho.putL, frz, bindF, setD, setAll, bindT, F1.W, F2.W, F1.quiet, seqV, numW, isNon, JN, JI, YF, YE, JF, YB, Zz, YA, Zg, ZO, YL, ZW, ZU, ZV, JD, Zv, Zc, Zb, ZH, ZG, YY, Zl, YH, ZQ, JO, YM, JC, ZS, ZT, ZJ, ZK, Zm, Zn, Zx, JE, Zy, Zu, ZL, Zf, YP, YQ, Zt, Zs, YR, YO, Za, Zr, Zq, JQ, YN, ZY, ZF, ZD, ZE, ZC, ZA, ZB, ZZ, excIs, Jj, YU, YV, YD, YC, YW, YX, Yk, Yl, Yb, Yc, Yg, Yh, Yx, Yy, Ym, Yn, Yt, Yu, Yi, Yj, Yo, YJ, YK, Jg, Jf, Ji, Jh, Yf, Yz, Yp, Yq, Yd, Ye, YZ, Ya, JL, JM, Yv, Yw, JA, JB, Jl, Jk, Ys, Yr, Nat.reduceSub, Nat.reduceAdd, YG, ZP, JR, Zj, Zo, ZX, Zp, YS, Ze, Zd, YT, Zk, JK, JP, JH, JG, Zi, Zh, ZN, ZI, ZM, Zw]
      by_cases c : (i : Int) = p
      · rw [decide_eq_true c] at hk ⊢; exact hk
      · rw [decide_eq_false c] at hk ⊢
        exact QG (by lia) (by lia) hk
    · rw [List.nil_append, WZ]
      unfold ofTups
      rw [List.length_map, List.length_map]
      exact JT (Nat.lt_of_le_of_lt (List.length_filter_le ..) (by rw [List.length_range]; lia))
    · rw [List.nil_append, WZ]
      have nd : (((List.range m).filter fun i => decide (i ≠ p)).map (ky l)).Nodup := List.Pairwise.map _ (fun a b ne q => ne (ZJx q)) (List.nodup_range.filter _)
      have ll : (((List.range m).filter fun i => decide (i ≠ p)).map (ky l)).length = os.length := by
        have q := congrArg List.length eo
        unfold sortT at q
        rw [List.length_mergeSort] at q
        rw [q, List.length_map]
      have no : [] ∉ (((List.range m).filter fun i => decide (i ≠ p)).map (ky l)) := fun q => by obtain ⟨_, _, e⟩ := List.mem_map.mp q; exact nomatch e
      generalize ((List.range m).filter fun i => decide (i ≠ p)).map (ky l) = ots at *
      show Option.elim (allOf intOf (ofTups ots)) _ _
      have en : allOf intOf (ofTups ots) = none := by
        cases ots with
        | nil => simp only [List.length_nil] at ll; lia
        | cons a r => rfl
      rw [en]
      show got (allOf tupOf (ofTups ots)) _
      rw [GA]
      refine (show _ ∧ _ from ⟨⟨by lia, nd, no⟩, ?_⟩)
      rw [eo]
      refine QG (by lia) (by lia) ?_
      obtain ⟨k, hk⟩ : ∃ k : Nat, gd l p = k := ⟨_, (Int.toNat_of_nonneg (Int.le_of_lt pos')).symm⟩
      have hk' : (gd l p).toNat = k := by rw [hk]; rfl
      rw [hk'] at kl L' lt
      rw [show l.getD p 0 = (k : Int) from hk]
      dsimp only [wpSs, wpS, wpE, wpL, slotW, ownS, Rho.putL, frz, bindF, setD, setAll, bindT, F1.W, F2.W, F1.quiet, seqV, numW, isNon, JN, JI, YF, YE, JF, YB, Zz, YA, Zg, ZO, YL, ZW, ZU, ZV, JD, Zv, Zc, Zb, ZH, ZG, YY, Zl, YH, ZQ, JO, YM, JC, ZS, ZT, ZJ, ZK, Zm, Zn, Zx, JE, Zy, Zu, ZL, Zf, YP, YQ, Zt, Zs, YR, YO, Za, Zr, Zq, JQ, YN, ZY, ZF, ZD, ZE, ZC, ZA, ZB, ZZ, excIs, Jj, YU, YV, YD, YC, YW, YX, Yk, Yl, Yb, Yc, Yg, Yh, Yx, Yy, Ym, Yn, Yt, Yu, Yi, Yj, Yo, YJ, YK, Jg, Jf, Ji, Jh, Yf, Yz, Yp, Yq, Yd, Ye, YZ, Ya, JL, JM, Yv, Yw, JA, JB, Jl, Jk, Ys, Yr, Nat.reduceSub, Nat.reduceAdd, YG, ZP, JR, Zj, Zo, ZX, Zp, YS, Ze, Zd, YT, Zk, JK, JP, JH, JG, Zi, Zh, ZN, ZI, ZM, Zw]
      refine ⟨rngOk (by first | assumption | lia), rngLen (by first | assumption | lia), Hz hz lm ht hp pm kl fun c d => ?_⟩
      dsimp only [b_laid_2, wpSs, wpS, wpE, wpL, slotW, ownS, Rho.putL, frz, bindF, setD, setAll, bindT, F1.W, F2.W, F1.quiet, seqV, numW, isNon, JN, JI, YF, YE, JF, YB, Zz, YA, Zg, ZO, YL, ZW, ZU, ZV, JD, Zv, Zc, Zb, ZH, ZG, YY, Zl, YH, ZQ, JO, YM, JC, ZS, ZT, ZJ, ZK, Zm, Zn, Zx, JE, Zy, Zu, ZL, Zf, YP, YQ, Zt, Zs, YR, YO, Za, Zr, Zq, JQ, YN, ZY, ZF, ZD, ZE, ZC, ZA, ZB, ZZ, excIs, Jj, YU, YV, YD, YC, YW, YX, Yk, Yl, Yb, Yc, Yg, Yh, Yx, Yy, Ym, Yn, Yt, Yu, Yi, Yj, Yo, YJ, YK, Jg, Jf, Ji, Jh, Yf, Yz, Yp, Yq, Yd, Ye, YZ, Ya, JL, JM, Yv, Yw, JA, JB, Jl, Jk, Ys, Yr, Nat.reduceSub, Nat.reduceAdd, YG, ZP, JR, Zj, Zo, ZX, Zp, YS, Ze, Zd, YT, Zk, JK, JP, JH, JG, Zi, Zh, ZN, ZI, ZM, Zw]
      refine ⟨⟨Int.natCast_nonneg _, by rw [YI, Xe, lm]; lia, Ju (by lia)⟩, ?_⟩
      rw [Int.toNat_natCast, XU]
      have n0 := QJ (P := List.range m) (f := gd (((os.take k).foldl dec1 l).set p 0)) fun i hi => L'.nonneg (List.mem_range.mp hi)
      exact cont _ _ (by lia) ⟨_, _, _, _, _, _, rfl, L', rfl⟩
  · refine Qj (v := .brw (.list (ofPairs T))) rfl L.web.1 (by lia) fun us p sd => ?_
    refine q us (Vg p L.web) sd fun x hx => ?_
    rw [Xc p x]
    exact L.done (fun y hy => Int.le_trans (top _ (ZFu (by lia))) (by lia)) x hx
end
end TC

namespace TC
open PySem
theorem ZJr (cs : List Int) (a b c : Nat) (h1 : decide (gd cs b ≤ gd cs a) = true) (h2 : decide (gd cs c ≤ gd cs b) = true) : decide (gd cs c ≤ gd cs a) = true := decide_eq_true (Int.le_trans (of_decide_eq_true h2) (of_decide_eq_true h1))
theorem ZFw (cs : List Int) (a b : Nat) : (decide (gd cs b ≤ gd cs a) || decide (gd cs a ≤ gd cs b)) = true := by
  rw [Bool.or_eq_true, decide_eq_true_iff, decide_eq_true_iff]; exact Int.le_total ..
theorem ZGb (cs : List Int) : (List.range cs.length).map (gd cs) = cs := by
  refine List.ext_getElem (by rw [List.length_map, List.length_range]) fun i h1 h2 => ?_
  rw [List.getElem_map, List.getElem_range]
  show cs.getD i 0 = _
  rw [List.getD_eq_getElem?_getD, List.getElem?_eq_getElem h2]; rfl
theorem Wl (cs : List Int) : ∃ ps : List Nat, ps.Perm (List.range cs.length) ∧ (ps.Pairwise fun i j => gd cs j ≤ gd cs i) ∧ rowOf cs = ps.map (gd cs) := by
  refine ⟨(List.range cs.length).mergeSort (fun i j => decide (gd cs j ≤ gd cs i)), List.mergeSort_perm _ _, (List.pairwise_mergeSort (ZJr cs) (ZFw cs) _).imp of_decide_eq_true, ?_⟩
  have p1 : (rowOf cs).Perm cs := (List.reverse_perm _).trans (List.mergeSort_perm _ _)
  have p2 : (((List.range cs.length).mergeSort (fun i j => decide (gd cs j ≤ gd cs i))).map (gd cs)).Perm cs := by
    have := (List.mergeSort_perm (List.range cs.length) (fun i j => decide (gd cs j ≤ gd cs i))).map (gd cs)
    rw [ZGb] at this; exact this
  refine List.Perm.eq_of_pairwise (le := fun a b : Int => b ≤ a) (fun x y _ _ p q => Int.le_antisymm q p) ?_ ?_ (p1.trans p2.symm)
  · unfold rowOf
    rw [List.pairwise_reverse]
    exact (List.pairwise_mergeSort (le := fun a b : Int => decide (a ≤ b)) (fun a b c h1 h2 => decide_eq_true (Int.le_trans (of_decide_eq_true h1) (of_decide_eq_true h2))) (fun a b => by rw [Bool.or_eq_true, decide_eq_true_iff, decide_eq_true_iff]; exact Int.le_total ..) _).imp of_decide_eq_true
  · rw [List.pairwise_map]
    exact (List.pairwise_mergeSort (ZJr cs) (ZFw cs) _).imp of_decide_eq_true
theorem ZCh {cs : List Int} {ps : List Nat} (e : rowOf cs = ps.map (gd cs)) (k : Nat) : wantS cs k = sm (ps.take k) (gd cs) ∧ mostS cs k = (k : Int) * (k - 1) + sm (ps.drop k) (fun i => min (gd cs i) k) := by
  unfold wantS mostS sm
  rw [e, ← List.map_take, ← List.map_drop, List.map_map]
  exact ⟨rfl, rfl⟩
theorem Hd {cs : List Int} (h0 : ∀ i, 0 ≤ gd cs i) (h : ∀ k, k ≤ cs.length → wantS cs k ≤ mostS cs k) : EG (List.range cs.length) (gd cs) := by
  obtain ⟨ps, pm, so, e⟩ := Wl cs
  refine GN h0 pm so fun k hk => ?_
  obtain ⟨e1, e2⟩ := ZCh e k
  rw [← e1, ← e2]; exact h k hk
theorem ZHf {m : Nat} {ts : Ties} {i : Nat} (h : i < m) : gd (ctL m ts) i = cnt ts i := by
  show (ctL m ts).getD i 0 = _
  unfold ctL
  rw [List.getD_eq_getElem?_getD, List.getElem?_map, List.getElem?_range h]; rfl
theorem UI (m : Nat) (ts : Ties) : (ctL m ts).length = m := by unfold ctL; rw [List.length_map, List.length_range]
theorem Gu {m : Nat} {ts : Ties} (w : Web m ts) (k : Nat) (hk : k ≤ m) : wantS (ctL m ts) k ≤ mostS (ctL m ts) k := by
  obtain ⟨ps, pm, so, e⟩ := Wl (ctL m ts)
  rw [UI] at pm
  obtain ⟨e1, e2⟩ := ZCh e k
  rw [e1, e2]
  have lt : ∀ i ∈ ps, i < m := fun i hi => List.mem_range.mp (pm.mem_iff.mp hi)
  rw [JX (g := fun i => (cnt ts i : Int)) fun i hi => ZHf (lt i (List.mem_of_mem_take hi)), JX (P := ps.drop k) (g := fun i => min (cnt ts i : Int) k) fun i hi => by rw [ZHf (lt i (List.mem_of_mem_drop hi))]]
  exact Uy w pm k hk
theorem XW {m : Nat} {ts : Ties} (w : Web m ts) : (ctL m ts).sum = 2 * (ts.length : Int) := by
  have := WL w
  rw [← this, ← ZBt, UI]
  exact JX fun i hi => ZHf (List.mem_range.mp hi)
theorem ZKs {m : Nat} {us : Ties} {cs : List Int} (hl : cs.length = m) (h : ∀ x, x < m → (cnt us x : Int) = gd cs x) : ctL m us = cs := by
  have : (List.range m).map (fun p => (cnt us p : Int)) = (List.range cs.length).map (gd cs) := by
    rw [hl]; exact List.map_congr_left fun x hx => h x (List.mem_range.mp hx)
  rw [ZGb] at this
  exact this
structure GC (cs : List Int) : Prop where
  pos : 0 < cs.length
  le : cs.length ≤ 10
  rng : ∀ c ∈ cs, 0 ≤ c ∧ c ≤ 20
theorem GC.ok {cs : List Int} (g : GC cs) : cntsB (.list (ofInts cs)) = true := by
  have h1 := g.pos
  have h2 := g.le
  show (decide (1 ≤ (ofInts cs).length) && decide ((ofInts cs).length ≤ 10) && (ofInts cs).all fun x => amongB x 0 20) = true
  rw [YI, decide_eq_true (show 1 ≤ cs.length by lia), decide_eq_true (show cs.length ≤ 10 by lia)]
  show ((ofInts cs).all fun x => amongB x 0 20) = true
  refine List.all_eq_true.mpr fun x hx => ?_
  obtain ⟨i, hi, rfl⟩ := List.mem_map.mp hx
  have := g.rng i hi
  show (decide (0 ≤ i) && decide (i ≤ 20)) = true
  rw [decide_eq_true this.1, decide_eq_true this.2]; rfl
theorem GC.nonneg {cs : List Int} (g : GC cs) (i : Nat) : 0 ≤ gd cs i := by
  by_cases h : i < cs.length
  · exact (g.rng _ (ZFu h)).1
  · show 0 ≤ cs.getD i 0
    rw [List.getD_eq_getElem?_getD, List.getElem?_eq_none (Nat.le_of_not_lt h)]; exact Int.le_refl _
noncomputable def badAt (cs : List Int) (k : Nat) : Bool := decide (mostS cs k < wantS cs k)
noncomputable def toldK (cs : List Int) : Option (List PyData) := cond (decide (cs.sum.fmod 2 = 1)) (some [.str "odd"]) (((List.range (cs.length + 1)).find? (badAt cs)).map fun (k : Nat) => [.str "many", .int (k : Int)])
theorem Ua {m : Nat} {ts : Ties} (w : Web m ts) : toldK (ctL m ts) = none := by
  unfold toldK
  have ev : ¬ (ctL m ts).sum.fmod 2 = 1 := by
    rw [XW w, Int.mul_comm, Int.mul_fmod_left]; decide
  rw [decide_eq_false ev, UI]
  have : (List.range (m + 1)).find? (badAt (ctL m ts)) = none := List.find?_eq_none.mpr fun k hk => by
    have := Gu w k (by have := List.mem_range.mp hk; lia)
    unfold badAt
    rw [decide_eq_true_iff]; lia
  rw [this]; rfl
theorem ZKa {cs : List Int} (g : GC cs) (ev : ¬ cs.sum.fmod 2 = 1) (h : ∀ k, k < cs.length + 1 → badAt cs k = false) : Lay cs.length cs cs [] := by
  refine Lay.start rfl (Hd g.nonneg fun k hk => ?_) (w := cs.sum.fdiv 2) ?_
  · have := h k (by lia)
    unfold badAt at this
    have := of_decide_eq_false this
    lia
  · rw [ZBt]
    have h1 := Int.mul_fdiv_add_fmod cs.sum 2
    have h2 := fmod_nonneg' (a := cs.sum) (b := 2) (by decide)
    have h3 := fmod_lt' (a := cs.sum) (b := 2) (by decide)
    lia
section
variable {n : Nat} {hm : Bool} {K : V → Prop} {X : Nat → Prop}
theorem Ub {cs : List Int} (g : GC cs) (k1 : ∀ t, toldK cs = some t → K (.d (.tuple t)))
    (k2 : toldK cs = none → ∀ us : Ties, Web cs.length us → Sd us → ctL cs.length us = cs → K (.ot (.str "web") (.list (ofPairs us))))
    : wpCall T05 (n + 3) false 7 [.d (.list (ofInts cs))] K X := by
  have h1 := g.pos
  have h2 := g.le
  have l1 : (ofInts cs).length < lim := by rw [YI]; exact JT (by lia)
  refine JY (fn := f_told) rfl rfl (by decide) ?_
  dsimp only [f_told, b_told, wpSs, wpS, wpE, wpL, slotW, ownS, Rho.putL, frz, bindF, setD, setAll, bindT, F1.W, F2.W, F1.quiet, seqV, numW, isNon, JN, JI, YF, YE, JF, YB, Zz, YA, Zg, ZO, YL, ZW, ZU, ZV, JD, Zv, Zc, Zb, ZH, ZG, YY, Zl, YH, ZQ, JO, YM, JC, ZS, ZT, ZJ, ZK, Zm, Zn, Zx, JE, Zy, Zu, ZL, Zf, YP, YQ, Zt, Zs, YR, YO, Za, Zr, Zq, JQ, YN, ZY, ZF, ZD, ZE, ZC, ZA, ZB, ZZ, excIs, Jj, YU, YV, YD, YC, YW, YX, Yk, Yl, Yb, Yc, Yg, Yh, Yx, Yy, Ym, Yn, Yt, Yu, Yi, Yj, Yo, YJ, YK, Jg, Jf, Ji, Jh, Yf, Yz, Yp, Yq, Yd, Ye, YZ, Ya, JL, JM, Yv, Yw, JA, JB, Jl, Jk, Ys, Yr, Nat.reduceSub, Nat.reduceAdd, YG, ZP, JR, Zj, Zo, ZX, Zp, YS, Ze, Zd, YT, Zk, JK, JP, JH, JG, Zi, Zh, ZN, ZI, ZM, Zw]
  refine Gi (.list (ofInts cs)) (show (ofInts cs).length < 1000 by rw [YI]; lia) (fun _ => ?_) fun e => by rw [g.ok] at e; exact nomatch e
  rw [Ja]
  unfold toldK at k1 k2
  refine (show _ ∧ _ from ⟨by decide, Jv (fun od => k1 _ (by rw [decide_eq_true od]; rfl)) fun ev => ?_⟩)
  rw [decide_eq_false ev] at k1 k2
  rw [YI]
  have er : ((cs.length : Int) + 1) = ((cs.length + 1 : Nat) : Int) := by lia
  rw [er]
  refine ⟨JT (by lia), ⟨Vc (by lia), Ju (by lia)⟩, by rw [Jb]; exact JT (by lia), ?_⟩
  refine QB _ (fun i ρ => ∃ a b c, ρ = [some (.d (.list (ofInts cs))), a, b, c] ∧ ∀ j, j < i → badAt cs j = false) ?_ ?_ _ ⟨none, none, none, rfl, nofun⟩
  · rintro ρ ⟨a, b, c, rfl, no⟩
    rw [Jb] at no
    dsimp only [b_told_2, wpSs, wpS, wpE, wpL, slotW, ownS, Rho.putL, frz, bindF, setD, setAll, bindT, F1.W, F2.W, F1.quiet, seqV, numW, isNon, JN, JI, YF, YE, JF, YB, Zz, YA, Zg, ZO, YL, ZW, ZU, ZV, JD, Zv, Zc, Zb, ZH, ZG, YY, Zl, YH, ZQ, JO, YM, JC, ZS, ZT, ZJ, ZK, Zm, Zn, Zx, JE, Zy, Zu, ZL, Zf, YP, YQ, Zt, Zs, YR, YO, Za, Zr, Zq, JQ, YN, ZY, ZF, ZD, ZE, ZC, ZA, ZB, ZZ, excIs, Jj, YU, YV, YD, YC, YW, YX, Yk, Yl, Yb, Yc, Yg, Yh, Yx, Yy, Ym, Yn, Yt, Yu, Yi, Yj, Yo, YJ, YK, Jg, Jf, Ji, Jh, Yf, Yz, Yp, Yq, Yd, Ye, YZ, Ya, JL, JM, Yv, Yw, JA, JB, Jl, Jk, Ys, Yr, Nat.reduceSub, Nat.reduceAdd, YG, ZP, JR, Zj, Zo, ZX, Zp, YS, Ze, Zd, YT, Zk, JK, JP, JH, JG, Zi, Zh, ZN, ZI, ZM, Zw]
    refine Hy rfl h1 h2 (ZKa g ev no) fun us w sd ct => ?_
    refine k2 ?_ us w sd (ZKs rfl ct)
    show Option.map _ ((List.range (cs.length + 1)).find? (badAt cs)) = none
    rw [List.find?_eq_none.mpr fun k hk => by rw [no k (List.mem_range.mp hk)]; decide]; rfl
  · rintro i hi ρ kk ⟨a, b, c, rfl, no⟩ cont ret
    have hi' : i < cs.length + 1 := by rw [Jb] at hi; exact hi
    rw [QO]
    dsimp only [b_told_1, wpSs, wpS, wpE, wpL, slotW, ownS, Rho.putL, frz, bindF, setD, setAll, bindT, F1.W, F2.W, F1.quiet, seqV, numW, isNon, JN, JI, YF, YE, JF, YB, Zz, YA, Zg, ZO, YL, ZW, ZU, ZV, JD, Zv, Zc, Zb, ZH, ZG, YY, Zl, YH, ZQ, JO, YM, JC, ZS, ZT, ZJ, ZK, Zm, Zn, Zx, JE, Zy, Zu, ZL, Zf, YP, YQ, Zt, Zs, YR, YO, Za, Zr, Zq, JQ, YN, ZY, ZF, ZD, ZE, ZC, ZA, ZB, ZZ, excIs, Jj, YU, YV, YD, YC, YW, YX, Yk, Yl, Yb, Yc, Yg, Yh, Yx, Yy, Ym, Yn, Yt, Yu, Yi, Yj, Yo, YJ, YK, Jg, Jf, Ji, Jh, Yf, Yz, Yp, Yq, Yd, Ye, YZ, Ya, JL, JM, Yv, Yw, JA, JB, Jl, Jk, Ys, Yr, Nat.reduceSub, Nat.reduceAdd, YG, ZP, JR, Zj, Zo, ZX, Zp, YS, Ze, Zd, YT, Zk, JK, JP, JH, JG, Zi, Zh, ZN, ZI, ZM, Zw]
    refine ZCi cs h2 i (by lia) ?_
    dsimp only [wpSs, wpS, wpE, wpL, slotW, ownS, Rho.putL, frz, bindF, setD, setAll, bindT, F1.W, F2.W, F1.quiet, seqV, numW, isNon, JN, JI, YF, YE, JF, YB, Zz, YA, Zg, ZO, YL, ZW, ZU, ZV, JD, Zv, Zc, Zb, ZH, ZG, YY, Zl, YH, ZQ, JO, YM, JC, ZS, ZT, ZJ, ZK, Zm, Zn, Zx, JE, Zy, Zu, ZL, Zf, YP, YQ, Zt, Zs, YR, YO, Za, Zr, Zq, JQ, YN, ZY, ZF, ZD, ZE, ZC, ZA, ZB, ZZ, excIs, Jj, YU, YV, YD, YC, YW, YX, Yk, Yl, Yb, Yc, Yg, Yh, Yx, Yy, Ym, Yn, Yt, Yu, Yi, Yj, Yo, YJ, YK, Jg, Jf, Ji, Jh, Yf, Yz, Yp, Yq, Yd, Ye, YZ, Ya, JL, JM, Yv, Yw, JA, JB, Jl, Jk, Ys, Yr, Nat.reduceSub, Nat.reduceAdd, YG, ZP, JR, Zj, Zo, ZX, Zp, YS, Ze, Zd, YT, Zk, JK, JP, JH, JG, Zi, Zh, ZN, ZI, ZM, Zw]
    refine Jv (fun bad => ?_) fun ok => ?_
    · refine ret _ _ (k1 _ ?_)
      show Option.map _ ((List.range (cs.length + 1)).find? (badAt cs)) = _
      have : (List.range (cs.length + 1)).find? (badAt cs) = some i := by
        rw [List.find?_range_eq_some]
        exact ⟨decide_eq_true bad, List.mem_range.mpr hi', fun j hj => by rw [no j hj]; rfl⟩
      rw [this]; rfl
    · exact cont _ ⟨_, _, _, rfl, fun j hj => by
        by_cases c : j < i
        · exact no j c
        · obtain rfl : j = i := by lia
          exact decide_eq_false ok⟩
end
end TC

namespace TC
open PySem
theorem ZGs {ts : Ties} {x : Nat} (h : cnt ts x ≠ 0) : ∃ y, Adj ts x y := by
  unfold cnt at h
  obtain ⟨t, ht, e⟩ := List.countP_pos_iff.mp (Nat.pos_of_ne_zero h)
  rw [Bool.or_eq_true, decide_eq_true_iff, decide_eq_true_iff] at e
  rcases e with rfl | rfl
  · exact ⟨t.2, .inl ht⟩
  · exact ⟨t.1, .inr ht⟩
theorem ZDp {m : Nat} {ts : Ties} (w : Web m ts) (h : hindK (ctL m ts) = none) : Joins m ts := by
  unfold hindK at h
  rw [UI, XW w] at h
  cases c1 : (decide (1 < (m : Int)) && decide (0 ∈ ctL m ts)) with
  | true => rw [c1] at h; exact nomatch h
  | false =>
    rw [c1] at h
    cases c2 : decide (2 * (ts.length : Int) < 2 * ((m : Int) - 1)) with
    | true => rw [c2] at h; exact nomatch h
    | false =>
      have c2 := of_decide_eq_false c2
      rw [Bool.and_eq_false_iff, decide_eq_false_iff_not, decide_eq_false_iff_not] at c1
      refine ⟨?_, by lia⟩
      by_cases c : m ≤ 1
      · by_cases e : m = 1
        · exact .inl e
        · exact .inr fun x hx => by lia
      · refine .inr fun x hx => ZGs fun q => ?_
        rcases c1 with h | h
        · lia
        · refine h (List.mem_map.mpr ⟨x, List.mem_range.mpr hx, ?_⟩)
          show ((cnt ts x : Nat) : Int) = 0
          rw [q]; rfl
noncomputable def hungK (cs : List Int) : Option (List PyData) := (toldK cs).elim (hindK cs) some
theorem HD {cs : List Int} {t : List PyData} (h : toldK cs = some t) : t = [.str "odd"] ∨ ∃ k : Nat, t = [.str "many", .int k] := by
  unfold toldK at h
  cases c : decide (cs.sum.fmod 2 = 1) with
  | true => rw [c] at h; cases h; exact .inl rfl
  | false =>
    rw [c] at h
    obtain ⟨k, _, e⟩ := Option.map_eq_some_iff.mp h
    exact .inr ⟨k, e.symm⟩
theorem GS {cs : List Int} {t : List PyData} (h : hindK cs = some t) : t = [.str "alone", .int (cs.idxOf 0)] ∨ t = [.str "few"] := by
  unfold hindK at h
  cases c : (decide (1 < (cs.length : Int)) && decide (0 ∈ cs)) with
  | true => rw [c] at h; cases h; exact .inl rfl
  | false =>
    rw [c] at h
    cases c : decide (cs.sum < 2 * ((cs.length : Int) - 1)) with
    | true => rw [c] at h; cases h; exact .inr rfl
    | false => rw [c] at h; exact nomatch h
theorem shw {s : Str} (h : PyData.strOk s = true) : shp (.str s) := (Sh.str 0 h).shp
theorem ZIe {s : Str} {K : V → Prop} (h1 : PyData.strOk s = true) (h2 : (s == ("web" : Str)) = false) (k : K (.d (.bool true))) : objW .ne (.d (.str s)) (.d (.str "web")) K := by
  refine ⟨shw h1, shw (by decide +kernel), ?_⟩
  rw [show PyData.eqv (.str s) (.str "web") = (s == "web") by simp only [PyData.eqv], h2]; exact k
theorem ZId {K : V → Prop} (k : K (.d (.bool false))) : objW .ne (.d (.str "web")) (.d (.str "web")) K := ZIc rfl rfl (Sh.str 0 (by decide +kernel)) (by decide) k
theorem ZIo {K : V → Prop} (k : K (.d (.bool false))) : opW .ne (.d (.str "web")) (.d (.str "web")) K := ZId k
structure Wd (t : List PyData) : Prop where
  word : ∃ s r, t = .str s :: r ∧ PyData.strOk s = true ∧ (s == ("web" : Str)) = false
  sh : Sh 1 (.tuple t)
  nob : t.all (fun x => !Ty.has .bool x) = true
  len : t.length ≤ 2
theorem Wd.one {s : Str} (h1 : PyData.strOk s = true) (h2 : (s == ("web" : Str)) = false) : Wd [.str s] :=
  ⟨⟨s, [], rfl, h1, h2⟩, .tuple fun x hx => by rw [List.mem_singleton.mp hx]; exact .str 0 h1, rfl, Nat.le_succ 1⟩
theorem Wd.two {s : Str} (h1 : PyData.strOk s = true) (h2 : (s == ("web" : Str)) = false) (i : Int) : Wd [.str s, .int i] :=
  ⟨⟨s, [.int i], rfl, h1, h2⟩, .tuple fun x hx => by
    rcases List.mem_cons.mp hx with rfl | hx
    · exact .str 0 h1
    · rw [List.mem_singleton.mp hx]; exact .int 0 i, rfl, Nat.le_refl _⟩
theorem WA {cs : List Int} {t : List PyData} (h : toldK cs = some t) : Wd t := by
  rcases HD h with rfl | ⟨k, rfl⟩
  · exact .one (by decide +kernel) (by decide +kernel)
  · exact .two (by decide +kernel) (by decide +kernel) _
theorem ZHi {cs : List Int} {t : List PyData} (h : hindK cs = some t) : Wd t := by
  rcases GS h with rfl | rfl
  · exact .two (by decide +kernel) (by decide +kernel) _
  · exact .one (by decide +kernel) (by decide +kernel)
theorem ZHk {cs : List Int} {t : List PyData} (h : hungK cs = some t) : Wd t := by
  unfold hungK at h
  cases e : toldK cs with
  | some t' => rw [e] at h; cases h; exact WA e
  | none => rw [e] at h; exact ZHi h
section
variable {n : Nat} {hm : Bool} {K : V → Prop} {X : Nat → Prop}
theorem Wd.ne {t : List PyData} (w : Wd t) {K : V → Prop} (k : K (.d (.bool true))) : got (idxV (.d (.tuple t)) 0) fun v => opW .ne v (.d (.str "web")) K := by
  obtain ⟨s, r, rfl, h1, h2⟩ := w.word
  exact WX (ZIe h1 h2 k)
theorem Hp {cs : List Int} (g : GC cs) (k1 : ∀ t, hungK cs = some t → K (.d (.tuple t)))
    (k2 : hungK cs = none → ∀ us : Ties, Web cs.length us → Sd us → ncomp cs.length us = 1 → ctL cs.length us = cs → K (.ot (.str "web") (.list (ofPairs us)))) : wpCall T05 (n + 5) false 12 [.d (.list (ofInts cs))] K X := by
  have l1 : (ofInts cs).length < lim := by rw [YI]; have := g.le; exact JT (by lia)
  refine JY (fn := f_hung) rfl rfl (by decide) ?_
  dsimp only [f_hung, b_hung, wpSs, wpS, wpE, wpL, slotW, ownS, Rho.putL, frz, bindF, setD, setAll, bindT, F1.W, F2.W, F1.quiet, seqV, numW, isNon, JN, JI, YF, YE, JF, YB, Zz, YA, Zg, ZO, YL, ZW, ZU, ZV, JD, Zv, Zc, Zb, ZH, ZG, YY, Zl, YH, ZQ, JO, YM, JC, ZS, ZT, ZJ, ZK, Zm, Zn, Zx, JE, Zy, Zu, ZL, Zf, YP, YQ, Zt, Zs, YR, YO, Za, Zr, Zq, JQ, YN, ZY, ZF, ZD, ZE, ZC, ZA, ZB, ZZ, excIs, Jj, YU, YV, YD, YC, YW, YX, Yk, Yl, Yb, Yc, Yg, Yh, Yx, Yy, Ym, Yn, Yt, Yu, Yi, Yj, Yo, YJ, YK, Jg, Jf, Ji, Jh, Yf, Yz, Yp, Yq, Yd, Ye, YZ, Ya, JL, JM, Yv, Yw, JA, JB, Jl, Jk, Ys, Yr, Nat.reduceSub, Nat.reduceAdd, YG, ZP, JR, Zj, Zo, ZX, Zp, YS, Ze, Zd, YT, Zk, JK, JP, JH, JG, Zi, Zh, ZN, ZI, ZM, Zw]
  refine Ub (n := n + 1) g (fun t e => ?_) fun e us w sd ct => ?_
  · dsimp only [wpSs, wpS, wpE, wpL, slotW, ownS, Rho.putL, frz, bindF, setD, setAll, bindT, F1.W, F2.W, F1.quiet, seqV, numW, isNon, JN, JI, YF, YE, JF, YB, Zz, YA, Zg, ZO, YL, ZW, ZU, ZV, JD, Zv, Zc, Zb, ZH, ZG, YY, Zl, YH, ZQ, JO, YM, JC, ZS, ZT, ZJ, ZK, Zm, Zn, Zx, JE, Zy, Zu, ZL, Zf, YP, YQ, Zt, Zs, YR, YO, Za, Zr, Zq, JQ, YN, ZY, ZF, ZD, ZE, ZC, ZA, ZB, ZZ, excIs, Jj, YU, YV, YD, YC, YW, YX, Yk, Yl, Yb, Yc, Yg, Yh, Yx, Yy, Ym, Yn, Yt, Yu, Yi, Yj, Yo, YJ, YK, Jg, Jf, Ji, Jh, Yf, Yz, Yp, Yq, Yd, Ye, YZ, Ya, JL, JM, Yv, Yw, JA, JB, Jl, Jk, Ys, Yr, Nat.reduceSub, Nat.reduceAdd, YG, ZP, JR, Zj, Zo, ZX, Zp, YS, Ze, Zd, YT, Zk, JK, JP, JH, JG, Zi, Zh, ZN, ZI, ZM, Zw]
    refine (WA e).ne ?_
    exact k1 t (by unfold hungK; rw [e]; rfl)
  · dsimp only [wpSs, wpS, wpE, wpL, slotW, ownS, Rho.putL, frz, bindF, setD, setAll, bindT, F1.W, F2.W, F1.quiet, seqV, numW, isNon, JN, JI, YF, YE, JF, YB, Zz, YA, Zg, ZO, YL, ZW, ZU, ZV, JD, Zv, Zc, Zb, ZH, ZG, YY, Zl, YH, ZQ, JO, YM, JC, ZS, ZT, ZJ, ZK, Zm, Zn, Zx, JE, Zy, Zu, ZL, Zf, YP, YQ, Zt, Zs, YR, YO, Za, Zr, Zq, JQ, YN, ZY, ZF, ZD, ZE, ZC, ZA, ZB, ZZ, excIs, Jj, YU, YV, YD, YC, YW, YX, Yk, Yl, Yb, Yc, Yg, Yh, Yx, Yy, Ym, Yn, Yt, Yu, Yi, Yj, Yo, YJ, YK, Jg, Jf, Ji, Jh, Yf, Yz, Yp, Yq, Yd, Ye, YZ, Ya, JL, JM, Yv, Yw, JA, JB, Jl, Jk, Ys, Yr, Nat.reduceSub, Nat.reduceAdd, YG, ZP, JR, Zj, Zo, ZX, Zp, YS, Ze, Zd, YT, Zk, JK, JP, JH, JG, Zi, Zh, ZN, ZI, ZM, Zw]
    refine WX (ZIo ?_)
    have eh : hungK cs = hindK cs := by unfold hungK; rw [e]; rfl
    rw [eh] at k1 k2
    refine VX (n := n + 3) (by have := g.le; lia) (fun e2 => ?_) fun t e2 => ?_
    · dsimp only [wpSs, wpS, wpE, wpL, slotW, ownS, Rho.putL, frz, bindF, setD, setAll, bindT, F1.W, F2.W, F1.quiet, seqV, numW, isNon, JN, JI, YF, YE, JF, YB, Zz, YA, Zg, ZO, YL, ZW, ZU, ZV, JD, Zv, Zc, Zb, ZH, ZG, YY, Zl, YH, ZQ, JO, YM, JC, ZS, ZT, ZJ, ZK, Zm, Zn, Zx, JE, Zy, Zu, ZL, Zf, YP, YQ, Zt, Zs, YR, YO, Za, Zr, Zq, JQ, YN, ZY, ZF, ZD, ZE, ZC, ZA, ZB, ZZ, excIs, Jj, YU, YV, YD, YC, YW, YX, Yk, Yl, Yb, Yc, Yg, Yh, Yx, Yy, Ym, Yn, Yt, Yu, Yi, Yj, Yo, YJ, YK, Jg, Jf, Ji, Jh, Yf, Yz, Yp, Yq, Yd, Ye, YZ, Ya, JL, JM, Yv, Yw, JA, JB, Jl, Jk, Ys, Yr, Nat.reduceSub, Nat.reduceAdd, YG, ZP, JR, Zj, Zo, ZX, Zp, YS, Ze, Zd, YT, Zk, JK, JP, JH, JG, Zi, Zh, ZN, ZI, ZM, Zw]
      refine ⟨l1, ?_⟩
      refine ZFy ?_
      dsimp only [wpSs, wpS, wpE, wpL, slotW, ownS, Rho.putL, frz, bindF, setD, setAll, bindT, F1.W, F2.W, F1.quiet, seqV, numW, isNon, JN, JI, YF, YE, JF, YB, Zz, YA, Zg, ZO, YL, ZW, ZU, ZV, JD, Zv, Zc, Zb, ZH, ZG, YY, Zl, YH, ZQ, JO, YM, JC, ZS, ZT, ZJ, ZK, Zm, Zn, Zx, JE, Zy, Zu, ZL, Zf, YP, YQ, Zt, Zs, YR, YO, Za, Zr, Zq, JQ, YN, ZY, ZF, ZD, ZE, ZC, ZA, ZB, ZZ, excIs, Jj, YU, YV, YD, YC, YW, YX, Yk, Yl, Yb, Yc, Yg, Yh, Yx, Yy, Ym, Yn, Yt, Yu, Yi, Yj, Yo, YJ, YK, Jg, Jf, Ji, Jh, Yf, Yz, Yp, Yq, Yd, Ye, YZ, Ya, JL, JM, Yv, Yw, JA, JB, Jl, Jk, Ys, Yr, Nat.reduceSub, Nat.reduceAdd, YG, ZP, JR, Zj, Zo, ZX, Zp, YS, Ze, Zd, YT, Zk, JK, JP, JH, JG, Zi, Zh, ZN, ZI, ZM, Zw]
      rw [YI]
      have hl := Jz w g.le
      refine VD (n := n) ⟨g.pos, g.le, w, by lia⟩ (ZDp w (by rw [ct]; exact e2)) fun rows vs wv sv one cv => ?_
      dsimp only [wpSs, wpS, wpE, wpL, slotW, ownS, Rho.putL, frz, bindF, setD, setAll, bindT, F1.W, F2.W, F1.quiet, seqV, numW, isNon, JN, JI, YF, YE, JF, YB, Zz, YA, Zg, ZO, YL, ZW, ZU, ZV, JD, Zv, Zc, Zb, ZH, ZG, YY, Zl, YH, ZQ, JO, YM, JC, ZS, ZT, ZJ, ZK, Zm, Zn, Zx, JE, Zy, Zu, ZL, Zf, YP, YQ, Zt, Zs, YR, YO, Za, Zr, Zq, JQ, YN, ZY, ZF, ZD, ZE, ZC, ZA, ZB, ZZ, excIs, Jj, YU, YV, YD, YC, YW, YX, Yk, Yl, Yb, Yc, Yg, Yh, Yx, Yy, Ym, Yn, Yt, Yu, Yi, Yj, Yo, YJ, YK, Jg, Jf, Ji, Jh, Yf, Yz, Yp, Yq, Yd, Ye, YZ, Ya, JL, JM, Yv, Yw, JA, JB, Jl, Jk, Ys, Yr, Nat.reduceSub, Nat.reduceAdd, YG, ZP, JR, Zj, Zo, ZX, Zp, YS, Ze, Zd, YT, Zk, JK, JP, JH, JG, Zi, Zh, ZN, ZI, ZM, Zw]
      exact k2 e2 vs wv sv one (Eq.trans (List.map_congr_left fun x _ => by rw [cv x]) ct)
    · exact k1 t e2
end
end TC

namespace TC
noncomputable def setsTo (p : Nat) : Nat → List (List (Nat × Nat))
  | 0 => [[]]
  | k + 1 => setsTo p k ++ (setsTo p k).map (· ++ [(k, p)])
theorem Jy (p k : Nat) : (setsTo p k).length = 2 ^ k := by
  induction k with
  | zero => rfl
  | succ k ih => unfold setsTo; rw [List.length_append, List.length_map, ih, Nat.pow_succ, Nat.mul_two]
theorem Qn {p k : Nat} {ss : List (Nat × Nat)} : ss ∈ setsTo p k → ∃ f : Nat → Bool, ss = ((List.range k).filter f).map (·, p) := by
  induction k generalizing ss with
  | zero => exact fun h => ⟨fun _ => true, List.mem_singleton.mp h⟩
  | succ k ih =>
    intro h
    have key : ∀ (f : Nat → Bool) (b : Bool), (List.range k).filter (fun q => if q = k then b else f q) = (List.range k).filter f := fun f b => List.filter_congr fun q hq => by rw [if_neg (Nat.ne_of_lt (List.mem_range.mp hq))]
    rcases List.mem_append.mp h with h | h
    · obtain ⟨f, rfl⟩ := ih h
      refine ⟨fun q => if q = k then false else f q, ?_⟩
      rw [List.range_succ, List.filter_append, key, List.filter_cons, if_neg (by simp), List.filter_nil, List.append_nil]
    · obtain ⟨s, hs, rfl⟩ := List.mem_map.mp h
      obtain ⟨f, rfl⟩ := ih hs
      refine ⟨fun q => if q = k then true else f q, ?_⟩
      rw [List.range_succ, List.filter_append, key, List.filter_cons, if_pos (by simp), List.filter_nil, List.map_append]; rfl
theorem Ge (p k : Nat) (f : Nat → Bool) : ((List.range k).filter f).map (·, p) ∈ setsTo p k := by
  induction k with
  | zero => exact .head _
  | succ k ih =>
    rw [List.range_succ, List.filter_append, List.map_append]
    unfold setsTo
    cases e : f k with
    | false => rw [List.filter_cons, if_neg (by rw [e]; decide), List.filter_nil, List.map_nil, List.append_nil]; exact List.mem_append_left _ ih
    | true => rw [List.filter_cons, if_pos e, List.filter_nil]; exact List.mem_append_right _ (List.mem_map_of_mem ih)
noncomputable def colOf (ts : List (Nat × Nat)) (p : Nat) : List (Nat × Nat) := ((List.range p).filter fun q => decide ((q, p) ∈ ts)).map (·, p)
noncomputable def normT (ts : List (Nat × Nat)) : Nat → List (Nat × Nat)
  | 0 => []
  | p + 1 => normT ts p ++ colOf ts p
theorem ZAi {ts : List (Nat × Nat)} {p : Nat} {t : Nat × Nat} : t ∈ colOf ts p ↔ t ∈ ts ∧ t.2 = p ∧ t.1 < t.2 := by
  unfold colOf
  rw [List.mem_map]
  constructor
  · rintro ⟨q, hq, rfl⟩
    obtain ⟨h1, h2⟩ := List.mem_filter.mp hq
    exact ⟨of_decide_eq_true h2, rfl, List.mem_range.mp h1⟩
  · obtain ⟨a, b⟩ := t
    rintro ⟨h1, rfl, h3⟩
    exact ⟨a, List.mem_filter.mpr ⟨List.mem_range.mpr h3, decide_eq_true h1⟩, rfl⟩
theorem Wh {ts : List (Nat × Nat)} {m : Nat} {t : Nat × Nat} : t ∈ normT ts m ↔ t ∈ ts ∧ t.1 < t.2 ∧ t.2 < m := by
  induction m with
  | zero => exact ⟨fun h => (nomatch h), fun h => absurd h.2.2 (Nat.not_lt_zero _)⟩
  | succ m ih =>
    unfold normT
    rw [List.mem_append, ih, ZAi]
    constructor
    · rintro (⟨h1, h2, h3⟩ | ⟨h1, h2, h3⟩)
      · exact ⟨h1, h2, Nat.lt_succ_of_lt h3⟩
      · exact ⟨h1, h3, h2 ▸ Nat.lt_succ_self _⟩
    · rintro ⟨h1, h2, h3⟩
      rcases Nat.lt_or_eq_of_le (Nat.le_of_lt_succ h3) with q | q
      · exact .inl ⟨h1, h2, q⟩
      · exact .inr ⟨h1, q, h2⟩
theorem VJ {l : List Nat} (h : l.Nodup) (p : Nat) : (l.map (·, p)).Nodup := List.Pairwise.map _ (fun a b ne e => ne (congrArg Prod.fst e)) h
theorem Gk (ts : List (Nat × Nat)) (m : Nat) : (normT ts m).Nodup := by
  induction m with
  | zero => exact .nil
  | succ m ih =>
    unfold normT
    refine List.nodup_append.mpr ⟨ih, VJ (List.nodup_range.filter _) m, fun a ha b hb e => ?_⟩
    have h1 := (Wh.mp ha).2.2
    rw [e, (ZAi.mp hb).2.1] at h1
    exact Nat.lt_irrefl _ h1
theorem UO {m : Nat} {ts : List (Nat × Nat)} (w : Web m ts) : (normT ts m).Perm ts :=
  (List.perm_ext_iff_of_nodup (Gk ts m) w.1).mpr fun t => Wh.trans ⟨fun h => h.1, fun h => ⟨h, w.2 t h⟩⟩
noncomputable def allW (P : List (Nat × Nat) → Bool) : Nat → List (List (Nat × Nat))
  | 0 => [[]]
  | p + 1 => ((allW P p).flatMap fun ts => (setsTo p p).map (ts ++ ·)).filter P
theorem Xb {P : List (Nat × Nat) → Bool} {m : Nat} : ∀ {ts : List (Nat × Nat)}, ts ∈ allW P m → Web m ts := by
  induction m with
  | zero => intro ts h; rw [List.mem_singleton.mp h]; exact ⟨.nil, nofun⟩
  | succ m ih =>
    intro ts h
    obtain ⟨a, ha, h⟩ := List.mem_flatMap.mp (List.mem_filter.mp h).1
    obtain ⟨b, hb, rfl⟩ := List.mem_map.mp h
    obtain ⟨f, rfl⟩ := Qn hb
    have wa := ih ha
    have hin : ∀ t ∈ ((List.range m).filter f).map (·, m), t.1 < t.2 ∧ t.2 = m := fun t ht => by
      obtain ⟨q, hq, rfl⟩ := List.mem_map.mp ht
      exact ⟨List.mem_range.mp (List.mem_filter.mp hq).1, rfl⟩
    refine ⟨List.nodup_append.mpr ⟨wa.1, VJ (List.nodup_range.filter _) m, fun x hx y hy e => ?_⟩, fun t ht => ?_⟩
    · have := (wa.2 x hx).2; rw [e, (hin y hy).2] at this; exact Nat.lt_irrefl _ this
    · rcases List.mem_append.mp ht with ht | ht
      · exact ⟨(wa.2 t ht).1, Nat.lt_succ_of_lt (wa.2 t ht).2⟩
      · exact ⟨(hin t ht).1, (hin t ht).2 ▸ Nat.lt_succ_self _⟩
theorem ZBa {P : List (Nat × Nat) → Bool} {ts : List (Nat × Nat)} {m : Nat} (h : ∀ p, p ≤ m → P (normT ts p) = true) : normT ts m ∈ allW P m := by
  induction m with
  | zero => exact .head _
  | succ m ih =>
    refine List.mem_filter.mpr ⟨List.mem_flatMap.mpr ⟨normT ts m, ih fun p hp => h p (Nat.le_succ_of_le hp), ?_⟩, h _ (Nat.le_refl _)⟩
    exact List.mem_map_of_mem (Ge m m _)
noncomputable def tri : Nat → Nat
  | 0 => 0
  | p + 1 => tri p + p
theorem VQ (P : List (Nat × Nat) → Bool) (m : Nat) : (allW P m).length ≤ 2 ^ tri m := by
  induction m with
  | zero => exact Nat.le_refl _
  | succ m ih =>
    refine Nat.le_trans (List.length_filter_le ..) ?_
    rw [List.length_flatMap, show ((allW P m).map fun ts => ((setsTo m m).map (ts ++ ·)).length) = (allW P m).map fun _ => 2 ^ m from List.map_congr_left fun ts _ => by rw [List.length_map, Jy], List.map_const', List.sum_replicate_nat]
    unfold tri
    rw [Nat.pow_add]
    exact Nat.mul_le_mul_right _ ih
end TC

namespace TC
open PySem PyProof.Rows
section
variable {K : V → Prop} {X : Nat → Prop} {n : Nat}
theorem ZJl {v : V} {xs : List PyData} {K : V → Prop} {d : Nat} (e : rd v = some (.list xs)) (h : Sh d (.list xs)) (le : d ≤ 64) (k : K (.d (.bool xs.isEmpty))) : objW .eq v (.own (.list [])) K := by
  show got (rd v) _
  rw [e]
  refine ⟨h.shp le, (Sh.nil 0).shp, ?_⟩
  rw [Hg]; exact k
theorem ZGu {cs : List Int} {p : Nat} (h : p < cs.length) (h2 : p < 1000) {K : V → Prop} (k : K (.d (.int (cs.getD p 0)))) : got (idxV (.d (.list (ofInts cs))) p) K := by
  rw [Vh (Int.natCast_nonneg p) (by lia), Int.toNat_natCast, getElem?_ofInts, List.getElem?_eq_getElem h]
  rw [List.getD_eq_getElem?_getD, List.getElem?_eq_getElem h] at k
  exact k
noncomputable def wiP (as cs : List Int) : V → Option PyData
  | .d (.int p) => cond (decide (cs.getD p.toNat 0 < as.getD p.toNat 0)) (some (.int p)) none
  | _ => none
noncomputable def withinB (as cs : List Int) : Bool := (List.filterMap (wiP as cs) ((rangeL cs.length).map fun i => V.d (.int i))).isEmpty
theorem ZFq (as cs : List Int) (m : Nat) : ∃ l, List.filterMap (wiP as cs) ((rangeL m).map fun i => V.d (.int i)) = ofInts l := by
  generalize rangeL m = r
  induction r with
  | nil => exact ⟨[], rfl⟩
  | cons p r ih =>
    obtain ⟨l, hl⟩ := ih
    rw [List.map_cons, List.filterMap_cons, hl]
    rw [show wiP as cs (V.d (.int p)) = cond (decide (cs.getD p.toNat 0 < as.getD p.toNat 0)) (some (.int p)) none from rfl]
    cases decide (cs.getD p.toNat 0 < as.getD p.toNat 0) with
    | true => exact ⟨p :: l, rfl⟩
    | false => exact ⟨l, rfl⟩
theorem WF {as cs : List Int} (la : as.length = cs.length) (lc : cs.length ≤ 10) (k : K (.d (.bool (withinB as cs)))) : wpCall T05 (n + 1) false 18 [.d (.list (ofInts as)), .brw (.list (ofInts cs))] K X := by
  refine JY (fn := f__law_within) rfl rfl (by decide) ?_
  dsimp only [f__law_within, b__law_within, wpSs, wpS, wpE, wpL, slotW, ownS, Rho.putL, frz, bindF, setD, setAll, bindT, F1.W, F2.W, F1.quiet, seqV, numW, isNon, JN, JI, YF, YE, JF, YB, Zz, YA, Zg, ZO, YL, ZW, ZU, ZV, JD, Zv, Zc, Zb, ZH, ZG, YY, Zl, YH, ZQ, JO, YM, JC, ZS, ZT, ZJ, ZK, Zm, Zn, Zx, JE, Zy, Zu, ZL, Zf, YP, YQ, Zt, Zs, YR, YO, Za, Zr, Zq, JQ, YN, ZY, ZF, ZD, ZE, ZC, ZA, ZB, ZZ, excIs, Jj, YU, YV, YD, YC, YW, YX, Yk, Yl, Yb, Yc, Yg, Yh, Yx, Yy, Ym, Yn, Yt, Yu, Yi, Yj, Yo, YJ, YK, Jg, Jf, Ji, Jh, Yf, Yz, Yp, Yq, Yd, Ye, YZ, Ya, JL, JM, Yv, Yw, JA, JB, Jl, Jk, Ys, Yr, Nat.reduceSub, Nat.reduceAdd, YG, ZP, JR, Zj, Zo, ZX, Zp, YS, Ze, Zd, YT, Zk, JK, JP, JH, JG, Zi, Zh, ZN, ZI, ZM, Zw]
  rw [YI]
  refine ⟨JT (by lia), rngOk lc, rngLen lc, JZ (wiP as cs) _ _ (fun x hx kk hk => ?_) ?_ ?_⟩
  · obtain ⟨p, hp, rfl⟩ := List.mem_map.mp hx
    obtain ⟨p, hp', rfl⟩ := List.mem_map.mp hp
    have hp := List.mem_range.mp hp'
    rw [Int.toNat_natCast] at hp
    refine ZGu (la ▸ hp) (by lia) (QG hp (by lia) ?_)
    replace hk : kk (cond (decide (cs.getD p 0 < as.getD p 0)) (some (.int p)) none) := hk
    show cond (decide (cs.getD p 0 < as.getD p 0)) (kk (some (.int p))) (kk none)
    revert hk
    cases decide (cs.getD p 0 < as.getD p 0) <;> exact id
  · rw [List.nil_append]; exact Nat.lt_of_le_of_lt (List.length_filterMap_le ..) (rngLen lc)
  · rw [List.nil_append]
    obtain ⟨l, hl⟩ := ZFq as cs cs.length
    unfold withinB at k
    rw [hl] at k ⊢
    show objW .eq (.own (.list (ofInts l))) (.own (.list [])) _
    refine ZJl (v := .own (.list (ofInts l))) rfl (Sh.ints 0 l) (by decide) ?_
    exact k
theorem HH {as cs : List Int} : withinB as cs = true ↔ ∀ p, p < cs.length → as.getD p 0 ≤ cs.getD p 0 := by
  unfold withinB
  rw [List.isEmpty_iff, List.filterMap_eq_nil_iff]
  constructor
  · intro h p hp
    have := h (.d (.int p)) (List.mem_map.mpr ⟨p, List.mem_map.mpr ⟨p, List.mem_range.mpr (by rw [Int.toNat_natCast]; exact hp), rfl⟩, rfl⟩)
    replace this : cond (decide (cs.getD p 0 < as.getD p 0)) (some (PyData.int p)) none = none := this
    refine Int.not_lt.mp fun q => ?_
    rw [decide_eq_true q] at this; cases this
  · intro h x hx
    obtain ⟨p, hp, rfl⟩ := List.mem_map.mp hx
    obtain ⟨p, hp', rfl⟩ := List.mem_map.mp hp
    have hp := List.mem_range.mp hp'
    rw [Int.toNat_natCast] at hp
    show cond (decide (cs.getD p 0 < as.getD p 0)) (some (PyData.int p)) none = none
    rw [decide_eq_false (Int.not_lt.mpr (h p hp))]; rfl
end
end TC

namespace TC
open PySem PyProof.Rows
section
variable {K : V → Prop} {X : Nat → Prop} {n : Nat}
noncomputable abbrev wbD (ts : List (Nat × Nat)) : PyData := .list (ofPairs ts)
noncomputable abbrev ofWebs (l : List (List (Nat × Nat))) : List PyData := l.map wbD
noncomputable abbrev alR (m : Nat) (cs : List Int) (w : List (List (Nat × Nat))) (a b c d e : Option V) : Rho := [some (.d (.int m)), some (.brw (.list (ofInts cs))), some (.d (.list (ofWebs w))), a, b, c, d, e]
theorem lim_lt' {k : Nat} (h : k < 100000) : k < lim := by rw [QX]; lia
noncomputable def addP (t : Nat × Nat) : V → Option PyData
  | .d (.list l) => some (.list (l ++ [pr t]))
  | _ => none
theorem Vs (t : Nat × Nat) (l : List (List (Nat × Nat))) : List.filterMap (addP t) ((ofWebs l).map V.d) = ofWebs (l.map (· ++ [t])) := by
  induction l with
  | nil => rfl
  | cons a l ih =>
    show (PyData.list (ofPairs a ++ [pr t]) :: List.filterMap (addP t) ((ofWebs l).map V.d)) = PyData.list (ofPairs (a ++ [t])) :: ofWebs (l.map (· ++ [t]))
    rw [ih, ← Jm a [t]]; rfl
theorem ZBq {m p j : Nat} {cs : List Int} {w : List (List (Nat × Nat))} {b c : Option V} {S : List (List (Nat × Nat))} {kk : KS} (hS : S.length < 1000) (hs : ∀ s ∈ S, s.length < 1000)
    (cont : kk .nxt (alR m cs w (some (.d (.int p))) b c (some (.d (.list (ofWebs (S ++ S.map (· ++ [(j, p)])))))) (some (.d (.int j))))) :
    wpSs (wpCall T05 (n + 2)) false b__law_all_1 (alR m cs w (some (.d (.int p))) b c (some (.d (.list (ofWebs S)))) (some (.d (.int j)))) kk (fun c _ => X c) := by
  dsimp only [b__law_all_1, wpSs, wpS, wpE, wpL, slotW, ownS, Rho.putL, frz, bindF, setD, setAll, bindT, F1.W, F2.W, F1.quiet, seqV, numW, isNon, JN, JI, YF, YE, JF, YB, Zz, YA, Zg, ZO, YL, ZW, ZU, ZV, JD, Zv, Zc, Zb, ZH, ZG, YY, Zl, YH, ZQ, JO, YM, JC, ZS, ZT, ZJ, ZK, Zm, Zn, Zx, JE, Zy, Zu, ZL, Zf, YP, YQ, Zt, Zs, YR, YO, Za, Zr, Zq, JQ, YN, ZY, ZF, ZD, ZE, ZC, ZA, ZB, ZZ, excIs, Jj, YU, YV, YD, YC, YW, YX, Yk, Yl, Yb, Yc, Yg, Yh, Yx, Yy, Ym, Yn, Yt, Yu, Yi, Yj, Yo, YJ, YK, Jg, Jf, Ji, Jh, Yf, Yz, Yp, Yq, Yd, Ye, YZ, Ya, JL, JM, Yv, Yw, JA, JB, Jl, Jk, Ys, Yr, Nat.reduceSub, Nat.reduceAdd, YG, ZP, JR, Zj, Zo, ZX, Zp, YS, Ze, Zd, YT, Zk, JK, JP, JH, JG, Zi, Zh, ZN, ZI, ZM, Zw]
  refine ⟨by rw [List.length_map, List.length_map]; exact JT hS, JZ (addP (j, p)) _ _ (fun x hx kk' hk => ?_) ?_ ?_⟩
  · obtain ⟨y, hy, rfl⟩ := List.mem_map.mp hx
    obtain ⟨s, hs', rfl⟩ := List.mem_map.mp hy
    refine (show _ ∧ _ from ⟨?_, hk⟩)
    show (ofPairs s).length + 1 < lim
    rw [JS]; have := hs s hs'; exact lim_lt' (by lia)
  · rw [List.nil_append, Vs, List.length_map, List.length_map]; exact JT hS
  · rw [List.nil_append, Vs]
    refine (show _ ∧ _ from ⟨?_, ?_⟩)
    · rw [List.length_map, List.length_map, List.length_map]; exact lim_lt' (by lia)
    · show kk .nxt (alR m cs w (some (.d (.int p))) b c (some (.d (.list (ofWebs S ++ ofWebs (S.map (· ++ [(j, p)])))))) (some (.d (.int j))))
      rw [← List.map_append]; exact cont
theorem ZBp {m p : Nat} {cs : List Int} {w : List (List (Nat × Nat))} {b c : Option V} {kk : KS} (hp : p ≤ 5) {e : Option V}
    (cont : ∀ e, kk .nxt (alR m cs w (some (.d (.int p))) b c (some (.d (.list (ofWebs (setsTo p p))))) e)) :
    forW (fun x ρ' k => bindF (.one 7) x ρ' fun ρ'' => wpSs (wpCall T05 (n + 2)) false b__law_all_1 ρ'' k (fun c _ => X c)) kk ((rangeL p).map fun i => V.d (.int i)) (alR m cs w (some (.d (.int p))) b c (some (.d (.list (ofWebs (setsTo p 0))))) e) := by
  refine QB _ (fun i ρ => ∃ e, ρ = alR m cs w (some (.d (.int p))) b c (some (.d (.list (ofWebs (setsTo p i))))) e) ?_ ?_ _ ⟨e, rfl⟩
  · rintro ρ ⟨e, rfl⟩
    rw [Jb]; exact cont e
  · rintro i hi ρ k ⟨e, rfl⟩ go _
    rw [Jb] at hi
    rw [QO]
    have l5 : ∀ i, i ≤ 5 → 2 ^ i ≤ 32 := by decide
    refine ZBq (b := b) (c := c) (S := setsTo p i) ?_ (fun s hs => ?_) (go _ ⟨_, rfl⟩)
    · rw [Jy]; have := l5 i (by lia); lia
    · obtain ⟨f, rfl⟩ := Qn hs
      rw [List.length_map]
      exact Nat.lt_of_le_of_lt (List.length_filter_le ..) (by rw [List.length_range]; lia)
noncomputable def catP (ts : List (Nat × Nat)) : V → Option PyData
  | .d (.list l) => some (.list (ofPairs ts ++ l))
  | _ => none
theorem Vw (ts : List (Nat × Nat)) (l : List (List (Nat × Nat))) : List.filterMap (catP ts) ((ofWebs l).map V.d) = ofWebs (l.map (ts ++ ·)) := by
  induction l with
  | nil => rfl
  | cons a l ih =>
    show (PyData.list (ofPairs ts ++ ofPairs a) :: List.filterMap (catP ts) ((ofWebs l).map V.d)) = PyData.list (ofPairs (ts ++ a)) :: ofWebs (l.map (ts ++ ·))
    rw [ih, Jm]
theorem ZAn {m p : Nat} {cs : List Int} {w : List (List (Nat × Nat))} {d e : Option V} {acc : List (List (Nat × Nat))} {ts : List (Nat × Nat)} {kk : KS} (hp : p ≤ 5) (ha : acc.length < 50000) (ht : ts.length < 100)
    (cont : ∀ d e, kk .nxt (alR m cs w (some (.d (.int p))) (some (.own (.list (ofWebs (acc ++ (setsTo p p).map (ts ++ ·)))))) (some (.d (wbD ts))) d e)) :
    wpSs (wpCall T05 (n + 2)) false b__law_all_3 (alR m cs w (some (.d (.int p))) (some (.own (.list (ofWebs acc)))) (some (.d (wbD ts))) d e) kk (fun c _ => X c) := by
  have l5 : ∀ i, i ≤ 5 → 2 ^ i ≤ 32 := by decide
  have ls := l5 p hp
  dsimp only [b__law_all_3, wpSs, wpS, wpE, wpL, slotW, ownS, Rho.putL, frz, bindF, setD, setAll, bindT, F1.W, F2.W, F1.quiet, seqV, numW, isNon, JN, JI, YF, YE, JF, YB, Zz, YA, Zg, ZO, YL, ZW, ZU, ZV, JD, Zv, Zc, Zb, ZH, ZG, YY, Zl, YH, ZQ, JO, YM, JC, ZS, ZT, ZJ, ZK, Zm, Zn, Zx, JE, Zy, Zu, ZL, Zf, YP, YQ, Zt, Zs, YR, YO, Za, Zr, Zq, JQ, YN, ZY, ZF, ZD, ZE, ZC, ZA, ZB, ZZ, excIs, Jj, YU, YV, YD, YC, YW, YX, Yk, Yl, Yb, Yc, Yg, Yh, Yx, Yy, Ym, Yn, Yt, Yu, Yi, Yj, Yo, YJ, YK, Jg, Jf, Ji, Jh, Yf, Yz, Yp, Yq, Yd, Ye, YZ, Ya, JL, JM, Yv, Yw, JA, JB, Jl, Jk, Ys, Yr, Nat.reduceSub, Nat.reduceAdd, YG, ZP, JR, Zj, Zo, ZX, Zp, YS, Ze, Zd, YT, Zk, JK, JP, JH, JG, Zi, Zh, ZN, ZI, ZM, Zw]
  refine ⟨rngOk (by lia), rngLen (by lia), ?_⟩
  refine ZBp (b := some (.own (.list (ofWebs acc)))) (c := some (.d (wbD ts))) hp fun e => ?_
  dsimp only [b__law_all_2, wpSs, wpS, wpE, wpL, slotW, ownS, Rho.putL, frz, bindF, setD, setAll, bindT, F1.W, F2.W, F1.quiet, seqV, numW, isNon, JN, JI, YF, YE, JF, YB, Zz, YA, Zg, ZO, YL, ZW, ZU, ZV, JD, Zv, Zc, Zb, ZH, ZG, YY, Zl, YH, ZQ, JO, YM, JC, ZS, ZT, ZJ, ZK, Zm, Zn, Zx, JE, Zy, Zu, ZL, Zf, YP, YQ, Zt, Zs, YR, YO, Za, Zr, Zq, JQ, YN, ZY, ZF, ZD, ZE, ZC, ZA, ZB, ZZ, excIs, Jj, YU, YV, YD, YC, YW, YX, Yk, Yl, Yb, Yc, Yg, Yh, Yx, Yy, Ym, Yn, Yt, Yu, Yi, Yj, Yo, YJ, YK, Jg, Jf, Ji, Jh, Yf, Yz, Yp, Yq, Yd, Ye, YZ, Ya, JL, JM, Yv, Yw, JA, JB, Jl, Jk, Ys, Yr, Nat.reduceSub, Nat.reduceAdd, YG, ZP, JR, Zj, Zo, ZX, Zp, YS, Ze, Zd, YT, Zk, JK, JP, JH, JG, Zi, Zh, ZN, ZI, ZM, Zw]
  refine ⟨by rw [List.length_map, List.length_map, Jy]; exact lim_lt' (by lia), JZ (catP ts) _ _ (fun x hx kk' hk => ?_) ?_ ?_⟩
  · obtain ⟨y, hy, rfl⟩ := List.mem_map.mp hx
    obtain ⟨s, hs', rfl⟩ := List.mem_map.mp hy
    refine (show _ ∧ _ from ⟨?_, hk⟩)
    obtain ⟨f, rfl⟩ := Qn hs'
    have := List.length_filter_le f (List.range p)
    rw [List.length_range] at this
    rw [JS, JS, List.length_map]; exact lim_lt' (by lia)
  · rw [List.nil_append, Vw, List.length_map, List.length_map, Jy]; exact lim_lt' (by lia)
  · rw [List.nil_append, Vw]
    refine (show _ ∧ _ from ⟨?_, ?_⟩)
    · rw [List.length_map, List.length_map, List.length_map, Jy]; exact lim_lt' (by lia)
    · show kk .nxt (alR m cs w (some (.d (.int p))) (some (.own (.list (ofWebs acc ++ ofWebs ((setsTo p p).map (ts ++ ·)))))) (some (.d (wbD ts))) (some (.d (.list (ofWebs (setsTo p p))))) e)
      rw [← List.map_append]; exact cont _ _
theorem ZAm {m p : Nat} {cs : List Int} {w : List (List (Nat × Nat))} {kk : KS} (hp : p ≤ 5) {ws : List (List (Nat × Nat))} : ∀ {acc : List (List (Nat × Nat))} {c d e : Option V}, acc.length + ws.length * 32 < 50000 → (∀ ts ∈ ws, ts.length < 100) →
    (∀ c d e, kk .nxt (alR m cs w (some (.d (.int p))) (some (.own (.list (ofWebs (acc ++ ws.flatMap fun ts => (setsTo p p).map (ts ++ ·)))))) c d e)) →
    forW (fun x ρ' k => bindF (.one 5) x ρ' fun ρ'' => wpSs (wpCall T05 (n + 2)) false b__law_all_3 ρ'' k (fun c _ => X c)) kk ((ofWebs ws).map V.d) (alR m cs w (some (.d (.int p))) (some (.own (.list (ofWebs acc)))) c d e) := by
  have l5 : ∀ i, i ≤ 5 → 2 ^ i ≤ 32 := by decide
  have ls := l5 p hp
  induction ws with
  | nil => intro acc c d e _ _ cont; have := cont c d e; rw [List.flatMap_nil, List.append_nil] at this; exact this
  | cons ts ws ih =>
    intro acc c d e hl ht cont
    rw [List.length_cons] at hl
    refine ZAn hp (by lia) (ht ts (.head _)) fun d e => ih (by rw [List.length_append, List.length_map, Jy]; lia) (fun t h => ht t (.tail _ h)) fun c d e => ?_
    have := cont c d e
    rw [List.flatMap_cons, ← List.append_assoc] at this
    exact this
theorem XO {step : Rho → (Option PyData → Prop) → Prop} {ρ : Rho} {K : V → Prop} (P : List (Nat × Nat) → Bool) {ws : List (List (Nat × Nat))} : ∀ {acc : List PyData}, (∀ ts ∈ ws, ∀ kk : Option PyData → Prop, kk (cond (P ts) (some (wbD ts)) none) → step (ρ ++ [some (.d (wbD ts))]) kk) →
    acc.length + ws.length < lim → K (.own (.list (acc ++ ofWebs (ws.filter P)))) → compW step none ρ K ((ofWebs ws).map V.d) acc := by
  induction ws with
  | nil => intro acc _ h k; rw [List.filter_nil, show ofWebs [] = [] from rfl, List.append_nil] at k; exact ⟨h, k⟩
  | cons ts ws ih =>
    intro acc st h k
    rw [List.length_cons] at h
    refine st ts (.head _) _ ?_
    rw [List.filter_cons] at k
    cases e : P ts with
    | false => rw [e, if_neg (by decide)] at k; exact ih (fun t ht => st t (.tail _ ht)) (Nat.lt_of_succ_lt h) k
    | true =>
      rw [e, if_pos rfl] at k
      refine ih (fun t ht => st t (.tail _ ht)) (by show (acc ++ [wbD ts]).length + ws.length < lim; rw [List.length_append]; show acc.length + 1 + ws.length < lim; lia) ?_
      show K (.own (.list ((acc ++ [wbD ts]) ++ ofWebs (ws.filter P))))
      rw [List.append_assoc]; exact k
noncomputable abbrev wiB (m : Nat) (cs : List Int) (ts : List (Nat × Nat)) : Bool := withinB (ctL m ts) cs
noncomputable def allK (m : Nat) (cs : List Int) : List (List (Nat × Nat)) := (allW (wiB m cs) m).filter fun ts => decide (ctL m ts = cs)
theorem Ul (m : Nat) (ts : List (Nat × Nat)) : (ctL m ts).length = m := by unfold ctL; rw [List.length_map, List.length_range]
theorem tri5 : ∀ i, i ≤ 5 → 2 ^ tri i ≤ 1024 := by decide
theorem ZEj (ws : List (List (Nat × Nat))) (p : Nat) : (ws.flatMap fun ts => (setsTo p p).map (ts ++ ·)).length = ws.length * 2 ^ p := by
  rw [List.length_flatMap, show (ws.map fun ts => ((setsTo p p).map (ts ++ ·)).length) = ws.map fun _ => 2 ^ p from List.map_congr_left fun ts _ => by rw [List.length_map, Jy], List.map_const', List.sum_replicate_nat]
theorem Gq {m p : Nat} {cs : List Int} {b c d e : Option V} {kk : KS} (hm : m ≤ 5) (hp : p < m) (lc : cs.length = m)
    (cont : ∀ b c d e, kk .nxt (alR m cs (allW (wiB m cs) (p + 1)) (some (.d (.int p))) b c d e)) :
    wpSs (wpCall T05 (n + 2)) false b__law_all_5 (alR m cs (allW (wiB m cs) p) (some (.d (.int p))) b c d e) kk (fun c _ => X c) := by
  have la := Nat.le_trans (VQ (wiB m cs) p) (tri5 p (by lia))
  have l5 : ∀ i, i ≤ 5 → 2 ^ i ≤ 32 := by decide
  dsimp only [b__law_all_5, wpSs, wpS, wpE, wpL, slotW, ownS, Rho.putL, frz, bindF, setD, setAll, bindT, F1.W, F2.W, F1.quiet, seqV, numW, isNon, JN, JI, YF, YE, JF, YB, Zz, YA, Zg, ZO, YL, ZW, ZU, ZV, JD, Zv, Zc, Zb, ZH, ZG, YY, Zl, YH, ZQ, JO, YM, JC, ZS, ZT, ZJ, ZK, Zm, Zn, Zx, JE, Zy, Zu, ZL, Zf, YP, YQ, Zt, Zs, YR, YO, Za, Zr, Zq, JQ, YN, ZY, ZF, ZD, ZE, ZC, ZA, ZB, ZZ, excIs, Jj, YU, YV, YD, YC, YW, YX, Yk, Yl, Yb, Yc, Yg, Yh, Yx, Yy, Ym, Yn, Yt, Yu, Yi, Yj, Yo, YJ, YK, Jg, Jf, Ji, Jh, Yf, Yz, Yp, Yq, Yd, Ye, YZ, Ya, JL, JM, Yv, Yw, JA, JB, Jl, Jk, Ys, Yr, Nat.reduceSub, Nat.reduceAdd, YG, ZP, JR, Zj, Zo, ZX, Zp, YS, Ze, Zd, YT, Zk, JK, JP, JH, JG, Zi, Zh, ZN, ZI, ZM, Zw]
  refine ⟨by rw [List.length_map, List.length_map]; exact lim_lt' (by lia), ?_⟩
  refine ZAm (acc := []) (by lia) (by show 0 + _ * 32 < 50000; lia) (fun ts ht => ?_) fun c d e => ?_
  · have := Jz (Xb ht) (by lia); lia
  · dsimp only [b__law_all_4, wpSs, wpS, wpE, wpL, slotW, ownS, Rho.putL, frz, bindF, setD, setAll, bindT, F1.W, F2.W, F1.quiet, seqV, numW, isNon, JN, JI, YF, YE, JF, YB, Zz, YA, Zg, ZO, YL, ZW, ZU, ZV, JD, Zv, Zc, Zb, ZH, ZG, YY, Zl, YH, ZQ, JO, YM, JC, ZS, ZT, ZJ, ZK, Zm, Zn, Zx, JE, Zy, Zu, ZL, Zf, YP, YQ, Zt, Zs, YR, YO, Za, Zr, Zq, JQ, YN, ZY, ZF, ZD, ZE, ZC, ZA, ZB, ZZ, excIs, Jj, YU, YV, YD, YC, YW, YX, Yk, Yl, Yb, Yc, Yg, Yh, Yx, Yy, Ym, Yn, Yt, Yu, Yi, Yj, Yo, YJ, YK, Jg, Jf, Ji, Jh, Yf, Yz, Yp, Yq, Yd, Ye, YZ, Ya, JL, JM, Yv, Yw, JA, JB, Jl, Jk, Ys, Yr, Nat.reduceSub, Nat.reduceAdd, YG, ZP, JR, Zj, Zo, ZX, Zp, YS, Ze, Zd, YT, Zk, JK, JP, JH, JG, Zi, Zh, ZN, ZI, ZM, Zw]
    have ml := ZEj (allW (wiB m cs) p) p
    have le : (allW (wiB m cs) p).length * 2 ^ p ≤ 1024 * 32 := Nat.mul_le_mul la (l5 p (by lia))
    refine ⟨by rw [List.length_map, List.length_map, ml]; exact lim_lt' (by lia), XO (wiB m cs) (fun ts ht kk' hk => ?_) (by rw [ml]; exact lim_lt' (by show 0 + _ < 100000; lia)) ?_⟩
    · have hw : ts.length < 1000 := by
        obtain ⟨a, ha, h⟩ := List.mem_flatMap.mp ht
        obtain ⟨s, hs, rfl⟩ := List.mem_map.mp h
        obtain ⟨f, rfl⟩ := Qn hs
        have h1 := Jz (Xb ha) (show p ≤ 10 by lia)
        have h2 := List.length_filter_le f (List.range p)
        rw [List.length_range] at h2
        rw [List.length_append, List.length_map]; lia
      show wpCall T05 (n + 2) false 16 [.d (.int m), .brw (.list (ofPairs ts))] _ _
      refine Qv m (by lia) ts hw ?_
      show wpCall T05 (n + 2) false 18 [.d (.list (ofInts (ctL m ts))), .brw (.list (ofInts cs))] _ _
      refine WF (by rw [Ul, lc]) (by lia) ?_
      show cond (wiB m cs ts) (kk' (some (wbD ts))) (kk' none)
      revert hk
      cases wiB m cs ts <;> exact id
    · rw [List.nil_append]
      exact cont _ _ _ _
theorem Hf (a : List Int) : ∀ b : List Int, PyData.eqv (.list (ofInts a)) (.list (ofInts b)) = decide (a = b) := by
  have key : ∀ a b : List Int, PyData.eqvAll (ofInts a) (ofInts b) = decide (a = b) := by
    intro a
    induction a with
    | nil => intro b; cases b with
      | nil => rfl
      | cons y b => rfl
    | cons x a ih =>
      intro b
      cases b with
      | nil => rfl
      | cons y b =>
        show (PyData.eqv (.int x) (.int y) && PyData.eqvAll (ofInts a) (ofInts b)) = _
        rw [ih, show PyData.eqv (.int x) (.int y) = (x == y) by simp only [PyData.eqv]]
        refine Bool.eq_iff_iff.mpr ?_
        rw [Bool.and_eq_true, beq_iff_eq, decide_eq_true_iff, decide_eq_true_iff, List.cons.injEq]
  intro b
  rw [← key]
  simp only [PyData.eqv]
theorem ZGx {v w : V} {a b : List Int} {K : V → Prop} (e : rd v = some (.list (ofInts a))) (e' : rd w = some (.list (ofInts b))) (k : K (.d (.bool (decide (a = b))))) : objW .eq v w K := by
  show got (rd v) _
  rw [e]
  show got (rd w) _
  rw [e']
  refine ⟨(Sh.ints 0 a).shp (by decide), (Sh.ints 0 b).shp (by decide), ?_⟩
  rw [Hf]; exact k
theorem ZCm {m : Nat} {cs : List Int} (hm : m ≤ 5) (lc : cs.length = m) (k : K (.own (.list (ofWebs (allK m cs))))) : wpCall T05 (n + 3) false 19 [.d (.int m), .brw (.list (ofInts cs))] K X := by
  refine JY (fn := f__law_all) rfl rfl (by decide) ?_
  dsimp only [f__law_all, b__law_all, wpSs, wpS, wpE, wpL, slotW, ownS, Rho.putL, frz, bindF, setD, setAll, bindT, F1.W, F2.W, F1.quiet, seqV, numW, isNon, JN, JI, YF, YE, JF, YB, Zz, YA, Zg, ZO, YL, ZW, ZU, ZV, JD, Zv, Zc, Zb, ZH, ZG, YY, Zl, YH, ZQ, JO, YM, JC, ZS, ZT, ZJ, ZK, Zm, Zn, Zx, JE, Zy, Zu, ZL, Zf, YP, YQ, Zt, Zs, YR, YO, Za, Zr, Zq, JQ, YN, ZY, ZF, ZD, ZE, ZC, ZA, ZB, ZZ, excIs, Jj, YU, YV, YD, YC, YW, YX, Yk, Yl, Yb, Yc, Yg, Yh, Yx, Yy, Ym, Yn, Yt, Yu, Yi, Yj, Yo, YJ, YK, Jg, Jf, Ji, Jh, Yf, Yz, Yp, Yq, Yd, Ye, YZ, Ya, JL, JM, Yv, Yw, JA, JB, Jl, Jk, Ys, Yr, Nat.reduceSub, Nat.reduceAdd, YG, ZP, JR, Zj, Zo, ZX, Zp, YS, Ze, Zd, YT, Zk, JK, JP, JH, JG, Zi, Zh, ZN, ZI, ZM, Zw]
  refine ⟨rngOk (by lia), rngLen (by lia), ?_⟩
  refine QB _ (fun i ρ => ∃ a b c d e, ρ = alR m cs (allW (wiB m cs) i) a b c d e) ?_ ?_ _ ⟨none, none, none, none, none, rfl⟩
  · rintro ρ ⟨a, b, c, d, e, rfl⟩
    rw [Jb]
    dsimp only [b__law_all_6, wpSs, wpS, wpE, wpL, slotW, ownS, Rho.putL, frz, bindF, setD, setAll, bindT, F1.W, F2.W, F1.quiet, seqV, numW, isNon, JN, JI, YF, YE, JF, YB, Zz, YA, Zg, ZO, YL, ZW, ZU, ZV, JD, Zv, Zc, Zb, ZH, ZG, YY, Zl, YH, ZQ, JO, YM, JC, ZS, ZT, ZJ, ZK, Zm, Zn, Zx, JE, Zy, Zu, ZL, Zf, YP, YQ, Zt, Zs, YR, YO, Za, Zr, Zq, JQ, YN, ZY, ZF, ZD, ZE, ZC, ZA, ZB, ZZ, excIs, Jj, YU, YV, YD, YC, YW, YX, Yk, Yl, Yb, Yc, Yg, Yh, Yx, Yy, Ym, Yn, Yt, Yu, Yi, Yj, Yo, YJ, YK, Jg, Jf, Ji, Jh, Yf, Yz, Yp, Yq, Yd, Ye, YZ, Ya, JL, JM, Yv, Yw, JA, JB, Jl, Jk, Ys, Yr, Nat.reduceSub, Nat.reduceAdd, YG, ZP, JR, Zj, Zo, ZX, Zp, YS, Ze, Zd, YT, Zk, JK, JP, JH, JG, Zi, Zh, ZN, ZI, ZM, Zw]
    have la := Nat.le_trans (VQ (wiB m cs) m) (tri5 m hm)
    refine ⟨by rw [List.length_map, List.length_map]; exact lim_lt' (by lia), XO (fun ts => decide (ctL m ts = cs)) (fun ts ht kk' hk => ?_) (lim_lt' (by show 0 + _ < 100000; lia)) ?_⟩
    · have h1 := Jz (Xb ht) (show m ≤ 10 by lia)
      show wpCall T05 (n + 2) false 16 [.d (.int m), .brw (.list (ofPairs ts))] _ _
      refine Qv m (by lia) ts (by lia) ?_
      dsimp only [wpSs, wpS, wpE, wpL, slotW, ownS, Rho.putL, frz, bindF, setD, setAll, bindT, F1.W, F2.W, F1.quiet, seqV, numW, isNon, JN, JI, YF, YE, JF, YB, Zz, YA, Zg, ZO, YL, ZW, ZU, ZV, JD, Zv, Zc, Zb, ZH, ZG, YY, Zl, YH, ZQ, JO, YM, JC, ZS, ZT, ZJ, ZK, Zm, Zn, Zx, JE, Zy, Zu, ZL, Zf, YP, YQ, Zt, Zs, YR, YO, Za, Zr, Zq, JQ, YN, ZY, ZF, ZD, ZE, ZC, ZA, ZB, ZZ, excIs, Jj, YU, YV, YD, YC, YW, YX, Yk, Yl, Yb, Yc, Yg, Yh, Yx, Yy, Ym, Yn, Yt, Yu, Yi, Yj, Yo, YJ, YK, Jg, Jf, Ji, Jh, Yf, Yz, Yp, Yq, Yd, Ye, YZ, Ya, JL, JM, Yv, Yw, JA, JB, Jl, Jk, Ys, Yr, Nat.reduceSub, Nat.reduceAdd, YG, ZP, JR, Zj, Zo, ZX, Zp, YS, Ze, Zd, YT, Zk, JK, JP, JH, JG, Zi, Zh, ZN, ZI, ZM, Zw]
      refine ZGx (v := .own (.list (ofInts (ctL m ts)))) (w := .brw (.list (ofInts cs))) rfl rfl ?_
      show cond (decide (ctL m ts = cs)) (kk' (some (wbD ts))) (kk' none)
      revert hk
      cases decide (ctL m ts = cs) <;> exact id
    · rw [List.nil_append]
      exact k
  · rintro i hi ρ kk ⟨a, b, c, d, e, rfl⟩ go _
    rw [Jb] at hi
    rw [QO]
    exact Gq hm hi lc fun b c d e => go _ ⟨_, b, c, d, e, rfl⟩
end
end TC

namespace TC
theorem ZEm {n : Nat} {us : Ties} (w : ∀ t ∈ us, t.1 < t.2 ∧ t.2 < n) : n ≤ ncomp n us + us.length := by
  induction us with
  | nil => rw [UN]; exact Nat.le_refl _
  | cons e us ih =>
    have h := ih fun t ht => w t (.tail _ ht)
    have we := w e (.head _)
    rw [List.length_cons]
    by_cases c : Cn us e.1 e.2
    · rw [(QS us e).same c]; lia
    · have := (QS us e).less (n := n) c (by lia) (by lia); lia
theorem ZEv {m : Nat} {ts : Ties} (w : Web m ts) (h : 0 < m) : 0 < ncomp m ts := by
  obtain ⟨r, h1, h2⟩ := XR ts 0
  unfold ncomp
  exact List.length_pos_of_mem (Jr.mpr ⟨Cn.lt w h h2.symm, h1⟩)
theorem ZGd {m : Nat} {ts : Ties} (w : Web m ts) (h : ncomp m ts = 1) {a b : Nat} (ha : a < m) (hb : b < m) (lt : a < b) : Cn ts a b := Classical.byContradiction fun c => by
  have h1 := (QS ts (a, b)).less (n := m) c ha hb
  have nm : (a, b) ∉ ts := fun q => c (.one (.inl q))
  have h2 := ZEv (ts := (a, b) :: ts) ⟨List.nodup_cons.mpr ⟨nm, w.1⟩, fun t ht => by
    rcases List.mem_cons.mp ht with rfl | ht
    · exact ⟨lt, hb⟩
    · exact w.2 t ht⟩ (Nat.lt_of_le_of_lt (Nat.zero_le a) ha)
  lia
theorem Vu {ts : Ties} {a b : Nat} (c : Cn ts a b) (ne : a ≠ b) : ∃ z, Adj ts z b := by
  cases c with
  | refl => exact absurd rfl ne
  | step _ h => exact ⟨_, h⟩
theorem ZIn {m : Nat} {ts : Ties} (w : Web m ts) (h : ncomp m ts = 1) (l : 1 < m) {x : Nat} (hx : x < m) : 0 < cnt ts x := by
  obtain ⟨z, hz⟩ : ∃ z, Adj ts z x := by
    by_cases q : x = 0
    · exact Vu (ZGd w h hx l (by lia)).symm (by lia)
    · exact Vu (ZGd w h (by lia) hx (Nat.pos_of_ne_zero q)) (Ne.symm q)
  unfold cnt
  refine List.countP_pos_iff.mpr ?_
  rcases hz with hz | hz
  · exact ⟨_, hz, by simp⟩
  · exact ⟨_, hz, by simp⟩
end TC

namespace TC
open PySem PyProof.Rows
section
variable {K : V → Prop} {X : Nat → Prop} {n : Nat}
theorem Ur (ts : List (Nat × Nat)) {p m : Nat} (h : p ≤ m) (v : Nat) : cnt (normT ts p) v ≤ cnt (normT ts m) v := by
  induction m with
  | zero => rw [Nat.le_zero.mp h]; exact Nat.le_refl _
  | succ m ih =>
    rcases Nat.lt_or_eq_of_le h with q | q
    · refine Nat.le_trans (ih (Nat.le_of_lt_succ q)) ?_
      show cnt _ v ≤ cnt (normT ts m ++ colOf ts m) v
      unfold cnt; rw [List.countP_append]; exact Nat.le_add_right _ _
    · rw [q]; exact Nat.le_refl _
theorem Uk {a b : List (Nat × Nat)} (p : a.Perm b) (v : Nat) : cnt a v = cnt b v := p.countP_eq _
theorem Wg {m : Nat} {ts : List (Nat × Nat)} (w : Web m ts) : normT ts m ∈ allK m (ctL m ts) := by
  have pm := UO w
  have e : ctL m (normT ts m) = ctL m ts := List.map_congr_left fun v _ => by rw [Uk pm v]
  refine List.mem_filter.mpr ⟨ZBa fun p hp => HH.mpr fun v hv => ?_, decide_eq_true e⟩
  rw [Ul] at hv
  rw [← e]
  unfold ctL
  rw [List.getD_eq_getElem?_getD, List.getD_eq_getElem?_getD, List.getElem?_map, List.getElem?_map, List.getElem?_range hv]
  exact Int.ofNat_le.mpr (Ur ts hp v)
theorem VP {m : Nat} {cs : List Int} {ts : List (Nat × Nat)} (h : ts ∈ allK m cs) : Web m ts ∧ ctL m ts = cs :=
  let ⟨h1, h2⟩ := List.mem_filter.mp h; ⟨Xb h1, of_decide_eq_true h2⟩
theorem Ho {m : Nat} {ts : List (Nat × Nat)} (w : Web m ts) (h : ncomp m ts = 1) : hungK (ctL m ts) = none := by
  unfold hungK
  rw [Ua w]
  show hindK (ctL m ts) = none
  unfold hindK
  rw [Ul]
  have h0 : (decide (1 < (m : Int)) && decide (0 ∈ ctL m ts)) = false := by
    rw [Bool.and_eq_false_iff]
    by_cases l : 1 < m
    · refine .inr (decide_eq_false fun q => ?_)
      obtain ⟨x, hx, e⟩ := List.mem_map.mp q
      have := ZIn w h l (List.mem_range.mp hx)
      have : ((cnt ts x : Nat) : Int) = 0 := e
      lia
    · exact .inl (decide_eq_false fun q => l (Int.ofNat_lt.mp q))
  have h1 := ZEm w.2
  have h2 : (ctL m ts).sum = 2 * ts.length := XW w
  rw [h0, h2, decide_eq_false (show ¬ (2 * (ts.length : Int) < 2 * ((m : Int) - 1)) by lia)]
  rfl
end
end TC

namespace TC
open PySem PyProof.Rows
section
variable {K : V → Prop} {X : Nat → Prop} {n : Nat}
noncomputable abbrev lwR (m : Nat) (cs : List Int) (s t c k o a b w x : Option V) : Rho := [s, some (.d (.int m)), t, c, k, o, a, b, w, x, some (.own (.list (ofInts cs)))]
theorem UH (cs : List Int) : keysV (.brw (.list (ofInts cs))) = some (ofInts cs) := Vi (UC cs)
theorem Xg (l : List (List (Nat × Nat))) : (ofWebs l).isEmpty = l.isEmpty := by cases l <;> rfl
theorem He {s : Str} {K : V → Prop} (h1 : PyData.strOk s = true) (k : K (.d (.bool (s == ("web" : Str))))) : objW .eq (.d (.str s)) (.d (.str "web")) K := by
  refine ⟨shw h1, shw (by decide +kernel), ?_⟩
  rw [show PyData.eqv (.str s) (.str "web") = (s == "web") by simp only [PyData.eqv]]; exact k
theorem ZKp {t : List PyData} (w : Wd t) {K : V → Prop} (k : K (.d (.bool false))) : got (idxV (.d (.tuple t)) 0) fun v => opW .eq v (.d (.str "web")) K := by
  obtain ⟨s, r, rfl, h1, h2⟩ := w.word
  exact WX (He h1 (by rw [h2]; exact k))
theorem ZGj {ys : List PyData} {K : V → Prop} (k : K (.d (.bool true))) : got (idxV (.ot (.str "web") (.list ys)) 0) fun v => opW .eq v (.d (.str "web")) K := by
  rw [JK]
  exact He (by decide +kernel) (by rw [show (("web" : Str) == ("web" : Str)) = true from beq_self_eq_true _]; exact k)
theorem Vk (b : Bool) : shp (.bool b) := by unfold shp; cases b <;> rfl
theorem ZLc {a b : Bool} {K : V → Prop} (k : K (.d (.bool (!(a == b))))) : opW .ne (.d (.bool a)) (.d (.bool b)) K := by
  refine (show _ ∧ _ ∧ _ from ⟨Vk a, Vk b, ?_⟩)
  rw [show PyData.eqv (.bool a) (.bool b) = (a == b) by cases a <;> cases b <;> simp [PyData.eqv]]; exact k
theorem ZLb {a b : Bool} {K : V → Prop} (k : K (.d (.bool (a == b)))) : opW .eq (.d (.bool a)) (.d (.bool b)) K := by
  refine (show _ ∧ _ ∧ _ from ⟨Vk a, Vk b, ?_⟩)
  rw [show PyData.eqv (.bool a) (.bool b) = (a == b) by cases a <;> cases b <;> simp [PyData.eqv]]; exact k
theorem Vl (l : List (List (Nat × Nat))) : Sh 3 (.list (ofWebs l)) := .list fun x hx => by obtain ⟨ts, _, rfl⟩ := List.mem_map.mp hx; exact .pairs 0 ts
noncomputable def wholeK (m : Nat) (cs : List Int) : List (List (Nat × Nat)) := (allK m cs).filter fun ts => decide (ncomp m ts = 1)
theorem ZCk {m : Nat} {cs : List Int} (hm : m ≤ 5) : (allK m cs).length ≤ 1024 := Nat.le_trans (List.length_filter_le ..) (Nat.le_trans (VQ _ m) (tri5 m hm))
theorem ZJz {m : Nat} {cs : List Int} {s t c k o a b x : Option V} (g : GC cs) (lc : cs.length = m) (hm : m ≤ 5) (q : K (.d (.bool true))) :
    wpSs (wpCall T05 (n + 6)) false b_law_w (lwR m cs s t c k o a b (some (.d (.list (ofWebs (allK m cs))))) x) (outK K) (fun c _ => X c) := by
  have l1 : (ofInts cs).length < lim := by rw [YI]; exact JT (by lia)
  have la := ZCk (m := m) (cs := cs) hm
  dsimp only [b_law_w, wpSs, wpS, wpE, wpL, slotW, ownS, Rho.putL, frz, bindF, setD, setAll, bindT, F1.W, F2.W, F1.quiet, seqV, numW, isNon, JN, JI, YF, YE, JF, YB, Zz, YA, Zg, ZO, YL, ZW, ZU, ZV, JD, Zv, Zc, Zb, ZH, ZG, YY, Zl, YH, ZQ, JO, YM, JC, ZS, ZT, ZJ, ZK, Zm, Zn, Zx, JE, Zy, Zu, ZL, Zf, YP, YQ, Zt, Zs, YR, YO, Za, Zr, Zq, JQ, YN, ZY, ZF, ZD, ZE, ZC, ZA, ZB, ZZ, excIs, Jj, YU, YV, YD, YC, YW, YX, Yk, Yl, Yb, Yc, Yg, Yh, Yx, Yy, Ym, Yn, Yt, Yu, Yi, Yj, Yo, YJ, YK, Jg, Jf, Ji, Jh, Yf, Yz, Yp, Yq, Yd, Ye, YZ, Ya, JL, JM, Yv, Yw, JA, JB, Jl, Jk, Ys, Yr, Nat.reduceSub, Nat.reduceAdd, YG, ZP, JR, Zj, Zo, ZX, Zp, YS, Ze, Zd, YT, Zk, JK, JP, JH, JG, Zi, Zh, ZN, ZI, ZM, Zw]
  refine ⟨by rw [List.length_map, List.length_map]; exact lim_lt' (by lia), XO (fun ts => decide (ncomp m ts = 1)) (fun ts ht kk' hk => ?_) (lim_lt' (by show 0 + _ < 100000; lia)) ?_⟩
  · have wt := (VP ht).1
    show wpCall T05 (n + 6) false 17 [.d (.int m), .brw (.list (ofPairs ts))] _ _
    have h1 := Jz wt (show m ≤ 10 by lia)
    refine Xn (n := n + 5) ⟨lc ▸ g.pos, by lia, wt, by lia⟩ ?_
    have ll := XE (m := m) (ts := ts)
    refine (show _ ∧ _ from ⟨?_, ?_⟩)
    · rw [ll]; exact lim_lt' (Nat.lt_of_le_of_lt ZAr (by lia))
    · rw [ll, show decide (((ncomp m ts : Nat) : Int) = 1) = decide (ncomp m ts = 1) from decide_eq_decide.mpr ⟨fun q => Int.ofNat_inj.mp q, fun q => by rw [q]; rfl⟩]
      revert hk
      cases decide (ncomp m ts = 1) <;> exact id
  · rw [List.nil_append]
    dsimp only [wpSs, wpS, wpE, wpL, slotW, ownS, Rho.putL, frz, bindF, setD, setAll, bindT, F1.W, F2.W, F1.quiet, seqV, numW, isNon, JN, JI, YF, YE, JF, YB, Zz, YA, Zg, ZO, YL, ZW, ZU, ZV, JD, Zv, Zc, Zb, ZH, ZG, YY, Zl, YH, ZQ, JO, YM, JC, ZS, ZT, ZJ, ZK, Zm, Zn, Zx, JE, Zy, Zu, ZL, Zf, YP, YQ, Zt, Zs, YR, YO, Za, Zr, Zq, JQ, YN, ZY, ZF, ZD, ZE, ZC, ZA, ZB, ZZ, excIs, Jj, YU, YV, YD, YC, YW, YX, Yk, Yl, Yb, Yc, Yg, Yh, Yx, Yy, Ym, Yn, Yt, Yu, Yi, Yj, Yo, YJ, YK, Jg, Jf, Ji, Jh, Yf, Yz, Yp, Yq, Yd, Ye, YZ, Ya, JL, JM, Yv, Yw, JA, JB, Jl, Jk, Ys, Yr, Nat.reduceSub, Nat.reduceAdd, YG, ZP, JR, Zj, Zo, ZX, Zp, YS, Ze, Zd, YT, Zk, JK, JP, JH, JG, Zi, Zh, ZN, ZI, ZM, Zw]
    rw [UH]
    refine ⟨l1, Hp (n := n + 1) g (fun t ht => ?_) fun ht us wu sd one eu => ?_⟩
    · have em : wholeK m cs = [] := List.eq_nil_iff_forall_not_mem.mpr fun ts hts => by
        obtain ⟨h1, h2⟩ := List.mem_filter.mp hts
        obtain ⟨w, e⟩ := VP h1
        have := Ho w (of_decide_eq_true h2)
        rw [e, ht] at this; cases this
      refine ZKp (ZHk ht) (Xu (xs := ofWebs (wholeK m cs)) rfl (Vl _) (by decide) (ZLb ?_))
      rw [Xg, em]
      exact q
    · have ne : wholeK m cs ≠ [] := fun z => by
        have h1 := Wg wu
        rw [eu] at h1
        have h2 : ncomp cs.length (normT us cs.length) = 1 := by rw [Xt fun t => (UO wu).mem_iff]; exact one
        rw [lc] at h1 h2
        have h3 : normT us m ∈ wholeK m cs := List.mem_filter.mpr ⟨h1, decide_eq_true h2⟩
        rw [z] at h3; cases h3
      refine ZGj (Xu (xs := ofWebs (wholeK m cs)) rfl (Vl _) (by decide) (ZLb ?_))
      rw [Xg, List.isEmpty_eq_false_iff.mpr ne]
      exact q
theorem ZKy {m : Nat} {cs : List Int} {s t c k o a b x : Option V} (g : GC cs) (lc : cs.length = m) (hm : m ≤ 5) (q : K (.d (.bool true))) :
    wpSs (wpCall T05 (n + 6)) false b_law_v (lwR m cs s t c k o a b (some (.d (.list (ofWebs (allK m cs))))) x) (outK K) (fun c _ => X c) := by
  dsimp only [b_law_v, wpSs, wpS, wpE, wpL, slotW, ownS, Rho.putL, frz, bindF, setD, setAll, bindT, F1.W, F2.W, F1.quiet, seqV, numW, isNon, JN, JI, YF, YE, JF, YB, Zz, YA, Zg, ZO, YL, ZW, ZU, ZV, JD, Zv, Zc, Zb, ZH, ZG, YY, Zl, YH, ZQ, JO, YM, JC, ZS, ZT, ZJ, ZK, Zm, Zn, Zx, JE, Zy, Zu, ZL, Zf, YP, YQ, Zt, Zs, YR, YO, Za, Zr, Zq, JQ, YN, ZY, ZF, ZD, ZE, ZC, ZA, ZB, ZZ, excIs, Jj, YU, YV, YD, YC, YW, YX, Yk, Yl, Yb, Yc, Yg, Yh, Yx, Yy, Ym, Yn, Yt, Yu, Yi, Yj, Yo, YJ, YK, Jg, Jf, Ji, Jh, Yf, Yz, Yp, Yq, Yd, Ye, YZ, Ya, JL, JM, Yv, Yw, JA, JB, Jl, Jk, Ys, Yr, Nat.reduceSub, Nat.reduceAdd, YG, ZP, JR, Zj, Zo, ZX, Zp, YS, Ze, Zd, YT, Zk, JK, JP, JH, JG, Zi, Zh, ZN, ZI, ZM, Zw]
  have l1 : (ofInts cs).length < lim := by rw [YI]; exact JT (by lia)
  rw [UH]
  refine ⟨l1, Ub (n := n + 3) g (fun t ht => ?_) fun ht us wu sd eu => ?_⟩
  · have em : allK m cs = [] := List.eq_nil_iff_forall_not_mem.mpr fun ts hts => by
      obtain ⟨w, e⟩ := VP hts
      have := Ua w
      rw [e, ht] at this; cases this
    refine ZKp (WA ht) (Xu rfl (Vl _) (by decide) (ZLc ?_))
    rw [Xg, show (allK m cs).isEmpty = true by rw [em]; rfl]
    exact ZJz g lc hm q
  · have ne : allK m cs ≠ [] := fun q => by
      have := Wg wu
      rw [eu, lc, q] at this; cases this
    refine ZGj (Xu rfl (Vl _) (by decide) (ZLc ?_))
    rw [Xg, List.isEmpty_eq_false_iff.mpr ne]
    exact ZJz g lc hm q
end
end TC

namespace TC
open PySem PyProof.Rows
section
variable {K : V → Prop} {X : Nat → Prop} {n : Nat}
theorem ZHv {m : Nat} {cs : List Int} {s t c k o a b w x : Option V} (g : GC cs) (lc : cs.length = m) (hm : m ≤ 5) (q : K (.d (.bool true))) :
    wpSs (wpCall T05 (n + 6)) false b_law_u (lwR m cs s t c k o a b w x) (outK K) (fun c _ => X c) := by
  dsimp only [b_law_u, wpSs, wpS, wpE, wpL, slotW, ownS, Rho.putL, frz, bindF, setD, setAll, bindT, F1.W, F2.W, F1.quiet, seqV, numW, isNon, JN, JI, YF, YE, JF, YB, Zz, YA, Zg, ZO, YL, ZW, ZU, ZV, JD, Zv, Zc, Zb, ZH, ZG, YY, Zl, YH, ZQ, JO, YM, JC, ZS, ZT, ZJ, ZK, Zm, Zn, Zx, JE, Zy, Zu, ZL, Zf, YP, YQ, Zt, Zs, YR, YO, Za, Zr, Zq, JQ, YN, ZY, ZF, ZD, ZE, ZC, ZA, ZB, ZZ, excIs, Jj, YU, YV, YD, YC, YW, YX, Yk, Yl, Yb, Yc, Yg, Yh, Yx, Yy, Ym, Yn, Yt, Yu, Yi, Yj, Yo, YJ, YK, Jg, Jf, Ji, Jh, Yf, Yz, Yp, Yq, Yd, Ye, YZ, Ya, JL, JM, Yv, Yw, JA, JB, Jl, Jk, Ys, Yr, Nat.reduceSub, Nat.reduceAdd, YG, ZP, JR, Zj, Zo, ZX, Zp, YS, Ze, Zd, YT, Zk, JK, JP, JH, JG, Zi, Zh, ZN, ZI, ZM, Zw]
  refine ZCm (n := n + 3) hm lc ?_
  exact ZKy g lc hm q
end
end TC

namespace TC
open PySem PyProof.Rows
section
variable {K : V → Prop} {X : Nat → Prop} {n : Nat}
theorem ZAo {c : Int} {k : Nat} (hc : Sml c) (hk : k < 1000) : IntMulOk (c + 7919 * k + 13) (c + 7919 * k + 13) := by
  have h1 : Builtin.Int.intBits (7919 * (k : Int)) ≤ 64 := intBits_le_64 (by lia) (by lia)
  have h3 := intBits_add_le (intBits_add_le hc h1) (show Builtin.Int.intBits 13 ≤ 4 by decide)
  exact IntMulOk.of_le h3 h3 (by decide)
theorem ZJk {m : Nat} {ts : Ties} (w : Web m ts) (x : Nat) : cnt ts x ≤ m := by
  have h1 := HS w x
  have h2 := XK (P := List.range m) (f := fun y => bi (hs ts x y)) (g := fun _ => 1) fun i _ => (ZCt _).2
  rw [Qq, List.length_range] at h2
  lia
theorem GC.set {cs : List Int} (g : GC cs) (i : Nat) {y : Int} (h0 : 0 ≤ y) (h1 : y ≤ 20) : GC (cs.set i y) := by
  refine ⟨by rw [List.length_set]; exact g.pos, by rw [List.length_set]; exact g.le, fun c hc => ?_⟩
  rcases List.mem_or_eq_of_mem_set hc with h | rfl
  · exact g.rng c h
  · exact ⟨h0, h1⟩
noncomputable def mixP (c t : Int) : V → Option PyData
  | .d (.int k) => some (.int ((mixed c k).fmod t))
  | _ => none
theorem UL (c t : Int) (l : List Int) : List.filterMap (mixP c t) (l.map fun i => V.d (.int i)) = ofInts (l.map fun k => (mixed c k).fmod t) := by
  induction l with
  | nil => rfl
  | cons a l ih => exact congrArg (PyData.int ((mixed c a).fmod t) :: ·) ih
theorem l10 {m : Nat} (h : m ≤ 10) : m < lim := JT (Nat.lt_of_le_of_lt h (by decide))
theorem ZJp {m : Nat} {c tp : Int} (h0 : 0 < m) (hz : m ≤ 10) (t0 : 0 < tp) (t1 : tp ≤ 21) : GC ((rangeL m).map fun k => (mixed c k).fmod tp) := by
  have el : ((rangeL m).map fun k => (mixed c k).fmod tp).length = m := by rw [List.length_map, Jx]; rfl
  refine ⟨by rw [el]; exact h0, by rw [el]; exact hz, fun x hx => ?_⟩
  obtain ⟨p, _, rfl⟩ := List.mem_map.mp hx
  exact ⟨fmod_nonneg' t0, Int.le_of_lt_add_one (Int.lt_of_lt_of_le (fmod_lt' t0) t1)⟩
theorem Hb {m : Nat} {c tp : Int} {ρ : Rho} (hc : Sml c) (h0 : 0 < m) (hz : m ≤ 10) (t0 : 0 < tp) (t1 : tp ≤ 21) {step : Rho → (Option PyData → Prop) → Prop} (hs : ∀ p : Nat, p < m → ∀ kk : Option PyData → Prop, (IntMulOk (c + 7919 * p + 13) (c + 7919 * p + 13) ∧ tp ≠ 0) → kk (some (.int ((mixed c p).fmod tp))) → step (ρ ++ [some (.d (.int p))]) kk)
    (k : ∀ cs, GC cs → cs.length = m → K (.own (.list (ofInts cs)))) : compW step none ρ K ((rangeL m).map fun i => V.d (.int i)) [] := by
  refine JZ (mixP c tp) _ _ (fun x hx kk hk => ?_) ?_ ?_
  · obtain ⟨p, hp, rfl⟩ := List.mem_map.mp hx
    obtain ⟨p, hp', rfl⟩ := List.mem_map.mp hp
    have hp := List.mem_range.mp hp'
    exact hs p hp kk ⟨ZAo hc (Nat.lt_of_lt_of_le hp (Nat.le_trans hz (by decide))), Int.ne_of_gt t0⟩ hk
  · rw [List.nil_append, UL, YI, List.length_map, Jx]; exact l10 hz
  · rw [List.nil_append, UL]
    exact k _ (ZJp h0 hz t0 t1) (by rw [List.length_map, Jx]; rfl)
theorem HY {os : List Int} {j : Nat} (h0 : 0 < j) (h : j ≤ os.length) (hl : os.length < 1000) {K : V → Prop} (k : ∀ y ∈ os, K (.d (.int y))) : got (idxV (.d (.list (ofInts os))) (0 - (j : Int))) K := by
  have lt : os.length - j < os.length := by lia
  have e : idxD (ofInts os) (0 - (j : Int)) = some (.int (os[os.length - j])) := by
    unfold idxD
    rw [if_neg (by lia), if_pos ⟨by lia, by rw [YI]; lia, by rw [YI]; exact JT hl⟩, YI, show ((os.length : Int) + (0 - (j : Int))).toNat = os.length - j by lia, getElem?_ofInts, List.getElem?_eq_getElem lt]
    rfl
  show got (((some (ofInts os)).bind (idxD · (0 - (j : Int)))).map V.d) K
  rw [Option.bind_some, e]
  exact k _ (List.getElem_mem _)
noncomputable def otP (cs : List Int) (p : Int) : V → Option PyData
  | .d (.int y) => cond (decide (0 < cs.getD y.toNat 0)) (cond (!decide (y = p)) (some (.int y)) none) none
  | _ => none
theorem ZEq (cs : List Int) (p : Int) (l : List Int) : List.filterMap (otP cs p) ((ofInts l).map V.d) = ofInts (l.filter fun y => decide (0 < cs.getD y.toNat 0) && !decide (y = p)) := by
  induction l with
  | nil => rfl
  | cons y l ih =>
    show List.filterMap (otP cs p) (V.d (.int y) :: (ofInts l).map V.d) = _
    rw [List.filterMap_cons, ih, List.filter_cons, show otP cs p (V.d (.int y)) = cond (decide (0 < cs.getD y.toNat 0)) (cond (!decide (y = p)) (some (.int y)) none) none from rfl]
    cases decide (0 < cs.getD y.toNat 0) with
    | false => rfl
    | true => cases decide (y = p) <;> rfl
structure Up5 (m k : Nat) (cs : List Int) : Prop where
  len : cs.length = m
  rng : ∀ c ∈ cs, 0 ≤ c ∧ c ≤ 10 + k
theorem ZKv {m i : Nat} {cs : List Int} {c : Int} {s t o a b w x : Option V} {kk : KS} (hc : Sml c) (h0 : 0 < m) (hm : m ≤ 5) (hi : i < 3) (u : Up5 m i cs)
    (cont : ∀ cs' o a b, Up5 m (i + 1) cs' → kk .nxt (lwR m cs' s t (some (.d (.int c))) (some (.d (.int i))) o a b w x)) :
    wpSs (wpCall T05 (n + 6)) false b_law_1 (lwR m cs s t (some (.d (.int c))) (some (.d (.int i))) o a b w x) kk (fun c _ => X c) := by
  dsimp only [b_law_1, wpSs, wpS, wpE, wpL, slotW, ownS, Rho.putL, frz, bindF, setD, setAll, bindT, F1.W, F2.W, F1.quiet, seqV, numW, isNon, JN, JI, YF, YE, JF, YB, Zz, YA, Zg, ZO, YL, ZW, ZU, ZV, JD, Zv, Zc, Zb, ZH, ZG, YY, Zl, YH, ZQ, JO, YM, JC, ZS, ZT, ZJ, ZK, Zm, Zn, Zx, JE, Zy, Zu, ZL, Zf, YP, YQ, Zt, Zs, YR, YO, Za, Zr, Zq, JQ, YN, ZY, ZF, ZD, ZE, ZC, ZA, ZB, ZZ, excIs, Jj, YU, YV, YD, YC, YW, YX, Yk, Yl, Yb, Yc, Yg, Yh, Yx, Yy, Ym, Yn, Yt, Yu, Yi, Yj, Yo, YJ, YK, Jg, Jf, Ji, Jh, Yf, Yz, Yp, Yq, Yd, Ye, YZ, Ya, JL, JM, Yv, Yw, JA, JB, Jl, Jk, Ys, Yr, Nat.reduceSub, Nat.reduceAdd, YG, ZP, JR, Zj, Zo, ZX, Zp, YS, Ze, Zd, YT, Zk, JK, JP, JH, JG, Zi, Zh, ZN, ZI, ZM, Zw]
  rw [Ja]
  refine (show _ ∧ _ ∧ _ from ⟨rngOk (by lia), ⟨rfl, by rw [u.len]; exact Int.le_refl _, by lia⟩, fun os po => ?_⟩)
  have lo : os.length = m := by rw [po.length_eq, Jx]; rfl
  have ro : ∀ y ∈ os, ∃ p : Nat, p < m ∧ y = p := fun y hy => by
    obtain ⟨p, hp, rfl⟩ := List.mem_map.mp (po.mem_iff.mp hy)
    exact ⟨p, List.mem_range.mp hp, rfl⟩
  refine XT (n := n + 5) _ _ (ZAo hc (by lia)) ?_
  obtain ⟨r, hr, lr⟩ := Xx (mixed c i) (m := 2) (by decide)
  have hr : (mixed c i).fmod 2 = r := hr
  refine (show _ ∧ _ from ⟨by decide, ?_⟩)
  rw [hr]
  show got (idxV (V.d (.list (ofInts os))) (0 - min (m : Int) (1 + (r : Int)))) _
  rw [show min (m : Int) (1 + (r : Int)) = ((min m (1 + r) : Nat) : Int) from nmin m (1 + r)]
  refine HY (by lia) (by rw [lo]; exact Nat.min_le_left ..) (by lia) fun y hy => ?_
  obtain ⟨p, hp, rfl⟩ := ro y hy
  refine (show _ ∧ _ from ⟨by rw [List.length_map, YI]; exact JT (by lia), ?_⟩)
  have up : Up5 m (i + 1) cs := ⟨u.len, fun c hc => ⟨(u.rng c hc).1, by have := (u.rng c hc).2; lia⟩⟩
  refine JZ (otP cs p) _ _ (fun x hx kk' hk => ?_) ?_ ?_
  · obtain ⟨y, hy', rfl⟩ := List.mem_map.mp hx
    obtain ⟨y, hy2, rfl⟩ := List.mem_map.mp hy'
    obtain ⟨p', hp', rfl⟩ := ro y hy2
    refine QG (cs := cs) (p := p') (by rw [u.len]; exact hp') (by lia) ?_
    replace hk : kk' (cond (decide (0 < cs.getD p' 0)) (cond (!decide ((p' : Int) = p)) (some (.int p')) none) none) := hk
    show cond (decide (0 < cs.getD p' 0)) (cond (!decide ((p' : Int) = p)) (kk' (some (.int p'))) (kk' none)) (kk' none)
    revert hk
    cases decide (0 < cs.getD p' 0) with
    | false => exact id
    | true => cases decide ((p' : Int) = p) <;> exact id
  · rw [List.nil_append]; exact Nat.lt_of_le_of_lt (List.length_filterMap_le ..) (by rw [List.length_map, YI]; exact JT (by lia))
  · rw [List.nil_append, ZEq]
    have hf : ∀ y ∈ os.filter (fun y => decide (0 < cs.getD y.toNat 0) && !decide (y = (p : Int))), ∃ p' : Nat, p' < m ∧ y = p' ∧ 0 < cs.getD p' 0 ∧ p' ≠ p := fun y hy => by
      obtain ⟨h1, h2⟩ := List.mem_filter.mp hy
      obtain ⟨p', h3, rfl⟩ := ro y h1
      obtain ⟨h4, h5⟩ := Bool.and_eq_true_iff.mp h2
      exact ⟨p', h3, rfl, of_decide_eq_true h4, fun z => by rw [z] at h5; simp at h5⟩
    generalize os.filter (fun y => decide (0 < cs.getD y.toNat 0) && !decide (y = (p : Int))) = fs at hf
    dsimp only [wpSs, wpS, wpE, wpL, slotW, ownS, Rho.putL, frz, bindF, setD, setAll, bindT, F1.W, F2.W, F1.quiet, seqV, numW, isNon, JN, JI, YF, YE, JF, YB, Zz, YA, Zg, ZO, YL, ZW, ZU, ZV, JD, Zv, Zc, Zb, ZH, ZG, YY, Zl, YH, ZQ, JO, YM, JC, ZS, ZT, ZJ, ZK, Zm, Zn, Zx, JE, Zy, Zu, ZL, Zf, YP, YQ, Zt, Zs, YR, YO, Za, Zr, Zq, JQ, YN, ZY, ZF, ZD, ZE, ZC, ZA, ZB, ZZ, excIs, Jj, YU, YV, YD, YC, YW, YX, Yk, Yl, Yb, Yc, Yg, Yh, Yx, Yy, Ym, Yn, Yt, Yu, Yi, Yj, Yo, YJ, YK, Jg, Jf, Ji, Jh, Yf, Yz, Yp, Yq, Yd, Ye, YZ, Ya, JL, JM, Yv, Yw, JA, JB, Jl, Jk, Ys, Yr, Nat.reduceSub, Nat.reduceAdd, YG, ZP, JR, Zj, Zo, ZX, Zp, YS, Ze, Zd, YT, Zk, JK, JP, JH, JG, Zi, Zh, ZN, ZI, ZM, Zw]
    refine Xu (xs := ofInts fs) rfl (Sh.ints 0 fs) (by decide) ?_
    cases fs with
    | nil => exact cont _ _ _ _ up
    | cons y fs =>
      obtain ⟨q, hq, rfl, q0, qp⟩ := hf y (.head _)
      refine QG (cs := cs) (p := p) (by rw [u.len]; exact hp) (by lia) ?_
      refine ⟨⟨by decide, by decide⟩, by decide, Jv (fun lt => ?_) fun _ => cont _ _ _ _ up⟩
      refine QG (cs := cs) (p := p) (by rw [u.len]; exact hp) (by lia) ?_
      refine (show _ ∧ _ from ⟨⟨Int.natCast_nonneg _, by rw [YI, u.len]; exact Int.ofNat_lt.mpr hp, Ju (by lia)⟩, ?_⟩)
      have es : ∀ (l : List Int) (j : Nat) (z : Int), (ofInts l).set j (.int z) = ofInts (l.set j z) := fun l j z => (List.map_set ..).symm
      have gd : ∀ j, j < m → cs.getD j 0 ∈ cs := fun j hj => by
        rw [List.getD_eq_getElem?_getD, List.getElem?_eq_getElem (u.len ▸ hj)]; exact List.getElem_mem _
      have ld : (cs.set p (cs.getD p 0 + 1)).length = m := by rw [List.length_set, u.len]
      have gq : (cs.set p (cs.getD p 0 + 1)).getD q 0 = cs.getD q 0 := by
        rw [List.getD_eq_getElem?_getD, List.getElem?_set_ne (Ne.symm qp), ← List.getD_eq_getElem?_getD]
      rw [Int.toNat_natCast, es]
      refine (show got (idxV (V.d (.list (ofInts ((q : Int) :: fs)))) ((0 : Nat) : Int)) _ from ZGu (Nat.succ_pos _) (by decide) ?_)
      refine QG (cs := cs.set p (cs.getD p 0 + 1)) (p := q) (by rw [ld]; exact hq) (by lia) ?_
      refine (show got (idxV (V.d (.list (ofInts ((q : Int) :: fs)))) ((0 : Nat) : Int)) _ from ZGu (Nat.succ_pos _) (by decide) ?_)
      refine (show _ ∧ _ from ⟨⟨Int.natCast_nonneg _, by rw [YI, ld]; exact Int.ofNat_lt.mpr hq, Ju (show (q : Int) < 1000 by lia)⟩, ?_⟩)
      have hfin := cont ((cs.set p (cs.getD p 0 + 1)).set q (cs.getD q 0 - 1)) (some (.d (.list (ofInts os)))) (some (.d (.int p))) (some (.d (.list (ofInts ((q : Int) :: fs))))) ⟨by rw [List.length_set, ld], fun z hz => ?_⟩
      · rw [gq]
        dsimp only [lwR] at hfin
        rw [← es] at hfin
        exact hfin
      · have a1 := u.rng _ (gd p hp)
        have a2 := u.rng _ (gd q hq)
        rcases List.mem_or_eq_of_mem_set hz with h | h
        · rcases List.mem_or_eq_of_mem_set h with h | h
          · have := u.rng z h; lia
          · lia
        · lia
end
end TC

namespace TC
open PySem PyProof.Rows
section
variable {K : V → Prop} {X : Nat → Prop} {n : Nat}
theorem Up5.gc {m k : Nat} {cs : List Int} (u : Up5 m k cs) (h0 : 0 < m) (hm : m ≤ 5) (hk : k ≤ 3) : GC cs := ⟨u.len ▸ h0, by rw [u.len]; lia, fun c hc => by have := u.rng c hc; lia⟩
theorem ZKw {m j : Nat} {cs : List Int} {c : Int} {s t k o a b w x : Option V} (hc : Sml c) (h0 : 0 < m) (hm : m ≤ 5) (hj : j ≤ 3) (u : Up5 m 0 cs) (q : K (.d (.bool true))) :
    forW (fun x ρ' k => bindF (.one 4) x ρ' fun ρ'' => wpSs (wpCall T05 (n + 6)) false b_law_1 ρ'' k (fun c _ => X c)) (fun fl ρ' => match fl with
      | .nxt => wpSs (wpCall T05 (n + 6)) false b_law_u ρ' (outK K) fun c _ => X c
      | .ret v => outK K (.ret v) ρ') ((rangeL j).map fun i => V.d (.int i)) (lwR m cs s t (some (.d (.int c))) k o a b w x) := by
  refine QB _ (fun i ρ => ∃ cs k o a b, Up5 m i cs ∧ ρ = lwR m cs s t (some (.d (.int c))) k o a b w x) ?_ ?_ _ ⟨cs, k, o, a, b, u, rfl⟩
  · rintro ρ ⟨cs, k, o, a, b, u, rfl⟩
    rw [Jb] at u
    exact ZHv (u.gc h0 hm hj) u.len hm q
  · rintro i hi ρ kk ⟨cs, k, o, a, b, u, rfl⟩ go _
    rw [Jb] at hi
    rw [QO]
    exact ZKv hc h0 hm (by lia) u fun cs' o a b u' => go _ ⟨cs', _, o, a, b, u', rfl⟩
theorem ZKx {m : Nat} {cs : List Int} {c : Int} {s t k o a b w x : Option V} (hc : Sml c) (h0 : 0 < m) (hm : m ≤ 5) (u : Up5 m 0 cs) (q : K (.d (.bool true))) :
    wpSs (wpCall T05 (n + 6)) false b_law_t (lwR m cs s t (some (.d (.int c))) k o a b w x) (outK K) (fun c _ => X c) := by
  dsimp only [b_law_t, wpSs, wpS, wpE, wpL, slotW, ownS, Rho.putL, frz, bindF, setD, setAll, bindT, F1.W, F2.W, F1.quiet, seqV, numW, isNon, JN, JI, YF, YE, JF, YB, Zz, YA, Zg, ZO, YL, ZW, ZU, ZV, JD, Zv, Zc, Zb, ZH, ZG, YY, Zl, YH, ZQ, JO, YM, JC, ZS, ZT, ZJ, ZK, Zm, Zn, Zx, JE, Zy, Zu, ZL, Zf, YP, YQ, Zt, Zs, YR, YO, Za, Zr, Zq, JQ, YN, ZY, ZF, ZD, ZE, ZC, ZA, ZB, ZZ, excIs, Jj, YU, YV, YD, YC, YW, YX, Yk, Yl, Yb, Yc, Yg, Yh, Yx, Yy, Ym, Yn, Yt, Yu, Yi, Yj, Yo, YJ, YK, Jg, Jf, Ji, Jh, Yf, Yz, Yp, Yq, Yd, Ye, YZ, Ya, JL, JM, Yv, Yw, JA, JB, Jl, Jk, Ys, Yr, Nat.reduceSub, Nat.reduceAdd, YG, ZP, JR, Zj, Zo, ZX, Zp, YS, Ze, Zd, YT, Zk, JK, JP, JH, JG, Zi, Zh, ZN, ZI, ZM, Zw]
  have m10 : m ≤ 10 := Nat.le_trans hm (by decide)
  refine ⟨by decide, ?_⟩
  by_cases e1 : c.fmod 3 = 1
  · have e2 : decide (c.fmod 3 = 2) = false := by rw [e1]; rfl
    rw [decide_eq_true e1, e2]
    refine ⟨rngOk m10, rngLen m10, ?_⟩
    obtain ⟨r, hr, lr⟩ := Xx (c.fdiv 3) (m := 2) (by decide)
    have hr : (c.fdiv 3).fmod 2 = r := hr
    refine Hb (tp := m + (1 + r)) hc h0 m10 (by lia) (by lia) (fun p hp kk h1 hk => XT (n := n + 5) _ _ h1.1 ?_) fun cs g lc => ⟨by decide, ZHv g lc hm q⟩
    refine (show _ ∧ _ from ⟨⟨by decide, by decide⟩, by decide, ?_⟩)
    rw [hr]
    show got (idxV (V.own (PyData.list [PyData.int 1, PyData.int 2])) (r : Int)) _
    rw [XV (Int.natCast_nonneg _) (show (r : Int) < 1000 by lia), Int.toNat_natCast]
    rcases r with _ | _ | r
    · exact ⟨h1.2, hk⟩
    · exact ⟨h1.2, hk⟩
    · lia
  · rw [decide_eq_false e1]
    refine (show _ ∧ _ from ⟨by decide, ?_⟩)
    by_cases e2 : c.fmod 3 = 2
    · rw [decide_eq_true e2]
      obtain ⟨r, hr, lr⟩ := Xx (c.fdiv 3) (m := 3) (by decide)
      have hr : (c.fdiv 3).fmod 3 = r := hr
      rw [hr, show (1 : Int) + r = ((1 + r : Nat) : Int) from (Int.natCast_add 1 r).symm]
      have j10 : 1 + r ≤ 10 := by lia
      exact ⟨⟨by decide, by decide⟩, by decide, rngOk j10, rngLen j10, ZKw hc h0 hm (by lia) u q⟩
    · rw [decide_eq_false e2]
      exact ZHv (u.gc h0 hm (by decide)) u.len hm q
theorem law_spec (sc : List Int) (hs : sc.length < 64) (hb : ∀ x ∈ sc, Sml x) : wpSs (wpCall T05 19) false b_law (some (.d (.list (ofInts sc))) :: List.replicate 10 none) (outK fun u => u = .d (.bool true)) (fun _ _ => False) := by
  show wpSs (wpCall T05 19) false b_law [some (.d (.list (ofInts sc))), none, none, none, none, none, none, none, none, none, none] _ _
  dsimp only [b_law, wpSs, wpS, wpE, wpL, slotW, ownS, Rho.putL, frz, bindF, setD, setAll, bindT, F1.W, F2.W, F1.quiet, seqV, numW, isNon, JN, JI, YF, YE, JF, YB, Zz, YA, Zg, ZO, YL, ZW, ZU, ZV, JD, Zv, Zc, Zb, ZH, ZG, YY, Zl, YH, ZQ, JO, YM, JC, ZS, ZT, ZJ, ZK, Zm, Zn, Zx, JE, Zy, Zu, ZL, Zf, YP, YQ, Zt, Zs, YR, YO, Za, Zr, Zq, JQ, YN, ZY, ZF, ZD, ZE, ZC, ZA, ZB, ZZ, excIs, Jj, YU, YV, YD, YC, YW, YX, Yk, Yl, Yb, Yc, Yg, Yh, Yx, Yy, Ym, Yn, Yt, Yu, Yi, Yj, Yo, YJ, YK, Jg, Jf, Ji, Jh, Yf, Yz, Yp, Yq, Yd, Ye, YZ, Ya, JL, JM, Yv, Yw, JA, JB, Jl, Jk, Ys, Yr, Nat.reduceSub, Nat.reduceAdd, YG, ZP, JR, Zj, Zo, ZX, Zp, YS, Ze, Zd, YT, Zk, JK, JP, JH, JG, Zi, Zh, ZN, ZI, ZM, Zw]
  refine ZFo (n := 17) sc hs hb 1 5 (by decide) (by decide) (by decide) fun m ts h0 hz wo => ?_
  have w := wo.web
  have m10 : m ≤ 10 := Nat.le_trans hz (by decide)
  have hl := Jz w m10
  dsimp only [wpSs, wpS, wpE, wpL, slotW, ownS, Rho.putL, frz, bindF, setD, setAll, bindT, F1.W, F2.W, F1.quiet, seqV, numW, isNon, JN, JI, YF, YE, JF, YB, Zz, YA, Zg, ZO, YL, ZW, ZU, ZV, JD, Zv, Zc, Zb, ZH, ZG, YY, Zl, YH, ZQ, JO, YM, JC, ZS, ZT, ZJ, ZK, Zm, Zn, Zx, JE, Zy, Zu, ZL, Zf, YP, YQ, Zt, Zs, YR, YO, Za, Zr, Zq, JQ, YN, ZY, ZF, ZD, ZE, ZC, ZA, ZB, ZZ, excIs, Jj, YU, YV, YD, YC, YW, YX, Yk, Yl, Yb, Yc, Yg, Yh, Yx, Yy, Ym, Yn, Yt, Yu, Yi, Yj, Yo, YJ, YK, Jg, Jf, Ji, Jh, Yf, Yz, Yp, Yq, Yd, Ye, YZ, Ya, JL, JM, Yv, Yw, JA, JB, Jl, Jk, Ys, Yr, Nat.reduceSub, Nat.reduceAdd, YG, ZP, JR, Zj, Zo, ZX, Zp, YS, Ze, Zd, YT, Zk, JK, JP, JH, JG, Zi, Zh, ZN, ZI, ZM, Zw]
  refine Qv (n := 18) m m10 ts (by lia) ?_
  dsimp only [wpSs, wpS, wpE, wpL, slotW, ownS, Rho.putL, frz, bindF, setD, setAll, bindT, F1.W, F2.W, F1.quiet, seqV, numW, isNon, JN, JI, YF, YE, JF, YB, Zz, YA, Zg, ZO, YL, ZW, ZU, ZV, JD, Zv, Zc, Zb, ZH, ZG, YY, Zl, YH, ZQ, JO, YM, JC, ZS, ZT, ZJ, ZK, Zm, Zn, Zx, JE, Zy, Zu, ZL, Zf, YP, YQ, Zt, Zs, YR, YO, Za, Zr, Zq, JQ, YN, ZY, ZF, ZD, ZE, ZC, ZA, ZB, ZZ, excIs, Jj, YU, YV, YD, YC, YW, YX, Yk, Yl, Yb, Yc, Yg, Yh, Yx, Yy, Ym, Yn, Yt, Yu, Yi, Yj, Yo, YJ, YK, Jg, Jf, Ji, Jh, Yf, Yz, Yp, Yq, Yd, Ye, YZ, Ya, JL, JM, Yv, Yw, JA, JB, Jl, Jk, Ys, Yr, Nat.reduceSub, Nat.reduceAdd, YG, ZP, JR, Zj, Zo, ZX, Zp, YS, Ze, Zd, YT, Zk, JK, JP, JH, JG, Zi, Zh, ZN, ZI, ZM, Zw]
  refine Xk (n := 18) sc 0 hs (by decide) (by decide) ?_
  refine ZKx (n := 13) (X := fun _ => False) (VT hb 0) h0 hz ⟨UI m ts, fun c hc => ?_⟩ rfl
  obtain ⟨x, _, rfl⟩ := List.mem_map.mp hc
  exact ⟨Int.natCast_nonneg _, Int.ofNat_le.mpr (Nat.le_trans (ZJk w x) m10)⟩
end
end TC

namespace TC
open PySem PySem.W PyProof.Rows
noncomputable def K05 (P : Params) : Frag := [
  (3, Obj.mk (Value.type "dict") none (Data.dict #[DictEntry.mk (PyData.keyHash P (Str.ofString "__name__")) (Value.str (Str.ofString "__name__") 165) (Value.str (Str.ofString "law_uf040017_05") 346), DictEntry.mk (PyData.keyHash P (Str.ofString "__doc__")) (Value.str (Str.ofString "__doc__") 166) Value.none, DictEntry.mk (PyData.keyHash P (Str.ofString "__package__")) (Value.str (Str.ofString "__package__") 167) Value.none, DictEntry.mk (PyData.keyHash P (Str.ofString "__loader__")) (Value.str (Str.ofString "__loader__") 168) (Value.builtin "__main__.__loader__#opaque"), DictEntry.mk (PyData.keyHash P (Str.ofString "__spec__")) (Value.str (Str.ofString "__spec__") 169) Value.none, DictEntry.mk (PyData.keyHash P (Str.ofString "__annotations__")) (Value.str (Str.ofString "__annotations__") 170) (Value.ref 6), DictEntry.mk (PyData.keyHash P (Str.ofString "__builtins__")) (Value.str (Str.ofString "__builtins__") 171) (Value.ref 4), DictEntry.mk (PyData.keyHash P (Str.ofString "__file__")) (Value.str (Str.ofString "__file__") 173) (Value.str (Str.ofString "/claim/cut.py") 172), DictEntry.mk (PyData.keyHash P (Str.ofString "__cached__")) (Value.str (Str.ofString "__cached__") 174) Value.none, DictEntry.mk (PyData.keyHash P (Str.ofString "TieError")) (Value.str (Str.ofString "TieError") 206) (Value.ref 24), DictEntry.mk (PyData.keyHash P (Str.ofString "BadCounts")) (Value.str (Str.ofString "BadCounts") 222) (Value.ref 37), DictEntry.mk (PyData.keyHash P (Str.ofString "MOST_POINTS")) (Value.str (Str.ofString "MOST_POINTS") 226) (Value.int 10 225), DictEntry.mk (PyData.keyHash P (Str.ofString "MOST_COUNT")) (Value.str (Str.ofString "MOST_COUNT") 228) (Value.int 20 227), DictEntry.mk (PyData.keyHash P (Str.ofString "is_among")) (Value.str (Str.ofString "is_among") 237) (Value.ref 46), DictEntry.mk (PyData.keyHash P (Str.ofString "need_counts")) (Value.str (Str.ofString "need_counts") 245) (Value.ref 53), DictEntry.mk (PyData.keyHash P (Str.ofString "want_of")) (Value.str (Str.ofString "want_of") 251) (Value.ref 58), DictEntry.mk (PyData.keyHash P (Str.ofString "tie_of")) (Value.str (Str.ofString "tie_of") 261) (Value.ref 65), DictEntry.mk (PyData.keyHash P (Str.ofString "piece_from")) (Value.str (Str.ofString "piece_from") 276) (Value.ref 72), DictEntry.mk (PyData.keyHash P (Str.ofString "pieces_by")) (Value.str (Str.ofString "pieces_by") 289) (Value.ref 79), DictEntry.mk (PyData.keyHash P (Str.ofString "laid")) (Value.str (Str.ofString "laid") 297) (Value.ref 84), DictEntry.mk (PyData.keyHash P (Str.ofString "told")) (Value.str (Str.ofString "told") 307) (Value.ref 91), DictEntry.mk (PyData.keyHash P (Str.ofString "done_by")) (Value.str (Str.ofString "done_by") 315) (Value.ref 96), DictEntry.mk (PyData.keyHash P (Str.ofString "hindered")) (Value.str (Str.ofString "hindered") 324) (Value.ref 103), DictEntry.mk (PyData.keyHash P (Str.ofString "spare_tie")) (Value.str (Str.ofString "spare_tie") 330) (Value.ref 108), DictEntry.mk (PyData.keyHash P (Str.ofString "joined_up")) (Value.str (Str.ofString "joined_up") 336) (Value.ref 113), DictEntry.mk (PyData.keyHash P (Str.ofString "hung")) (Value.str (Str.ofString "hung") 345) (Value.ref 120), DictEntry.mk (PyData.keyHash P (Str.ofString "_law_cell")) (Value.str (Str.ofString "_law_cell") 355) (Value.ref 127), DictEntry.mk (PyData.keyHash P (Str.ofString "_law_mixed")) (Value.str (Str.ofString "_law_mixed") 364) (Value.ref 134), DictEntry.mk (PyData.keyHash P (Str.ofString "_law_web")) (Value.str (Str.ofString "_law_web") 381) (Value.ref 141), DictEntry.mk (PyData.keyHash P (Str.ofString "_law_counts")) (Value.str (Str.ofString "_law_counts") 387) (Value.ref 146), DictEntry.mk (PyData.keyHash P (Str.ofString "_law_pieces")) (Value.str (Str.ofString "_law_pieces") 393) (Value.ref 151), DictEntry.mk (PyData.keyHash P (Str.ofString "_law_within")) (Value.str (Str.ofString "_law_within") 399) (Value.ref 156), DictEntry.mk (PyData.keyHash P (Str.ofString "_law_all")) (Value.str (Str.ofString "_law_all") 405) (Value.ref 161), DictEntry.mk (PyData.keyHash P (Str.ofString "law")) (Value.str (Str.ofString "law") 411) (Value.ref 166)] 34) #[]),
  (23, Obj.mk (Value.type "dict") none (Data.dict #[DictEntry.mk (PyData.keyHash P (Str.ofString "__module__")) (Value.str (Str.ofString "__module__") 196) (Value.str (Str.ofString "tiecount.errors") 187), DictEntry.mk (PyData.keyHash P (Str.ofString "__firstlineno__")) (Value.str (Str.ofString "__firstlineno__") 200) (Value.int 2 199), DictEntry.mk (PyData.keyHash P (Str.ofString "__static_attributes__")) (Value.str (Str.ofString "__static_attributes__") 201) (Value.ref 22), DictEntry.mk (PyData.keyHash P (Str.ofString "__weakref__")) (Value.str (Str.ofString "__weakref__") 203) (Value.ref 25), DictEntry.mk (PyData.keyHash P (Str.ofString "__doc__")) (Value.str (Str.ofString "__doc__") 204) Value.none] 3) #[]),
  (24, Obj.mk (Value.type "type") none (Data.cls (ClassData.mk (Str.ofString "TieError") [Value.type "ValueError"] [Value.ref 24, Value.type "ValueError", Value.type "Exception", Value.type "BaseException", Value.type "object"] 23 (Str.ofString "TieError") true [] [Value.ref 37] false none false)) #[some (Value.ref 15), none, some (Value.str (Str.ofString "TieError") 189), some (Value.str (Str.ofString "TieError") 197), some (Value.builtin "ValueError.__new__"), some (Value.bool true)]),
  (36, Obj.mk (Value.type "dict") none (Data.dict #[DictEntry.mk (PyData.keyHash P (Str.ofString "__module__")) (Value.str (Str.ofString "__module__") 214) (Value.str (Str.ofString "tiecount.errors") 187), DictEntry.mk (PyData.keyHash P (Str.ofString "__firstlineno__")) (Value.str (Str.ofString "__firstlineno__") 218) (Value.int 4 217), DictEntry.mk (PyData.keyHash P (Str.ofString "__static_attributes__")) (Value.str (Str.ofString "__static_attributes__") 219) (Value.ref 35), DictEntry.mk (PyData.keyHash P (Str.ofString "__doc__")) (Value.str (Str.ofString "__doc__") 220) Value.none] 2) #[]),
  (37, Obj.mk (Value.type "type") none (Data.cls (ClassData.mk (Str.ofString "BadCounts") [Value.ref 24] [Value.ref 37, Value.ref 24, Value.type "ValueError", Value.type "Exception", Value.type "BaseException", Value.type "object"] 36 (Str.ofString "BadCounts") true [] [] false none false)) #[some (Value.ref 28), none, some (Value.str (Str.ofString "BadCounts") 207), some (Value.str (Str.ofString "BadCounts") 215), some (Value.builtin "ValueError.__new__"), some (Value.bool true)])]
noncomputable def fn05 : List Str := ["is_among", "need_counts", "want_of", "tie_of", "piece_from", "pieces_by", "laid", "told", "done_by", "hindered", "spare_tie", "joined_up", "hung", "_law_cell", "_law_mixed", "_law_web", "_law_counts", "_law_pieces", "_law_within", "_law_all"]
noncomputable def fa05 : List Addr := [46, 53, 58, 65, 72, 79, 84, 91, 96, 103, 108, 113, 120, 127, 134, 141, 146, 151, 156, 161]
noncomputable def cn05 : List Str := ["TieError", "BadCounts"]
noncomputable def ca05 : List Addr := [24, 37]
noncomputable def cst05 : List (Str × Int) := [("MOST_POINTS", 10), ("MOST_COUNT", 20)]
end TC

open PySem PySem.W PyProof.Rows
set_option maxRecDepth 100000 in
set_option maxHeartbeats 8000000 in
theorem PySem.Challenge.cw_uf040017_05_holds : PySem.Challenge.rw_uf040017_05.Holds := by
  w_on
  o_law
  o_head (kHook TC.K05 [3, 23, 24, 36, 37] (fun _ => rfl))
  (case hw => w_witness2)
  intro w s₀ s₁ mg mb G Y fa o pm cd doc dV kV ho hd hcd hD hmg hg args vals as hpre hlay hrd hwl hlo
  have KX := kIn_of Y
  refine Ground.open G ?_
  intro T B D TE TW
  have efa : Value.ref fa = Value.ref 166 := Option.some.inj (hmg.symm.trans (mg_of KX T.g (show nsIn _ mainGlobals "law" = some (some (.ref 166)) by kernel_rfl)))
  have efa := Value.ref.inj efa
  subst efa
  clear hd hcd hD hmg ho
  wrow_args hpre hlay hrd hwl hlo
  rename_i sc _ _ hL _ _ _ _ _ _ _ _ _ W _ _ _ hlen _
  refine enter_call ?_
  refine TC.law_ends (fn := TC.fn05) (fa := TC.fa05) (cn := TC.cn05) (ca := TC.ca05) (cst := TC.cst05) (tab := TC.T05) (kl := 20) (lf := TC.f_law) (ow := [10]) KX T ?ntq ?ckq ?coq rfl rfl rfl ?foq ?flq ?laq W hg rfl ?nsq ?wq ?nq ?pq
  case ntq => kernel_rfl
  case ckq => kernel_rfl
  case coq => kernel_rfl
  case laq => kernel_rfl
  case nsq => decide
  case flq => exact ⟨by kernel_rfl, by kernel_rfl, by kernel_rfl, fun pm code doc vals h => by
      obtain ⟨a, rfl⟩ := TC.len1 h
      kernel_rfl⟩
  case foq =>
    unfold TC.fn05 TC.T05
    refine .cons ⟨[], by kernel_rfl, by kernel_rfl, by kernel_rfl, fun pm code doc vals h => by
      obtain ⟨a, b, c, rfl⟩ := TC.len3 h
      kernel_rfl⟩ ?_
    refine .cons ⟨[], by kernel_rfl, by kernel_rfl, by kernel_rfl, fun pm code doc vals h => by
      obtain ⟨a, rfl⟩ := TC.len1 h
      kernel_rfl⟩ ?_
    refine .cons ⟨[], by kernel_rfl, by kernel_rfl, by kernel_rfl, fun pm code doc vals h => by
      obtain ⟨a, b, rfl⟩ := TC.len2 h
      kernel_rfl⟩ ?_
    refine .cons ⟨[], by kernel_rfl, by kernel_rfl, by kernel_rfl, fun pm code doc vals h => by
      obtain ⟨a, b, rfl⟩ := TC.len2 h
      kernel_rfl⟩ ?_
    refine .cons ⟨[2, 3], by kernel_rfl, by kernel_rfl, by kernel_rfl, fun pm code doc vals h => by
      obtain ⟨a, b, rfl⟩ := TC.len2 h
      kernel_rfl⟩ ?_
    refine .cons ⟨[2, 3], by kernel_rfl, by kernel_rfl, by kernel_rfl, fun pm code doc vals h => by
      obtain ⟨a, b, rfl⟩ := TC.len2 h
      kernel_rfl⟩ ?_
    refine .cons ⟨[1, 2], by kernel_rfl, by kernel_rfl, by kernel_rfl, fun pm code doc vals h => by
      obtain ⟨a, rfl⟩ := TC.len1 h
      kernel_rfl⟩ ?_
    refine .cons ⟨[], by kernel_rfl, by kernel_rfl, by kernel_rfl, fun pm code doc vals h => by
      obtain ⟨a, rfl⟩ := TC.len1 h
      kernel_rfl⟩ ?_
    refine .cons ⟨[], by kernel_rfl, by kernel_rfl, by kernel_rfl, fun pm code doc vals h => by
      obtain ⟨a, b, rfl⟩ := TC.len2 h
      kernel_rfl⟩ ?_
    refine .cons ⟨[], by kernel_rfl, by kernel_rfl, by kernel_rfl, fun pm code doc vals h => by
      obtain ⟨a, rfl⟩ := TC.len1 h
      kernel_rfl⟩ ?_
    refine .cons ⟨[], by kernel_rfl, by kernel_rfl, by kernel_rfl, fun pm code doc vals h => by
      obtain ⟨a, b, rfl⟩ := TC.len2 h
      kernel_rfl⟩ ?_
    refine .cons ⟨[3, 2], by kernel_rfl, by kernel_rfl, by kernel_rfl, fun pm code doc vals h => by
      obtain ⟨a, b, rfl⟩ := TC.len2 h
      kernel_rfl⟩ ?_
    refine .cons ⟨[], by kernel_rfl, by kernel_rfl, by kernel_rfl, fun pm code doc vals h => by
      obtain ⟨a, rfl⟩ := TC.len1 h
      kernel_rfl⟩ ?_
    refine .cons ⟨[], by kernel_rfl, by kernel_rfl, by kernel_rfl, fun pm code doc vals h => by
      obtain ⟨a, b, rfl⟩ := TC.len2 h
      kernel_rfl⟩ ?_
    refine .cons ⟨[], by kernel_rfl, by kernel_rfl, by kernel_rfl, fun pm code doc vals h => by
      obtain ⟨a, b, rfl⟩ := TC.len2 h
      kernel_rfl⟩ ?_
    refine .cons ⟨[5], by kernel_rfl, by kernel_rfl, by kernel_rfl, fun pm code doc vals h => by
      obtain ⟨a, b, c, rfl⟩ := TC.len3 h
      kernel_rfl⟩ ?_
    refine .cons ⟨[], by kernel_rfl, by kernel_rfl, by kernel_rfl, fun pm code doc vals h => by
      obtain ⟨a, b, rfl⟩ := TC.len2 h
      kernel_rfl⟩ ?_
    refine .cons ⟨[2, 7], by kernel_rfl, by kernel_rfl, by kernel_rfl, fun pm code doc vals h => by
      obtain ⟨a, b, rfl⟩ := TC.len2 h
      kernel_rfl⟩ ?_
    refine .cons ⟨[], by kernel_rfl, by kernel_rfl, by kernel_rfl, fun pm code doc vals h => by
      obtain ⟨a, b, rfl⟩ := TC.len2 h
      kernel_rfl⟩ ?_
    refine .cons ⟨[4], by kernel_rfl, by kernel_rfl, by kernel_rfl, fun pm code doc vals h => by
      obtain ⟨a, b, rfl⟩ := TC.len2 h
      kernel_rfl⟩ ?_
    exact .nil
  case wq =>
    refine TC.law_spec sc ?_ ?_
    · omega
    · intro x hx
      exact intBits_le_of_item hx hL
  case nq => exact raisesW_false (by wrow_none_raised)
  case pq => wrow_post
